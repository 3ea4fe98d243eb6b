/- What a law's walk and its plain proof need, part 8: no condition of its own. -/
import Derived.Test.YtfcfdofmgkpmbaaGreatDoorOG
import Derived.Test.YtfcfdofmgkpmbaaGreatDoorOF
set_option linter.defProp false
set_option linter.unusedSimpArgs false
set_option linter.unusedVariables false
set_option linter.unusedSectionVars false
namespace Go.AM
open IntKind (wrap)
def Bb5:=@UInt8.toNat_ofNat'
def Bh8:=@Classical.not_not
def Bl7:=@Nat.lt_or_ge
open Go.Proofs
theorem nf:(!false)=true:=rfl
theorem AG1 {α : Type}{s t:Sl α}(h:s.n=0):s.app t=t:=by cases t;simp[Sl.app,h]
def Ax1 {α : Type}[Inhabited α](s:Sl (Sl α)):Nat->Sl α
 |0=>Sl.nil
 |k+1=>(Ax1 s k).app (s.g k)
theorem Ax2 {α : Type}[Inhabited α](s:Sl (Sl α)){B:Nat}:∀k,(∀i,i<k->(s.g i).n<=B)->(Ax1 s k).n<=k*B
 |0,_=>by simp[Ax1]
 |k+1,h=>by
  have:=Ax2 s k fun i a=>h i (by omega)
  have:=h k (by omega)
  show (Ax1 s k).n+(s.g k).n<=_;rw[Bf5];omega
theorem VY {N:Nat}{s:Sl (Sl Sound)}(hn:s.n<1000)(d:1000<=N)(hs:∀i,i<s.n->(s.g i).n<=3000000) :B0 N s=some (Ax1 s s.n):=by
 suffices h:∃r,B0 N s=some r/\r=Ax1 s s.n by obtain⟨r,h,rfl⟩:=h;exact h
 unfold B0;refine P3 (fun (i:Nat) (x1 x2:Int)=>x2=(i:Int)/\0<=x1/\x1<=(i:Int)*3000000) s.n _ (by omega) ⟨rfl,Int.le_refl 0,by simp⟩ ?_;rintro b i x1 x2 c ⟨rfl,f,h1⟩ a;by_cases hl:i<s.n
 ·have:=hs i hl
  refine ifT (by simp;omega) (ifT (by omega) ?_);rw[AS2,E1 (by omega) (by omega)];exact ifF (by simp;omega) (a hl _ _ ⟨B8 (by omega),by omega,by omega⟩)
 refine ifF (by simp;omega) (B1 (x:=Sl.nil) ?_ ?_)
 ·unfold H4;rw[if_pos (by omega)]
 refine P3 (fun i x1 x2=>x2=(i:Int)/\x1=Ax1 s i) s.n _ (by omega) ⟨rfl,rfl⟩ ?_;rintro b i x1 x2 c ⟨rfl,rfl⟩ a;by_cases hl:i<s.n
 ·have g1:=hs i hl;have g2:=Ax2 s i (B:=3000000) fun j l=>hs j (by omega);refine ifT (by simp;omega) (ifT ⟨by omega,?_⟩ (a hl _ _ ⟨B8 (by omega),?_⟩))
  ·rw[AS2];omega
  ·rw[AS2];rfl
 ·exact ifF (by simp;omega) ⟨_,rfl,by congr 1;omega⟩
def AI8 (w:Sl Sound)(i k:Nat)(y:Sl Sound):Sl Sound:=((w.take i).app y).app (w.drop (i+k))
theorem Af3 {w y:Sl Sound}{i k:Nat}(b:i+k<=w.n)(hw:∀j,j<w.n->vS (w.g j))(hy:∀j,j<y.n->vS (y.g j)):(AI8 w i k y).n=w.n-k+y.n/\∀j,j<(AI8 w i k y).n->vS ((AI8 w i k y).g j):=by
 have hn:(AI8 w i k y).n=w.n-k+y.n:=by show i+y.n+(w.n-(i+k))=_;omega
 refine⟨hn,fun j a=>?_⟩;rw[hn]at a;show vS (if j<i+y.n then (if j<i then w.g j else y.g (j-i))else w.g (i+k+(j-(i+y.n))));split
 ·split
  ·exact hw _ (by omega)
  ·exact hy _ (by omega)
 ·exact hw _ (by omega)
def Hu (N:Nat)(l:Law)(w:Sl Sound)(i:Nat):Sl Sound:=(O3 N l (w.sub i (i+l.If.n))).getD Sl.nil
def Z3 (N:Nat)(l:Law)(w:Sl Sound)(i:Nat):Sl Sound:=AI8 w i l.If.n (Hu N l w i)
theorem vOk {w:Sl Sound}(h:wOk w):okW w:=⟨by have:=h.1;omega,fun i a=>(h.2 i a).ok⟩
theorem GT {N:Nat}(a:1000<=N){l:Law}(b:AI6 l){w:Sl Sound}(hw:∀j,j<w.n->vS (w.g j)){i:Nat}(o:i+l.If.n<=w.n) :O3 N l (w.sub i (i+l.If.n))=some (Hu N l w i)/\DE N l (w.sub i (i+l.If.n))=some (Hu N l w i)/\(Hu N l w i).n=l.Out.n/\∀j,j<(Hu N l w i).n->vS ((Hu N l w i).g j):=by
 obtain⟨s,h1,c,d,f⟩:=AF8 a b (cut:=w.sub i (i+l.If.n)) (by show i+l.If.n-i=_;omega) fun j m=>(hw (i+j) (by have:j<i+l.If.n-i:=m;omega)).ok;have e:Hu N l w i=s:=by unfold Hu;rw[h1];rfl
 rw[e];exact⟨h1,c,d,f⟩
theorem cat3 (a b c:Sl Sound):Ax1 (Sl.of [a,b,c]:Sl (Sl Sound)) 3=(a.app b).app c:=by show (((Sl.nil:Sl Sound).app a).app b).app c=_;rw[AG1 (s:=(Sl.nil:Sl Sound)) rfl]
theorem Af4 {N:Nat}(d:1000<=N){a b c:Sl Sound}(ha:a.n<=3000000)(hb:b.n<=3000000)(hc:c.n<=3000000):B0 N (Sl.of [a,b,c]:Sl (Sl Sound))=some ((a.app b).app c):=by
 have h:=VY (N:=N) (s:=(Sl.of [a,b,c]:Sl (Sl Sound))) (by show 3<1000;omega) d fun i f=>by
  match i,f with
  |0,_=>exact ha
  |1,_=>exact hb
  |2,_=>exact hc
 rw[h];exact congrArg some (cat3 a b c)
theorem FH {N:Nat}(a:1000<=N){l:Law}(b:AI6 l){w:Sl Sound}(c:w.n<1000)(hw:∀j,j<w.n->vS (w.g j)){i:Nat}(d:i+l.If.n<=w.n) :R4 N l w i=some (Z3 N l w i)/\Ah N l w i=some (Z3 N l w i):=by
 obtain⟨h1,f,m,o⟩:=GT a b hw d;have q:=b.1;constructor
 ·unfold R4;rw[DS (by omega),if_pos (by omega),AS2,AS2,h1,AS4,if_pos (by omega),
   Af4 a (by show i<=_;omega) (by omega) (by show w.n-(i+l.If.n)<=_;omega)]
  rfl
 ·unfold Ah;rw[DS (by omega),AS2,AS2,AG1 (s:=(Sl.of []:Sl Sound)) rfl,if_pos ⟨by omega,by show (0+i)*8<=_/\0+i<=_;omega⟩,if_pos (by omega),f,AS4,
   if_pos (by show (i+(Hu N l w i).n)*8<=_/\i+(Hu N l w i).n<=_;omega),if_pos ⟨by omega,by show (i+(Hu N l w i).n+(w.n-(i+l.If.n)))*8<=_/\i+(Hu N l w i).n+(w.n-(i+l.If.n))<=_;omega⟩]
  rfl
def SE {α : Type}(s t:Sl α):Prop:=s.n=t.n/\∀i,i<s.n->s.g i=t.g i
theorem SE.refl {α : Type}(s:Sl α):SE s s:=⟨rfl,fun _ _=>rfl⟩
theorem SE.symm {α : Type}{s t:Sl α}(h:SE s t):SE t s:=⟨h.1.symm,fun i a=>(h.2 i (by rw[h.1];exact a)).symm⟩
theorem SE.trans {α : Type}{s t u:Sl α}(h:SE s t)(h' : SE t u):SE s u:=⟨h.1.trans h'.1,fun i a=>(h.2 i a).trans (h'.2 i (by rw[<- h.1];exact a))⟩
theorem SE.app {α : Type}{s t u v:Sl α}(h:SE s t)(h' : SE u v):SE (s.app u) (t.app v):=⟨by show s.n+u.n=t.n+v.n;rw[h.1,h'.1],fun i a=>by
 show (if i<s.n then s.g i else u.g (i-s.n))=if i<t.n then t.g i else v.g (i-t.n)
 have a:i<s.n+u.n:=a;rw[<- h.1];split
 ·exact h.2 i (by assumption)
 ·exact h'.2 _ (by omega)⟩
theorem SE.drop {α : Type}{s t:Sl α}(h:SE s t)(k:Nat):SE (s.drop k) (t.drop k):=⟨by show s.n-k=t.n-k;rw[h.1],fun i a=>by have a:i<s.n-k:=a;exact h.2 _ (by omega)⟩
theorem SE.take {α : Type}{s t:Sl α}(h:SE s t){k:Nat}(hk:k<=s.n):SE (s.take k) (t.take k):=⟨rfl,fun i a=>h.2 i (by have a:i<k:=a;omega)⟩
theorem SE.sub {α : Type}{s t:Sl α}(h:SE s t){a b:Nat}(hk:b<=s.n):SE (s.sub a b) (t.sub a b):=⟨rfl,fun i c=>h.2 _ (by have c:i<b-a:=c;omega)⟩
theorem SE.v {s t:Sl Sound}(h:SE s t)(b:∀j,j<s.n->vS (s.g j)):∀j,j<t.n->vS (t.g j):=fun j a=>by rw[<- h.2 j (by rw[h.1];exact a)];exact b j (by rw[h.1];exact a)
theorem SE.wOk {s t:Sl Sound}(h:SE s t)(a:wOk s):wOk t:=⟨by rw[<- h.1];exact a.1,h.v a.2⟩
theorem Ro {w w' : Sl Sound}(h:SE w w'):∀p:Pat,PR w p=PR w' p
 |.nil=>rfl
 |.mk kind is no mn mx m g=>by
  have ih:(fun i=>PR w (g i))=fun i=>PR w' (g i):=funext fun i=>Ro h (g i);have ih1:∀i,PR w (g i)=PR w' (g i):=fun i=>congrFun ih i;have e1:∀a,(a<w.n↔a<w'.n):=fun a=>by rw[h.1]
  funext a b;unfold PR;rw[ih];simp only[ih1,<- h.1];by_cases ha:a<w.n
  ·rw[h.2 a ha]
  ·simp[ha]
theorem YS {l:Law}{w w' : Sl Sound}(h:SE w w'){i:Nat}:PN l w i↔PN l w' i:=by
 suffices H:∀{w w' : Sl Sound},SE w w' -> PN l w i->PN l w' i by exact⟨H h,H h.symm⟩
 intro w w' h;rintro⟨h1,f,g,m,n,q,⟨a,ha,c⟩,b,hb,d⟩;have hn:=h.1;refine⟨by omega,fun j o=>?_,g,m,h.wOk n,by omega,⟨a,by omega,?_⟩,b,by omega,?_⟩
 ·rw[<- h.2 (i+j) (by omega)];exact f j o
 ·rw[<- Ro h];exact c
 ·rw[<- Ro h];exact d
structure LE (l l' : Law):Prop where
 name:l'.Name=l.Name
 left:PE l.Left l'.Left
 right:PE l.Right l'.Right
 cond:SE l.If l'.If
 out:SE l.Out l'.Out
 mode:l'.Mode=l.Mode
theorem LE.refl (l:Law):LE l l:=⟨rfl,VW _,VW _,SE.refl _,SE.refl _,rfl⟩
theorem LE.symm {l l' : Law}(h:LE l l'):LE l' l:=⟨h.name.symm,VX h.left,VX h.right,h.cond.symm,h.out.symm,h.mode.symm⟩
theorem AG2 {l l' : Law}(h:LE l l'){w:Sl Sound}{i:Nat}:PN l w i↔PN l' w i:=by
 suffices H:∀{l l' : Law},LE l l' -> PN l w i->PN l' w i by exact⟨H h,H h.symm⟩
 intro l l' h;rintro⟨h1,m,f,g,n,o,⟨a,ha,c⟩,b,hb,d⟩;have hn:=h.cond.1;refine⟨by omega,fun j q=>?_,(Ko h.left).1 f,(Ko h.right).1 g,n,by omega,⟨a,ha,?_⟩,b,hb,?_⟩
 ·rw[<- h.cond.2 j (by omega)];exact m j (by omega)
 ·rw[<- AG0 40 (ND 40 _ (by omega) f _ (by simp)) h.left];exact c
 ·rw[<- hn,<- AG0 40 (ND 40 _ (by omega) g _ (by simp)) h.right];exact d
theorem Iv {l l' : Law}(e:LE l l'){w w' : Sl Sound}(h:SE w w'){i:Nat}:PN l w i↔PN l' w' i:=(AG2 e).trans (YS h)
theorem LL {l l' : Law}(h:LE l l')(hl:JA l):JA l':=by obtain⟨⟨h1,a,b⟩,c,g,j,d⟩:=hl;have m:=h.cond.1;have n:=h.out.1;exact⟨⟨NG h.left h1,NG h.right a,fun i f=>by rw[<- h.cond.2 i (by omega)];exact b i (by omega)⟩,by rw[h.name];exact c,by omega,by omega,fun i f=>by rw[<- h.out.2 i (by omega)];exact d i (by omega)⟩
theorem AG3 {l l' : Law}(h:LE l l')(hl:AI6 l):AI6 l':=by have a:=h.cond.1;have b:=h.out.1;exact⟨by rw[<- b];exact hl.1,fun i c=>by rw[<- h.out.2 i (by omega),<- a];exact hl.2 i (by omega)⟩
theorem VZ {l l' : Law}(h:LE l l')(hl:AI7 l):AI7 l':=by obtain⟨⟨h1,a,b⟩,c,d,j,f,m,n,g⟩:=hl;have o:=h.cond.1;have q:=h.out.1;have hm:=h.mode;exact⟨⟨NG h.left h1,NG h.right a,fun i r=>by rw[<- h.cond.2 i (by omega)];exact b i (by omega)⟩,(Ko h.left).1 c,(Ko h.right).1 d,by omega,AG3 h f,by omega,by omega,by omega⟩
theorem EZ {N:Nat}{l l' : Law}(h:LE l l'):chkAll N l↔chkAll N l':=by
 suffices H:∀{l l' : Law},LE l l' -> chkAll N l->chkAll N l' by exact⟨H h,H h.symm⟩
 rintro l l' h ⟨h1,b,c,j,m,n,o,q,d,a⟩;have f:=h.cond.1;have r:=h.out.1;have hm:=h.mode;exact⟨by rw[h.name];exact h1,(Ko h.left).1 b,(Ko h.right).1 c,by omega,by omega,by omega,by omega,by omega,
  fun i g=>by rw[<- h.cond.2 i (by omega)];exact d i (by omega),fun i g=>by rw[<- h.out.2 i (by omega),<- f];exact a i (by omega)⟩
theorem AG4 {N:Nat}{l l' : Law}(h:LE l l'){e:Int}(b:AF9 N l e):AF9 N l' e:=by
 rcases b with⟨h1,a⟩ | ⟨h1,a⟩
 ·exact .inl ⟨h1,(EZ h).1 a⟩
 ·exact .inr ⟨h1,fun g=>a ((EZ h).2 g)⟩
theorem Af5 {N:Nat}{l:Law}{c c' : Sl Sound}(h:SE c c'):O3 N l c=O3 N l c':=by
 unfold O3;congr 1;funext self x1 x2;by_cases h1:(decide (x2<(l.Out.n:Int)))=true
 case neg=>rw[if_neg h1,if_neg h1]
 rw[if_pos h1,if_pos h1,<- h.1];have e1:∀y:Int,(0:Int)<=y->y<(c.n:Int)->c.g y.toNat=c'.g y.toNat:=fun y i h1=>h.2 _ (by omega);by_cases b:(0:Int)<=x2/\x2<(l.Out.n:Int)
 case neg=>rw[if_neg b,if_neg b]
 rw[if_pos b,if_pos b];split
 ·rename_i f;have e2:(⟨(if (decide (0<=(l.Out.g x2.toNat).From)) then (c.g (l.Out.g x2.toNat).From.toNat).Plus else 0),(if (decide (0<=(l.Out.g x2.toNat).From)) then (c.g (l.Out.g x2.toNat).From.toNat).Minus else 0)⟩:Sound) =
   ⟨(if (decide (0<=(l.Out.g x2.toNat).From)) then (c'.g (l.Out.g x2.toNat).From.toNat).Plus else 0),(if (decide (0<=(l.Out.g x2.toNat).From)) then (c'.g (l.Out.g x2.toNat).From.toNat).Minus else 0)⟩:=by
   by_cases a:decide (0<=(l.Out.g x2.toNat).From)=true
   ·have:=f a
    rw[if_pos a,if_pos a,if_pos a,if_pos a,e1 _ this.1 this.2]
   ·rw[if_neg a,if_neg a,if_neg a,if_neg a]
  rw[e2];congr 1;funext y5;split
  ·split
   ·rename_i d;rw[e1 _ d.1 d.2]
   ·rfl
  ·rfl
 ·rfl
theorem YT {N:Nat}{l l' : Law}(h:SE l.Out l'.Out)(c:Sl Sound):O3 N l c=O3 N l' c:=by
 unfold O3;congr 1;funext self x1 x2;rw[<- h.1];by_cases h1:(0:Int)<=x2/\x2<(l.Out.n:Int)
 ·rw[h.2 x2.toNat (by omega)]
 ·by_cases a:(decide (x2<(l.Out.n:Int)))=true
  ·rw[if_pos a,if_pos a,if_neg h1,if_neg h1]
  ·rw[if_neg a,if_neg a]
theorem NH {N:Nat}{l l' : Law}(e:LE l l'){w w' : Sl Sound}(h:SE w w'){i:Nat}(a:i+l.If.n<=w.n):Hu N l w i=Hu N l' w' i:=by unfold Hu;rw[Af5 (h.sub a),YT e.out,<- e.cond.1]
theorem Lc {N:Nat}{l l' : Law}(e:LE l l'){w w' : Sl Sound}(h:SE w w'){i:Nat}(a:i+l.If.n<=w.n):SE (Z3 N l w i) (Z3 N l' w' i):=by unfold Z3 AI8;rw[NH e h a,<- e.cond.1];exact ((h.take (by omega)).app (SE.refl _)).app (h.drop _)
def RL:List (Int×Sl Sound)->List (Int×Sl Sound)->Prop
 |[],[]=>True
 |(p,v)::L,(q,u)::M=>p=q/\SE v u/\RL L M
 |_,_=>False
def Kq:Sl Int->Sl (Sl Sound)->List (Int×Sl Sound)->Sl Int×Sl (Sl Sound)×Int
 |x,y,[]=>(x,y,0)
 |x,y,(p,v)::L=>if 32<v.n then (Sl.nil,Sl.nil,11)else Kq (x.push p) (y.push v) L
abbrev TE:=List (Int×Sl Sound)
def vL (L:TE):Prop:=∀x∈L,∀j,j<x.2.n->vS (x.2.g j)
theorem TF:vL []:=fun x hx=>absurd hx (by simp)
theorem Wa {x:Int×Sl Sound}{L:TE}(h:∀j,j<x.2.n->vS (x.2.g j))(hL:vL L):vL (x::L):=fun y hy=>by
 rcases AW1.1 hy with rfl|hy
 ·exact h
 ·exact hL y hy
def TG (N:Nat)(l:Law)(a:Sl Sound->Int->Option TE)(x5:Sl Sound)(x6:Int):Option TE:=
 if (decide ((wrap .i64 (x6+(l.If.n:Int)))<=(x5.n:Int))) then
  (CF N l x5 x6).bind fun c=>
  if (!c) then
   a x5 (wrap .i64 (x6+1))
  else
   (R4 N l x5 x6).bind fun b=>
   Ar (x6,b) (
    if ((l.If.n:Int)==0) then
     a b (wrap .i64 ((wrap .i64 (x6+(l.Out.n:Int)))+1))
    else
     a b (wrap .i64 (x6+(l.Out.n:Int)))
    )
 else
  some []
abbrev Ar5:=(Sl Int)×(Sl (Sl Sound))×Int
def TH (N:Nat)(l:Law)(a:Sl Sound->Sl Int->Sl (Sl Sound)->Int->Option Ar5)(x1:Sl Sound)(x2:Sl Int)(x3:Sl (Sl Sound))(x4:Int):Option Ar5:=
 if (decide ((wrap .i64 (x4+(l.If.n:Int)))<=(x1.n:Int))) then
  (CC N l x1 x4).bind fun y5=>
  if (!y5) then
   a x1 x2 x3 (wrap .i64 (x4+1))
  else
   (Ah N l x1 x4).bind fun y6=>
   if (decide (32<(y6.n:Int))) then
    some ((Sl.nil:Sl Int),(Sl.nil:Sl (Sl Sound)),11)
   else
    if (((x2.n+(Sl.of [x4]:Sl Int).n)*8<=140737488355328/\x2.n+(Sl.of [x4]:Sl Int).n<=140737488355328)/\((x3.n+(Sl.of [y6]:Sl (Sl Sound)).n)*24<=140737488355328/\x3.n+(Sl.of [y6]:Sl (Sl Sound)).n<=140737488355328))then
     if ((l.If.n:Int)==0) then
      a y6 (x2.push x4) (x3.push y6) (wrap .i64 ((wrap .i64 (x4+(l.Out.n:Int)))+1))
     else
      a y6 (x2.push x4) (x3.push y6) (wrap .i64 (x4+(l.Out.n:Int)))
    else none
 else
  some (x2,x3,0)
theorem Af6 {N:Nat}(hN:3000<=N){l l' : Law}(hf:AI7 l)(s:LE l l'):∀(m:Nat) (w w' : Sl Sound) (i:Nat),SE w w' -> w.n<=100->(∀j,j<w.n->vS (w.g j))->i<=200->w.n+1<=i+m ->
 ∃L L',(∀M,m<M->P4 M (TG N l) w i=some L)/\vL L/\L.length<=m/\RL L L' /\ ∀M x2 x3,m<M->x2.n+m<=1000->x3.n+m<=1000->An1 M (TH N l') w' x2 x3 i=some (Kq x2 x3 L'):=by
 obtain⟨hl,_,_,hk,x,y,_,_⟩:=hf;have h6:=x.1;obtain⟨z,_,_,a0,a1,_,_,_⟩:=VZ s ⟨hl,‹_›, ‹_›,hk,x,y,‹_›, ‹_›⟩;have c:l'.If.n=l.If.n:=s.cond.1.symm;have d:l'.Out.n=l.Out.n:=s.out.1.symm;intro m
 induction m with
 |zero=>
  intro w w' i a hn o hi hm;have a2:=a.1;refine⟨[],[],fun M q=>?_,TF,AS8 _,trivial,fun M x2 x3 q _ _=>?_⟩
  ·obtain⟨M,rfl⟩:∃K,M=K+1:=⟨M-1,by omega⟩;rw[D8,TG,DS (by omega),if_neg (by simp;omega)]
  ·obtain⟨M,rfl⟩:∃K,M=K+1:=⟨M-1,by omega⟩;rw[U2,TH,c,d,DS (by omega),if_neg (by simp;omega),Kq]
 |succ m ih=>
  intro w w' i a hn o hi hm;have a2:=a.1;by_cases hle:i+l.If.n<=w.n
  case neg=>
   refine⟨[],[],fun M q=>?_,TF,by simp,trivial,fun M x2 x3 q _ _=>?_⟩
   ·obtain⟨M,rfl⟩:∃K,M=K+1:=⟨M-1,by omega⟩;rw[D8,TG,DS (by omega),if_neg (by simp;omega)]
   ·obtain⟨M,rfl⟩:∃K,M=K+1:=⟨M-1,by omega⟩;rw[U2,TH,c,d,DS (by omega),if_neg (by simp;omega),Kq]
  have hw:okW w:=⟨by omega,fun j hj=>(o j hj).ok⟩;have t:=a.v o;have hw' : okW w':=⟨by omega,fun j hj=>(t j hj).ok⟩;obtain⟨b,e1,h1⟩:=Ae7 hN hl hk hw i (by omega);obtain⟨b',e2,h2⟩:=Rm hN z a0 hw' i (by omega);obtain rfl:b' = b:=by rw[AV7,h1,h2,Iv s a]
  cases b'
  ·obtain⟨L,L',g1,g2,g3,g5,g4⟩:=ih w w' (i+1) a hn o (by omega) (by omega);refine⟨L,L',fun M q=>?_,g2,by omega,g5,fun M x2 x3 q hx hy=>?_⟩
   ·obtain⟨M,rfl⟩:∃K,M=K+1:=⟨M-1,by omega⟩;rw[D8,TG,DS (by omega),if_pos (by simp;omega),e1,AS4,if_pos nf,B8 (by omega)];exact g1 M (by omega)
   ·obtain⟨M,rfl⟩:∃K,M=K+1:=⟨M-1,by omega⟩;rw[U2,TH,c,d,DS (by omega),if_pos (by simp;omega),e2,AS4,if_pos nf,B8 (by omega)];exact g4 M x2 x3 (by omega) (by omega) (by omega)
  ·have hit:=h1.1 rfl;have hw32:=hit.2.2.2.2.1.1;have r1:=(FH (N:=N) (by omega) x (by omega) o hle).1;have r2:=(FH (N:=N) (l:=l') (w:=w') (i:=i) (by omega) a1 (by omega) t (by omega)).2;have r:=Lc (N:=N) s a hle;have hrn:=r.1;obtain⟨_,_,p3,p4⟩:=GT (N:=N) (by omega) x o hle;obtain⟨q1,q2⟩:=Af3 hle o p4;have q1:(Z3 N l w i).n=w.n-l.If.n+l.Out.n:=by rw[<- p3];exact q1
   have q2:∀j,j<(Z3 N l w i).n->vS ((Z3 N l w i).g j):=q2;obtain⟨L,L',g1,g2,g3,g5,g4⟩:=ih (Z3 N l w i) (Z3 N l' w' i) (if l.If.n=0 then i+l.Out.n+1 else i+l.Out.n) r (by omega) q2 (by split<;>omega) (by split<;>omega);refine⟨((i:Int),Z3 N l w i)::L,((i:Int),Z3 N l' w' i)::L',fun M q=>?_,Wa q2 g2,by simp;omega,⟨rfl,r,g5⟩,fun M x2 x3 q hx hy=>?_⟩
   ·obtain⟨M,rfl⟩:∃K,M=K+1:=⟨M-1,by omega⟩;rw[D8,TG,DS (by omega),if_pos (by simp;omega),e1,AS4,if_neg (by simp),r1,AS4,DS (by omega),B8 (by omega)];have g1:=g1 M (by omega);by_cases f:l.If.n=0
    ·rw[if_pos f]at g1;rw[if_pos (by simp[f]),g1];rfl
    ·rw[if_neg f]at g1;rw[if_neg (by simp[f]),g1];rfl
   ·obtain⟨M,rfl⟩:∃K,M=K+1:=⟨M-1,by omega⟩;rw[U2,TH,c,d,DS (by omega),if_pos (by simp;omega),e2,AS4,if_neg (by simp),r2,AS4,DS (by omega),B8 (by omega),Kq];by_cases u:32<(Z3 N l' w' i).n
    ·rw[if_pos (by simp;omega),if_pos u]
    rw[if_neg (by simp;omega),if_neg u,if_pos (by show ((x2.n+1)*8<=_/\x2.n+1<=_)/\(x3.n+1)*24<=_/\x3.n+1<=_;omega)];have g4:=g4 M (x2.push (i:Int)) (x3.push (Z3 N l' w' i)) (by omega) (by show x2.n+1+m<=_;omega) (by show x3.n+1+m<=_;omega);by_cases f:l.If.n=0
    ·rw[if_pos f]at g4;rw[if_pos (by simp[f]),g4]
    ·rw[if_neg f]at g4;rw[if_neg (by simp[f]),g4]
def Af7 (N:Nat)(l:Law)(a:Sl Sound->Int->Option TE)(x7:Sl Sound)(x8:Int):Option TE:=
 if (decide (0<=x8)) then
  (CF N l x7 x8).bind fun c=>
  if (!c) then
   a x7 (wrap .i64 (x8-1))
  else
   (R4 N l x7 x8).bind fun b=>
   Ar (x8,b) (
    a b (wrap .i64 (x8-(if (l.If.n:Int)<1 then 1 else (l.If.n:Int))))
    )
 else
  some []
def Af8 (N:Nat)(l:Law)(a:Sl Sound->Sl Int->Sl (Sl Sound)->Int->Option Ar5)(x1:Sl Sound)(x2:Sl Int)(x3:Sl (Sl Sound))(x4:Int):Option Ar5:=
 if (decide (0<=x4)) then
  (CC N l x1 x4).bind fun y5=>
  if (!y5) then
   a x1 x2 x3 (wrap .i64 (x4-1))
  else
   (Ah N l x1 x4).bind fun y6=>
   if (decide (32<(y6.n:Int))) then
    some ((Sl.nil:Sl Int),(Sl.nil:Sl (Sl Sound)),11)
   else
    if (((x2.n+(Sl.of [x4]:Sl Int).n)*8<=140737488355328/\x2.n+(Sl.of [x4]:Sl Int).n<=140737488355328)/\((x3.n+(Sl.of [y6]:Sl (Sl Sound)).n)*24<=140737488355328/\x3.n+(Sl.of [y6]:Sl (Sl Sound)).n<=140737488355328))then
     if ((l.If.n:Int)==0) then
      a y6 (x2.push x4) (x3.push y6) (wrap .i64 ((wrap .i64 (x4-(l.If.n:Int)))-1))
     else
      a y6 (x2.push x4) (x3.push y6) (wrap .i64 (x4-(l.If.n:Int)))
    else none
 else
  some (x2,x3,0)
theorem Ar6 {N:Nat}(hN:3000<=N){l l' : Law}(hf:AI7 l)(r:LE l l'):∀(m:Nat) (w w' : Sl Sound) (i:Int),SE w w' -> w.n<=100->(∀j,j<w.n->vS (w.g j)) -> -100<=i->i+1<=m->m<=200 ->
 ∃L L',(∀M,m<M->P4 M (Af7 N l) w i=some L)/\vL L/\L.length<=m/\RL L L' /\ ∀M x2 x3,m<M->x2.n+m<=1000->x3.n+m<=1000->An1 M (Af8 N l') w' x2 x3 i=some (Kq x2 x3 L'):=by
 obtain⟨hl,_,_,hk,x,y,_,_⟩:=hf;have h6:=x.1;obtain⟨z,_,_,a0,a1,_,_,_⟩:=VZ r ⟨hl,‹_›, ‹_›,hk,x,y,‹_›, ‹_›⟩;have c:l'.If.n=l.If.n:=r.cond.1.symm;have hof:l'.Out.n=l.Out.n:=r.out.1.symm;intro m
 induction m with
 |zero=>
  intro w w' i a hn d hi hm a2;have a3:=a.1;refine⟨[],[],fun M f=>?_,TF,AS8 _,trivial,fun M x2 x3 f _ _=>?_⟩
  ·obtain⟨M,rfl⟩:∃K,M=K+1:=⟨M-1,by omega⟩;rw[D8,Af7,if_neg (by simp;omega)]
  ·obtain⟨M,rfl⟩:∃K,M=K+1:=⟨M-1,by omega⟩;rw[U2,Af8,c,if_neg (by simp;omega),Kq]
 |succ m ih=>
  intro w w' i a hn d hi hm a2;have a3:=a.1;by_cases hle:0<=i
  case neg=>
   refine⟨[],[],fun M f=>?_,TF,by simp,trivial,fun M x2 x3 f _ _=>?_⟩
   ·obtain⟨M,rfl⟩:∃K,M=K+1:=⟨M-1,by omega⟩;rw[D8,Af7,if_neg (by simp;omega)]
   ·obtain⟨M,rfl⟩:∃K,M=K+1:=⟨M-1,by omega⟩;rw[U2,Af8,c,if_neg (by simp;omega),Kq]
  obtain⟨k,rfl⟩:∃k:Nat,i=(k:Int):=⟨i.toNat,by omega⟩;have hw:okW w:=⟨by omega,fun j hj=>(d j hj).ok⟩;have s:=a.v d;have hw' : okW w':=⟨by omega,fun j hj=>(s j hj).ok⟩;obtain⟨b,e1,h1⟩:=Ae7 hN hl hk hw k (by omega);obtain⟨b',e2,h2⟩:=Rm hN z a0 hw' k (by omega);obtain rfl:b' = b:=by rw[AV7,h1,h2,Iv r a]
  cases b'
  ·obtain⟨L,L',g1,g2,g3,g5,g4⟩:=ih w w' ((k:Int)-1) a hn d (by omega) (by omega) (by omega);refine⟨L,L',fun M f=>?_,g2,by omega,g5,fun M x2 x3 f hx hy=>?_⟩
   ·obtain⟨M,rfl⟩:∃K,M=K+1:=⟨M-1,by omega⟩;rw[D8,Af7,if_pos (by simp),e1,AS4,if_pos nf,E1 (by omega) (by omega)];exact g1 M (by omega)
   ·obtain⟨M,rfl⟩:∃K,M=K+1:=⟨M-1,by omega⟩;rw[U2,Af8,c,if_pos (by simp),e2,AS4,if_pos nf,E1 (by omega) (by omega)];exact g4 M x2 x3 (by omega) (by omega) (by omega)
  ·have t:=h1.1 rfl;have hle:=t.1;have hw32:=t.2.2.2.2.1.1;have r1:=(FH (N:=N) (by omega) x (by omega) d hle).1;have r2:=(FH (N:=N) (l:=l') (w:=w') (i:=k) (by omega) a1 (by omega) s (by omega)).2;have o:=Lc (N:=N) r a hle;have hrn:=o.1;obtain⟨_,_,p3,p4⟩:=GT (N:=N) (by omega) x d hle;obtain⟨q1,q2⟩:=Af3 hle d p4;have q1:(Z3 N l w k).n=w.n-l.If.n+l.Out.n:=by rw[<- p3];exact q1
   have q2:∀j,j<(Z3 N l w k).n->vS ((Z3 N l w k).g j):=q2;obtain⟨L,L',g1,g2,g3,g5,g4⟩:=ih (Z3 N l w k) (Z3 N l' w' k) (if l.If.n=0 then (k:Int)-1 else (k:Int)-l.If.n) o (by omega) q2 (by split<;>omega) (by split<;>omega) (by omega);refine⟨((k:Int),Z3 N l w k)::L,((k:Int),Z3 N l' w' k)::L',fun M f=>?_,Wa q2 g2,by simp;omega,⟨rfl,o,g5⟩,fun M x2 x3 f hx hy=>?_⟩
   ·obtain⟨M,rfl⟩:∃K,M=K+1:=⟨M-1,by omega⟩;rw[D8,Af7,if_pos (by simp),e1,AS4,if_neg (by simp),r1,AS4];have g1:=g1 M (by omega);by_cases q:l.If.n=0
    ·rw[if_pos q]at g1;rw[if_pos (by omega),E1 (by omega) (by omega),g1];rfl
    ·rw[if_neg q]at g1;rw[if_neg (by omega),E1 (by omega) (by omega),g1];rfl
   ·obtain⟨M,rfl⟩:∃K,M=K+1:=⟨M-1,by omega⟩;rw[U2,Af8,c,if_pos (by simp),e2,AS4,if_neg (by simp),r2,AS4,Kq];by_cases u:32<(Z3 N l' w' k).n
    ·rw[if_pos (by simp;omega),if_pos u]
    rw[if_neg (by simp;omega),if_neg u,if_pos (by show ((x2.n+1)*8<=_/\x2.n+1<=_)/\(x3.n+1)*24<=_/\x3.n+1<=_;omega)];have g4:=g4 M (x2.push (k:Int)) (x3.push (Z3 N l' w' k)) (by omega) (by show x2.n+1+m<=_;omega) (by show x3.n+1+m<=_;omega);rw[E1 (n:=(k:Int)-(l.If.n:Int)) (by omega) (by omega)];by_cases q:l.If.n=0
    ·rw[if_pos q]at g4;rw[if_pos (by simp[q]),E1 (by omega) (by omega),show (k:Int)-(l.If.n:Int)-1=(k:Int)-1 by omega,g4]
    ·rw[if_neg q]at g4;rw[if_neg (by simp[q]),g4]
end Go.AM
namespace Go.AM
open IntKind (wrap)
open Go.Proofs
abbrev AllS:=Sl Sound×Int×Int
def Ly (N:Nat)(l:Law)(q0:Sl Sound)(a:AllS->Option TE)(x1:Int)(z1:AllS):Option TE:=
 if (decide (x1<z1.2.1)) then
  a (z1.1,z1.2.1,z1.2.2)
 else
  if (((0:Int)<=(wrap .i64 (x1+z1.2.2))/\(wrap .i64 (x1+z1.2.2))<=(z1.1.n:Int))/\((0:Int)<=x1/\x1<=(wrap .i64 (x1+(l.If.n:Int)))/\(wrap .i64 (x1+(l.If.n:Int)))<=(q0.n:Int)))then
   (O3 N l (q0.sub x1.toNat (wrap .i64 (x1+(l.If.n:Int))).toNat)).bind fun y6=>
   if ((0:Int)<=(wrap .i64 (x1+(l.If.n:Int)))/\(wrap .i64 (x1+(l.If.n:Int)))<=(q0.n:Int))then
    (B0 N (Sl.of [z1.1.take (wrap .i64 (x1+z1.2.2)).toNat,y6,q0.drop (wrap .i64 (x1+(l.If.n:Int))).toNat]:Sl (Sl Sound))).bind fun y7=>
    Ar (x1,y7) (
     a (y7,wrap .i64 (x1+(if (l.If.n:Int)<1 then 1 else (l.If.n:Int))),wrap .i64 ((wrap .i64 (z1.2.2+(l.Out.n:Int)))-(l.If.n:Int)))
     )
   else none
  else none
def AI9 (N:Nat)(a:Law)(b:Sl Sound)(c:Sl Int->Sl (Sl Sound)->Sl Sound->Int->Option Ar5)(x2:Sl Int)(x3:Sl (Sl Sound))(x4:Sl Sound)(x5:Int):Option Ar5:=
 if (decide (x5<=(b.n:Int))) then
  (CC N a b x5).bind fun y5=>
  if (!y5) then
   lt (fun (z3:Sl Sound)=>
    c x2 x3 z3 (wrap .i64 (x5+1))
    ) fun k3=>
    if (decide (x5<(b.n:Int))) then
     if (((0:Int)<=x5/\x5<(b.n:Int))/\((x4.n+(Sl.of [b.g x5.toNat]:Sl Sound).n)*8<=140737488355328/\x4.n+(Sl.of [b.g x5.toNat]:Sl Sound).n<=140737488355328))then
      k3 (x4.push (b.g x5.toNat))
     else none
    else
     k3 x4
  else
   if ((0:Int)<=x5/\x5<=(wrap .i64 (x5+(a.If.n:Int)))/\(wrap .i64 (x5+(a.If.n:Int)))<=(b.n:Int))then
    (DE N a (b.sub x5.toNat (wrap .i64 (x5+(a.If.n:Int))).toNat)).bind fun y6=>
    if ((x4.n+y6.n)*8<=140737488355328/\x4.n+y6.n<=140737488355328)then
     if ((x2.n+(Sl.of [x5]:Sl Int).n)*8<=140737488355328/\x2.n+(Sl.of [x5]:Sl Int).n<=140737488355328)then
      if (((((Sl.of []:Sl Sound).n+(x4.app y6).n)*8<=140737488355328/\(Sl.of []:Sl Sound).n+(x4.app y6).n<=140737488355328)/\((0:Int)<=(wrap .i64 (x5+(a.If.n:Int)))/\(wrap .i64 (x5+(a.If.n:Int)))<=(b.n:Int)))/\((((Sl.of []:Sl Sound).app (x4.app y6)).n+(b.drop (wrap .i64 (x5+(a.If.n:Int))).toNat).n)*8<=140737488355328/\((Sl.of []:Sl Sound).app (x4.app y6)).n+(b.drop (wrap .i64 (x5+(a.If.n:Int))).toNat).n<=140737488355328))then
       if (decide (32<((((Sl.of []:Sl Sound).app (x4.app y6)).app (b.drop (wrap .i64 (x5+(a.If.n:Int))).toNat)).n:Int))) then
        some ((Sl.nil:Sl Int),(Sl.nil:Sl (Sl Sound)),11)
       else
        if ((x3.n+(Sl.of [((Sl.of []:Sl Sound).app (x4.app y6)).app (b.drop (wrap .i64 (x5+(a.If.n:Int))).toNat)]:Sl (Sl Sound)).n)*24<=140737488355328/\x3.n+(Sl.of [((Sl.of []:Sl Sound).app (x4.app y6)).app (b.drop (wrap .i64 (x5+(a.If.n:Int))).toNat)]:Sl (Sl Sound)).n<=140737488355328)then
         if ((a.If.n:Int)==0) then
          if (decide ((wrap .i64 (x5+(a.If.n:Int)))<(b.n:Int))) then
           if (((0:Int)<=(wrap .i64 (x5+(a.If.n:Int)))/\(wrap .i64 (x5+(a.If.n:Int)))<(b.n:Int))/\(((x4.app y6).n+(Sl.of [b.g (wrap .i64 (x5+(a.If.n:Int))).toNat]:Sl Sound).n)*8<=140737488355328/\(x4.app y6).n+(Sl.of [b.g (wrap .i64 (x5+(a.If.n:Int))).toNat]:Sl Sound).n<=140737488355328))then
            c (x2.push x5) (x3.push (((Sl.of []:Sl Sound).app (x4.app y6)).app (b.drop (wrap .i64 (x5+(a.If.n:Int))).toNat))) ((x4.app y6).push (b.g (wrap .i64 (x5+(a.If.n:Int))).toNat)) (wrap .i64 ((wrap .i64 (x5+(a.If.n:Int)))+1))
           else none
          else
           c (x2.push x5) (x3.push (((Sl.of []:Sl Sound).app (x4.app y6)).app (b.drop (wrap .i64 (x5+(a.If.n:Int))).toNat))) (x4.app y6) (wrap .i64 ((wrap .i64 (x5+(a.If.n:Int)))+1))
         else
          c (x2.push x5) (x3.push (((Sl.of []:Sl Sound).app (x4.app y6)).app (b.drop (wrap .i64 (x5+(a.If.n:Int))).toNat))) (x4.app y6) (wrap .i64 (x5+(a.If.n:Int)))
        else none
      else none
     else none
    else none
   else none
 else
  some (x2,x3,0)
abbrev vW (s:Sl Sound):Prop:=∀j,j<s.n->vS (s.g j)
theorem Ax3 {s t:Sl Sound}(h:vW s)(h' : vW t):vW (s.app t):=fun j a=>by
 have a:j<s.n+t.n:=a;show vS (if j<s.n then s.g j else t.g (j-s.n));split
 ·exact h j (by assumption)
 ·exact h' _ (by omega)
theorem AG5 {s:Sl Sound}(h:vW s)(k:Nat):vW (s.drop k):=fun j a=>h _ (by have a:j<s.n-k:=a;omega)
theorem AG6 {s:Sl Sound}(h:vW s){k:Nat}(hk:k<=s.n):vW (s.take k):=fun j a=>h _ (by have a:j<k:=a;omega)
theorem TI {x s:Sl Sound}{i:Nat}(b:i<s.n):SE (x.app (s.drop i)) ((x.push (s.g i)).app (s.drop (i+1))):=⟨by show x.n+(s.n-i)=x.n+1+(s.n-(i+1));omega,fun j _=>by
 show (if j<x.n then x.g j else s.g (i+(j-x.n)))=if j<x.n+1 then (if j<x.n then x.g j else s.g i)else s.g (i+1+(j-(x.n+1)))
 by_cases h1:j<x.n
 ·rw[if_pos h1,if_pos (by omega),if_pos h1]
 ·rw[if_neg h1];by_cases a:j=x.n
  ·rw[if_pos (by omega),if_neg h1,a];simp
  ·rw[if_neg (by omega)];congr 1;omega⟩
theorem Ar7 {a x t:Sl Sound}(h:SE a (x.app t)):SE (a.take x.n) x:=⟨rfl,fun j b=>by
 have b:j<x.n:=b;have hn:a.n=x.n+t.n:=h.1;have e:a.g j=if j<x.n then x.g j else t.g (j-x.n):=h.2 j (by omega)
 rw[if_pos b]at e;exact e⟩
theorem Xn {N:Nat}{l:Law}{w:Sl Sound}{K:AllS->Option TE}{acc:Sl Sound}{next sh:Int}:∀(d i:Nat),((i+d:Nat):Int)<=next->O5 (Ex l w i) (Ly N l w) K (acc,next,sh)=O5 (Ex l w (i+d)) (Ly N l w) K (acc,next,sh)
 |0,i,_=>rfl
 |d+1,i,h=>by
  have ih:=Xn (N:=N) (l:=l) (w:=w) (K:=K) (acc:=acc) (next:=next) (sh:=sh) d (i+1) (by omega);rw[show i+(d+1)=i+1+d by omega,<- ih];by_cases a:PN l w i
  ·rw[Jy (by have:=a.1;omega) a];show Ly N l w (O5 (Ex l w (i+1)) (Ly N l w) K) (i:Int) (acc,next,sh)=_;unfold Ly;rw[if_pos (by simp;omega)]
  ·rw[Jz a]
theorem AG7 {N:Nat}(hN:3000<=N){l l' : Law}(hf:AI7 l)(he:LE l l'){w w' : Sl Sound}(b:SE w w')(hn:w.n<=32)(hv:vW w):∀(m i:Nat) (x4 acc:Sl Sound) (sh next:Int),i<=w.n+1->w.n+1<=i+m ->
 (i<=w.n->SE acc (x4.app (w'.drop i))/\(x4.n:Int)=i+sh)->next<=i->x4.n<=7*i->vW acc -> -1000<=sh->sh<=1000 ->
 ∃L L',O5 (Ex l w i) (Ly N l w) (fun _=>some []) (acc,next,sh)=some L/\vL L/\L.length<=m/\RL L L' /\ ∀M x2 x3,m<M->x2.n+m<=1000->x3.n+m<=1000->An1 M (AI9 N l' w') x2 x3 x4 i=some (Kq x2 x3 L'):=by
 obtain⟨hl,_,_,hk,ho,hko,_,_⟩:=hf;have h6:=ho.1;obtain⟨hl',_,_,hk',ho',_,_,_⟩:=VZ he ⟨hl,‹_›, ‹_›,hk,ho,hko,‹_›, ‹_›⟩;have d:l'.If.n=l.If.n:=he.cond.1.symm;have hn':=b.1;have hw:okW w:=⟨by omega,fun j hj=>(hv j hj).ok⟩;have r : vW w':=b.v hv;have hw' : okW w':=⟨by omega,fun j hj=>(r j hj).ok⟩;have fin:∀(m i:Nat) (x4 acc:Sl Sound) (sh next:Int),w.n<i->∃L L',O5 (Ex l w i) (Ly N l w) (fun _=>some []) (acc,next,sh)=some L/\vL L/\L.length<=m/\RL L L' /\ ∀M x2 x3,m<M->x2.n+m<=1000->x3.n+m<=1000->An1 M (AI9 N l' w') x2 x3 x4 i=some (Kq x2 x3 L'):=by
  intro m i x4 acc sh next hi
  refine⟨[],[],by rw[Kn (by omega)];rfl,TF,by simp,trivial,fun M x2 x3 hM _ _=>?_⟩;obtain⟨M,rfl⟩:∃K,M=K+1:=⟨M-1,by omega⟩;rw[U2,AI9,if_neg (by simp;omega),Kq]
 intro m
 induction m with
 |zero=>exact fun i x4 acc sh next h1 t _ _ _ _ _ _=>fin 0 i x4 acc sh next (by omega)
 |succ m ih=>
  intro i x4 acc sh next hi hm hx hnx h7 f u x
  by_cases hle:i<=w.n
  case neg=>exact fin _ i x4 acc sh next (by omega)
  obtain⟨o,hnn⟩:=hx hle;have han:acc.n=x4.n+(w.n-i):=by rw[o.1];show x4.n+(w'.n-i)=_;omega
  obtain⟨b',e2,t⟩:=Rm hN hl' hk' hw' i (by omega);have t:=t.trans (Iv he b).symm;cases b'
  ·have hno:¬PN l w i:=fun h=>by have:=t.2 h;cases this
   rw[Jz hno];by_cases y:i<w.n
   ·obtain⟨L,L',g1,g2,g3,g5,g4⟩:=ih (i+1) (x4.push (w'.g i)) acc sh next (by omega) (by omega) (fun _=>⟨o.trans (TI (by omega)),by show ((x4.n+1:Nat):Int)=_;omega⟩) (by omega) (by show x4.n+1<=_;omega) f u x
    refine⟨L,L',g1,g2,by omega,g5,fun M x2 x3 hM hx hy=>?_⟩;obtain⟨M,rfl⟩:∃K,M=K+1:=⟨M-1,by omega⟩;rw[U2,AI9,d,if_pos (by simp;omega),e2,AS4,if_pos nf,lt,if_pos (by simp;omega),if_pos ⟨by omega,by show (x4.n+1)*8<=_/\x4.n+1<=_;omega⟩,B8 (by omega),AS2];exact g4 M x2 x3 (by omega) (by omega) (by omega)
   ·obtain⟨L,L',g1,g2,g3,g5,g4⟩:=ih (i+1) x4 acc sh next (by omega) (by omega) (fun h=>by omega) (by omega) (by omega) f u x
    refine⟨L,L',g1,g2,by omega,g5,fun M x2 x3 hM hx hy=>?_⟩;obtain⟨M,rfl⟩:∃K,M=K+1:=⟨M-1,by omega⟩;rw[U2,AI9,d,if_pos (by simp;omega),e2,AS4,if_pos nf,lt,if_neg (by simp;omega),B8 (by omega)];exact g4 M x2 x3 (by omega) (by omega) (by omega)
  ·have z:=t.1 rfl;have a0:=z.1;rw[Jy hle z];obtain⟨p1,_,p3,p4⟩:=GT (N:=N) (by omega) ho hv a0;obtain⟨_,p2,_,_⟩:=GT (N:=N) (l:=l') (i:=i) (by omega) ho' r (by omega);rw[<- NH he b a0,d]at p2;generalize hY:Hu N l w i=Y at p1 p2 p3 p4;have c:SE (((acc.take x4.n).app Y).app (w.drop (i+l.If.n))) ((x4.app Y).app (w'.drop (i+l.If.n))):=((Ar7 o).app (SE.refl _)).app (b.drop _);have q:vW (((acc.take x4.n).app Y).app (w.drop (i+l.If.n))):=Ax3 (Ax3 (AG6 f (by omega)) p4) (AG5 hv _);generalize hZ:(((acc.take x4.n).app Y).app (w.drop (i+l.If.n)))=Z at c q;have hZn:Z.n=x4.n+Y.n+(w.n-(i+l.If.n)):=by rw[<- hZ]
   obtain⟨L,L',g1,g2,g3,g5,g4⟩:=ih (if l.If.n=0 then i+1 else i+l.If.n) (if l.If.n=0/\i<w.n then (x4.app Y).push (w'.g i)else x4.app Y) Z (sh+l.Out.n-l.If.n) (if l.If.n=0 then i+1 else i+l.If.n:Nat)
    (by split<;>omega) (by split<;>omega)
    (fun h=>by
     by_cases a:l.If.n=0
     ·rw[if_pos a]at h;rw[if_pos a,if_pos ⟨a,by omega⟩];rw[a]at c;exact⟨c.trans (TI (by omega)),by show ((x4.n+Y.n+1:Nat):Int)=_;omega⟩
     ·rw[if_neg a,if_neg (by omega)];exact⟨c,by show ((x4.n+Y.n:Nat):Int)=_;omega⟩)
    (by omega)
    (by
     by_cases a:l.If.n=0
     ·rw[if_pos a];split
      ·show x4.n+Y.n+1<=_;omega
      ·show x4.n+Y.n<=_;omega
     ·rw[if_neg a,if_neg (by omega)];show x4.n+Y.n<=_;omega)
    q (by omega) (by omega)
   refine⟨((i:Int),Z)::L,((i:Int),(x4.app Y).app (w'.drop (i+l.If.n)))::L', ?_,Wa q g2,by simp;omega,⟨rfl,c,g5⟩,fun M x2 x3 hM hx hy=>?_⟩
   ·show Ly N l w (O5 (Ex l w (i+1)) (Ly N l w) fun _=>some []) (i:Int) (acc,next,sh)=_;unfold Ly;have es:wrap .i64 ((i:Int)+sh)=((x4.n:Nat):Int):=by rw[E1 (by omega) (by omega),hnn]
    simp only[es];rw[DS (by omega),if_neg (by simp;omega),if_pos (by omega)];simp only[AS2];rw[p1,AS4,if_pos (by omega),Af4 (by omega) (by show x4.n<=_;omega) (by omega) (by show w.n-(i+l.If.n)<=_;omega),AS4,hZ];have en:wrap .i64 ((i:Int)+(if (l.If.n:Int)<1 then 1 else (l.If.n:Int)))=((if l.If.n=0 then i+1 else i+l.If.n:Nat):Int):=by
     by_cases a:l.If.n=0
     ·rw[if_pos (by omega),if_pos a,E1 (by omega) (by omega)];omega
     ·rw[if_neg (by omega),if_neg a,E1 (by omega) (by omega)];omega
    have eh:wrap .i64 ((wrap .i64 (sh+(l.Out.n:Int)))-(l.If.n:Int))=sh+l.Out.n-l.If.n:=by rw[E1 (n:=sh+(l.Out.n:Int)) (by omega) (by omega),E1 (by omega) (by omega)]
    rw[en,eh];have sk:=Xn (N:=N) (l:=l) (w:=w) (K:=fun _=>some []) (acc:=Z) (next:=((if l.If.n=0 then i+1 else i+l.If.n:Nat):Int)) (sh:=sh+l.Out.n-l.If.n) (if l.If.n=0 then 0 else l.If.n-1) (i+1) (by split<;>omega);rw[show i+1+(if l.If.n=0 then 0 else l.If.n-1)=(if l.If.n=0 then i+1 else i+l.If.n) by split<;>omega]at sk;show Ar _ (O5 (Ex l w (i+1)) (Ly N l w) (fun _=>some []) (Z,_,_))=_;rw[sk,g1];rfl
   ·obtain⟨M,rfl⟩:∃K,M=K+1:=⟨M-1,by omega⟩;have hdn:((x4.app Y).app (w'.drop (i+l.If.n))).n=x4.n+Y.n+(w'.n-(i+l.If.n)):=rfl;rw[U2,AI9,d,if_pos (by simp;omega),e2,AS4,if_neg (by simp),DS (by omega),if_pos (by omega)];simp only[AS2];rw[p2,AS4,if_pos (by omega),if_pos (by show (x2.n+1)*8<=_/\x2.n+1<=_;omega)];rw[if_pos ⟨⟨by show (0+(x4.n+Y.n))*8<=_/\0+(x4.n+Y.n)<=_;omega,by omega⟩,by simp only[Bd2];omega⟩,Kq];by_cases a1:32<((x4.app Y).app (w'.drop (i+l.If.n))).n
    ·rw[if_pos (by simp only[decide_eq_true_eq,Bd2];omega),if_pos a1]
    rw[if_neg (by simp only[decide_eq_true_eq,Bd2];omega),if_neg a1,AG1 (s:=(Sl.of []:Sl Sound)) rfl,if_pos (by show (x3.n+1)*24<=_/\x3.n+1<=_;omega)];have g4:=g4 M (x2.push (i:Int)) (x3.push ((x4.app Y).app (w'.drop (i+l.If.n)))) (by omega) (by show x2.n+1+m<=_;omega) (by show x3.n+1+m<=_;omega);by_cases a:l.If.n=0
    ·rw[if_pos (by simp[a])];rw[if_pos a]at g4;by_cases y:i<w.n
     ·rw[if_pos ⟨a,y⟩]at g4;rw[if_pos (by simp only[decide_eq_true_eq];omega),if_pos ⟨by omega,by show (x4.n+Y.n+1)*8<=_/\x4.n+Y.n+1<=_;omega⟩,B8 (by omega),show w'.g (i+l.If.n)=w'.g i by rw[a];rfl,show i+l.If.n+1=i+1 by omega];exact g4
     ·rw[if_neg (by omega)]at g4;rw[if_neg (by simp only[decide_eq_true_eq];omega),B8 (by omega),show i+l.If.n+1=i+1 by omega];exact g4
    ·rw[if_neg (by simp[a])];rw[if_neg a,if_neg (by omega)]at g4;exact g4
def trS (r r' : Ar5):Prop:=r.1=r'.1/\r.2.1.n=r'.2.1.n/\(∀i,i<r.2.1.n->SE (r.2.1.g i) (r'.2.1.g i))/\r.2.2=r'.2.2
theorem Ax4:∀(L L' : TE) (x:Sl Int) (y y' : Sl (Sl Sound)),RL L L' -> y.n=y'.n->(∀i,i<y.n->SE (y.g i) (y'.g i))->trS (Kq x y L) (Kq x y' L')
 |[],[],x,y,y',_,h1,h2=>⟨rfl,h1,h2,rfl⟩
 |(p,v)::L,(q,u)::M,x,y,y',⟨h3,h4,h5⟩,h1,h2=>by
  subst h3;unfold Kq;rw[<- h4.1];split
  ·exact⟨rfl,rfl,fun i a=>absurd a (AW0 i),rfl⟩
  ·refine Ax4 L M _ _ _ h5 (by show y.n+1=y'.n+1;omega) fun i a=>?_;have a:i<y.n+1:=a;show SE (if i<y.n then y.g i else v) (if i<y'.n then y'.g i else u);rw[<- h1];split
   ·exact h2 i (by assumption)
   ·exact h4
 |[],_::_,_,_,_,h,_,_=>h.elim
 |_::_,[],_,_,_,h,_,_=>h.elim
theorem Af9:∀(L:TE) (x:Sl Int) (y:Sl (Sl Sound)),vL L->(∀i,i<y.n->wOk (y.g i))->(Kq x y L).2.2=11 \/ ((Kq x y L).2.2=0/\(Kq x y L).2.1.n<=y.n+L.length/\∀i,i<(Kq x y L).2.1.n->wOk ((Kq x y L).2.1.g i))
 |[],x,y,_,h=>.inr ⟨rfl,AS8 _,h⟩
 |(p,v)::L,x,y,hv,h=>by
  unfold Kq;split
  ·exact .inl rfl
  ·have:=Af9 L (x.push p) (y.push v) (fun z b=>hv z (AU8 _ b)) fun i d=>by
    show wOk (if i<y.n then y.g i else v);split
    ·exact h i (by assumption)
    ·exact⟨by omega,hv (p,v) (by simp)⟩
   rcases this with h|⟨h1,a,c⟩
   ·exact .inl h
   ·refine .inr ⟨h1,?_,c⟩;have a:_<=y.n+1+L.length:=a;simp only[AV4];omega
theorem TJ:∀(L:TE) (x:Sl Int) (y:Sl (Sl Sound)),x.n+L.length<=100000->y.n+L.length<=100000 ->
 O5 L (fun (a:Sl Int×Sl (Sl Sound)->Option Ar5) (x1:Int×(Sl Sound)) (z1:(Sl Int)×(Sl (Sl Sound)))=>
  if (decide (32<(x1.2.n:Int))) then
   some ((Sl.nil:Sl Int),(Sl.nil:Sl (Sl Sound)),11)
  else
   if ((z1.1.n+(Sl.of [x1.1]:Sl Int).n)*8<=140737488355328/\z1.1.n+(Sl.of [x1.1]:Sl Int).n<=140737488355328)then
    if ((z1.2.n+(Sl.of [x1.2]:Sl (Sl Sound)).n)*24<=140737488355328/\z1.2.n+(Sl.of [x1.2]:Sl (Sl Sound)).n<=140737488355328)then
     a (z1.1.push x1.1,z1.2.push x1.2)
    else none
   else none
  ) (fun (z1:(Sl Int)×(Sl (Sl Sound)))=>
   some (z1.1,z1.2,0)
  ) (x,y)=some (Kq x y L)
 |[],x,y,_,_=>rfl
 |(p,v)::L,x,y,hx,hy=>by
  simp only[AV4]at hx hy;have ih:=TJ L (x.push p) (y.push v) (by show x.n+1+_<=_;omega) (by show y.n+1+_<=_;omega);rw[O5,Kq];by_cases h:32<v.n
  ·rw[if_pos (by simp;omega),if_pos h]
  ·rw[if_neg (by simp;omega),if_neg h,if_pos (by show (x.n+1)*8<=_/\x.n+1<=_;omega),if_pos (by show (y.n+1)*24<=_/\y.n+1<=_;omega)];exact ih
def trE (N:Nat)(l:Law)(w:Sl Sound)(r:Ar5):Prop:=(r.2.2=17/\¬chkAll N l) \/ (chkAll N l/\Ug w r.2.2/\r.2.2≠0) \/ (chkAll N l/\wOk w/\(r.2.2=11 \/ (r.2.2=0/\r.2.1.n<=1000/\∀i,i<r.2.1.n->wOk (r.2.1.g i))))
theorem Ag0 (e:Int):trS ((Sl.nil:Sl Int),(Sl.nil:Sl (Sl Sound)),e) ((Sl.nil:Sl Int),(Sl.nil:Sl (Sl Sound)),e):=⟨rfl,rfl,fun i a=>absurd a (AW0 i),rfl⟩
theorem Ag1 {w w' : Sl Sound}(h:SE w w'){e:Int}(hw:Ug w e):Ug w' e:=by
 rcases hw with⟨h1,a⟩ | ⟨h1,⟨i,b,a⟩,c⟩ | ⟨h1,a⟩
 ·exact .inl ⟨by rw[<- h.1];exact h1,a⟩
 ·exact .inr (.inl ⟨by rw[<- h.1];exact h1,⟨i,by rw[<- h.1];exact b,by rw[<- h.2 i b];exact a⟩,c⟩)
 ·exact .inr (.inr ⟨h.wOk h1,a⟩)
theorem AG8 {w w' : Sl Sound}(h:SE w w')(hw:∀i,i<w.n->okS (w.g i)):∀i,i<w'.n->okS (w'.g i):=fun i a=>by rw[<- h.2 i (by rw[h.1];exact a)];exact hw i (by rw[h.1];exact a)
theorem Ag2 {N:Nat}(u:3000000<=N){l l' : Law}(hl:JA l)(hle:LE l l'){w w' : Sl Sound}(a:SE w w')(hw:∀i,i<w.n->okS (w.g i)) :∃r r',DH N l w=some r/\Im N l' w' = some r' /\ trS r r' /\ trE N l w r:=by
 obtain⟨e,e1,_,v⟩:=EY u hl;obtain⟨e0,_,e2,q⟩:=EY u (LL hle hl);obtain rfl:=TC (AG4 hle v) q;unfold DH Im FC Np;rw[e1,e2,AS4,AS4];rcases v with⟨rfl,hc⟩ | ⟨rfl,hc⟩
 case inr=>rw[if_pos (by decide),if_pos (by decide)];exact⟨_,_,rfl,rfl,Ag0 17,.inl ⟨rfl,hc⟩⟩
 rw[if_neg (by decide),if_neg (by decide)];obtain⟨e',e3,c⟩:=DP (N:=N) (by omega) hw;obtain⟨e'',e4,j⟩:=EX (N:=N) (by omega) (AG8 a hw);obtain rfl:=GS (Ag1 a c) j;rw[e3,e4];simp only[AS4];by_cases d:e' = 0
 case neg=>rw[if_pos (by simpa using d),if_pos (by simpa using d)];exact⟨_,_,rfl,rfl,Ag0 e', .inr (.inl ⟨hc,c,d⟩)⟩
 rw[if_neg (by simp[d]),if_neg (by simp[d])];have b:wOk w:=(Z2 c).1 d;have o:=hc.f hl;obtain⟨s,_,_,hk,ho,y,z,a0⟩:=id o;have hn:=b.1;have t:=a.1;have key:∃L L',Ck N w l (l.If.n:Int) (l.Out.n:Int)=some L/\vL L/\L.length<=100/\RL L L' /\
  (if (l'.Mode==1) then (Nq N l' w').bind fun y2=>some (y2.1,y2.2.1,y2.2.2)
   else if (l'.Mode==2) then (Il N l' w').bind fun y3=>some (y3.1,y3.2.1,y3.2.2)
   else (Hi N l' w').bind fun y4=>some (y4.1,y4.2.1,y4.2.2))=some (Kq (Sl.nil:Sl Int) (Sl.nil:Sl (Sl Sound)) L'):=by
  unfold Ck;rw[hle.mode];by_cases c1:l.Mode=1
  ·rw[if_pos (show (l.Mode==1)=true by simp[c1]),if_pos (show (l.Mode==1)=true by simp[c1])];obtain⟨L,L',g1,g2,g3,g5,g4⟩:=AG7 (N:=N) (by omega) o hle a hn b.2 (w.n+1) 0 (Sl.nil:Sl Sound) w 0 0 (by omega) (by omega) (fun _=>⟨by rw[AG1 rfl];exact⟨a.1,fun i m=>by rw[a.2 i m];show _=w'.g (0+i);rw[AV9]⟩,rfl⟩) (by omega) (by show 0<=_;omega) b.2 (by omega) (by omega);have hh:=Xl (N:=N) (by omega) s hk (w:=w) (vOk b) 0 (by omega);refine⟨L,L', ?_,g2,by omega,g5,?_⟩
   ·show ((Y3 N l w ((0:Nat):Int)).bind fun L1=>O5 L1 (Ly N l w) (fun _=>some []) (w,0,0))=_;rw[hh,AS4];exact g1
   ·have:Nq N l' w' = some _:=g4 N (Sl.nil:Sl Int) (Sl.nil:Sl (Sl Sound)) (by omega) (by show 0+_<=_;omega) (by show 0+_<=_;omega)
    rw[this];rfl
  rw[if_neg (show ¬(l.Mode==1)=true by simp[c1]),if_neg (show ¬(l.Mode==1)=true by simp[c1])];by_cases c2:l.Mode=2
  ·rw[if_pos (show (l.Mode==2)=true by simp[c2]),if_pos (show (l.Mode==2)=true by simp[c2])];obtain⟨L,L',g1,g2,g3,g5,g4⟩:=Af6 (N:=N) (by omega) o hle (w.n+1) w w' 0 a (by omega) b.2 (by omega) (by omega);refine⟨L,L',g1 N (by omega),g2,by omega,g5,?_⟩
   have:Il N l' w' = some _:=g4 N (Sl.nil:Sl Int) (Sl.nil:Sl (Sl Sound)) (by omega) (by show 0+_<=_;omega) (by show 0+_<=_;omega)
   rw[this];rfl
  ·have c3:l.Mode=3:=by omega
   rw[if_neg (show ¬(l.Mode==2)=true by simp[c2]),if_neg (show ¬(l.Mode==2)=true by simp[c2]),if_pos (show (l.Mode==3)=true by simp[c3])];obtain⟨L,L',g1,g2,g3,g5,g4⟩:=Ar6 (N:=N) (by omega) o hle (w.n+1) w w' ((w.n:Int)-(l.If.n:Int)) a (by omega) b.2 (by omega) (by omega) (by omega);refine⟨L,L', ?_,g2,by omega,g5,?_⟩
   ·rw[E1 (by omega) (by omega)];exact g1 N (by omega)
   ·have g4:=g4 N (Sl.nil:Sl Int) (Sl.nil:Sl (Sl Sound)) (by omega) (by show 0+_<=_;omega) (by show 0+_<=_;omega)
    have:Hi N l' w' = some (Kq (Sl.nil:Sl Int) (Sl.nil:Sl (Sl Sound)) L'):=by unfold Hi;rw[show wrap .i64 ((w'.n:Int)-(l'.If.n:Int))=(w.n:Int)-(l.If.n:Int) by rw[<- t, <- hle.cond.1,E1 (by omega) (by omega)]];exact g4
    rw[this];rfl
 obtain⟨L,L',g1,g2,g3,g5,g4⟩:=key;refine⟨Kq (Sl.nil:Sl Int) (Sl.nil:Sl (Sl Sound)) L,_,?_,g4,Ax4 L L' _ _ _ g5 rfl fun i m=>absurd m (AW0 i),.inr (.inr ⟨hc,b,?_⟩)⟩
 ·rw[Jr,AS4];show ((Ck N w l (l.If.n:Int) (l.Out.n:Int)).bind _)=_;rw[g1,AS4];exact TJ L _ _ (by show 0+_<=_;omega) (by show 0+_<=_;omega)
 ·rcases Af9 L (Sl.nil:Sl Int) (Sl.nil:Sl (Sl Sound)) g2 fun i m=>absurd m (AW0 i)with h|⟨h1,x,h3⟩
  ·exact .inl h
  ·exact .inr ⟨h1,by have x:_<=0+L.length:=x;omega,h3⟩
end Go.AM
namespace Go.AM
open IntKind (wrap)
open Go.Proofs
def apE (N:Nat)(l:Law)(w:Sl Sound)(r:Sl Sound×Int):Prop:=(r.2=17/\¬chkAll N l) \/ (chkAll N l/\Ug w r.2/\r.2≠0) \/ (chkAll N l/\wOk w/\(r.2=11 \/ (r.2=0/\wOk r.1)))
theorem JB {N:Nat}(o:3000000<=N){l l' : Law}(hl:JA l)(hle:LE l l'){w w' : Sl Sound}(b:SE w w')(hw:∀i,i<w.n->okS (w.g i)) :∃r r',R8 N l w=some r/\FA N l' w' = some r' /\ SE r.1 r'.1/\r.2=r'.2/\apE N l w r:=by
 obtain⟨⟨x,y,e⟩,⟨x',y',e'⟩,h1,q,⟨_,hn,hs,m⟩,ht⟩:=Ag2 o hl hle b hw;dsimp only at hn hs m;subst m;have t:=b.1;unfold trE at ht;dsimp only at ht;unfold R8 FA;rw[h1,q,AS4,AS4];dsimp only;by_cases a:e=0
 case neg=>
  rw[if_pos (show (e != 0)=true by simpa using a),if_pos (show (e != 0)=true by simpa using a)];refine⟨_,_,rfl,rfl,SE.refl _,rfl,?_⟩;rcases ht with h|h|⟨j,c,d⟩
  ·exact .inl h
  ·exact .inr (.inl h)
  ·exact .inr (.inr ⟨j,c,.inl (d.resolve_right fun h=>a h.1)⟩)
 rw[if_neg (show ¬(e != 0)=true by simp[a]),if_neg (show ¬(e != 0)=true by simp[a])];rcases ht with h|h|⟨j,c,d⟩
 ·exact absurd (h.1.symm.trans a) (by decide)
 ·exact absurd a h.2.2
 rcases d with d|⟨_,h6,u⟩
 ·exact absurd (d.symm.trans a) (by decide)
 have v:=c.1;by_cases hy:y.n=0
 ·rw[if_neg (show ¬decide ((0:Int)<(y.n:Int))=true by simp[hy]),if_pos (show ((y'.n:Int)==0)=true by simp[<- hn,hy]),if_pos (by show (0+w'.n)*8<=_/\0+w'.n<=_;omega),AG1 (s:=(Sl.of []:Sl Sound)) rfl];unfold A4;rw[if_pos (by omega)];exact⟨_,_,rfl,rfl,b,rfl,.inr (.inr ⟨j,c,.inr ⟨rfl,c⟩⟩)⟩
 ·have hk:=u (y.n-1) (by omega);have f:=hs (y.n-1) (by omega);have hb:=hk.1;have z:=f.1;have e1:wrap .i64 ((y.n:Int)-1)=((y.n-1:Nat):Int):=AE4 (by omega) (by omega);have e2:wrap .i64 ((y'.n:Int)-1)=((y.n-1:Nat):Int):=by rw[<- hn];exact e1
  rw[e1,e2,AS2,if_pos (show decide ((0:Int)<(y.n:Int))=true by simp;omega),if_pos (by omega),if_neg (show ¬((y'.n:Int)==0)=true by simp;omega),if_pos ⟨by omega,by show (0+(y'.g (y.n-1)).n)*8<=_/\0+(y'.g (y.n-1)).n<=_;omega⟩,AG1 (s:=(Sl.of []:Sl Sound)) rfl];exact⟨_,_,rfl,rfl,f,rfl,.inr (.inr ⟨j,c,.inr ⟨rfl,hk⟩⟩)⟩
theorem TL {N:Nat}{s:Sl Law}(m:s.n<N)(hs:s.n<1000000){f:Law->Option Bool}{b:Nat->Bool}(o:∀i,i<s.n->f (s.g i)=some (b i)) :∃r,C7 N s f=some r/\(r=true ↔ ∃i,i<s.n/\b i=true):=by
 unfold C7 E7
 have:∃y,V9 N (fun (a:Int->Option Int) (x1:Int)=>
  if (decide (x1<(s.n:Int))) then
   if ((0:Int)<=x1/\x1<(s.n:Int))then
    (f (s.g x1.toNat)).bind fun y3=>
    if y3 then
     some x1
    else
     a (wrap .i64 (x1+1))
   else none
  else
   some (-1)) 0=some y/\(0<=y ↔ ∃i,i<s.n/\b i=true):=by
  refine BP (fun i x1=>x1=(i:Int)/\∀j,j<i->b j=false) s.n _ m ⟨rfl,fun j c=>absurd c (by omega)⟩ ?_;rintro l i x1 q ⟨rfl,h⟩ d;by_cases hl:i<s.n
  ·refine ifT (by simp;omega) (ifT (by omega) (B1 (by rw[AS2];exact o i hl) ?_));cases hb:b i
   ·refine ifF (by simp) (d hl _ ⟨B8 (by omega),fun j c=>?_⟩);by_cases e:j=i
    ·subst e;exact hb
    ·exact h j (by omega)
   ·exact ifT rfl ⟨i,rfl,fun _=>⟨i,hl,hb⟩,fun _=>by omega⟩
  ·refine ifF (by simp;omega) ⟨-1,rfl,fun h=>absurd h (by decide),?_⟩;rintro⟨j,c,hb⟩;rw[h j (by omega)]at hb;cases hb
 obtain⟨y,e,hy⟩:=this;exact B1 e ⟨_,rfl,by rw[decide_eq_true_eq];exact hy⟩
def Lz (N:Nat)(laws:Sl Law)(e:Int):Prop:=(64<laws.n/\e=12) \/ (laws.n<=64/\(∃i,i<laws.n/\¬chkAll N (laws.g i))/\e=17) \/ ((laws.n<=64/\∀i,i<laws.n->chkAll N (laws.g i))/\e=0)
theorem Hm {N:Nat}{laws:Sl Law}{e e' : Int}(h:Lz N laws e)(h' : Lz N laws e'):e=e':=by rcases h with⟨h,rfl⟩ | ⟨h,⟨i,b,a⟩,rfl⟩ | ⟨⟨h,a⟩,rfl⟩<;>rcases h' with⟨g,rfl⟩ | ⟨g,⟨j,c,g2⟩,rfl⟩ | ⟨⟨g,g2⟩,rfl⟩<;>first|rfl|(exfalso;omega)|exact absurd (g2 i b) a|exact absurd (a j c) g2
def LS (s t:Sl Law):Prop:=s.n=t.n/\∀i,i<s.n->LE (s.g i) (t.g i)
theorem LS.refl (s:Sl Law):LS s s:=⟨rfl,fun _ _=>LE.refl _⟩
theorem SE.ls {s t:Sl Law}(h:SE s t):LS s t:=⟨h.1,fun i a=>by rw[h.2 i a];exact LE.refl _⟩
theorem Wb {N:Nat}{laws laws' : Sl Law}(h:LS laws laws'){e:Int}(hw:Lz N laws e):Lz N laws' e:=by
 have hn:=h.1;rcases hw with⟨h1,a⟩ | ⟨h1,⟨i,c,a⟩,b⟩ | ⟨⟨h1,a⟩,b⟩
 ·exact .inl ⟨by omega,a⟩
 ·exact .inr (.inl ⟨by omega,⟨i,by omega,fun g=>a ((EZ (h.2 i c)).2 g)⟩,b⟩)
 ·exact .inr (.inr ⟨⟨by omega,fun i c=>(EZ (h.2 i (by omega))).1 (a i (by omega))⟩,b⟩)
def DQ (laws:Sl Law):Prop:=∀i,i<laws.n->JA (laws.g i)
theorem Rp {laws laws' : Sl Law}(h:LS laws laws')(hl:DQ laws):DQ laws':=fun i a=>by exact LL (h.2 i (by rw[h.1];exact a)) (hl i (by rw[h.1];exact a))
theorem PQ {N:Nat}(o:3000000<=N){laws:Sl Law}(hl:DQ laws):∃e,V7 N laws=some e/\Fy N laws=some e/\Lz N laws e:=by
 have h1:∃e,V7 N laws=some e/\Lz N laws e:=by
  unfold V7;by_cases hn:64<laws.n
  ·exact ifT (by simp;omega) ⟨12,rfl,.inl ⟨hn,rfl⟩⟩
  refine ifF (by simp;omega) ?_;have u:∀i,∃b,i<laws.n->Q5 N (laws.g i)=some b/\(b=true ↔ ¬chkAll N (laws.g i)):=by
   intro i;by_cases a:i<laws.n
   ·obtain⟨e,e1,_,d⟩:=EY o (hl i a);refine⟨e != 0,fun _=>⟨by unfold Q5;rw[e1];rfl,?_⟩⟩;rcases d with⟨rfl,h⟩ | ⟨rfl,h⟩
    ·exact⟨fun h=>absurd h (by decide),fun g=>absurd h g⟩
    ·exact⟨fun _=>h,fun _=>by decide⟩
   ·exact⟨false,fun h=>absurd h a⟩
  obtain⟨f,l⟩:=Ba6 u;obtain⟨r,e1,h1⟩:=TL (N:=N) (s:=laws) (by omega) (by omega) (f:=fun u1=>Q5 N u1) (fun i a=>(l i a).1);refine B1 e1 ?_;cases q:r
  ·refine ifF (by simp) ⟨0,rfl,.inr (.inr ⟨⟨by omega,fun i a=>AV1 fun hn=>?_⟩,rfl⟩)⟩
   have:=h1.2 ⟨i,a,(l i a).2.2 hn⟩
   rw[q]at this;cases this
  ·obtain⟨i,a,hb⟩:=h1.1 q;exact ifT rfl ⟨17,rfl,.inr (.inl ⟨by omega,⟨i,a,(l i a).2.1 hb⟩,rfl⟩)⟩
 have v:∃e,Fy N laws=some e/\Lz N laws e:=by
  unfold Fy;by_cases hn:64<laws.n
  ·exact ifT (by simp;omega) ⟨12,rfl,.inl ⟨hn,rfl⟩⟩
  refine ifF (by simp;omega) ?_;refine BP (fun i x1=>x1=(i:Int)/\∀j,j<i->chkAll N (laws.g j)) laws.n _ (by omega) ⟨rfl,fun j m=>absurd m (by omega)⟩ ?_;rintro t i x1 a ⟨rfl,h⟩ hs;by_cases c:i<laws.n
  ·obtain⟨e,_,e1,d⟩:=EY o (hl i c);refine ifT (by simp;omega) (ifT (by omega) (B1 (by rw[AS2];exact e1) ?_));rcases d with⟨rfl,hc⟩ | ⟨rfl,hc⟩
   ·refine ifF (by decide) (hs c _ ⟨B8 (by omega),fun j m=>?_⟩);by_cases e:j=i
    ·subst e;exact hc
    ·exact h j (by omega)
   ·exact ifT (by decide) ⟨17,rfl,.inr (.inl ⟨by omega,⟨i,c,hc⟩,rfl⟩)⟩
  ·exact ifF (by simp;omega) ⟨0,rfl,.inr (.inr ⟨⟨by omega,fun j m=>h j (by omega)⟩,rfl⟩)⟩
 obtain⟨e,e1,g1⟩:=h1;obtain⟨e',e2,g2⟩:=v;obtain rfl:=Hm g1 g2;exact⟨_,e1,e2,g1⟩
def Ax5 (l:Sl (Sl Sound))(e:Int):Prop:=(e=0/\∀i,i<l.n->wOk (l.g i)) \/ (∃i,i<l.n/\(∀j,j<i->wOk (l.g j))/\Ug (l.g i) e/\e≠0)
theorem YU {N:Nat}(o:3000000<=N){l:Sl (Sl Sound)}(hn:l.n<2000000)(hw:∀i,i<l.n->∀j,j<(l.g i).n->okS ((l.g i).g j)) :∃e,V9 N (fun (a:Int->Option Int) (x1:Int)=>
  if (decide (x1<(l.n:Int))) then
   if ((0:Int)<=x1/\x1<(l.n:Int))then
    (T3 N (l.g x1.toNat)).bind fun y4=>
    if (y4 != 0) then
     some y4
    else
     a (wrap .i64 (x1+1))
   else none
  else
   some 0
  ) 0=some e/\Ax5 l e:=by
 refine BP (fun i x1=>x1=(i:Int)/\∀j,j<i->wOk (l.g j)) l.n _ (by omega) ⟨rfl,fun j d=>absurd d (by omega)⟩ ?_;rintro f i x1 q ⟨rfl,h⟩ hs;by_cases b:i<l.n
 ·obtain⟨e,e1,m⟩:=DP (N:=N) (by omega) (hw i b);refine ifT (by simp;omega) (ifT (by omega) (B1 (by rw[AS2];exact e1) ?_));by_cases c:e=0
  ·refine ifF (by simp[c]) (hs b _ ⟨B8 (by omega),fun j d=>?_⟩);by_cases e:j=i
   ·subst e;exact (Z2 m).1 c
   ·exact h j (by omega)
  ·exact ifT (by simpa using c) ⟨e,rfl,.inr ⟨i,b,h,m,c⟩⟩
 ·exact ifF (by simp;omega) ⟨0,rfl,.inl ⟨rfl,fun j d=>h j (by omega)⟩⟩
theorem AG9 {w:Sl Sound}{e:Int}(h:Ax5 (Sl.of [w]:Sl (Sl Sound)) e):Ug w e:=by
 rcases h with⟨rfl,h⟩ | ⟨i,a,_,h,_⟩
 ·exact .inr (.inr ⟨h 0 (by show 0<1;omega),rfl⟩)
 ·match i,a with
  |0,_=>exact h
theorem NI {N:Nat}(b:3000000<=N){laws:Sl Law}(hl:DQ laws){w:Sl Sound}(hw:∀i,i<w.n->okS (w.g i)) :∃e,AT N laws (Sl.of [w]:Sl (Sl Sound))=some e/\((Lz N laws e/\e≠0) \/ (Lz N laws 0/\Ug w e)):=by
 unfold AT;obtain⟨e,e1,_,h1⟩:=PQ b hl;refine B1 e1 ?_;by_cases a:e=0
 case neg=>exact ifT (by simpa using a) ⟨e,rfl,.inl ⟨h1,a⟩⟩
 refine ifF (by simp[a]) (ifF (by show ¬decide ((256:Int)<((1:Nat):Int))=true;decide) ?_);obtain⟨e2,e3,c⟩:=YU (N:=N) b (l:=(Sl.of [w]:Sl (Sl Sound))) (by show 1<_;omega) fun i d=>by
  match i,d with
  |0,_=>exact hw
 exact⟨e2,e3,.inr ⟨a ▸ h1,AG9 c⟩⟩
def T5 (N:Nat)(c:Int)(q1:Sl Law)(a:Sl Sound->Int->Option TE)(x1:Sl Sound)(x2:Int):Option TE:=
 if (decide (x2<(q1.n:Int))) then
  if ((0:Int)<=x2/\x2<(q1.n:Int))then
   (R8 N (q1.g x2.toNat) x1).bind fun y4=>
   if (y4.2 != 0) then
    if y4.2=c then some []else none
   else
    Ar (wrap .i64 (x2+1),y4.1) (
     a y4.1 (wrap .i64 (x2+1))
     )
  else none
 else
  if c=0 then some []else none
theorem S0 {N:Nat}{c:Int}{laws:Sl Law}{a:Sl Sound->Int->Option TE}{w:Sl Sound}{i:Nat}(d:i<laws.n)(b:laws.n<=64){y:Sl Sound×Int}(h:R8 N (laws.g i) w=some y) :T5 N c laws a w (i:Int)=if (y.2 != 0) then (if y.2=c then some []else none)else Ar (((i+1:Nat):Int),y.1) (a y.1 ((i+1:Nat):Int)):=by unfold T5;rw[if_pos (show decide ((i:Int)<(laws.n:Int))=true by simp;omega),if_pos (by omega),AS2,h,AS4,B8 (by omega)]
abbrev AQ0:=(Sl (Sl Sound))×Int
def GU (N:Nat)(a:Sl Law)(b:Sl (Sl Sound)->Int->Option AQ0)(x2:Sl (Sl Sound))(x3:Int):Option AQ0:=
 if (decide (x3<(a.n:Int))) then
  if ((((0:Int)<=x3/\x3<(a.n:Int))/\((0:Int)<=x3/\x3<(x2.n:Int)))/\x3.toNat<x2.n)then
   (FA N (a.g x3.toNat) (x2.g x3.toNat)).bind fun y7=>
   if (y7.2 != 0) then
    some ((Sl.nil:Sl (Sl Sound)),y7.2)
   else
    if ((x2.n+(Sl.of [y7.1]:Sl (Sl Sound)).n)*24<=140737488355328/\x2.n+(Sl.of [y7.1]:Sl (Sl Sound)).n<=140737488355328)then
     b (x2.push y7.1) (wrap .i64 (x3+1))
    else none
  else none
 else
  some (x2,0)
def JC:Sl Sound->TE->Sl Sound
 |w,[]=>w
 |_,(_,v)::L=>JC v L
theorem JD:∀(L:TE) (w:Sl Sound),O5 L (fun (a:Sl Sound->Option (Sl Sound)) (x1:Int×(Sl Sound)) (z1:Sl Sound)=>a x1.2) (fun (z1:Sl Sound)=>some z1) w=some (JC w L)
 |[],w=>rfl
 |(p,v)::L,w=>JD L v
def Da (N:Nat)(laws:Sl Law):Prop:=laws.n<=64/\∀i,i<laws.n->chkAll N (laws.g i)
theorem Ag3 {N:Nat}(x:3000000<=N){laws laws' : Sl Law}(hl:DQ laws)(o:LS laws laws')(q:Da N laws):∀(m i:Nat) (w w' : Sl Sound),SE w w' -> wOk w->i<=laws.n->laws.n<=i+m ->
 (∃L v',SE (JC w L) v' /\ wOk (JC w L)/\(∀M,m<M->P4 M (T5 N 0 laws) w i=some L)/\∀M x2,m<M->x2.n=i+1->x2.g i=w' -> ∃y,P4 M (GU N laws') x2 i=some (y,0)/\y.n=laws.n+1/\y.g laws.n=v') \/
 ((∃L,∀M,m<M->P4 M (T5 N 0 laws) w i=none/\P4 M (T5 N 11 laws) w i=some L)/\∀M x2,m<M->x2.n=i+1->x2.g i=w' -> P4 M (GU N laws') x2 i=some ((Sl.nil:Sl (Sl Sound)),11)):=by
 have z:=o.1;have b:=q.1;intro m
 induction m with
 |zero=>
  intro i w w' c hw hi hm;refine .inl ⟨[],w',c,hw,fun M d=>?_,fun M x2 d hx f=>⟨x2,?_,by omega,by rw[<- f];congr 1;omega⟩⟩
  ·obtain⟨M,rfl⟩:∃K,M=K+1:=⟨M-1,by omega⟩;rw[D8,T5,if_neg (by simp;omega),if_pos rfl]
  ·obtain⟨M,rfl⟩:∃K,M=K+1:=⟨M-1,by omega⟩;rw[D8,GU,if_neg (by simp;omega)]
 |succ m ih=>
  intro i w w' c hw hi hm;by_cases a:i<laws.n
  case neg=>
   refine .inl ⟨[],w',c,hw,fun M d=>?_,fun M x2 d hx f=>⟨x2,?_,by omega,by rw[<- f];congr 1;omega⟩⟩
   ·obtain⟨M,rfl⟩:∃K,M=K+1:=⟨M-1,by omega⟩;rw[D8,T5,if_neg (by simp;omega),if_pos rfl]
   ·obtain⟨M,rfl⟩:∃K,M=K+1:=⟨M-1,by omega⟩;rw[D8,GU,if_neg (by simp;omega)]
  obtain⟨⟨v,e⟩,⟨v',e'⟩,h1,r,s,t,l⟩:=JB x (hl i a) (o.2 i a) c fun j hj=>(hw.2 j hj).ok;simp only at s t;subst t;rcases l with⟨_,l⟩ | ⟨_,l,h6⟩ | ⟨_,_,l⟩
  ·exact absurd (q.2 i a) l
  ·exact absurd ((Z2 l).2 hw) h6
  rcases l with rfl|⟨rfl,hv⟩
  ·refine .inr ⟨⟨[],fun M d=>?_⟩,fun M x2 d hx f=>?_⟩
   ·obtain⟨M,rfl⟩:∃K,M=K+1:=⟨M-1,by omega⟩;rw[D8,D8,S0 a b h1,S0 a b h1];exact⟨rfl,rfl⟩
   ·obtain⟨M,rfl⟩:∃K,M=K+1:=⟨M-1,by omega⟩;rw[D8,GU,if_pos (by simp;omega),if_pos (by omega),AS2,f,r,AS4,if_pos (by simp)]
  ·rcases ih (i+1) v v' s hv (by omega) (by omega)with⟨L,u,g1,g2,g3,g4⟩ | ⟨⟨L,g1⟩,g2⟩
   ·refine .inl ⟨((i+1:Nat),v)::L,u,g1,g2,fun M d=>?_,fun M x2 d hx f=>?_⟩
    ·obtain⟨M,rfl⟩:∃K,M=K+1:=⟨M-1,by omega⟩;rw[D8,S0 a b h1,if_neg (by simp)];show Ar _ (P4 M (T5 N 0 laws) v _)=_;rw[g3 M (by omega)];rfl
    ·obtain⟨M,rfl⟩:∃K,M=K+1:=⟨M-1,by omega⟩;rw[D8,GU,if_pos (by simp;omega),if_pos (by omega),AS2,f,r,AS4,if_neg (by simp),if_pos (by show (x2.n+1)*24<=_/\x2.n+1<=_;omega),B8 (by omega)];exact g4 M (x2.push v') (by omega) (by show x2.n+1=_;omega) (by show (if i+1<x2.n then x2.g (i+1)else v')=v';rw[if_neg (by omega)])
   ·refine .inr ⟨⟨((i+1:Nat),v)::L,fun M d=>?_⟩,fun M x2 d hx f=>?_⟩
    ·obtain⟨M,rfl⟩:∃K,M=K+1:=⟨M-1,by omega⟩;obtain⟨a1,a2⟩:=g1 M (by omega);rw[D8,D8,S0 a b h1,S0 a b h1,if_neg (by simp),if_neg (by simp)];refine⟨?_,?_⟩
     ·show Ar _ (P4 M (T5 N 0 laws) v _)=_;rw[a1];rfl
     ·show Ar _ (P4 M (T5 N 11 laws) v _)=_;rw[a2];rfl
    ·obtain⟨M,rfl⟩:∃K,M=K+1:=⟨M-1,by omega⟩;rw[D8,GU,if_pos (by simp;omega),if_pos (by omega),AS2,f,r,AS4,if_neg (by simp),if_pos (by show (x2.n+1)*24<=_/\x2.n+1<=_;omega),B8 (by omega)];exact g2 M (x2.push v') (by omega) (by show x2.n+1=_;omega) (by show (if i+1<x2.n then x2.g (i+1)else v')=v';rw[if_neg (by omega)])
theorem Ar8 {N:Nat}{w:Sl Sound}(d:w.n<N)(hs:w.n<10000000):∃y,He N w=some y/\SE w y:=by
 suffices h:∃y,He N w=some y/\y=BV w.g w.n by obtain⟨y,h,rfl⟩:=h;exact⟨_,h,(Iu _ _).symm,fun i b=>(VV w.g b).symm⟩
 unfold He;refine P3 (fun i x1 x2=>x2=(i:Int)/\x1=BV w.g i) w.n _ d ⟨rfl,rfl⟩ ?_;rintro c i x1 x2 b ⟨rfl,rfl⟩ a;by_cases hl:i<w.n
 ·have:=Iu w.g i
  refine ifT (by simp;omega) (ifT ⟨by omega,by show ((BV w.g i).n+1)*8<=_/\(BV w.g i).n+1<=_;omega⟩ (a hl _ _ ⟨B8 (by omega),by rw[AS2];rfl⟩))
 ·exact ifF (by simp;omega) ⟨_,rfl,by congr 1;omega⟩
def deE (N:Nat)(laws:Sl Law)(w:Sl Sound)(r:Sl Sound×Int):Prop:=(Lz N laws r.2/\r.2≠0) \/ (Lz N laws 0/\Ug w r.2/\r.2≠0) \/ (Da N laws/\wOk w/\(r.2=11 \/ (r.2=0/\wOk r.1)))
theorem lawsE_zero {N:Nat}{laws:Sl Law}:Lz N laws 0↔Da N laws:=by
 constructor
 ·rintro (⟨_,h⟩ | ⟨_,_,h⟩ | ⟨h,_⟩)
  ·cases h
  ·cases h
  ·exact h
 ·exact fun h=>.inr (.inr ⟨h,rfl⟩)
theorem PS {N:Nat}(v:3000000<=N){laws laws' : Sl Law}(hl:DQ laws)(j:LS laws laws'){w w' : Sl Sound}(m:SE w w')(hw:∀i,i<w.n->okS (w.g i)) :∃r r',E8 N laws w=some r/\GG N laws' w' = some r' /\ SE r.1 r'.1/\r.2=r'.2/\deE N laws w r:=by
 obtain⟨e,e1,h1⟩:=NI v hl hw;obtain⟨a,_,a1,ha⟩:=PQ v (Rp j hl);unfold E8 GG Nr;rw[e1,a1,AS4,AS4];rcases h1 with⟨h1,u⟩ | ⟨h1,x⟩
 ·obtain rfl:=Hm (Wb j h1) ha;have d:(e != 0)=true:=by simpa using u
  have o:¬(e==0)=true:=by simpa using u
  rw[if_pos d,lt,if_neg o];dsimp only;rw[if_pos d,AS4];dsimp only;rw[if_pos d];exact⟨_,_,rfl,rfl,SE.refl _,rfl,.inl ⟨h1,u⟩⟩
 obtain rfl:=Hm (Wb j h1) ha;rw[lt,if_pos (show ((0:Int)==0)=true from rfl)];obtain⟨b,b1,hb⟩:=EX (N:=N) (by omega) (AG8 m hw);obtain rfl:=GS (Ag1 m x) hb;rw[b1,AS4];dsimp only;by_cases u:e=0
 case neg=>
  have d:(e != 0)=true:=by simpa using u
  rw[if_pos d,if_pos d,AS4];dsimp only;rw[if_pos d];exact⟨_,_,rfl,rfl,SE.refl _,rfl,.inr (.inl ⟨h1,x,u⟩)⟩
 have o:¬(e != 0)=true:=by simp[u]
 rw[if_neg o,if_neg o];have q:=lawsE_zero.1 h1;have s:wOk w:=(Z2 x).1 u;have a0:=s.1;have a2:=m.1;have a3:=q.1;have a4:=j.1;obtain⟨y4,c1,c2⟩:=Ar8 (N:=N) (w:=w') (by omega) (by omega);have t:A4 N w=some w:=by unfold A4;rw[if_pos (by omega)]
 have l:∀c,C0 N c laws w=(Ar (0,w) (P4 N (T5 N c laws) w 0)).bind fun L1=>O5 L1 (fun (f:Sl Sound->Option (Sl Sound)) (x1:Int×(Sl Sound)) (z1:Sl Sound)=>f x1.2) (fun (z1:Sl Sound)=>some z1) (Sl.nil:Sl Sound):=by intro c;unfold C0 AU U8;rw[AS4,t,AS4];rfl
 have z:∀(x2:Sl (Sl Sound)),(P4 N (fun f (x2:Sl (Sl Sound)) (x3:Int)=>GU N laws' f x2 x3) x2 0)=P4 N (GU N laws') x2 ((0:Nat):Int):=fun _=>rfl;rw[c1,AS4];rcases Ag3 v hl j q laws.n 0 w y4 (m.trans c2) s (by omega) (by omega)with⟨L,v',g1,g2,g3,g4⟩ | ⟨⟨L,g1⟩,g2⟩
 ·obtain⟨y,d1,d2,d3⟩:=g4 N (Sl.of [y4]:Sl (Sl Sound)) (by omega) rfl rfl
  have:F5 N laws w=some (JC w L,true):=by
   have e0:C0 N 0 laws w=some (JC w L):=by rw[l];have g3:P4 N (T5 N 0 laws) w 0=some L:=g3 N (by omega);rw[g3];exact JD _ _
   unfold F5;rw[e0]
  rw[this,AS4,if_neg (by simp)];refine⟨_,(v',0),rfl,?_,g1,rfl,.inr (.inr ⟨q,s,.inr ⟨rfl,g2⟩⟩)⟩;show Option.bind (P4 N (GU N laws') (Sl.of [y4]:Sl (Sl Sound)) ((0:Nat):Int)) _=_;rw[d1,AS4,if_neg (by simp)];have ew:wrap .i64 ((y.n:Int)-1)=((laws.n:Nat):Int):=by rw[d2,E1 (by omega) (by omega)];omega
  simp only[ew,AS2];rw[if_pos (by omega),d3]
 ·have:F5 N laws w=some ((Sl.nil:Sl Sound),false):=by
   obtain⟨g3,g4⟩:=g1 N (by omega);have g3:P4 N (T5 N 0 laws) w 0=none:=g3;have g4:P4 N (T5 N 11 laws) w 0=some L:=g4;have e0:C0 N 0 laws w=none:=by rw[l,g3];rfl
   have e11:C0 N 11 laws w=some (JC w L):=by rw[l,g4];exact JD _ _
   unfold F5;rw[e0,e11];rfl
  rw[this,AS4,if_pos (by simp)];refine⟨_,((Sl.nil:Sl Sound),11),rfl,?_,SE.refl _,rfl,.inr (.inr ⟨q,s,.inl rfl⟩)⟩;show Option.bind (P4 N (GU N laws') (Sl.of [y4]:Sl (Sl Sound)) ((0:Nat):Int)) _=_;rw[g2 N (Sl.of [y4]:Sl (Sl Sound)) (by omega) rfl rfl,AS4,if_pos (by decide)]
end Go.AM
namespace Go.AM
open IntKind (wrap)
open Go.Proofs
theorem tl_eq {α : Type}{s t:Sl α}:s.toList=t.toList↔SE s t:=by
 constructor
 ·intro h;have hn:s.n=t.n:=by rw[<- Bp s,h,Bp]
  refine⟨hn,fun i a=>?_⟩
  have:=congrArg (fun l=>l[i]?) h
  simpa[Sl.toList,a,hn ▸ a]using this
 ·rintro⟨h1,b⟩;unfold Sl.toList;rw[<- h1];exact AV3 fun i a=>b i (AX4.1 a)
theorem sEq (x y:Sound):((x.Plus==y.Plus)&&(x.Minus==y.Minus))=decide (x=y):=by cases x;cases y;rw[AV7];simp
theorem AH0 {N:Nat}{x y:Sl Sound}(l:x.n<N)(hs:x.n<10000000) :∃b,(if ((x.n:Int) != (y.n:Int)) then
 some false
 else
  V9 N (fun (a:Int->Option Bool) (x1:Int)=>
   if (decide (x1<(x.n:Int))) then
    if (((0:Int)<=x1/\x1<(x.n:Int))/\((0:Int)<=x1/\x1<(y.n:Int)))then
     if ((((x.g x1.toNat).Plus==(y.g x1.toNat).Plus)&&((x.g x1.toNat).Minus==(y.g x1.toNat).Minus)) != true) then
      some false
     else
      a (wrap .i64 (x1+1))
    else none
   else
    some true
   ) 0)=some b/\(b=true↔SE x y):=by
 by_cases hn:x.n=y.n
 case neg=>exact ifT (by simp;omega) ⟨false,rfl,by simp,fun h=>absurd h.1 hn⟩
 refine ifF (by simp[hn]) ?_;refine BP (fun i x1=>x1=(i:Int)/\∀j,j<i->x.g j=y.g j) x.n _ l ⟨rfl,fun j c=>absurd c (by omega)⟩ ?_;rintro f i x1 m ⟨rfl,h⟩ d;by_cases hl:i<x.n
 ·refine ifT (by simp;omega) (ifT (by omega) ?_);rw[AS2,sEq];by_cases e:x.g i=y.g i
  ·refine ifF (by simp[e]) (d hl _ ⟨B8 (by omega),fun j c=>?_⟩);by_cases e2:j=i
   ·subst e2;exact e
   ·exact h j (by omega)
  ·exact ifT (by simp[e]) ⟨false,rfl,by simp,fun h=>absurd (h.2 i hl) e⟩
 ·exact ifF (by simp;omega) ⟨true,rfl,fun _=>⟨hn,fun j c=>h j (by omega)⟩,fun _=>rfl⟩
abbrev okA (w:Sl Sound):Prop:=∀i,i<w.n->okS (w.g i)
end Go.AM
namespace Go.AM
open Go.Proofs
def dep:Nat->Pat->Prop
 |0,_=>False
 |d+1,p=>p.L.n<=40/\∀i,i<p.L.n->dep d (p.L.g i)
theorem Ax6:∀(d:Nat) (p:Pat),dep d p->∀e,d<=e->dep e p
 |0,_,h,_,_=>h.elim
 |d+1,p,h,0,he=>by omega
 |d+1,p,h,e+1,he=>⟨h.1,fun i a=>Ax6 d _ (h.2 i a) e (by omega)⟩
theorem TM {N:Nat}(o:1000<=N):∀(d:Nat),d<=40->∀(p:Pat) (M:Nat),N+d+2<=M->∃r:Nat,Be M p ((40-d:Nat):Int)=some (r:Int)/\40-d<r/\r<=41/\(r<=40->dep (d+1) p)
 |d,hd,p,0,hM=>by omega
 |d,hd,p,M+1,hM=>by
  have:∃x,Be (M+1) p ((40-d:Nat):Int)=some x/\∃r:Nat,x=(r:Int)/\40-d<r/\r<=41/\(r<=40->dep (d+1) p):=by
   show ∃x,BH (Be M) M p _=some x/\_;unfold BH;rw[B8 (by omega)];refine P3 (fun i x1 x2=>x2=(i:Int)/\∃k:Nat,x1=(k:Int)/\40-d+1+i<=k/\k<=41/\i<=p.L.n/\(k<=40->∀j,j<i->dep d (p.L.g j))) 41 _ (by omega) ⟨rfl,40-d+1,rfl,by omega,by omega,by omega,fun _ j b=>absurd b (by omega)⟩ ?_;rintro f i x1 x2 q ⟨rfl,k,rfl,h1,c,s,l⟩ hs;by_cases hc:i<p.L.n/\k<=40
   ·refine ifT (by simp only[AS7,decide_eq_true_eq];omega) (ifT (by omega) ?_);obtain⟨r,m,r1,r2,r3⟩:=TM o (40-k) (by omega) (p.L.g i) M (by omega);rw[show ((40-(40-k):Nat):Int)=(k:Int) by omega]at m;refine B1 (by rw[AS2];exact m) (hs (by omega) _ _ ⟨B8 (by omega),r,rfl,by omega,r2,by omega,fun a j b=>?_⟩);by_cases e:j=i
    ·subst e;exact Ax6 _ _ (r3 a) d (by omega)
    ·exact l hc.2 j (by omega)
   ·refine ifF (by simp only[AS7,decide_eq_true_eq];omega) ⟨_,rfl,k,rfl,by omega,c,fun hk=>⟨by omega,fun j b=>l hk j (by omega)⟩⟩
  obtain⟨x,h1,r,rfl,c⟩:=this;exact⟨r,h1,c⟩
theorem NJ:∀(d:Nat) (p:Pat),dep d p->∀M,100+d<=M->∃r,Ag M p=some r
 |0,p,h,M,_=>h.elim
 |d+1,p,h,0,hM=>by omega
 |d+1,p,h,M+1,hM=>by
  suffices ∃r,Ag (M+1) p=some r/\True by obtain⟨r,h,_⟩:=this;exact⟨r,h⟩
  show ∃x,X7 (Ag M) M p=some x/\_;unfold X7;have hn:=h.1;refine P3 (fun i x1 x2=>x2=(i:Int)) p.L.n _ (by omega) rfl ?_;rintro a i x1 x2 c rfl hs;by_cases hl:i<p.L.n
  ·obtain⟨r,b⟩:=NJ d (p.L.g i) (h.2 i hl) M (by omega);exact ifT (by simp;omega) (ifT (by omega) (B1 (by rw[AS2];exact b) (hs hl _ _ (B8 (by omega)))))
  ·exact ifF (by simp;omega) ⟨_,rfl,trivial⟩
theorem JE {N:Nat}(b:2000<=N)(p:Pat):∃r:Nat,Af N p=some (r:Int)/\(r<=40->dep 41 p):=by obtain⟨r,h1,_,_,a⟩:=TM (N:=1000) (by omega) 40 (by omega) p N (by omega);exact⟨r,by unfold Af;rw[show Be N p 0=some (r:Int) from h1];rfl,a⟩
theorem Ar9 {N:Nat}(f:2000<=N)(laws:Sl Law):∃r,Di N laws=some r:=by
 suffices ∃r,Di N laws=some r/\True by obtain⟨r,h,_⟩:=this;exact⟨r,h⟩
 unfold Di;refine P3 (fun i x1 x2=>x2=(i:Int)) 301 _ (by omega) rfl ?_;rintro d i x1 x2 s rfl hs;by_cases hc:i<laws.n/\i<=300
 ·refine ifT (by simp only[AS7,decide_eq_true_eq];omega) (ifT (by omega) ?_);refine P3 (fun j x7 x8=>x8=(j:Int)) 2 _ (by omega) rfl ?_;rintro b j x7 x8 t rfl a;by_cases hl:j<2
  ·refine ifT (by show decide ((j:Int)<((2:Nat):Int))=true;simp;omega) (ifT (by show (0:Int)<=(j:Int)/\(j:Int)<((2:Nat):Int);omega) ?_);obtain⟨r,l,m⟩:=JE f ((Sl.of [(laws.g (i:Int).toNat).Left,(laws.g (i:Int).toNat).Right]:Sl Pat).g (j:Int).toNat);refine B1 l ?_;by_cases c:r<=40
   ·obtain⟨q,o⟩:=NJ 41 _ (m c) N (by omega);exact ifT (by simp;omega) (B1 o (a hl _ _ (B8 (by omega))))
   ·exact ifF (by simp;omega) (a hl _ _ (B8 (by omega)))
  ·exact ifF (by show ¬decide ((j:Int)<((2:Nat):Int))=true;simp;omega) (hs (by omega) _ _ (B8 (by omega)))
 ·exact ifF (by simp only[AS7,decide_eq_true_eq];omega) ⟨_,rfl,trivial⟩
end Go.AM
namespace Go.AM
open IntKind (wrap)
open Go.Proofs
def LA (s:Str):Bool:=(decide (1<=s.length)&&decide (s.length<=24))&&s.all fun c=>Rn ((c.toNat:Nat):Int)
theorem TN {N:Nat}{s:Str}(m:s.length<N)(hs:s.length<1000000000){let_:Int->Option Bool}(hl:∀y,let_ y=some (Rn y)){fin:Bool}(n:fin=(decide (1<=s.length)&&decide (s.length<=24))) :V9 N (fun (a:Int->Option Bool) (x1:Int)=>
  if (decide (x1<(s.length:Int))) then
   if ((0:Int)<=x1/\x1<(s.length:Int))then
    (let_ (Ap s x1)).bind fun y3=>
    if (!y3) then
     some false
    else
     a (wrap .i64 (x1+1))
   else none
  else
   some fin
 ) 0=some (LA s):=by
 suffices h:∃b,V9 N (fun (a:Int->Option Bool) (x1:Int)=>
  if (decide (x1<(s.length:Int))) then
   if ((0:Int)<=x1/\x1<(s.length:Int))then
    (let_ (Ap s x1)).bind fun y3=>
    if (!y3) then
     some false
    else
     a (wrap .i64 (x1+1))
   else none
  else
   some fin
  ) 0=some b/\b=LA s by obtain⟨b,h,rfl⟩:=h;exact h
 refine BP (fun i x1=>x1=(i:Int)/\∀j (h:j<s.length),j<i->Rn ((s[j].toNat:Nat):Int)=true) s.length _ m ⟨rfl,fun j _ f=>absurd f (by omega)⟩ ?_;rintro l i x1 q ⟨rfl,h⟩ g;by_cases d:i<s.length
 ·have eb:Ap s (i:Int)=((s[i].toNat:Nat):Int):=by simp[Ap,d]
  refine ifT (by simp;omega) (ifT (by omega) (B1 (hl _) ?_));rw[eb];cases hb:Rn ((s[i].toNat:Nat):Int)
  ·refine ifT rfl ⟨false,rfl,?_⟩;symm;unfold LA;rw[Bf8]
   right
   rw[List.all_eq_false];exact⟨s[i],Bi4 d,by rw[hb];simp⟩
  ·refine ifF (by simp) (g d _ ⟨B8 (by omega),fun j f o=>?_⟩);by_cases e:j=i
   ·subst e;exact hb
   ·exact h j f (by omega)
 ·refine ifF (by simp;omega) ⟨_,rfl,?_⟩;unfold LA;rw[n]
  have:(s.all fun c=>Rn ((c.toNat:Nat):Int))=true:=AU1.2 fun c hc=>by obtain⟨j,f,rfl⟩:=Bg5 hc;exact h j f (by omega)
  rw[this,Bg4]
theorem Ag4 {N:Nat}{s:Str}(a:s.length<N)(hs:s.length<1000000000):CG N s=some (LA s):=by unfold CG;exact TN a hs (fun y=>rfl) (by rw[AV7];simp;omega)
theorem As0 {N:Nat}{s:Str}(a:s.length<N)(hs:s.length<1000000000):Dk N s=some (LA s):=by unfold Dk;exact TN a hs (fun y=>rfl) (by rw[AV7];simp;omega)
def As1 (t:Sl H9)(v:Nat):Prop:=(v=0->(t.g 0).Parent = -1)/\(0<v->0<=(t.g v).Parent/\(t.g v).Parent<v)/\LA (t.g v).Name=true/\∀u,u<v->(t.g u).Name≠(t.g v).Name
def Aq (t:Sl H9):Prop:=1<=t.n/\t.n<=63/\∀v,v<t.n->As1 t v
def YV (t:Sl H9)(e:Int):Prop:=(e=0/\Aq t) \/ (e=16/\¬Aq t)
theorem YW {t:Sl H9}{e e' : Int}(h:YV t e)(h' : YV t e'):e=e':=by
 rcases h with⟨rfl,h⟩ | ⟨rfl,h⟩<;>rcases h' with⟨rfl,h'⟩ | ⟨rfl,h'⟩
 ·rfl
 ·exact absurd h h'
 ·exact absurd h' h
 ·rfl
def NK (t:Sl H9):Prop:=∀v,v<t.n->(t.g v).Name.length<1100000
theorem Ag5 {N:Nat}(y:3000000<=N){t:Sl H9}(ht:NK t):∃e,Bg N t=some e/\YV t e:=by
 unfold Bg;by_cases z:t.n<1
 ·exact ifT (fun h=>absurd h (by simp;omega)) (ifT (by simp;omega) ⟨16,rfl,.inr ⟨rfl,fun h=>by have:=h.1;omega⟩⟩)
 refine ifT (fun _ _=>by omega) ?_;by_cases h1:63<t.n
 ·exact ifT (by simp;omega) ⟨16,rfl,.inr ⟨rfl,fun h=>by have:=h.2.1;omega⟩⟩
 by_cases m:(t.g 0).Parent = -1
 case neg=>exact ifT (by simp[m]) ⟨16,rfl,.inr ⟨rfl,fun h=>m ((h.2.2 0 (by omega)).1 rfl)⟩⟩
 refine ifF (by simp[m];omega) ?_;refine BP (fun i x1=>x1=(i:Int)/\∀j,j<i->As1 t j) t.n _ (by omega) ⟨rfl,fun j x=>absurd x (by omega)⟩ ?_;rintro f i x1 hi ⟨rfl,h⟩ hs;by_cases a:i<t.n
 case neg=>exact ifF (by simp;omega) ⟨0,rfl,.inl ⟨rfl,by omega,by omega,fun v hv=>h v (by omega)⟩⟩
 refine ifT (by simp;omega) (ltX ?_);have b:=As0 (N:=N) (s:=(t.g i).Name) (by have:=ht i a;omega) (by have:=ht i a;omega);have rest:(0<i->0<=(t.g i).Parent/\(t.g i).Parent<i)->∃r,(if (!LA (t.g i).Name) then some 16 else
  V9 N (fun (d:Int->Option Int) (x7:Int)=>
   if (decide (x7<(i:Int))) then
    if (((0:Int)<=x7/\x7<(t.n:Int))/\((0:Int)<=(i:Int)/\(i:Int)<(t.n:Int)))then
     if (((t.g x7.toNat).Name==(t.g (i:Int).toNat).Name) != false) then
      some 16
     else
      d (wrap .i64 (x7+1))
    else none
   else
    f (wrap .i64 ((i:Int)+1))
   ) 0)=some r/\YV t r:=by
  intro hp;cases hb:LA (t.g i).Name
  ·exact ifT rfl ⟨16,rfl,.inr ⟨rfl,fun h=>by have:=(h.2.2 i a).2.2.1;rw[hb]at this;cases this⟩⟩
  refine ifF (by simp) ?_;refine BP (fun k x7=>x7=(k:Int)/\∀u,u<k->(t.g u).Name≠(t.g i).Name) i _ (by omega) ⟨rfl,fun u o=>absurd o (by omega)⟩ ?_;rintro q k x7 hk ⟨rfl,h'⟩ w;by_cases l:k<i
  ·refine ifT (by simp;omega) (ifT (by omega) ?_);rw[AS2,AS2];by_cases e:(t.g k).Name=(t.g i).Name
   ·exact ifT (by simp[e]) ⟨16,rfl,.inr ⟨rfl,fun h=>(h.2.2 i a).2.2.2 k l e⟩⟩
   ·refine ifF (by simp[e]) (w l _ ⟨B8 (by omega),fun u o=>?_⟩);by_cases e2:u=k
    ·subst e2;exact e
    ·exact h' u (by omega)
  ·refine ifF (by simp;omega) (hs a _ ⟨B8 (by omega),fun j x=>?_⟩);by_cases e:j=i
   ·subst e;exact⟨fun e=>by subst e;exact m,hp,hb,fun u o=>h' u (by omega)⟩
   ·exact h j (by omega)
 by_cases c:0<i
 ·refine ifT (by simp;omega) (ifT (by omega) ?_);rw[AS2];by_cases g1:(t.g i).Parent<0
  ·exact ifT (by simpa using g1) (ifT rfl ⟨16,rfl,.inr ⟨rfl,fun h=>by have:=((h.2.2 i a).2.1 c).1;omega⟩⟩)
  refine ifF (by simpa using g1) (ifT (by omega) ?_);by_cases g2:(i:Int)<=(t.g i).Parent
  ·exact ifT (by simpa using g2) (ifT rfl ⟨16,rfl,.inr ⟨rfl,fun h=>by have:=((h.2.2 i a).2.1 c).2;omega⟩⟩)
  exact ifF (by simpa using g2) (ifT (by omega) (B1 b (rest fun _=>⟨by omega,by omega⟩)))
 ·exact ifF (by simp;omega) (ifT (by omega) (B1 (by rw[AS2];exact b) (rest fun h=>absurd h c)))
theorem Fa {ν : Type}{k s:Str}{v : ν}:∀es:List (Str × ν),BS eqS s (NS eqS k v es)=if s=k then some v else BS eqS s es
 |[]=>by simp only[NS,BS];by_cases h:s=k<;>simp[eqS,h]
 |(a,x)::es=>by
  simp only[NS];by_cases h:k=a
  ·subst h;rw[if_pos (by simp[eqS])];simp only[BS];by_cases b:s=k<;>simp[eqS,b]
  ·rw[if_neg (by simp[eqS,h])];simp only[BS];rw[Fa es];by_cases b:s=k
   ·subst b;simp[eqS,h]
   ·simp[b]
theorem Xo {ν : Type}{k:Str}{v : ν}:∀{es:List (Str × ν)},BS eqS k es=none->(NS eqS k v es).length=es.length+1
 |[],_=>rfl
 |(a,x)::es,h=>by
  simp only[BS]at h;simp only[NS];by_cases e:eqS k a=true
  ·rw[if_pos e]at h;cases h
  ·rw[if_neg e]at h;rw[if_neg e,AV4,Xo h];rfl
theorem Xp {ν : Type}{k:Str}{v x : ν}:∀{es:List (Str × ν)},BS eqS k es=some x->(NS eqS k v es).length=es.length
 |[],h=>by cases h
 |(a,y)::es,h=>by
  simp only[BS]at h;simp only[NS];by_cases e:eqS k a=true
  ·rw[if_pos e];rfl
  ·rw[if_neg e]at h;rw[if_neg e,AV4,Xp h];rfl
theorem Ag6 {N:Nat}(m:3000000<=N){t:Sl H9}(ht:NK t):∃e,Y6 N t=some e/\YV t e:=by
 unfold Y6;by_cases o:t.n=0 \/ 63<t.n
 ·exact ifT (by simp;omega) ⟨16,rfl,.inr ⟨rfl,fun h=>by have g1:=h.1;have g2:=h.2.1;omega⟩⟩
 refine ifF (by simp;omega) ?_;refine P3 (fun i (x2:List (Str×Bool)) x3=>x3=(i:Int)/\(∀j,j<i->As1 t j)/\∀s,(BS eqS s x2=some true/\∃u,u<i/\(t.g u).Name=s) \/ (BS eqS s x2=none/\∀u,u<i->(t.g u).Name≠s)) t.n _ (by omega) ⟨rfl,fun j f=>absurd f (by omega),fun s=>.inr ⟨rfl,fun u c=>absurd c (by omega)⟩⟩ ?_;rintro l i x2 x3 q ⟨rfl,h,hm⟩ hs;by_cases a:i<t.n
 case neg=>exact ifF (by simp;omega) ⟨0,rfl,.inl ⟨rfl,by omega,by omega,fun v r=>h v (by omega)⟩⟩
 refine ifT (by simp;omega) (ifT (by omega) (ltX ?_));rw[AS2];have b:=Ag4 (N:=N) (s:=(t.g i).Name) (by have:=ht i a;omega) (by have:=ht i a;omega);have e1:(if 0<wrap .i64 ((i:Int)-1)then (0:Int)else wrap .i64 ((i:Int)-1))=if i=0 then -1 else 0:=by rw[E1 (by omega) (by omega)];split<;>split<;>omega
 rw[e1];by_cases g1:(i:Int)<=(t.g i).Parent
 ·refine ifT (by simpa using g1) (ifT rfl ⟨16,rfl,.inr ⟨rfl,fun h=>?_⟩⟩);have hk:=h.2.2 i a;by_cases d:i=0
  ·subst d;have:=hk.1 rfl;omega
  ·have:=(hk.2.1 (by omega)).2;omega
 refine ifF (by simpa using g1) ?_;by_cases g2:(t.g i).Parent<if i=0 then -1 else 0
 ·refine ifT (by simpa using g2) (ifT rfl ⟨16,rfl,.inr ⟨rfl,fun h=>?_⟩⟩);have hk:=h.2.2 i a;by_cases d:i=0
  ·subst d;have:=hk.1 rfl;simp at g2;omega
  ·have:=(hk.2.1 (by omega)).1;simp[d]at g2;omega
 refine ifF (by simpa using g2) (B1 b ?_);cases hb:LA (t.g i).Name
 ·exact ifT rfl (ifT rfl ⟨16,rfl,.inr ⟨rfl,fun h=>by have:=(h.2.2 i a).2.2.1;rw[hb]at this;cases this⟩⟩)
 refine ifF (by simp) ?_;rcases hm (t.g i).Name with⟨e,u,c,hn⟩ | ⟨e,hn⟩
 ·rw[e];exact⟨16,rfl,.inr ⟨rfl,fun h=>(h.2.2 i a).2.2.2 u c hn⟩⟩
 rw[e,Sy];refine ifF (show ¬false=true by simp) (hs a _ _ ⟨B8 (by omega),fun j f=>?_,fun s=>?_⟩)
 ·by_cases e:j=i
  ·subst e;refine⟨fun e=>?_,fun hp=>?_,hb,hn⟩
   ·subst e;simp at g2;omega
   ·have:¬j=0:=by omega
    simp[this]at g2;omega
  ·exact h j (by omega)
 ·rw[Fa];by_cases e:s=(t.g i).Name
  ·exact .inl ⟨by rw[if_pos e],i,by omega,e.symm⟩
  ·rw[if_neg e];rcases hm s with⟨g,u,c,hn⟩ | ⟨g,hn⟩
   ·exact .inl ⟨g,u,by omega,hn⟩
   ·refine .inr ⟨g,fun u c=>?_⟩;by_cases e2:u=i
    ·subst e2;exact fun h=>e h.symm
    ·exact hn u (by omega)
theorem Rq {N:Nat}(a:3000000<=N){t:Sl H9}(ht:NK t):∃e,Y6 N t=some e/\Bg N t=some e/\YV t e:=by obtain⟨e,h1,b⟩:=Ag6 a ht;obtain⟨e',c,d⟩:=Ag5 a ht;obtain rfl:=YW b d;exact⟨_,h1,c,b⟩
end Go.AM
namespace Go.AM
open IntKind (wrap)
open Go.Proofs
structure Z4 (h:A7):Prop where
 laws:DQ h.Laws
 tree:NK h.Tree
 on:h.On.n<1100000
 len:∀v,v<h.On.n->(h.On.g v).n<1100000
def N6 (h:A7)(v:Nat):Sl Int:=
 if hp:0<=(h.Tree.g v).Parent/\(h.Tree.g v).Parent<v then (N6 h (h.Tree.g v).Parent.toNat).app (h.On.g v)else (Sl.nil:Sl Int).app (h.On.g v)
termination_by v
decreasing_by omega
theorem Bq {h:A7}{v:Nat}(a:(h.Tree.g v).Parent<0):N6 h v=(Sl.nil:Sl Int).app (h.On.g v):=by rw[N6,dif_neg (by omega)]
theorem Ei {h:A7}{v p:Nat}(a:(h.Tree.g v).Parent=(p:Int))(hp:p<v):N6 h v=(N6 h p).app (h.On.g v):=by rw[N6,dif_pos (by omega),a,AS2]
theorem T0 {t:Sl H9}(ht:Aq t){v:Nat}(a:v<t.n):(v=0/\(t.g v).Parent = -1) \/ ∃p:Nat,p<v/\(t.g v).Parent=(p:Int):=by
 have hk:=ht.2.2 v a;by_cases b:v=0
 ·subst b;exact .inl ⟨rfl,hk.1 rfl⟩
 ·obtain⟨g1,g2⟩:=hk.2.1 (by omega);exact .inr ⟨(t.g v).Parent.toNat,by omega,by omega⟩
theorem Wc {h:A7}(a:Z4 h)(ht:Aq h.Tree)(hn:h.On.n=h.Tree.n):∀(m v:Nat),v<=m->v<h.Tree.n->(N6 h v).n<=(v+1)*1100000
 |m,v,hm,hv=>by
  have hl:=a.len v (by omega);rcases T0 ht hv with⟨_,e⟩ | ⟨p,hp,e⟩
  ·rw[Bq (by omega)];show 0+(h.On.g v).n<=_;omega
  ·rw[Ei e hp]
   match m with
   |0=>omega
   |m+1=>
    have:=Wc a ht hn m p (by omega) (by omega)
    show (N6 h p).n+(h.On.g v).n<=_;have b:(p+1)*1100000+1100000<=(v+1)*1100000:=by omega
    omega
theorem NL {h:A7}(a:Z4 h)(ht:Aq h.Tree)(hn:h.On.n=h.Tree.n):∀(M v:Nat),v+2<=M->v<h.Tree.n->Bo M h (v:Int)=some (N6 h v)
 |0,v,hM,_=>by omega
 |M+1,v,hM,hv=>by
  have b:=ht.2.1;show Y4 (Bo M) M h (v:Int)=_;unfold Y4;rw[if_neg (by simp),if_pos (by omega),AS2];have hl:=a.len v (by omega);rcases T0 ht hv with⟨c,e⟩ | ⟨p,hp,e⟩
  ·rw[e,Bq (by omega)]
   have:Bo M h (-1)=some (Sl.nil:Sl Int):=by obtain⟨K,rfl⟩:∃K,M=K+1:=⟨M-1,by omega⟩;show Y4 (Bo K) K h (-1)=_;unfold Y4;rw[if_pos (by decide)]
   rw[this,AS4,if_pos ⟨by omega,by show (0+(h.On.g v).n)*8<=_/\0+(h.On.g v).n<=_;omega⟩]
  ·have hb:=Wc a ht hn p p (AS8 _) (by omega);rw[e,NL a ht hn M p (by omega) (by omega),AS4,Ei e hp,if_pos ⟨by omega,by omega⟩]
def Wd (h:A7):Prop:=∃v,v<h.On.n/\64<(N6 h v).n
def AH1 (h:A7)(v:Nat):Prop:=∃k,k<(h.On.g v).n/\((h.On.g v).g k<0 \/ (h.Laws.n:Int)<=(h.On.g v).g k)
def Ag7 (h:A7)(e:Int):Prop:=(Wd h/\e=2) \/ (¬Wd h/\(∃v,v<h.On.n/\AH1 h v)/\e=3) \/ (¬Wd h/\(∀v,v<h.On.n->¬AH1 h v)/\e=0)
theorem Ag8 {N:Nat}(hN:3000000<=N){h:A7}(hi:Z4 h)(ht:Aq h.Tree)(hn:h.On.n=h.Tree.n):∃e,Y7 N h=some e/\Ag7 h e:=by
 have h63:=ht.2.1;unfold Y7;refine ifT (by omega) ?_;refine Rk (fun i (x4:Sl Int) (x5:Bool) x6=>x6=(i:Int)/\x4.n=h.On.n/\(∀v,v<i->x4.g v=((N6 h v).n:Int)/\(N6 h v).n<=64)/\(x5=true ↔ ∃v,v<i/\AH1 h v)) h.On.n _ (by omega) ⟨rfl,by show ((h.On.n:Nat):Int).toNat=_;omega,fun v b=>absurd b (by omega),⟨fun g=>(by cases g),fun⟨v,b,_⟩=>absurd b (by omega)⟩⟩ ?_;rintro m i x4 x5 x6 hle ⟨rfl,hx,hp,hb⟩ hs;by_cases o:i<h.On.n
 case neg=>
  refine ifF (by simp;omega) ?_;have hl:¬Wd h:=fun⟨v,b,hl⟩=>by have:=(hp v (by omega)).2;omega
  cases x5
  ·exact ifF (by simp) ⟨0,rfl,.inr (.inr ⟨hl,fun v b g=>(by have:=hb.2 ⟨v,by omega,g⟩;cases this),rfl⟩)⟩
  ·obtain⟨v,b,g⟩:=hb.1 rfl;exact ifT rfl ⟨3,rfl,.inr (.inl ⟨hl,⟨v,by omega,g⟩,rfl⟩)⟩
 refine ifT (by simp;omega) (ifT (by rw[AS2];omega) (ifT (by omega) (ltX ?_)));rw[AS2];have hl:=hi.len i (by omega);have hlb:=Wc hi ht hn i i (AS8 _) (by omega);have rest:∀z:Sl Int,z.n=h.On.n->(∀v,v<i->z.g v=x4.g v)->z.g i=((N6 h i).n:Int)->∃r,(if (((0:Int)<=(i:Int)/\(i:Int)<(z.n:Int))/\i<z.n)then
  if (decide (64<(z.g i))) then
   some 2
  else
   P4 N (fun (d:Bool->Int->Option Int) (c:Bool) (a:Int)=>
    if (decide (a<((h.On.g i).n:Int))) then
     if ((0:Int)<=a/\a<((h.On.g i).n:Int))then
      d ((c||(decide (((h.On.g i).g a.toNat)<0)))||(decide ((h.Laws.n:Int)<=((h.On.g i).g a.toNat)))) (wrap .i64 (a+1))
     else none
    else
     m z c (wrap .i64 ((i:Int)+1))
    ) x5 0
  else none)=some r/\Ag7 h r:=by
  intro z hz u q;refine ifT (by omega) ?_;rw[q];by_cases w:64<(N6 h i).n
  ·exact ifT (by simp;omega) ⟨2,rfl,.inl ⟨⟨i,o,w⟩,rfl⟩⟩
  refine ifF (by simp;omega) ?_;refine P3 (fun k (c:Bool) a=>a=(k:Int)/\(c=true↔(∃v,v<i/\AH1 h v) \/ ∃j,j<k/\j<(h.On.g i).n/\((h.On.g i).g j<0 \/ (h.Laws.n:Int)<=(h.On.g i).g j))) (h.On.g i).n _ (by omega) ⟨rfl,hb.trans ⟨fun g=>.inl g,fun g=>g.resolve_right fun⟨j,f,_⟩=>absurd f (by omega)⟩⟩ ?_;rintro x k c a hk ⟨rfl,s⟩ y;by_cases l:k<(h.On.g i).n
  ·refine ifT (by simp;omega) (ifT (by omega) (y l _ _ ⟨B8 (by omega),?_⟩));rw[AS2,AU0,AU0,s,decide_eq_true_eq,decide_eq_true_eq];constructor
   ·rintro (((g|⟨j,f,g⟩)|g)|g)
    ·exact .inl g
    ·exact .inr ⟨j,by omega,g⟩
    ·exact .inr ⟨k,by omega,l,.inl g⟩
    ·exact .inr ⟨k,by omega,l,.inr g⟩
   ·rintro (g|⟨j,f,a0,g⟩)
    ·exact .inl (.inl (.inl g))
    ·by_cases e:j=k
     ·subst e;rcases g with g|g
      ·exact .inl (.inr g)
      ·exact .inr g
     ·exact .inl (.inl (.inr ⟨j,by omega,a0,g⟩))
  ·refine ifF (by simp;omega) (hs o _ _ _ ⟨B8 (by omega),hz,fun v b=>?_,s.trans ?_⟩)
   ·by_cases e:v=i
    ·subst e;exact⟨q,by omega⟩
    ·rw[u v (by omega)];exact hp v (by omega)
   ·constructor
    ·rintro (⟨v,b,g⟩ | ⟨j,_,f,g⟩)
     ·exact⟨v,by omega,g⟩
     ·exact⟨i,by omega,j,f,g⟩
    ·rintro⟨v,b,g⟩;by_cases e:v=i
     ·subst e;obtain⟨j,f,g⟩:=g;exact .inr ⟨j,by omega,f,g⟩
     ·exact .inl ⟨v,by omega,g⟩
 rcases T0 ht (v:=i) (by omega)with⟨_,e⟩ | ⟨p,t,e⟩
 ·rw[e];refine ifF (by decide) (rest _ hx (fun v b=>?_) ?_)
  ·show (if v=i then _ else x4.g v)=_;rw[if_neg (by omega)]
  ·show (if i=i then ((h.On.g i).n:Int)else _)=_;rw[if_pos rfl,Bq (by omega)];show _=((0+(h.On.g i).n:Nat):Int);omega
 ·have a1:=hp p t;rw[e];refine ifT (by simp) (ifT ?_ ?_)
  ·show ((((((0:Int)<=(i:Int)/\(i:Int)<(x4.n:Int))/\i<x4.n)/\(0:Int)<=(p:Int)/\(p:Int)<(x4.n:Int))/\(p:Int).toNat<x4.n)/\(0:Int)<=(i:Int)/\(i:Int)<(x4.n:Int))/\i<x4.n;omega
  ·rw[AS2];refine rest _ hx (fun v b=>?_) ?_
   ·show (if v=i then _ else if v=i then _ else x4.g v)=_;rw[if_neg (by omega),if_neg (by omega)]
   ·show (if i=i then wrap .i64 ((if i=i then ((h.On.g i).n:Int)else _)+(if p=i then _ else x4.g p))else _)=_;rw[if_pos rfl,if_pos rfl,if_neg (by omega),a1.1,Ei e t,E1 (by omega) (by omega)];show _=(((N6 h p).n+(h.On.g i).n:Nat):Int);omega
end Go.AM
namespace Go.AM
open Go.Proofs
def AJ0 (h:A7)(i:Nat):Prop:=∃u v,u<v/\v<i/\(h.Laws.g u).Name=(h.Laws.g v).Name
open Classical in
noncomputable def hres (N:Nat) (h:A7):Int:=
 if ¬Aq h.Tree then 16 else if 64<h.Laws.n then 12 else if ∃i,i<h.Laws.n/\¬chkAll N (h.Laws.g i)then 17 else if AJ0 h h.Laws.n then 6 else if h.On.n≠h.Tree.n then 2
 else if Wd h then 2 else if ∃v,v<h.On.n/\AH1 h v then 3 else 0
structure BX (N:Nat) (h:A7):Prop where
 tree:Aq h.Tree
 laws:Da N h.Laws
 dup:¬AJ0 h h.Laws.n
 on:h.On.n=h.Tree.n
 long:¬Wd h
 bad:∀v,v<h.On.n->¬AH1 h v
theorem hres_zero {N:Nat}{h:A7}:hres N h=0↔BX N h:=by
 unfold hres;constructor
 ·intro g;split at g
  ·cases g
  split at g
  ·cases g
  split at g
  ·cases g
  split at g
  ·cases g
  split at g
  ·cases g
  split at g
  ·cases g
  split at g
  ·cases g
  rename_i h1 n c d f j l;exact⟨Bh8.1 h1,⟨by omega,fun i a=>AV1 fun hn=>c ⟨i,a,hn⟩⟩,d,Bh8.1 f,j,fun v b hb=>l ⟨v,b,hb⟩⟩
 ·intro g;have m:=g.laws.1;rw[if_neg (fun k=>k g.tree),if_neg (by omega),if_neg (fun⟨i,a,hn⟩=>hn (g.laws.2 i a)),if_neg g.dup,if_neg (fun k=>k g.on),if_neg g.long,if_neg (fun⟨v,b,hb⟩=>g.bad v b hb)]
theorem Fb {N:Nat}{h:A7}(h1:Aq h.Tree)(a:Da N h.Laws)(b:¬AJ0 h h.Laws.n)(c:h.On.n=h.Tree.n){e:Int}(d:Ag7 h e):e=hres N h:=by
 have f:=a.1;unfold hres;rw[if_neg (fun k=>k h1),if_neg (by omega),if_neg (fun⟨i,j,hn⟩=>hn (a.2 i j)),if_neg b,if_neg (fun k=>k c)];rcases d with⟨g,rfl⟩ | ⟨g,g2,rfl⟩ | ⟨g,g2,rfl⟩
 ·rw[if_pos g]
 ·rw[if_neg g,if_pos g2]
 ·rw[if_neg g,if_neg (fun⟨v,l,hb⟩=>g2 v l hb)]
theorem Co {N:Nat}(z:3000000<=N){h:A7}(o:Z4 h):J0 N h=some (hres N h):=by
 suffices g:∃r,J0 N h=some r/\r=hres N h by obtain⟨r,g,rfl⟩:=g;exact g
 obtain⟨e,e1,_,he⟩:=Rq z o.tree;unfold J0;refine B1 e1 ?_;rcases he with⟨rfl,ht⟩ | ⟨rfl,ht⟩
 case inr=>exact ifT (by decide) ⟨16,rfl,by unfold hres;rw[if_pos ht]⟩
 refine ifF (by decide) ?_;by_cases c:64<h.Laws.n
 ·exact ifT (by simp;omega) ⟨12,rfl,by unfold hres;rw[if_neg (fun k=>k ht),if_pos c]⟩
 refine ifF (by simp;omega) ?_;refine P3 (fun i (x1:List (Str×Int)) x2=>x2=(i:Int)/\(∀j,j<i->chkAll N (h.Laws.g j))/\(∀s,(BS eqS s x1=none/\∀u,u<i->(h.Laws.g u).Name≠s) \/ (∃v,BS eqS s x1=some v)/\∃u,u<i/\(h.Laws.g u).Name=s)/\((AJ0 h i/\x1.length<i) \/ (¬AJ0 h i/\x1.length=i))) h.Laws.n _ (by omega)
  ⟨rfl,fun j hj=>absurd hj (by omega),fun s=>.inl ⟨rfl,fun u q=>absurd q (by omega)⟩,.inr ⟨fun⟨u,v,_,hv,_⟩=>absurd hv (by omega),rfl⟩⟩ ?_
 rintro self i x1 x2 hle ⟨rfl,hc,hm,hl⟩ hs;by_cases d:i<h.Laws.n
 ·obtain⟨y,y1,_,hy⟩:=EY z (o.laws i d);refine ifT (by simp;omega) (ifT (by omega) (B1 (by rw[AS2];exact y1) ?_));rcases hy with⟨rfl,hy⟩ | ⟨rfl,hy⟩
  case inr=>exact ifT (by decide) ⟨17,rfl,by unfold hres;rw[if_neg (fun k=>k ht),if_neg c,if_pos ⟨i,d,hy⟩]⟩
  refine ifF (by decide) ?_;rw[AS2];have t : ∀j,j<i+1->chkAll N (h.Laws.g j):=fun j hj=>by
   by_cases e:j=i
   ·subst e;exact hy
   ·exact hc j (by omega)
  have look:∀(v:Int) (s:Str),(BS eqS s (NS eqS (h.Laws.g i).Name v x1)=none/\∀u,u<i+1->(h.Laws.g u).Name≠s) \/ (∃w,BS eqS s (NS eqS (h.Laws.g i).Name v x1)=some w)/\∃u,u<i+1/\(h.Laws.g u).Name=s:=by
   intro v s;rw[Fa];by_cases e:s=(h.Laws.g i).Name
   ·exact .inr ⟨⟨v,by rw[if_pos e]⟩,i,by omega,e.symm⟩
   ·rw[if_neg e];rcases hm s with⟨g,g2⟩ | ⟨g,u,q,g2⟩
    ·refine .inl ⟨g,fun u q=>?_⟩;by_cases e2:u=i
     ·subst e2;exact fun k=>e k.symm
     ·exact g2 u (by omega)
    ·exact .inr ⟨g,u,by omega,g2⟩
  rcases hm (h.Laws.g i).Name with⟨g,g2⟩ | ⟨⟨v,g⟩,u,q,g2⟩
  ·rw[g,Sy];refine hs d _ _ ⟨B8 (by omega),t,look _,?_⟩;rw[Xo g];rcases hl with⟨⟨a,b,f,hb,hn⟩,hl⟩ | ⟨m,hl⟩
   ·exact .inl ⟨⟨a,b,f,by omega,hn⟩,by omega⟩
   ·refine .inr ⟨fun⟨a,b,f,hb,hn⟩=>?_,by omega⟩;by_cases e:b=i
    ·subst e;exact g2 a f hn
    ·exact m ⟨a,b,f,by omega,hn⟩
  ·rw[g,Aa8];refine hs d _ _ ⟨B8 (by omega),t,look _,?_⟩;rw[Xp g];refine .inl ⟨⟨u,i,q,by omega,g2⟩,?_⟩;rcases hl with⟨_,hl⟩ | ⟨_,hl⟩<;>omega
 ·obtain rfl:i=h.Laws.n:=by omega
  have hok:Da N h.Laws:=⟨by omega,hc⟩;have x:¬ ∃i,i<h.Laws.n/\¬chkAll N (h.Laws.g i):=fun⟨i,o,hn⟩=>hn (hc i o);refine ifF (by simp) ?_;rw[UJ];rcases hl with⟨m,hl⟩ | ⟨m,hl⟩
  ·exact ifT (by simp;omega) ⟨6,rfl,by unfold hres;rw[if_neg (fun k=>k ht),if_neg c,if_neg x,if_pos m]⟩
  refine ifF (by simp;omega) ?_;by_cases l:h.On.n=h.Tree.n
  case neg=>exact ifT (by simp;omega) ⟨2,rfl,by unfold hres;rw[if_neg (fun k=>k ht),if_neg c,if_neg x,if_neg m,if_pos l]⟩
  refine ifF (by simp[l]) ?_;obtain⟨e,e1,he⟩:=Ag8 z o ht l;exact B1 e1 ⟨e,rfl,Fb ht hok m l he⟩
theorem JF {N:Nat}(hN:3000000<=N){h:A7}(q:Z4 h):Y5 N h=some (hres N h):=by
 suffices g:∃r,Y5 N h=some r/\r=hres N h by obtain⟨r,g,rfl⟩:=g;exact g
 obtain⟨e,_,e1,he⟩:=Rq hN q.tree;unfold Y5;refine B1 e1 ?_;rcases he with⟨rfl,ht⟩ | ⟨rfl,ht⟩
 case inr=>exact ifT (by decide) ⟨16,rfl,by unfold hres;rw[if_pos ht]⟩
 refine ifF (by decide) ?_;by_cases f:64<h.Laws.n
 ·exact ifT (by simp;omega) ⟨12,rfl,by unfold hres;rw[if_neg (fun k=>k ht),if_pos f]⟩
 refine ifF (by simp;omega) ?_;refine BP (fun i x1=>x1=(i:Int)/\∀j,j<i->chkAll N (h.Laws.g j)) h.Laws.n _ (by omega) ⟨rfl,fun j s=>absurd s (by omega)⟩ ?_;rintro self i x1 hle ⟨rfl,hc⟩ hs;by_cases a:i<h.Laws.n
 ·obtain⟨y,_,y1,hy⟩:=EY hN (q.laws i a);refine ifT (by simp;omega) (ifT (by omega) (B1 (by rw[AS2];exact y1) ?_));rcases hy with⟨rfl,hy⟩ | ⟨rfl,hy⟩
  case inr=>exact ifT (by decide) ⟨17,rfl,by unfold hres;rw[if_neg (fun k=>k ht),if_neg f,if_pos ⟨i,a,hy⟩]⟩
  refine ifF (by decide) (hs a _ ⟨B8 (by omega),fun j s=>?_⟩);by_cases e:j=i
  ·subst e;exact hy
  ·exact hc j (by omega)
 obtain rfl:i=h.Laws.n:=by omega
 have l:Da N h.Laws:=⟨by omega,hc⟩;have w:¬ ∃i,i<h.Laws.n/\¬chkAll N (h.Laws.g i):=fun⟨i,q,hn⟩=>hn (hc i q);refine ifF (by simp) ?_;refine BP (fun i x1=>x1=(i:Int)/\¬AJ0 h i) h.Laws.n _ (by omega) ⟨rfl,fun⟨u,v,_,d,_⟩=>absurd d (by omega)⟩ ?_;rintro a3 i x1 hle2 ⟨rfl,t⟩ a4;by_cases a:i<h.Laws.n
 ·refine ifT (by simp;omega) ?_;refine BP (fun k x5=>x5=(k:Int)/\∀u,u<k->(h.Laws.g u).Name≠(h.Laws.g i).Name) i _ (by omega) ⟨rfl,fun u hu=>absurd hu (by omega)⟩ ?_;rintro a5 k x5 hk ⟨rfl,x⟩ a6;by_cases z:k<i
  ·refine ifT (by simp;omega) (ifT (by omega) ?_);rw[AS2,AS2];by_cases e:(h.Laws.g k).Name=(h.Laws.g i).Name
   ·exact ifT (by simp[e]) ⟨6,rfl,by unfold hres;rw[if_neg (fun k=>k ht),if_neg f,if_neg w,if_pos ⟨k,i,z,a,e⟩]⟩
   ·refine ifF (by simp;exact fun g=>e g.symm) (a6 z _ ⟨B8 (by omega),fun u hu=>?_⟩);by_cases e2:u=k
    ·subst e2;exact e
    ·exact x u (by omega)
  ·refine ifF (by simp;omega) (a4 a _ ⟨B8 (by omega),fun⟨u,v,a7,d,hn⟩=>?_⟩);by_cases e:v=i
   ·subst e;exact x u (by omega) hn
   ·exact t ⟨u,v,a7,by omega,hn⟩
 obtain rfl:i=h.Laws.n:=by omega
 refine ifF (by simp) ?_;by_cases b:h.On.n=h.Tree.n
 case neg=>exact ifT (by simp;omega) ⟨2,rfl,by unfold hres;rw[if_neg (fun k=>k ht),if_neg f,if_neg w,if_neg t,if_pos b]⟩
 refine ifF (by simp[b]) ?_;have h63:=ht.2.1;refine BP (fun i x1=>x1=(i:Int)/\∀v,v<i->¬ 64<(N6 h v).n) h.On.n _ (by omega) ⟨rfl,fun v d=>absurd d (by omega)⟩ ?_;rintro a8 i x1 hle3 ⟨rfl,a0⟩ a9;by_cases a:i<h.On.n
 ·refine ifT (by simp;omega) (B1 (NL q ht b N i (by omega) (by omega)) ?_);by_cases hg:64<(N6 h i).n
  ·exact ifT (by simp;omega) ⟨2,rfl,Fb ht l t b (.inl ⟨⟨i,a,hg⟩,rfl⟩)⟩
  ·refine ifF (by simp;omega) (a9 a _ ⟨B8 (by omega),fun v d=>?_⟩);by_cases e:v=i
   ·subst e;exact hg
   ·exact a0 v (by omega)
 refine ifF (by simp;omega) ?_;have m:¬Wd h:=fun⟨v,d,g⟩=>a0 v (by omega) g;refine BP (fun i x1=>x1=(i:Int)/\∀v,v<i->¬AH1 h v) h.On.n _ (by omega) ⟨rfl,fun v d=>absurd d (by omega)⟩ ?_;rintro b0 i x1 hle4 ⟨rfl,a1⟩ b1;by_cases c:i<h.On.n
 ·have hl:=q.len i c;refine ifT (by simp;omega) ?_;refine BP (fun k x1=>x1=(k:Int)/\∀j,j<k->¬((h.On.g i).g j<0 \/ (h.Laws.n:Int)<=(h.On.g i).g j)) (h.On.g i).n _ (by omega) ⟨rfl,fun j s=>absurd s (by omega)⟩ ?_;rintro b2 k x1 hk ⟨rfl,a2⟩ b3;refine ifT (by omega) ?_;rw[AS2,AS2];by_cases o:k<(h.On.g i).n
  ·refine ifT (by simp;omega) (ifT (by omega) ?_);by_cases g1:(h.On.g i).g k<0
   ·exact ifT (by simpa using g1) ⟨3,rfl,Fb ht l t b (.inr (.inl ⟨m,⟨i,c,k,o,.inl g1⟩,rfl⟩))⟩
   refine ifF (by simpa using g1) (ifT (by omega) ?_);by_cases g2:(h.Laws.n:Int)<=(h.On.g i).g k
   ·exact ifT (by simpa using g2) ⟨3,rfl,Fb ht l t b (.inr (.inl ⟨m,⟨i,c,k,o,.inr g2⟩,rfl⟩))⟩
   refine ifF (by simpa using g2) (b3 o _ ⟨B8 (by omega),fun j s=>?_⟩);by_cases e:j=k
   ·subst e;exact fun g=>g.elim g1 g2
   ·exact a2 j (by omega)
  ·refine ifF (by simp;omega) (b1 c _ ⟨B8 (by omega),fun v d=>?_⟩);by_cases e:v=i
   ·subst e;exact fun⟨j,s,g⟩=>a2 j (by omega) g
   ·exact a1 v (by omega)
 ·exact ifF (by simp;omega) ⟨0,rfl,Fb ht l t b (.inr (.inr ⟨m,fun v d=>a1 v (by omega),rfl⟩))⟩
end Go.AM
namespace Go.AM
open IntKind (wrap)
open Go.Proofs
def Uh (t:Sl H9)(v:Nat):List Nat:=
 if hp:0<=(t.g v).Parent/\(t.g v).Parent<v then Uh t (t.g v).Parent.toNat++[v]else [v]
termination_by v
decreasing_by omega
theorem GV {t:Sl H9}{v:Nat}(a:(t.g v).Parent<0):Uh t v=[v]:=by rw[Uh,dif_neg (by omega)]
theorem NM {t:Sl H9}{v p:Nat}(a:(t.g v).Parent=(p:Int))(hp:p<v):Uh t v=Uh t p++[v]:=by rw[Uh,dif_pos (by omega),a,AS2]
theorem NN {t:Sl H9}(ht:Aq t):∀(m v:Nat),v<=m->v<t.n->∀x∈Uh t v,x<=v
 |m,v,hm,hv,x,hx=>by
  rcases T0 ht hv with⟨_,e⟩ | ⟨p,hp,e⟩
  ·rw[GV (by omega)]at hx;simp at hx;omega
  ·rw[NM e hp]at hx;rcases List.mem_append.1 hx with hx|hx
   ·match m with
    |0=>omega
    |m+1=>have:=NN ht m p (by omega) (by omega) x hx;omega
   ·simp at hx;omega
theorem As2 {α : Type}{x:Sl α}{m:Nat}(h:x.n=m+1):x.toList.reverse=x.g m::(x.take m).toList.reverse:=by unfold Sl.toList;rw[h,AX3,AY7,Bb0];rfl
theorem Xq {x2:Sl Int}(hx:x2.n<100000):∀(k M:Nat),k<=x2.n->k<M->V9 M (fun (a:Int->Option (List Int)) (x3:Int)=>
 if (decide (0<=x3)) then
  if (((0:Int)<=x3/\x3<(x2.n:Int))/\x3.toNat<x2.n)then
   Ar (x2.g x3.toNat) (
    a (wrap .i64 (x3-1))
    )
  else none
 else
  some []
 ) ((k:Int)-1)=some (x2.take k).toList.reverse
 |0,M,hk,hM=>by obtain⟨M,rfl⟩:∃K,M=K+1:=⟨M-1,by omega⟩;rw[AH,if_neg (by simp)];rfl
 |k+1,M,hk,hM=>by obtain⟨M,rfl⟩:∃K,M=K+1:=⟨M-1,by omega⟩;rw[show ((k+1:Nat):Int)-1=(k:Int) by omega,AH,if_pos (by simp),if_pos ⟨by omega,by omega⟩,E1 (by omega) (by omega),Xq hx k M (by omega) (by omega),AS2,As2 (x:=x2.take (k+1)) (m:=k) rfl];rfl
theorem Rr {N:Nat}(j:3000000<=N){t:Sl H9}(ht:Aq t){v:Nat}(f:v<t.n):H6 N (v:Int) t=some ((Uh t v).map fun (x:Nat)=>(x:Int)):=by
 have i:=ht.2.1;have key:∀(m c:Nat) (x2:Sl Int) (M:Nat),c<m->c<t.n->m+1<M->x2.n+c<=1000->∃y:Sl Int,y.n<=1001/\y.toList.reverse=((Uh t c).map fun (x:Nat)=>(x:Int))++x2.toList.reverse /\
  P4 M (fun (a:Int->Sl Int->Option (List Int)) (x1:Int) (x2:Sl Int)=>
  if (decide (0<=x1)) then
   if (((x2.n+(Sl.of [x1]:Sl Int).n)*8<=140737488355328/\x2.n+(Sl.of [x1]:Sl Int).n<=140737488355328)/\((0:Int)<=x1/\x1<(t.n:Int)))then
    a (t.g x1.toNat).Parent (x2.push x1)
   else none
  else
   V9 N (fun b (x3:Int)=>
    if (decide (0<=x3)) then
     if (((0:Int)<=x3/\x3<(x2.n:Int))/\x3.toNat<x2.n)then
      Ar (x2.g x3.toNat) (
       b (wrap .i64 (x3-1))
       )
     else none
    else
     some []
    ) (wrap .i64 ((x2.n:Int)-1))
  ) (c:Int) x2=some y.toList.reverse:=by
  intro m
  induction m with
  |zero=>exact fun c _ _ h=>absurd h (by omega)
  |succ m ih=>
   intro c x2 M hc d l hx;obtain⟨M,rfl⟩:∃K,M=K+1:=⟨M-1,by omega⟩;rw[D8,if_pos (by simp),if_pos ⟨by show (x2.n+1)*8<=_/\x2.n+1<=_;omega,by omega⟩,AS2];rcases T0 ht d with⟨_,e⟩ | ⟨p,hp,e⟩
   ·obtain⟨M,rfl⟩:∃K,M=K+1:=⟨M-1,by omega⟩;refine⟨x2.push (c:Int),by show x2.n+1<=_;omega,by rw[Ad1,Bb0,GV (by omega)];rfl,?_⟩;rw[e,D8,if_neg (by decide)];have hb:=Xq (x2:=x2.push (c:Int)) (by show x2.n+1<_;omega) (x2.n+1) N (AS8 _) (by omega);rw[E1 (by show _<=((x2.n+1:Nat):Int)-1;omega) (by show ((x2.n+1:Nat):Int)-1<=_;omega)];exact hb
   ·obtain⟨y,y1,y2,y3⟩:=ih p (x2.push (c:Int)) M (by omega) (by omega) (by omega) (by show x2.n+1+p<=_;omega);refine⟨y,y1,?_,by rw[e];exact y3⟩;rw[y2,Ad1,Bb0,NM e hp,AY7,Bf2];rfl
 obtain⟨y,_,y2,y3⟩:=key (v+1) v (Sl.nil:Sl Int) N (by omega) f (by omega) (by show 0+v<=_;omega);unfold H6;rw[y3,y2];show some (_++[])=_;rw[Ba8]
def AH2 (h:A7)(L:List Nat)(z:Sl Int):Sl Int:=L.foldl (fun z x=>z.app (h.On.g x)) z
theorem TO {h:A7}(ht:Aq h.Tree):∀(m v:Nat),v<=m->v<h.Tree.n->AH2 h (Uh h.Tree v) (Sl.nil:Sl Int)=N6 h v
 |m,v,hm,hv=>by
  rcases T0 ht hv with⟨_,e⟩ | ⟨p,hp,e⟩
  ·rw[GV (by omega),Bq (by omega)];rfl
  ·rw[NM e hp,Ei e hp]
   match m with
   |0=>omega
   |m+1=>
    have:=TO ht m p (by omega) (by omega)
    unfold AH2 at this⊢;rw[List.foldl_append,this];rfl
theorem JG {h:A7}(c:Z4 h):∀(L:List Nat) (z:Sl Int),(∀x∈L,x<h.On.n)->z.n+L.length*1100000<=10000000000 ->
 O5 (L.map fun (x:Nat)=>(x:Int)) (fun (a:Sl Int->Option ((Sl Int)×Int)) (x1:Int) (z1:Sl Int)=>
  if (((0:Int)<=x1/\x1<(h.On.n:Int))/\((z1.n+(h.On.g x1.toNat).n)*8<=140737488355328/\z1.n+(h.On.g x1.toNat).n<=140737488355328))then
   a (z1.app (h.On.g x1.toNat))
  else none
  ) (fun (z1:Sl Int)=>
   some (z1,0)
  ) z=some (AH2 h L z,0)
 |[],z,_,_=>rfl
 |x::L,z,hx,hz=>by have b:=hx x (by simp);have hl:=c.len x b;simp only[AV4,Be1]at hz;rw[AV5,O5,AS2,if_pos ⟨by omega,by omega⟩];exact JG c L _ (fun y hy=>hx y (by simp[hy])) (by show z.n+(h.On.g x).n+_<=_;omega)
theorem LM {t:Sl H9}(ht:Aq t):∀(m v:Nat),v<=m->v<t.n->(Uh t v).length<=v+1
 |m,v,hm,hv=>by
  rcases T0 ht hv with⟨_,e⟩ | ⟨p,hp,e⟩
  ·rw[GV (by omega)];simp
  ·rw[NM e hp]
   match m with
   |0=>omega
   |m+1=>have:=LM ht m p (by omega) (by omega);simp;omega
theorem Rs {N:Nat}(g:3000000<=N){h:A7}(d:Z4 h)(v:Int) :∃s e,J8 N h v=some (s,e)/\Hk N h v=some (s,e)/\((e=0/\BX N h/\0<=v/\v<h.Tree.n/\s=N6 h v.toNat) \/ (e≠0/\s=(Sl.nil:Sl Int))):=by
 unfold J8 Hk;rw[Co g d,JF g d,AS4,AS4];by_cases f:hres N h=0
 case neg=>
  have b:(hres N h != 0)=true:=by simpa using f
  rw[if_pos b,if_pos b];exact⟨_,_,rfl,rfl,.inr ⟨f,rfl⟩⟩
 have a:=hres_zero.1 f;have c:¬(hres N h != 0)=true:=by simp[f]
 rw[if_neg c,if_neg c,P0,EV,AS4,AS4];by_cases m:0<=v/\v<(h.Tree.n:Int)
 case neg=>
  have hb:(!((decide (0<=v))&&(decide (v<(h.Tree.n:Int)))))=true:=by simp;omega
  rw[if_pos hb,if_pos hb];exact⟨_,_,rfl,rfl,.inr ⟨by decide,rfl⟩⟩
 have hb:¬(!((decide (0<=v))&&(decide (v<(h.Tree.n:Int)))))=true:=by simp;omega
 rw[if_neg hb,if_neg hb,O6,AS4];obtain⟨u,rfl⟩:∃u:Nat,v=(u:Int):=⟨v.toNat,by omega⟩;have l:=a.tree.2.1;have hw:=Rr g a.tree (v:=u) (by omega);have j:=LM a.tree u u (AS8 _) (by omega);have i:=JG d (Uh h.Tree u) (Sl.nil:Sl Int) (fun x hx=>by have:=NN a.tree u u (AS8 _) (by omega) x hx;have:=a.on;omega) (by show 0+_<=_;omega);rw[NL d a.tree a.on N u (by omega) (by omega),AS4];refine⟨N6 h u,0,?_,rfl,.inl ⟨rfl,a,by omega,by omega,by rw[AS2]⟩⟩;show (H6 N (u:Int) h.Tree).bind _=_;rw[hw,AS4,i,TO a.tree u u (AS8 _) (by omega)]
theorem Rt {N:Nat}{h:A7}(a:BX N h):∀(m v:Nat),v<=m->v<h.Tree.n->∀i,i<(N6 h v).n->0<=(N6 h v).g i/\(N6 h v).g i<h.Laws.n
 |m,v,hm,hv,i,b=>by
  have AH9:∀j,j<(h.On.g v).n->0<=(h.On.g v).g j/\(h.On.g v).g j<h.Laws.n:=fun j c=>by
   have:=a.bad v (by have:=a.on;omega)
   constructor
   ·exact Int.not_lt.1 fun g=>this ⟨j,c,.inl g⟩
   ·exact Int.not_le.1 fun g=>this ⟨j,c,.inr g⟩
  rcases T0 a.tree hv with⟨_,e⟩ | ⟨p,hp,e⟩
  ·rw[Bq (by omega)]at b⊢;have b:i<0+(h.On.g v).n:=b
   have:((Sl.nil:Sl Int).app (h.On.g v)).g i=(h.On.g v).g i:=by show (if i<0 then (default:Int)else (h.On.g v).g (i-0))=_;rw[if_neg (by omega)];rfl
   rw[this];exact AH9 i (by omega)
  ·rw[Ei e hp]at b⊢;have b:i<(N6 h p).n+(h.On.g v).n:=b;show 0<=(if i<(N6 h p).n then (N6 h p).g i else (h.On.g v).g (i-(N6 h p).n))/\(if i<(N6 h p).n then (N6 h p).g i else (h.On.g v).g (i-(N6 h p).n))<_;split
   ·match m with
    |0=>omega
    |m+1=>exact Rt a m p (by omega) (by omega) i (by assumption)
   ·exact AH9 _ (by omega)
theorem Iw:∀(d:Nat) (p:Pat),okP d p->∀M,100+d<=M->∃q,P2 M p=some q/\PE p q
 |0,p,h,M,_=>h.elim
 |d+1,p,h,0,hM=>by omega
 |d+1,p,h,M+1,hM=>by
  show ∃q,Q1 (P2 M) M p=some q/\_;unfold Q1;have hn:=h.1;refine P3 (fun i (x1:Sl Pat) x2=>x2=(i:Int)/\x1.n=i/\∀j,j<i->PE (p.L.g j) (x1.g j)) p.L.n _ (by omega) ⟨rfl,rfl,fun j a=>absurd a (by omega)⟩ ?_;rintro c i x1 x2 f ⟨rfl,hx,a⟩ hs;by_cases hl:i<p.L.n
  ·obtain⟨q,q1,q2⟩:=Iw d (p.L.g i) (h.2.2 i hl) M (by omega);refine ifT (by simp;omega) (ifT (by omega) (B1 (by rw[AS2];exact q1) (ifT (by show (x1.n+1)*64<=_/\x1.n+1<=_;omega) (hs hl _ _ ⟨B8 (by omega),by show x1.n+1=_;omega,fun j b=>?_⟩))));show PE _ (if j<x1.n then x1.g j else q);by_cases e:j=i
   ·subst e;rw[if_neg (by omega)];exact q2
   ·rw[if_pos (by omega)];exact a j (by omega)
  ·exact ifF (by simp;omega) ⟨_,rfl,PE_of.2 ⟨rfl,rfl,rfl,rfl,rfl,by show x1.n=_;omega,fun j b=>a j (by omega)⟩⟩
theorem YX {N:Nat}(d:3000000<=N){l:Law}(hl:JA l)(hc:chkAll N l):∃l',U9 N l=some l' /\ LE l l':=by have a:=hc.f hl;obtain⟨_,h1,b,g,c,_⟩:=a;have i:=c.1;obtain⟨q1,e1,g1⟩:=Iw 40 l.Left (ND 40 _ (by omega) h1 _ (by simp)) N (by omega);obtain⟨q2,e2,g2⟩:=Iw 40 l.Right (ND 40 _ (by omega) b _ (by simp)) N (by omega);unfold U9 A4 F8;rw[e1,e2,AS4,AS4,if_pos (by omega),AS4,if_pos (by omega)];exact⟨_,rfl,rfl,g1,g2,SE.refl _,SE.refl _,rfl⟩
theorem Ru {N:Nat}(m:3000000<=N){h:A7}(o:Z4 h)(c:BX N h){l:Sl Int}(hn:l.n<1000000)(hl:∀i,i<l.n->0<=l.g i/\l.g i<h.Laws.n) :∃s,J9 N h l=some s/\s.n=l.n/\∀i,i<l.n->LE (h.Laws.g (l.g i).toNat) (s.g i):=by
 unfold J9;refine P3 (fun i (x1:Sl Law) x2=>x2=(i:Int)/\x1.n=i/\∀j,j<i->LE (h.Laws.g (l.g j).toNat) (x1.g j)) l.n _ (by omega) ⟨rfl,rfl,fun j b=>absurd b (by omega)⟩ ?_;rintro f i x1 x2 hle ⟨rfl,hx,b⟩ hs;by_cases a:i<l.n
 ·have r:=hl i a;obtain⟨q,q1,q2⟩:=YX m (o.laws (l.g i).toNat (by omega)) (c.laws.2 (l.g i).toNat (by omega));refine ifT (by simp;omega) ?_;rw[AS2];refine ifT ⟨by omega,r⟩ (B1 q1 (ifT (by show (x1.n+1)*200<=_/\x1.n+1<=_;omega) (hs a _ _ ⟨B8 (by omega),by show x1.n+1=_;omega,fun j d=>?_⟩)));show LE _ (if j<x1.n then x1.g j else q);by_cases e:j=i
  ·subst e;rw[if_neg (by omega)];exact q2
  ·rw[if_pos (by omega)];exact b j (by omega)
 ·exact ifF (by simp;omega) ⟨_,rfl,by omega,fun j d=>b j (by omega)⟩
def Kr (h:A7)(l:Sl Int):Sl Law:=⟨l.n,fun i=>h.Laws.g (l.g i).toNat⟩
theorem Xr {N:Nat}(q:3000000<=N){h:A7}(b:Z4 h)(v:Int) :∃s s' e,K0 N h v=some (s,e)/\Kj N h v=some (s',e)/\LS s' s/\((e=0/\BX N h/\0<=v/\v<h.Tree.n/\SE s' (Kr h (N6 h v.toNat))) \/ (e≠0/\s.n=0)):=by
 obtain⟨l,e,h1,w,t⟩:=Rs q b v;unfold K0 Kj;rw[h1,w,AS4,AS4];have hl:l.n<1000000/\(∀i,i<l.n->0<=l.g i/\l.g i<h.Laws.n)/\∃s,J9 N h l=some s/\s.n=l.n/\∀i,i<l.n->LE (h.Laws.g (l.g i).toNat) (s.g i):=by
  rcases t with⟨_,a,g1,g2,rfl⟩ | ⟨_,rfl⟩
  ·have x:(N6 h v.toNat).n<=64:=Bd9 fun g=>a.long ⟨v.toNat,by have:=a.on;omega,g⟩;have f:=Rt a v.toNat v.toNat (AS8 _) (by omega);exact⟨by omega,f,Ru q b a (by omega) f⟩
  ·refine⟨by show 0<_;omega,fun i b=>absurd b (AW0 i),(Sl.nil:Sl Law),?_,rfl,fun i b=>absurd b (AW0 i)⟩;unfold J9;obtain⟨M,rfl⟩:∃K,N=K+1:=⟨N-1,by omega⟩;rw[D8,if_neg (by show ¬decide ((0:Int)<((0:Nat):Int))=true;decide)]
 obtain⟨hn,y,s,s1,s2,s3⟩:=hl;have z:∃r,(P4 N (fun (c:Sl Law->Int->Option ((Sl Law)×Int)) (x1:Sl Law) (x2:Int)=>
  if (decide (x2<(l.n:Int))) then
   if ((((0:Int)<=x2/\x2<(l.n:Int))/\x2.toNat<l.n)/\((0:Int)<=(l.g x2.toNat)/\(l.g x2.toNat)<(h.Laws.n:Int)))then
    if ((x1.n+(Sl.of [h.Laws.g (l.g x2.toNat).toNat]:Sl Law).n)*200<=140737488355328/\x1.n+(Sl.of [h.Laws.g (l.g x2.toNat).toNat]:Sl Law).n<=140737488355328)then
     c (x1.push (h.Laws.g (l.g x2.toNat).toNat)) (wrap .i64 (x2+1))
    else none
   else none
  else
   some (x1,e)
  ) (Sl.nil:Sl Law) 0)=some r/\r.2=e/\r.1.n=l.n/\∀i,i<l.n->r.1.g i=h.Laws.g (l.g i).toNat:=by
  refine P3 (fun i (x1:Sl Law) x2=>x2=(i:Int)/\x1.n=i/\∀j,j<i->x1.g j=h.Laws.g (l.g j).toNat) l.n _ (by omega) ⟨rfl,rfl,fun j m=>absurd m (by omega)⟩ ?_;rintro u i x1 x2 hle ⟨rfl,hx,m⟩ hs;by_cases d:i<l.n
  ·refine ifT (by simp;omega) ?_;rw[AS2];refine ifT ⟨⟨by omega,d⟩,y i d⟩ (ifT (by show (x1.n+1)*200<=_/\x1.n+1<=_;omega) (hs d _ _ ⟨B8 (by omega),by show x1.n+1=_;omega,fun j o=>?_⟩));show (if j<x1.n then x1.g j else _)=_;by_cases e:j=i
   ·subst e;rw[if_neg (by omega)]
   ·rw[if_pos (by omega)];exact m j (by omega)
  ·exact ifF (by simp;omega) ⟨_,rfl,rfl,by show x1.n=_;omega,fun j o=>m j (by omega)⟩
 obtain⟨⟨s',e'⟩,d1,d2,d3,d4⟩:=z;dsimp only at d2 d3 d4;subst d2;rw[s1,AS4];refine⟨s,s',_,rfl,d1,⟨by omega,fun i b=>by rw[d4 i (by omega)];exact s3 i (by omega)⟩,?_⟩;rcases t with⟨g0,a,g1,g2,rfl⟩ | ⟨g0,rfl⟩
 ·exact .inl ⟨g0,a,g1,g2,d3,fun i b=>d4 i (by omega)⟩
 ·exact .inr ⟨g0,s2⟩
end Go.AM
namespace Go.AM
open Go.Proofs
def OK (N:Nat)(l:Law)(w:Sl Sound):Option (Sl Sound):=(R8 N l w).bind fun y=>if y.2=0 then some y.1 else none
def DR (N:Nat):List Law->Sl Sound->Option (Sl Sound)
 |[],w=>some w
 |l::L,w=>(OK N l w).bind (DR N L)
theorem TP {N:Nat}:∀(A B:List Law) (w:Sl Sound),DR N (A++B) w=(DR N A w).bind (DR N B)
 |[],B,w=>rfl
 |l::A,B,w=>by
  show (OK N l w).bind (DR N (A++B))=((OK N l w).bind (DR N A)).bind (DR N B);cases OK N l w with
  |none=>rfl
  |some v=>exact TP A B v
def YY (N:Nat)(l:Law):Prop:=JA l/\chkAll N l
theorem As3 {N:Nat}{l l' : Law}(h:LE l l')(g:YY N l):YY N l':=⟨LL h g.1,(EZ h).1 g.2⟩
def OR (o o' : Option (Sl Sound)):Prop:=(o=none/\o' = none) \/ ∃v v',o=some v/\o' = some v' /\ SE v v' /\ wOk v
theorem We {N:Nat}(a:3000000<=N){l:Law}(hl:YY N l){w:Sl Sound}(hw:wOk w):(∃v,R8 N l w=some (v,0)/\OK N l w=some v/\wOk v) \/ (∃v,R8 N l w=some (v,11)/\OK N l w=none):=by
 obtain⟨⟨v,e⟩,_,h1,_,_,_,b⟩:=JB a hl.1 (LE.refl l) (SE.refl w) fun i c=>(hw.2 i c).ok;rcases b with⟨_,h⟩ | ⟨_,h,h'⟩ | ⟨_,_,h|⟨h,h'⟩⟩
 ·exact absurd hl.2 h
 ·exact absurd ((Z2 h).2 hw) h'
 ·dsimp only at h;subst h;exact .inr ⟨v,h1,by unfold OK;rw[h1];rfl⟩
 ·dsimp only at h h';subst h;exact .inl ⟨v,h1,by unfold OK;rw[h1];rfl,h'⟩
theorem AQ1 {N:Nat}(c:3000000<=N){l l' : Law}(hl:YY N l)(hle:LE l l'){w w' : Sl Sound}(hw:wOk w)(a:SE w w'):OR (OK N l w) (OK N l' w'):=by
 have b:=a.wOk hw;obtain⟨r,r',h1,g,j,f,_⟩:=JB c hl.1 hle a fun i d=>(hw.2 i d).ok;obtain⟨q,q',k1,k2,k3,k4,_⟩:=JB c (LL hle hl.1) (LE.refl l') (SE.refl w') fun i d=>(b.2 i d).ok;obtain rfl:=AV6 (g.symm.trans k2);rcases We c hl hw with⟨v,g1,g2,g3⟩ | ⟨v,g1,g2⟩<;>rcases We c (As3 hle hl) b with⟨u,p1,p2,p3⟩ | ⟨u,p1,p2⟩
 ·obtain rfl:=AV6 (g1.symm.trans h1);obtain rfl:=AV6 (p1.symm.trans k1);exact .inr ⟨v,u,g2,p2,j.trans k3.symm,g3⟩
 ·obtain rfl:=AV6 (g1.symm.trans h1);obtain rfl:=AV6 (p1.symm.trans k1);exact absurd (f.trans k4.symm) (by show ¬((0:Int)=11);decide)
 ·obtain rfl:=AV6 (g1.symm.trans h1);obtain rfl:=AV6 (p1.symm.trans k1);exact absurd (f.trans k4.symm) (by show ¬((11:Int)=0);decide)
 ·exact .inl ⟨g2,p2⟩
def LEs:List Law->List Law->Prop
 |[],[]=>True
 |p::l,q::m=>LE p q/\LEs l m
 |_,_=>False
theorem Ax7 {N:Nat}(a:3000000<=N):∀(L L' : List Law) (w w' : Sl Sound),(∀l∈L,YY N l)->LEs L L' -> wOk w->SE w w' -> OR (DR N L w) (DR N L' w')
 |[],[],w,w',_,_,hw,hse=>.inr ⟨w,w',rfl,rfl,hse,hw⟩
 |l::L,l' :: L',w,w',hg,⟨h1,h2⟩,hw,hse=>by
  unfold DR;rcases AQ1 a (hg l (by simp)) h1 hw hse with⟨e1,e2⟩ | ⟨v,v',e1,e2,e3,e4⟩
  ·rw[e1,e2];exact .inl ⟨rfl,rfl⟩
  ·rw[e1,e2];exact Ax7 a L L' v v' (fun x hx=>hg x (by simp[hx])) h2 e4 e3
 |[],_::_,_,_,_,h,_,_=>h.elim
 |_::_,[],_,_,_,h,_,_=>h.elim
theorem TQ {f g:Nat->Law}:∀(l:List Nat),(∀i∈l,LE (f i) (g i))->LEs (l.map f) (l.map g)
 |[],_=>trivial
 |i::l,h=>⟨h i (by simp),TQ l fun j a=>h j (by simp[a])⟩
theorem LS.s {s t:Sl Law}(h:LS s t):LEs s.toList t.toList:=by unfold Sl.toList;rw[<- h.1];exact TQ _ fun i a=>h.2 i (AX4.1 a)
theorem AH3 {N:Nat}{laws:Sl Law}(hl:DQ laws)(b:Da N laws):∀l∈laws.toList,YY N l:=by intro l h;obtain⟨i,a,rfl⟩:=Ba7.1 h;have a:=AX4.1 a;exact⟨hl i a,b.2 i a⟩
theorem Wf {N:Nat}(f:3000000<=N){laws:Sl Law}(hl:DQ laws)(c:Da N laws):∀(m i:Nat) (w:Sl Sound),wOk w->i<=laws.n->laws.n<=i+m ->
 (∃L,(∀M,m<M->P4 M (T5 N 0 laws) w i=some L)/\DR N (laws.toList.drop i) w=some (JC w L)/\wOk (JC w L)) \/
 ((∃L,∀M,m<M->P4 M (T5 N 0 laws) w i=none/\P4 M (T5 N 11 laws) w i=some L)/\DR N (laws.toList.drop i) w=none):=by
 have b:=c.1;have fin:∀(m i:Nat) (w:Sl Sound),wOk w->i=laws.n->∃L,(∀M,m<M->P4 M (T5 N 0 laws) w i=some L)/\DR N (laws.toList.drop i) w=some (JC w L)/\wOk (JC w L):=by rintro m i w hw rfl;refine⟨[],fun M d=>?_,by rw[DO];rfl,hw⟩;obtain⟨M,rfl⟩:∃K,M=K+1:=⟨M-1,by omega⟩;rw[D8,T5,if_neg (by simp),if_pos rfl]
 intro m
 induction m with
 |zero=>exact fun i w hw g hm=>.inl (fin 0 i w hw (by omega))
 |succ m ih=>
  intro i w hw g hm;by_cases a:i<laws.n
  case neg=>exact .inl (fin _ i w hw (by omega))
  rw[FF _ a];rcases We f ⟨hl i a,c.2 i a⟩ hw with⟨v,g1,g2,g3⟩ | ⟨v,g1,g2⟩
  ·rcases ih (i+1) v g3 (by omega) (by omega)with⟨L,a1,a2,a3⟩ | ⟨⟨L,a1⟩,a2⟩
   ·refine .inl ⟨((i+1:Nat),v)::L,fun M d=>?_,by unfold DR;rw[g2];exact a2,a3⟩;obtain⟨M,rfl⟩:∃K,M=K+1:=⟨M-1,by omega⟩;rw[D8,S0 a b g1,if_neg (by simp)];show Ar _ (P4 M (T5 N 0 laws) v _)=_;rw[a1 M (by omega)];rfl
   ·refine .inr ⟨⟨((i+1:Nat),v)::L,fun M d=>?_⟩,by unfold DR;rw[g2];exact a2⟩;obtain⟨M,rfl⟩:∃K,M=K+1:=⟨M-1,by omega⟩;obtain⟨b1,b2⟩:=a1 M (by omega);rw[D8,D8,S0 a b g1,S0 a b g1,if_neg (by simp),if_neg (by simp)];refine⟨?_,?_⟩
    ·show Ar _ (P4 M (T5 N 0 laws) v _)=_;rw[b1];rfl
    ·show Ar _ (P4 M (T5 N 11 laws) v _)=_;rw[b2];rfl
  ·refine .inr ⟨⟨[],fun M d=>?_⟩,by unfold DR;rw[g2];rfl⟩;obtain⟨M,rfl⟩:∃K,M=K+1:=⟨M-1,by omega⟩;rw[D8,D8,S0 a b g1,S0 a b g1];exact⟨rfl,rfl⟩
theorem Ix {N:Nat}(g:3000000<=N){laws:Sl Law}(hl:DQ laws)(d:Da N laws){w:Sl Sound}(hw:wOk w) :(∃v,DR N laws.toList w=some v/\E8 N laws w=some (v,0)/\wOk v) \/ (DR N laws.toList w=none/\E8 N laws w=some ((Sl.nil:Sl Sound),11)):=by
 have j:=d.1;have l:=hw.1;obtain⟨e,e1,m⟩:=NI g hl (w:=w) fun i o=>(hw.2 i o).ok
 have:e=0:=by
  rcases m with⟨h,h'⟩ | ⟨_,h⟩
  ·exact Hm h (lawsE_zero.2 d)
  ·exact (Z2 h).2 hw
 subst this;have b:A4 N w=some w:=by unfold A4;rw[if_pos (by omega)]
 have a:∀c,C0 N c laws w=(Ar (0,w) (P4 N (T5 N c laws) w 0)).bind fun L1=>O5 L1 (fun (f:Sl Sound->Option (Sl Sound)) (x1:Int×(Sl Sound)) (z1:Sl Sound)=>f x1.2) (fun (z1:Sl Sound)=>some z1) (Sl.nil:Sl Sound):=by intro c;unfold C0 AU U8;rw[AS4,b,AS4];rfl
 unfold E8;rw[e1,AS4,if_neg (by decide)];rcases Wf g hl d laws.n 0 w hw (by omega) (by omega)with⟨L,g1,g2,g3⟩ | ⟨⟨L,g1⟩,g2⟩
 ·have g1:P4 N (T5 N 0 laws) w 0=some L:=g1 N (by omega)
  have:F5 N laws w=some (JC w L,true):=by
   have e0:C0 N 0 laws w=some (JC w L):=by rw[a,g1];exact JD _ _
   unfold F5;rw[e0]
  rw[this];exact .inl ⟨_,g2,rfl,g3⟩
 ·obtain⟨g3,g4⟩:=g1 N (by omega);have g3:P4 N (T5 N 0 laws) w 0=none:=g3;have g4:P4 N (T5 N 11 laws) w 0=some L:=g4
  have:F5 N laws w=some ((Sl.nil:Sl Sound),false):=by
   have e0:C0 N 0 laws w=none:=by rw[a,g3];rfl
   have e11:C0 N 11 laws w=some (JC w L):=by rw[a,g4];exact JD _ _
   unfold F5;rw[e0,e11];rfl
  rw[this];exact .inr ⟨g2,rfl⟩
theorem Ax8 {α : Type}(s t:Sl α):(s.app t).toList=s.toList++t.toList:=by
 show (List.range (s.n+t.n)).map (fun i=>if i<s.n then s.g i else t.g (i-s.n))=_;rw[List.range_add,AY7,AZ4];congr 1
 ·exact AV3 fun i a=>if_pos (AX4.1 a)
 ·refine AV3 fun i a=>?_;show (if s.n+i<s.n then _ else t.g (s.n+i-s.n))=_;rw[if_neg (by omega)];congr 1;omega
theorem Rv (h:A7)(l:Sl Int):(Kr h l).toList=l.toList.map fun (i:Int)=>h.Laws.g i.toNat:=by unfold Kr Sl.toList;rw[AZ4];rfl
def Wg (h:A7)(L:List Nat):List Law:=L.flatMap fun x=>(Kr h (h.On.g x)).toList
theorem TR {h:A7}(ht:Aq h.Tree):∀(m v:Nat),v<=m->v<h.Tree.n->Wg h (Uh h.Tree v)=(Kr h (N6 h v)).toList
 |m,v,hm,hv=>by
  rcases T0 ht hv with⟨_,e⟩ | ⟨p,hp,e⟩
  ·rw[GV (by omega),Bq (by omega),AG1 rfl];simp[Wg]
  ·rw[NM e hp,Ei e hp,Rv,Ax8,AY7,<- Rv,<- Rv]
   match m with
   |0=>omega
   |m+1=>rw[<- TR ht m p (by omega) (by omega)];simp[Wg]
theorem Rw {h:A7}(b:Z4 h){l:Sl Int}(hl:∀i,i<l.n->0<=l.g i/\l.g i<h.Laws.n):DQ (Kr h l):=fun i a=>b.laws _ (by have:=hl i a;omega)
theorem Rx {N:Nat}{h:A7}(a:BX N h){l:Sl Int}(hn:l.n<=64)(hl:∀i,i<l.n->0<=l.g i/\l.g i<h.Laws.n):Da N (Kr h l):=⟨hn,fun i b=>a.laws.2 _ (by have:=hl i b;omega)⟩
theorem on_ok {N:Nat}{h:A7}(a:BX N h){x:Nat}(hx:x<h.Tree.n):(h.On.g x).n<=64/\∀i,i<(h.On.g x).n->0<=(h.On.g x).g i/\(h.On.g x).g i<h.Laws.n:=by
 have c:=a.on;refine⟨?_,fun j b=>?_⟩
 ·have hl:(N6 h x).n<=64:=Bd9 fun g=>a.long ⟨x,by omega,g⟩;rcases T0 a.tree hx with⟨_,e⟩ | ⟨p,hp,e⟩
  ·rw[Bq (by omega)]at hl;have hl:0+(h.On.g x).n<=64:=hl;omega
  ·rw[Ei e hp]at hl;have hl:(N6 h p).n+(h.On.g x).n<=64:=hl;omega
 ·have:=a.bad x (by omega)
  constructor
  ·exact Int.not_lt.1 fun g=>this ⟨j,b,.inl g⟩
  ·exact Int.not_le.1 fun g=>this ⟨j,b,.inr g⟩
theorem Ag9 {N:Nat}(t:3000000<=N){h:A7}(c:Z4 h)(a:BX N h):∀(L:List Nat) (z z' : Sl Sound),(∀x∈L,x<h.Tree.n)->wOk z->SE z z' ->
 ∃r,O5 (L.map fun (x:Nat)=>(x:Int)) (fun (d:Sl Sound->Option ((Sl Sound)×Int)) (x1:Int) (z1:Sl Sound)=>
  if ((0:Int)<=x1/\x1<(h.On.n:Int))then
   (J9 N h (h.On.g x1.toNat)).bind fun y8=>
   (E8 N y8 z1).bind fun y9=>
   if (y9.2 != 0) then
    some ((Sl.nil:Sl Sound),y9.2)
   else
    d y9.1
  else none
  ) (fun (z1:Sl Sound)=>
   some (z1,0)
  ) z=some r/\((∃v,DR N (Wg h L) z' = some v/\r.2=0/\SE r.1 v/\wOk r.1) \/ (DR N (Wg h L) z' = none/\r=((Sl.nil:Sl Sound),11)))
 |[],z,z',_,hz,hse=>⟨(z,0),rfl,.inl ⟨z',rfl,rfl,hse,hz⟩⟩
 |x::L,z,z',hx,hz,hse=>by
  have w:=hx x (by simp);have hon:=a.on;obtain⟨o1,o2⟩:=on_ok a w;obtain⟨s,s1,s2,s3⟩:=Ru t c a (l:=h.On.g x) (by omega) o2;have b:LS (Kr h (h.On.g x)) s:=⟨s2.symm,fun i c=>s3 i c⟩;have j:=Rw c o2;have m:=Rx a o1 o2;have o:=Rp b j;have q : Da N s:=⟨by omega,fun i c=>(EZ (b.2 i (by rw[b.1];exact c))).1 (m.2 i (by rw[b.1];exact c))⟩;have hf:=Ax7 t _ _ z' z (AH3 j m) b.s (hse.wOk hz) hse.symm;have f:DR N (Wg h (x::L)) z' = (DR N (Kr h (h.On.g x)).toList z').bind (DR N (Wg h L)):=by rw[<- TP];rfl
  rw[f,AV5,O5,if_pos (by omega),AS2,s1,AS4];rcases Ix t o q hz with⟨v,d1,d2,d3⟩ | ⟨d1,d2⟩
  ·rw[d2,AS4,if_neg (by simp)];rcases hf with⟨_,f2⟩ | ⟨u,u',f1,f2,f3,f4⟩
   ·rw[d1]at f2;cases f2
   ·rw[d1]at f2;obtain rfl:=AV6 f2;rw[f1,AS4];exact Ag9 t c a L v u (fun y hy=>hx y (by simp[hy])) d3 f3.symm
  ·rw[d2,AS4,if_pos (by simp)];rcases hf with⟨f1,_⟩ | ⟨u,u',_,f2,_⟩
   ·rw[f1];exact⟨_,rfl,.inr ⟨rfl,rfl⟩⟩
   ·rw[d1]at f2;cases f2
theorem AQ2 {N:Nat}(f:3000000<=N){h:A7}(c:Z4 h){w w' : Sl Sound}(l:SE w w')(hw:okA w)(v:Int) :∃r r',T4 N h w v=some r/\LJ N h w' v=some r' /\ SE r.1 r'.1/\r.2=r'.2/\(r.2=0->wOk r.1)/\(r.2=0->BX N h):=by
 unfold T4 LJ Y8 Kk;rw[Co f c,JF f c,AS4,AS4];by_cases o:hres N h=0
 case neg=>
  have b:(hres N h != 0)=true:=by simpa using o
  rw[if_pos b,if_pos b,AS4,AS4,if_pos b,if_pos b];exact⟨_,_,rfl,rfl,SE.refl _,rfl,fun e=>absurd e o,fun e=>absurd e o⟩
 have a:=hres_zero.1 o;have d:¬(hres N h != 0)=true:=by simp[o]
 rw[if_neg d,if_neg d];obtain⟨e',e3,t⟩:=DP (N:=N) (by omega) hw;obtain⟨e'',e4,z⟩:=EX (N:=N) (by omega) (AG8 l hw);obtain rfl:=GS (Ag1 l t) z;rw[e3,e4];simp only[AS4];by_cases hz:e' = 0
 case neg=>
  have b:(e' != 0)=true:=by simpa using hz
  rw[if_pos b,if_pos b];exact⟨_,_,rfl,rfl,SE.refl _,rfl,fun e=>absurd e hz,fun e=>absurd e hz⟩
 have d:¬(e' != 0)=true:=by simp[hz]
 have hwk:wOk w:=(Z2 t).1 hz;rw[if_neg d,if_neg d,P0,EV,AS4,AS4];by_cases hv:0<=v/\v<(h.Tree.n:Int)
 case neg=>
  have hb:(!((decide (0<=v))&&(decide (v<(h.Tree.n:Int)))))=true:=by simp;omega
  rw[if_pos hb,if_pos hb];exact⟨_,_,rfl,rfl,SE.refl _,rfl,fun e=>absurd e (by decide),fun _=>a⟩
 have hb:¬(!((decide (0<=v))&&(decide (v<(h.Tree.n:Int)))))=true:=by simp;omega
 rw[if_neg hb,if_neg hb,O6,AS4];obtain⟨u,rfl⟩:∃u:Nat,v=(u:Int):=⟨v.toNat,by omega⟩;have m:u<h.Tree.n:=by omega
 obtain⟨s,s',e,l1,l2,l3,l4⟩:=Xr f c (u:Int);rcases l4 with⟨rfl,_,_,_,l5⟩ | ⟨l5,_⟩
 case inr=>
  exfalso;obtain⟨s0,e0,k1,k2,k3⟩:=Rs f c (u:Int);unfold K0 at l1;rw[k1,AS4]at l1;rcases k3 with⟨rfl,_⟩ | ⟨k3,_⟩
  ·obtain⟨y,_,hy⟩:=Ba5.1 l1;exact l5 (congrArg Prod.snd (AV6 hy)).symm
  ·unfold J8 at k1;rw[Co f c,AS4,if_neg (show ¬(hres N h != 0)=true by simp[o]),P0,AS4,if_neg hb,O6,AS4]at k1;have hw2:=Rr f a.tree m;have h63:=a.tree.2.1;have hlen:=LM a.tree u u (AS8 _) m;have hit:=JG c (Uh h.Tree u) (Sl.nil:Sl Int) (fun x hx=>by have:=NN a.tree u u (AS8 _) m x hx;have:=a.on;omega) (by show 0+_<=_;omega);have k1:(H6 N (u:Int) h.Tree).bind _=_:=k1;rw[hw2,AS4,hit]at k1;exact k3 (congrArg Prod.snd (AV6 k1)).symm
 rw[AS2]at l5;have hln:(N6 h u).n<=64:=Bd9 fun g=>a.long ⟨u,by have:=a.on;omega,g⟩;have hlo:=Rt a u u (AS8 _) m;have hin:=Rw c hlo;have hlk:=Rx a hln hlo;have hls:LS s' (Kr h (N6 h u)):=l5.ls;have j : DQ s':=fun i c=>by rw[l5.2 i c];exact hin i (by rw[<- l5.1];exact c)
 have hlk' : Da N s':=⟨by rw[l5.1];exact hln,fun i c=>by rw[l5.2 i c];exact hlk.2 i (by rw[<- l5.1];exact c)⟩;obtain⟨r,r',d1,d2,d3,d4,_⟩:=PS f j (LS.refl s') l hw;have hdoc:LI N h w' (u:Int)=some (r'.1,r'.2):=by unfold LI;rw[l2,AS4,d2];rfl
 rw[hdoc,AS4];obtain⟨q,q1,q2⟩:=Ag9 f c a (Uh h.Tree u) w w (fun x hx=>by have:=NN a.tree u u (AS8 _) m x hx;omega) hwk (SE.refl w);have hway:=Rr f a.tree m;refine⟨q,_,?_,rfl,?_⟩
 ·show (H6 N (u:Int) h.Tree).bind _=_;rw[hway];exact q1
 ·rw[TR a.tree u u (AS8 _) m,<- tl_eq.2 l5]at q2;rcases Ix f j hlk' hwk with⟨x,x1,x2,x3⟩ | ⟨x1,x2⟩
  ·obtain rfl:=AV6 (d1.symm.trans x2);rcases q2 with⟨y,y1,y2,y3,y4⟩ | ⟨y1,_⟩
   ·obtain rfl:=AV6 (x1.symm.trans y1);exact⟨y3.trans d3,y2.trans d4,fun _=>y4,fun _=>a⟩
   ·rw[x1]at y1;cases y1
  ·obtain rfl:=AV6 (d1.symm.trans x2);rcases q2 with⟨y,y1,_⟩ | ⟨y1,rfl⟩
   ·rw[x1]at y1;cases y1
   ·exact⟨d3,d4,fun e=>absurd e (by show ¬((11:Int)=0);decide),fun _=>a⟩
end Go.AM
namespace Go.AM
open IntKind (wrap)
open Go.Proofs
theorem eqR {R:Type}{x:Option R}{y:R}(h:∃r,x=some r/\r=y):x=some y:=by obtain⟨r,h,rfl⟩:=h;exact h
def OL (t:Sl H9)(v:Nat):Prop:=∀u,0<u->u<t.n->(t.g u).Parent≠(v:Int)
open Classical in
noncomputable def R6 (t:Sl H9):Nat->Sl Int
 |0=>(Sl.nil:Sl Int)
 |i+1=>if OL t i then (R6 t i).push (i:Int)else R6 t i
theorem JH {t:Sl H9}{i:Nat}(h:OL t i):R6 t (i+1)=(R6 t i).push (i:Int):=if_pos h
theorem Ry {t:Sl H9}{i:Nat}(h:¬OL t i):R6 t (i+1)=R6 t i:=if_neg h
theorem Wh (t:Sl H9):∀i,(R6 t i).n<=i
 |0=>AS8 0
 |i+1=>by
  have:=Wh t i
  by_cases h:OL t i
  ·rw[JH h];show (R6 t i).n+1<=i+1;omega
  ·rw[Ry h];omega
theorem Wi (t:Sl H9):∀i k,k<(R6 t i).n->∃v:Nat,v<i/\(R6 t i).g k=(v:Int)
 |0,k,hk=>absurd hk (AW0 k)
 |i+1,k,hk=>by
  by_cases h:OL t i
  ·rw[JH h]at hk⊢;have hk:k<(R6 t i).n+1:=hk;show ∃v:Nat,v<i+1/\(if k<(R6 t i).n then (R6 t i).g k else (i:Int))=(v:Int);by_cases a:k<(R6 t i).n
   ·rw[if_pos a];obtain⟨v,h1,b⟩:=Wi t i k a;exact⟨v,by omega,b⟩
   ·rw[if_neg a];exact⟨i,by omega,rfl⟩
  ·rw[Ry h]at hk⊢;obtain⟨v,h1,b⟩:=Wi t i k hk;exact⟨v,by omega,b⟩
theorem As4 {N:Nat}(s:3000000<=N){t:Sl H9}(ht:Aq t):∃X,Y9 N t=some X/\(X.n=t.n/\∀v,v<t.n->((X.g v).n=0↔OL t v)):=by
 have o:=ht.2.1;unfold Y9;refine ifT (by omega) (P3 (fun i x (X:Sl (Sl Int))=>x=(i:Int)/\X.n=t.n/\∀v,v<t.n->(((X.g v).n=0 ↔ ∀u,0<u->u<i->(t.g u).Parent≠(v:Int))/\(X.g v).n<=i)) t.n _ (by omega)
  ⟨rfl,rfl,fun v b=>⟨⟨fun _ u h1 a=>absurd a (AW0 u),fun _=>rfl⟩,AS8 0⟩⟩ ?_)
 rintro l i x X hle ⟨rfl,c,f⟩ hs;by_cases hl:i<t.n
 case neg=>
  obtain rfl:i=t.n:=by omega
  exact ifF (by simp) ⟨X,rfl,c,fun v b=>(f v b).1⟩
 refine ifT (by simpa using hl) (ifT (by omega) ?_);rw[AS2,B8 (by omega)];rcases T0 ht hl with⟨q,h1⟩ | ⟨p,hp,e⟩
 ·subst q;rw[h1];refine ifT (by show Int.toNat (-1)<X.n;rw[c];exact hl) (ltX (ifF (by simp) (hs hl _ _ ⟨rfl,c,fun v b=>?_⟩)));have e:(X.upd (Int.toNat (-1)) (X.g (Int.toNat (-1)))).g v=X.g v:=by
   show (if v=_ then X.g (Int.toNat (-1))else X.g v)=X.g v;split
   ·rename_i e;rw[e]
   ·rfl
  rw[e];obtain⟨g1,g2⟩:=f v b;exact⟨g1.trans ⟨fun _ u h1 a=>absurd a (by omega),fun _ u h1 a=>absurd a (by omega)⟩,by omega⟩
 ·rw[e,AS2];have j:p<t.n:=by omega
  have m:=(f p j).2;refine ifT (by omega) (ltX (ifT (by simp;omega) (ifT ⟨⟨by omega,by rw[c];omega⟩,by omega,by omega⟩ (hs hl _ _ ⟨rfl,c,fun v b=>?_⟩))));show ((if v=p then (X.g p).push (i:Int)else X.g v).n=0↔_)/\(if v=p then (X.g p).push (i:Int)else X.g v).n<=i+1;by_cases d:v=p
  ·subst d;rw[if_pos rfl];refine⟨⟨fun h=>absurd h (Nat.succ_ne_zero _),fun h=>absurd e (h i (by omega) (by omega))⟩,?_⟩;show (X.g v).n+1<=i+1;omega
  ·rw[if_neg d];obtain⟨g1,g2⟩:=f v b;refine⟨g1.trans ⟨fun h u h1 a=>?_,fun h u h1 a=>h u h1 (by omega)⟩,by omega⟩;by_cases r:u=i
   ·subst r;rw[e];omega
   ·exact h u h1 (by omega)
theorem AQ3 {R:Type}{Q:R->Prop}{a:Sl Int->Int->Option R}{t:Sl H9}{i:Nat}(c:i<1000){b:Bool}(hb:b=true↔OL t i)(h:∃r,a (R6 t (i+1)) ((i+1:Nat):Int)=some r/\Q r) :∃r,(if b then
  if (((R6 t i).n+(Sl.of [(i:Int)]:Sl Int).n)*8<=140737488355328/\(R6 t i).n+(Sl.of [(i:Int)]:Sl Int).n<=140737488355328)then
   a ((R6 t i).push (i:Int)) (wrap .i64 ((i:Int)+1))
  else none
  else a (R6 t i) (wrap .i64 ((i:Int)+1)))=some r/\Q r:=by
 have hn:=Wh t i;rw[B8 (by omega)];by_cases hk:OL t i
 ·rw[JH hk]at h;exact ifT (hb.2 hk) (ifT ⟨by show ((R6 t i).n+1)*8<=_;omega,by show (R6 t i).n+1<=_;omega⟩ h)
 ·rw[Ry hk]at h;exact ifF (fun g=>hk (hb.1 g)) h
theorem Wj {N:Nat}(c:3000000<=N){t:Sl H9}(ht:Aq t):∃r,BN N t=some r/\r=R6 t t.n:=by
 have d:=ht.2.1;unfold BN;obtain⟨X,e,a,hk⟩:=As4 c ht;refine B1 e (P3 (fun i x1 x2=>x2=(i:Int)/\x1=R6 t i) t.n _ (by omega) ⟨rfl,rfl⟩ ?_);rintro b i x1 x2 hle ⟨rfl,rfl⟩ hs;by_cases hl:i<t.n
 ·refine ifT (by rw[a];simpa using hl) (ifT (by omega) ?_);rw[AS2];exact AQ3 (by omega) (by rw[<- hk i hl];simp) (hs hl _ _ ⟨rfl,rfl⟩)
 ·obtain rfl:i=t.n:=by omega
  exact ifF (by rw[a];simp) ⟨_,rfl,rfl⟩
theorem As5 {N:Nat}(l:3000000<=N){t:Sl H9}(ht:Aq t){v:Nat}(m:v<t.n):∃r,Et N t (v:Int)=some r/\(r.n=0↔OL t v):=by
 have f:=ht.2.1;unfold Et;refine P3 (fun i (x1:Sl Int) x2=>x2=(i:Int)/\x1.n<=i/\(x1.n=0 ↔ ∀u,0<u->u<i->(t.g u).Parent≠(v:Int))) t.n _ (by omega) ⟨rfl,AS8 0,fun _ u h1 a=>absurd a (AW0 u),fun _=>rfl⟩ ?_;rintro b i x1 x2 hle ⟨rfl,hn,c⟩ hs;by_cases hl:i<t.n
 ·refine ifT (by simpa using hl) (ifT (by omega) ?_);rw[AS2,B8 (by omega)];by_cases hp:(t.g i).Parent=(v:Int)
  ·have d:0<i:=by
    rcases T0 ht hl with⟨d,h1⟩ | ⟨p,hp,e⟩
    ·rw[h1]at hp;omega
    ·omega
   refine ifT (by simpa using hp) (ifT ⟨by show (x1.n+1)*8<=_;omega,by show x1.n+1<=_;omega⟩ (hs hl _ _ ⟨rfl,by show x1.n+1<=i+1;omega,fun h=>absurd h (Nat.succ_ne_zero _),fun h=>absurd hp (h i d (by omega))⟩))
  ·refine ifF (by simpa using hp) (hs hl _ _ ⟨rfl,by omega,c.trans ⟨fun h u h1 a=>?_,fun h u h1 a=>h u h1 (by omega)⟩⟩);by_cases j:u=i
   ·subst j;exact hp
   ·exact h u h1 (by omega)
 ·obtain rfl:i=t.n:=by omega
  exact ifF (by simp) ⟨_,rfl,c⟩
theorem YZ {N:Nat}(a:3000000<=N){t:Sl H9}(c:NK t):∃s e,Am N t=some (s,e)/\La N t=some (s,e)/\((Aq t/\e=0/\s=R6 t t.n) \/ (¬Aq t/\e=16/\s=(Sl.nil:Sl Int))):=by
 obtain⟨e,e1,e2,d⟩:=Rq a c;unfold Am La;rw[e1,e2,AS4,AS4];rcases d with⟨rfl,ht⟩ | ⟨rfl,ht⟩
 ·have f:=ht.2.1;rw[if_neg (by decide),if_neg (by decide)];obtain⟨r,g1,rfl⟩:=Wj a ht;refine⟨_,0,by rw[g1];rfl,eqR (P3 (fun i x1 x2=>x2=(i:Int)/\x1=R6 t i) t.n _ (by omega) ⟨rfl,rfl⟩ ?_),.inl ⟨ht,rfl,rfl⟩⟩;rintro b i x1 x2 hle ⟨rfl,rfl⟩ hs;by_cases hl:i<t.n
  ·refine ifT (by simpa using hl) ?_;obtain⟨r,k1,k2⟩:=As5 a ht hl;exact B1 k1 (AQ3 (by omega) (by rw[<- k2];simp) (hs hl _ _ ⟨rfl,rfl⟩))
  ·obtain rfl:i=t.n:=by omega
   exact ifF (by simp) ⟨_,rfl,rfl⟩
 ·exact⟨_,16,if_pos (by decide),if_pos (by decide),.inr ⟨ht,rfl,rfl⟩⟩
end Go.AM
namespace Go.AM
open Go.Proofs
theorem TT {N:Nat}(t:3000000<=N)(h:A7):∃b,Cn N h=some b/\True:=by
 unfold Cn;by_cases hb:(((decide (70<(h.Tree.n:Int)))||(decide (70<(h.Laws.n:Int))))||(decide (70<(h.On.n:Int))))=true
 ·exact ifT hb ⟨_,rfl,trivial⟩
 refine ifF hb ?_;have o : h.Laws.n<=70/\h.On.n<=70:=by simp at hb;omega
 refine BP (fun i x=>x=(i:Int)) h.On.n _ (by omega) rfl ?_;rintro l i x q rfl hs;by_cases d:i<h.On.n
 ·refine ifT (by simp;omega) (ifT (by omega) ?_);by_cases m:(decide (70<((h.On.g (i:Int).toNat).n:Int)))=true
  ·exact ifT m ⟨_,rfl,trivial⟩
  ·exact ifF m (hs d _ (B8 (by omega)))
 ·refine ifF (by simp;omega) ?_;refine BP (fun i x=>x=(i:Int)) h.Laws.n _ (by omega) rfl ?_;rintro f i x q rfl j;by_cases d:i<h.Laws.n
  ·rw[B8 (by omega)];refine ifT (by simp;omega) (ifT (by omega) ?_);obtain⟨r,s⟩:=Ar9 (N:=N) (by omega) (h.Laws.sub (i:Int).toNat ((i+1:Nat):Int).toNat);refine B1 s ?_;have last:∀z3:Bool,∃r,(if z3 then some false else f ((i+1:Nat):Int))=some r/\True:=fun z=>by
    cases z
    ·exact ifF (by simp) (j d _ rfl)
    ·exact ifT rfl ⟨_,rfl,trivial⟩
   refine ltX ?_;by_cases g1:(decide (4<r))=true
   ·exact ifT g1 (last _)
   refine ifF g1 ?_;by_cases g2:(decide (20<((h.Laws.g (i:Int).toNat).If.n:Int)))=true
   ·exact ifT g2 (last _)
   refine ifF g2 ?_;by_cases g3:(decide (20<((h.Laws.g (i:Int).toNat).Out.n:Int)))=true
   ·exact ifT g3 (last _)
   refine ifF g3 ?_;obtain⟨a,ha,_⟩:=JE (N:=N) (by omega) (h.Laws.g (i:Int).toNat).Left;refine B1 ha ?_;by_cases g4:(decide (41<(a:Int)))=true
   ·exact ifT g4 (last _)
   refine ifF g4 ?_;obtain⟨c,hc,_⟩:=JE (N:=N) (by omega) (h.Laws.g (i:Int).toNat).Right;exact B1 hc (last _)
  ·exact ifF (by simp;omega) ⟨_,rfl,trivial⟩
theorem Ah0 {N:Nat}(t:3000000<=N){h:A7}(u:Z4 h)(l:Sl (Sl Sound)):∃b,DL N h l=some b/\(b=true->l.n<=300/\∀i,i<l.n->(l.g i).n<=50):=by
 obtain⟨b,hb,_⟩:=TT t h;unfold DL;refine B1 hb ?_;by_cases g:((!b)||(decide (300<(l.n:Int))))=true
 ·exact ifT g ⟨_,rfl,fun g=>by cases g⟩
 refine ifF g ?_;have hn:l.n<=300:=by simp at g;omega
 refine P3 (fun i x1 x2=>x2=(i:Int)/\∀j,j<i->(l.g j).n<=50) l.n _ (by omega) ⟨rfl,fun j v=>absurd v (by omega)⟩ ?_;rintro w i x1 x2 f ⟨rfl,hw⟩ hs;by_cases d:i<l.n
 ·refine ifT (by simp;omega) (ifT (by omega) ?_);rw[AS2];by_cases g5:(decide (50<((l.g i).n:Int)))=true
  ·exact ifT g5 ⟨_,rfl,fun g=>by cases g⟩
  ·refine ifF g5 (hs d _ _ ⟨B8 (by omega),fun j v=>?_⟩);by_cases e:j=i
   ·subst e;simp at g5;omega
   ·exact hw j (by omega)
 ·obtain rfl:i=l.n:=by omega
  refine ifF (by simp) ?_;by_cases g5:((decide ((l.n:Int)<=256))&&(decide (1500<x1)))=true
  ·exact ifT g5 ⟨_,rfl,fun g=>by cases g⟩
  refine ifF g5 (B1 (JF t u) ?_);by_cases g6:(hres N h != 0)=true
  ·exact ifT g6 ⟨_,rfl,fun _=>⟨hn,hw⟩⟩
  refine ifF g6 ?_;have m:BX N h:=hres_zero.1 (by simpa using g6);have x:=m.laws.1;have y:=u.on;refine P3 (fun i x3 x4=>x4=(i:Int)) h.Laws.n _ (by omega) rfl ?_;rintro o i x3 x4 f rfl q;by_cases d:i<h.Laws.n
  ·obtain⟨a,ha,_⟩:=JE (N:=N) (by omega) (h.Laws.g (i:Int).toNat).Left;obtain⟨c,hc,_⟩:=JE (N:=N) (by omega) (h.Laws.g (i:Int).toNat).Right;exact ifT (by simp;omega) (ifT (by omega) (B1 ha (B1 hc (q d _ _ (B8 (by omega))))))
  ·refine ifF (by simp;omega) ?_;refine P3 (fun i x3 x4=>x4=(i:Int)) h.On.n _ (by omega) rfl ?_;rintro r i x3 x4 f rfl s;by_cases d:i<h.On.n
   ·exact ifT (by simp;omega) (ifT (by omega) (s d _ _ (B8 (by omega))))
   ·exact ifF (by simp;omega) ⟨_,rfl,fun _=>⟨hn,hw⟩⟩
def OM (z:BitVec 64)(k:Nat)(b:Bool):BitVec 64:=if b then z ||| (1#64 <<< k)else z
def RE (M:Nat->Bool):Nat->BitVec 64
 |0=>0#64
 |k+1=>OM (RE M k) k (M k)
theorem Xs (M:Nat->Bool):∀(m:Nat),m<=64->∀b,b<64->(RE M m).getLsbD b=(decide (b<m)&&M b)
 |0,_,b,_=>by simp[RE]
 |m+1,hm,b,hb=>by
  have ih:=Xs M m (by omega) b hb;unfold RE OM;cases a:M m
  ·rw[if_neg (by simp),ih];by_cases e:b=m
   ·subst e;simp[a]
   ·simp[show (b<m+1)↔b<m by omega]
  ·rw[if_pos rfl,AT5,ih,Fx (by omega) hb];by_cases e:b=m
   ·subst e;simp[a]
   ·simp[e,show (b<m+1)↔b<m by omega]
noncomputable def Br (h:A7) (k:Nat):Nat:=((R6 h.Tree h.Tree.n).g k).toNat
theorem Ah1 {h:A7}{k:Nat}(hk:k<(R6 h.Tree h.Tree.n).n):Br h k<h.Tree.n/\(R6 h.Tree h.Tree.n).g k=(Br h k:Int):=by obtain⟨v,h1,a⟩:=Wi h.Tree h.Tree.n k hk;unfold Br;rw[a,AS2];exact⟨h1,rfl⟩
theorem Ah2 {N:Nat}(i:3000000<=N){h:A7}(l:Z4 h)(d:BX N h){k:Nat}(hk:k<(R6 h.Tree h.Tree.n).n) :J8 N h ((R6 h.Tree h.Tree.n).g k)=some (N6 h (Br h k),0)/\Hk N h ((R6 h.Tree h.Tree.n).g k)=some (N6 h (Br h k),0)/\(N6 h (Br h k)).n<=64 /\
  ∀j,j<(N6 h (Br h k)).n->0<=(N6 h (Br h k)).g j/\(N6 h (Br h k)).g j<h.Laws.n:=by
 obtain⟨h1,q⟩:=Ah1 hk;obtain⟨s,e,a,b,c⟩:=Rs i l (Br h k:Int);have f:(N6 h (Br h k)).n<=64:=Nat.not_lt.1 fun g=>d.long ⟨Br h k,by have:=d.on;omega,g⟩;rcases c with⟨rfl,_,_,_,rfl⟩ | ⟨g1,g2⟩
 ·rw[AS2]at a b;rw[q];exact⟨a,b,f,Rt d _ _ (AS8 _) h1⟩
 ·exfalso;unfold J8 at a;rw[Co i l,hres_zero.2 d,AS4,if_neg (by decide),P0,AS4,if_neg (by simp;omega)]at a;cases hw:(O6 N h.Tree (Br h k:Int))with
  |none=>rw[hw]at a;cases a
  |some w=>have r:=d.tree.2.1;have m:=Rr i d.tree (v:=Br h k) h1;have o:=JG l (Uh h.Tree (Br h k)) (Sl.nil:Sl Int) (fun x hx=>by have:=NN d.tree _ _ (AS8 _) h1 x hx;have:=d.on;omega) (by have:=LM d.tree _ _ (AS8 _) h1;show 0+_<=_;omega);unfold O6 at a;rw[AS4]at a;replace a:(H6 N (Br h k:Int) h.Tree).bind _=_:=a;rw[m,AS4,o]at a;cases a;exact g1 rfl
end Go.AM
namespace Go.AM
open Go.Proofs
theorem Fc (g:Nat->Int×Int)(n:Nat):NT g (n+1)=NT g n++Th (g n) 4:=by unfold NT;rw[AX3,List.flatMap_append];simp
theorem Ah3 (s:Int×Int):(Th s 4).length=8:=rfl
theorem Fd (g:Nat->Int×Int):∀n,(NT g n).length=8*n
 |0=>rfl
 |n+1=>by rw[Fc,AT8,Fd g n,Ah3];omega
theorem Ah4 {a b:Nat}(ha:a<4294967296)(hb:b<4294967296)(h:∀i,i<4->byB (a:Int) i=byB (b:Int) i):a=b:=by
 have key:∀(m i:Nat),2 ^ (8*i)=m->i<4->((a:Int) / (m:Int) % 256).toNat % 256=((b:Int) / (m:Int) % 256).toNat % 256:=fun m i hm c=>by
  have:=congrArg UInt8.toNat (h i c)
  unfold byB at this;rw[Bb5,Bb5,show ((2:Int) ^ (8*i))=(m:Int) by rw[<- hm];norm_cast]at this;exact this
 have d:=key 1 0 rfl (by omega);have h1:=key 256 1 rfl (by omega);have f:=key 65536 2 rfl (by omega);have g:=key 16777216 3 rfl (by omega);omega
theorem As6 {s t:Sound}(hs:vS s)(ht:vS t)(h:Th (s.Plus,s.Minus) 4=Th (t.Plus,t.Minus) 4):s=t:=by
 obtain⟨p,m,rfl,_⟩:=hs;obtain⟨p',m',rfl,_⟩:=ht;have h:[byB (p.toNat:Int) 0,byB (m.toNat:Int) 0,byB (p.toNat:Int) 1,byB (m.toNat:Int) 1,byB (p.toNat:Int) 2,byB (m.toNat:Int) 2,byB (p.toNat:Int) 3,byB (m.toNat:Int) 3]=[byB (p'.toNat:Int) 0,byB (m'.toNat:Int) 0,byB (p'.toNat:Int) 1,byB (m'.toNat:Int) 1,byB (p'.toNat:Int) 2,byB (m'.toNat:Int) 2,byB (p'.toNat:Int) 3,byB (m'.toNat:Int) 3]:=h;simp only[AZ8]at h;obtain⟨a0,b0,a1,b1,a2,b2,a3,b3,_⟩:=h;have e1:p=p':=AU4 (Ah4 p.isLt p'.isLt fun i a=>match i,a with
  |0,_=>a0
  |1,_=>a1
  |2,_=>a2
  |3,_=>a3)
 have e2:m=m':=AU4 (Ah4 m.isLt m'.isLt fun i a=>match i,a with
  |0,_=>b0
  |1,_=>b1
  |2,_=>b2
  |3,_=>b3)
 rw[e1,e2]
theorem Xt {f g:Nat->Sound}:∀n,(∀i,i<n->vS (f i))->(∀i,i<n->vS (g i))->NT (fun i=>((f i).Plus,(f i).Minus)) n=NT (fun i=>((g i).Plus,(g i).Minus)) n->∀i,i<n->f i=g i
 |0,_,_,_,i,hi=>absurd hi (by omega)
 |n+1,hf,hg,h,i,hi=>by
  rw[Fc,Fc]at h;obtain⟨h1,a⟩:=List.append_inj h (by rw[Fd,Fd]);by_cases e:i=n
  ·subst e;exact As6 (hf _ hi) (hg _ hi) a
  ·exact Xt n (fun j b=>hf j (by omega)) (fun j b=>hg j (by omega)) h1 i (by omega)
theorem Ah5 {v u:Sl Sound}(a:wOk v)(b:wOk u):Jm v=Jm u↔SE v u:=by
 constructor
 ·intro h;have hn:v.n=u.n:=by
   have:=congrArg List.length h
   unfold Jm at this;rw[Fd,Fd]at this;omega
  refine⟨hn,?_⟩;unfold Jm at h;rw[<- hn]at h;exact Xt v.n a.2 (fun i c=>b.2 i (by omega)) h
 ·rintro⟨hn,h⟩;unfold Jm;rw[<- hn]
  have:∀n,n<=v.n->NT (fun i=>((v.g i).Plus,(v.g i).Minus)) n=NT (fun i=>((u.g i).Plus,(u.g i).Minus)) n:=by
   intro n
   induction n with
   |zero=>intro _;rfl
   |succ n ih=>intro d;rw[Fc,Fc,ih (by omega),h n (by omega)]
  exact this v.n (AS8 _)
def AR9 (v:Sl Sound)(e:Int):Str:=if e=0 then Jm v else [45]
theorem Xu (v:Sl Sound):Jm v≠[45]:=fun h=>by
 have:=congrArg List.length h
 unfold Jm at this;rw[Fd]at this;simp at this;omega
def AH4 (v:Sl Sound)(e:Int):Prop:=(e=0/\wOk v) \/ (v=(Sl.nil:Sl Sound)/\e=11)
theorem As7 {v u:Sl Sound}{e f:Int}(a:AH4 v e)(b:AH4 u f):AR9 v e=AR9 u f↔e=f/\SE v u:=by
 unfold AR9;rcases a with⟨rfl,a⟩ | ⟨rfl,rfl⟩<;>rcases b with⟨rfl,b⟩ | ⟨rfl,rfl⟩
 ·rw[if_pos rfl,if_pos rfl,Ah5 a b];simp
 ·rw[if_pos rfl,if_neg (by decide)];exact⟨fun h=>absurd h (Xu v),fun h=>absurd h.1 (by decide)⟩
 ·rw[if_neg (by decide),if_pos rfl];exact⟨fun h=>absurd h.symm (Xu u),fun h=>absurd h.1 (by decide)⟩
 ·rw[if_neg (by decide)];exact⟨fun _=>⟨rfl,SE.refl _⟩,fun _=>rfl⟩
def F7 (x:Nat->Str)(k:Nat):Bool:=(List.range k).all fun j=>decide (x j≠x k)
def Ey (x:Nat->Str)(q:Nat):Nat->Bool:=fun j=>decide (x j=x q)
def Iy (x:Nat->Str)(K m:Nat):List Int:=((List.range K).filter (F7 x)).map fun q=>U (RE (Ey x q) m)
theorem firstK_iff {x:Nat->Str}{k:Nat}:F7 x k=true ↔ ∀j,j<k->x j≠x k:=by unfold F7;rw[AU1];simp only[AX4,decide_eq_true_eq]
theorem JI (x:Nat->Str):∀(m k:Nat),k<=m->∃q,q<=k/\F7 x q=true/\x q=x k
 |0,k,h=>⟨k,AS8 _,firstK_iff.2 fun j a=>absurd a (by omega),rfl⟩
 |m+1,k,h=>by
  by_cases e:F7 x k=true
  ·exact⟨k,AS8 _,e,rfl⟩
  ·have:¬ ∀j,j<k->x j≠x k:=fun g=>e (firstK_iff.2 g)
   have:∃j,j<k/\x j=x k:=AV1 fun g=>this fun j a b=>g ⟨j,a,b⟩
   obtain⟨j,a,b⟩:=this;obtain⟨q,q1,q2,q3⟩:=JI x m j (by omega);exact⟨q,by omega,q2,q3.trans b⟩
theorem PT {x:Nat->Str}{p q:Nat}(hp:F7 x p=true)(a:F7 x q=true)(h:x p=x q):p=q:=by
 rcases Bf3 p q with g|g|g
 ·exact absurd h (firstK_iff.1 a p g)
 ·exact g
 ·exact absurd h.symm (firstK_iff.1 hp q g)
theorem Wk (p:Nat->Bool){a:Nat}:∀{b:Nat},a<=b->DT p a<=DT p b
 |0,h=>by obtain rfl:a=0:=(by omega);exact AS8 _
 |b+1,h=>by
  by_cases e:a=b+1
  ·subst e;exact AS8 _
  ·have:=Wk p (a:=a) (b:=b) (by omega)
   rw[DN];omega
theorem GW {p:Nat->Bool}{q m:Nat}(c:p q=true)(h:q<m):DT p q<DT p m:=by
 have:=Wk p (a:=q+1) (b:=m) h
 rw[DN,if_pos c]at this;omega
theorem LN {p:Nat->Bool}{a b:Nat}(ha:p a=true)(hb:p b=true)(h:DT p a=DT p b):a=b:=by
 rcases Bf3 a b with g|g|g
 ·have:=GW ha g;omega
 ·exact g
 ·have:=GW hb g;omega
theorem Ax9 {p:Nat->Bool}{f g:Nat->Int}:∀K,(∀q,q<K->p q=true->g (DT p q)=f q)->(List.range (DT p K)).map g=((List.range K).filter p).map f
 |0,_=>rfl
 |K+1,h=>by
  have ih:=Ax9 K fun q a=>h q (by omega);rw[DN,AX3 (n:=K),Bh3,AY7,<- ih];by_cases e:p K=true
  ·rw[if_pos e,AX3,AY7];simp[e,h K (by omega) e]
  ·rw[if_neg e];simp[e]
theorem TU {M:Nat->Bool}:∀{k:Nat},(∀j,j<k->M j=false)->RE M k=0#64
 |0,_=>rfl
 |k+1,h=>by unfold RE OM;rw[h k (by omega),if_neg (by decide),TU fun j a=>h j (by omega)]
noncomputable def AH5 (N:Nat) (h:A7) (k:Nat):Sl Law:=((K0 N h ((R6 h.Tree h.Tree.n).g k)).getD (Sl.nil,0)).1
noncomputable def drv (N:Nat) (h:A7) (w:Sl Sound) (k:Nat):Sl Sound×Int:=(E8 N (AH5 N h k) w).getD (Sl.nil,0)
noncomputable def Ui (N:Nat) (h:A7) (w:Sl Sound) (k:Nat):Str:=AR9 (drv N h w k).1 (drv N h w k).2
theorem As8 {N:Nat}{s t:Sl Law}(h:LS s t)(a:Da N s):Da N t:=lawsE_zero.1 (Wb h (lawsE_zero.2 a))
theorem LS.symm' {s t:Sl Law}(h:LS s t):LS t s:=⟨h.1.symm,fun i a=>(h.2 i (by rw[h.1];exact a)).symm⟩
theorem NO {N:Nat}(o:3000000<=N){h:A7}(t:Z4 h)(d:BX N h){k:Nat}(hk:k<(R6 h.Tree h.Tree.n).n) :K0 N h ((R6 h.Tree h.Tree.n).g k)=some (AH5 N h k,0)/\∀w,wOk w->E8 N (AH5 N h k) w=some (drv N h w k)/\AH4 (drv N h w k).1 (drv N h w k).2 /\
  ∃r,LJ N h w ((R6 h.Tree h.Tree.n).g k)=some r/\SE (drv N h w k).1 r.1/\r.2=(drv N h w k).2:=by
 obtain⟨hv,u⟩:=Ah1 hk;obtain⟨la,_,x,j⟩:=Ah2 o t d hk;obtain⟨s,s',e,h1,z,y,h4⟩:=Xr o t ((R6 h.Tree h.Tree.n).g k);obtain⟨p,p1,p2,p3⟩:=Ru o t d (l:=N6 h (Br h k)) (by omega) j;have he:e=0:=by unfold K0 at h1;rw[la,AS4,p1]at h1;cases h1;rfl
 subst he;have hs:AH5 N h k=s:=by unfold AH5;rw[h1];rfl
 rw[hs];refine⟨h1,fun w hw=>?_⟩;rcases h4 with⟨_,_,_,_,q⟩ | ⟨q,_⟩
 case inr=>exact absurd rfl q
 rw[u,AS2]at q;have i1:DQ (Kr h (N6 h (Br h k))):=Rw t j;have o1:Da N (Kr h (N6 h (Br h k))):=Rx d x j;have ls:LS (Kr h (N6 h (Br h k))) s:=by
  refine⟨q.1.symm.trans y.1,fun i c=>?_⟩;have f : i<s'.n:=by rw[q.1];exact c
  have b:=y.2 i f
  rwa [q.2 i f]at b
 have i2:=Rp ls i1;have o2:=As8 ls o1;obtain⟨r,r',d1,d2,d3,d4,d5⟩:=PS o i2 y.symm' (SE.refl w) fun i c=>(hw.2 i c).ok;have hd:drv N h w k=r:=by unfold drv;rw[hs,d1];rfl
 rw[hd];refine⟨d1,?_,r', ?_,d3,d4.symm⟩
 ·rcases Ix o i2 o2 hw with⟨v,_,a,b⟩ | ⟨_,a⟩
  ·rw[a]at d1;cases d1;exact .inl ⟨rfl,b⟩
  ·rw[a]at d1;cases d1;exact .inr ⟨rfl,rfl⟩
 ·unfold LJ Kk;obtain⟨b,b1,hb⟩:=EX (N:=N) (w:=w) (by omega) fun i c=>(hw.2 i c).ok;rw[JF o t,hres_zero.2 d,AS4,if_neg (by decide),b1,(Z2 hb).2 hw];have m:¬(!((decide (0<=(R6 h.Tree h.Tree.n).g k))&&(decide ((R6 h.Tree h.Tree.n).g k<(h.Tree.n:Int)))))=true:=by rw[u];simp;omega
  simp only[AS4];rw[if_neg (by decide),EV,AS4,if_neg m];unfold LI;rw[z,AS4,d2];rfl
end Go.AM
namespace Go.AM
open Go.Proofs
theorem optNX {α R:Type}{Q:R->Prop}{o:Option α}{a:Option R}{f : α -> Option R}(h:o=none)(b:∃r,a=some r/\Q r):∃r,An2 o a f=some r/\Q r:=by subst h;exact b
theorem optSX {α R:Type}{Q:R->Prop}{o:Option α}{a:Option R}{f : α -> Option R}{v : α}(h:o=some v)(b:∃r,f v=some r/\Q r):∃r,An2 o a f=some r/\Q r:=by subst h;exact b
def Zk (S:Nat->List Int):Nat->Option (List Int)
 |0=>some []
 |i+1=>(Zk S i).bind fun A=>if 64<(if 1<(S i).length then A++S i else A).length then none else some (if 1<(S i).length then A++S i else A)
theorem TV {S:Nat->List Int}{i:Nat}:∀{n:Nat},i<=n->Zk S i=none->Zk S n=none
 |0,h,e=>by obtain rfl:i=0:=(by omega);exact e
 |n+1,h,e=>by
  by_cases g:i=n+1
  ·subst g;exact e
  ·show (Zk S n).bind _=none;rw[TV (n:=n) (by omega) e];rfl
theorem As9 {S:Nat->List Int}:∀{i:Nat}{A:List Int},Zk S i=some A->A.length<=64
 |0,A,h=>by cases h;exact Ba9 _
 |i+1,A,h=>by
  replace h:(Zk S i).bind _=some A:=h;cases a:Zk S i with
  |none=>rw[a]at h;cases h
  |some B=>
   rw[a,AS4]at h;generalize (if 1<(S i).length then B++S i else B)=C at h;by_cases g:64<C.length
   ·rw[if_pos g]at h;cases h
   ·rw[if_neg g]at h;cases h;omega
def AQ4 (K:Nat)(o:Option (List Int))(L:Int)(H:List Int)(e:Int):Prop:=match o with
 |none=>L=0/\H=[]/\e=12
 |some A=>L=(K:Int)/\H=A/\e=0
theorem TW (x:Nat->Str)(K m:Nat):(Iy x K m).length<=K:=by unfold Iy;rw[AX2];exact AX1 (Bj6 _ _) (by simp)
noncomputable def TX (N:Nat) (h:A7) (l:Sl (Sl Sound)) (K i:Nat):List Int:=Iy (Ui N h (l.g i)) K K
theorem Za {N:Nat}(hN:3000000<=N){h:A7}(hi:Z4 h)(a2:BX N h){ls:Sl Int}(a3:ls=R6 h.Tree h.Tree.n)(hK:ls.n<=32)(hlv:P1 N h=some (ls,0))
 {l:Sl (Sl Sound)}(hn:l.n<=256) (hw:∀i,i<l.n->wOk (l.g i)) :
 ∃r:A3×Int,K3 N h l=some r/\AQ4 ls.n (Zk (TX N h l ls.n) l.n) r.1.Langs r.1.Has.toList r.2:=by
 unfold K3;refine B1 (Co hN hi) (ifF (by rw[hres_zero.2 a2];decide) (ifF (by simp;omega) ?_));refine BP (fun i x1=>x1=(i:Int)) l.n _ (by omega) rfl ?_;rintro self i x1 hii rfl hs;by_cases o:i<l.n
 ·obtain⟨e,e1,he⟩:=DP (N:=N) (w:=l.g i) (by omega) fun j hj=>((hw i o).2 j hj).ok;have h0:=(Z2 he).2 (hw i o);exact ifT (by simp;omega) (ifT (by omega) (B1 (by rw[AS2];exact e1) (ifF (by simp[h0]) (hs o _ (B8 (by omega))))))
 refine ifF (by simp;omega) (B1 hlv (ifF (by show ¬((0:Int) != 0)=true;decide) ?_));refine P3 (fun k (x2:Sl (Sl Law)) x3=>x3=(k:Int)/\x2.n=k/\∀j,j<k->x2.g j=AH5 N h j) ls.n _ (by omega) ⟨rfl,rfl,fun j hj=>absurd hj (by omega)⟩ ?_;rintro self2 k x2 x3 hk ⟨rfl,hxn,hx⟩ hs2;by_cases hkl:k<ls.n
 ·obtain⟨a,_⟩:=NO hN hi a2 (k:=k) (by rw[<- a3];exact hkl);rw[<- a3]at a;refine ifT (by simp;omega) (ifT (by show ((0:Int)<=(k:Int)/\(k:Int)<(ls.n:Int))/\(k:Int).toNat<ls.n;omega) ?_);rw[AS2];refine B1 a (ifF (by show ¬((0:Int) != 0)=true;decide) (ifT (by show (x2.n+1)*24<=_/\x2.n+1<=_;omega) (hs2 hkl _ _ ⟨B8 (by omega),by show x2.n+1=_;omega,fun j hj=>?_⟩)));show (if j<x2.n then x2.g j else AH5 N h k)=_;by_cases e:j<x2.n
  ·rw[if_pos e];exact hx j (by omega)
  ·rw[if_neg e,show j=k by omega]
 obtain rfl:k=ls.n:=by omega
 refine ifF (by simp) ?_;refine P3 (fun i (x7:Sl Int) x8=>x8=(i:Int)/\Zk (TX N h l ls.n) i=some x7.toList) l.n _ (by omega) ⟨rfl,rfl⟩ ?_;rintro self5 m x7 x8 hm ⟨rfl,t⟩ hs5;by_cases a4:m<l.n
 ·refine ifT (by simp;omega) (ifT (by omega) ?_);rw[AS2];have hwm:=hw m a4;have hS:TX N h l ls.n m=Iy (Ui N h (l.g m)) ls.n ls.n:=rfl;have hd:∀k,k<ls.n->E8 N (x2.g k) (l.g m)=some (drv N h (l.g m) k)/\CA N (drv N h (l.g m) k).1 (drv N h (l.g m) k).2=some (Ui N h (l.g m) k):=fun k hk=>by
   obtain⟨_,b⟩:=NO hN hi a2 (k:=k) (by rw[<- a3];exact hk);obtain⟨b1,b2,_⟩:=b _ hwm;rw[hx k hk];refine⟨b1,?_⟩;unfold CA;rw[if_pos]
   ·rfl
   ·rcases b2 with⟨_,g⟩ | ⟨g,_⟩
    ·have:=g.1;omega
    ·rw[g];show 0*8<=_;omega
  generalize Ui N h (l.g m)=x at hd hS;refine Rk (fun k (v:List (Str×Int)) (c:Sl Int) x14=>x14=(k:Int)/\c.n=DT (F7 x) k/\(∀q,q<k->F7 x q=true->c.g (DT (F7 x) q)=U (RE (Ey x q) k)) /\
   (∀q,q<k->F7 x q=true->BS eqS (x q) v=some (DT (F7 x) q:Int))/\(∀s,(∀q,q<k->x q≠s)->BS eqS s v=none)) ls.n _ (by omega)
   ⟨rfl,rfl,fun q y=>absurd y (by omega),fun q y=>absurd y (by omega),fun s _=>rfl⟩ ?_
  rintro self6 k v c x14 hk' ⟨rfl,c1,c2,c3,c4⟩ hs6;have hcl:=AE6 (F7 x) k;by_cases u:k<ls.n
  ·obtain⟨d1,d2⟩:=hd k u;refine ifT (by simp;omega) (ifT (by rw[hxn];omega) ?_);rw[AS2];refine B1 d1 (B1 d2 ?_);by_cases z:F7 x k=true
   ·have a5:BS eqS (x k) v=none:=c4 _ (firstK_iff.1 z);refine optNX a5 ?_;refine ifT (by show (c.n+1)*8<=_/\c.n+1<=_;omega) (ifT (by show (((((0:Int)<=(c.n:Int)/\(c.n:Int)<((c.n+1:Nat):Int))/\(c.n:Int).toNat<c.n+1)/\(0:Int)<=(k:Int))/\((0:Int)<=(c.n:Int)/\(c.n:Int)<((c.n+1:Nat):Int)))/\(c.n:Int).toNat<c.n+1;omega) (hs6 u _ _ _ ⟨B8 (by omega),?_,fun q y f=>?_,fun q y f=>?_,fun s a0=>?_⟩))
    ·show c.n+1=_;rw[DN,if_pos z,c1]
    ·show (if DT (F7 x) q=(c.n:Int).toNat then C9 .or .u64 ((c.push 0).g (c.n:Int).toNat) (shI .shl .u64 1 (k:Int))else (c.push 0).g (DT (F7 x) q))=_;rw[AS2];by_cases e:q=k
     ·subst e;rw[if_pos c1.symm];show C9 .or .u64 (if c.n<c.n then c.g c.n else 0) _=_;rw[if_neg (by omega),Ng _ (by omega),show (0:Int)=U 0#64 from rfl,AD8];show _=U (OM (RE (Ey x q) q) q (Ey x q q));rw[TU (M:=Ey x q) fun j hj=>decide_eq_false (firstK_iff.1 z j hj)];unfold OM Ey;rw[if_pos (by simp)]
     ·have o:=GW f (show q<k by omega);rw[if_neg (by omega)];show (if DT (F7 x) q<c.n then c.g (DT (F7 x) q)else 0)=_;rw[if_pos (by omega),c2 q (by omega) f];show _=U (OM (RE (Ey x q) k) k (Ey x q k));unfold OM Ey;rw[if_neg];simp only[decide_eq_true_eq];exact fun g=>firstK_iff.1 z q (by omega) g.symm
    ·rw[Fa];by_cases e:q=k
     ·subst e;rw[if_pos rfl,c1]
     ·rw[if_neg (firstK_iff.1 z q (by omega))];exact c3 q (by omega) f
    ·rw[Fa,if_neg (fun g=>a0 k (by omega) g.symm)];exact c4 s fun q y=>a0 q (by omega)
   ·obtain⟨p,p1,p2,p3⟩:=JI x k k (AS8 _);have hpk:p<k:=by
     rcases Bl7 p k with g|g
     ·exact g
     ·obtain rfl:p=k:=by omega
      exact absurd p2 z
    have hlk:=c3 p hpk p2;rw[p3]at hlk;have o:=GW p2 hpk;refine optSX hlk ?_;refine ifT (by omega) (hs6 u _ _ _ ⟨B8 (by omega),?_,fun q y f=>?_,fun q y f=>?_,fun s a0=>c4 s fun q y=>a0 q (by omega)⟩)
    ·show c.n=_;rw[DN,if_neg z,c1];rfl
    ·have a1:q<k:=by
      rcases Bl7 q k with g|g
      ·exact g
      ·obtain rfl:q=k:=by omega
       exact absurd f z
     show (if DT (F7 x) q=(DT (F7 x) p:Int).toNat then C9 .or .u64 (c.g (DT (F7 x) p:Int).toNat) (shI .shl .u64 1 (k:Int))else c.g (DT (F7 x) q))=U (OM (RE (Ey x q) k) k (Ey x q k));rw[AS2];by_cases e:q=p
     ·subst e;rw[if_pos rfl,c2 q a1 f,Ng _ (by omega),AD8];unfold OM Ey;rw[if_pos (by simp[p3])]
     ·rw[if_neg fun g=>e (LN f p2 g),c2 q a1 f];unfold OM Ey;rw[if_neg];simp only[decide_eq_true_eq];exact fun g=>e (PT f p2 (g.symm.trans p3.symm))
    ·have a1:q<k:=by
      rcases Bl7 q k with g|g
      ·exact g
      ·obtain rfl:q=k:=by omega
       exact absurd f z
     exact c3 q a1 f
  ·obtain rfl:k=ls.n:=by omega
   have hT:c.toList=TX N h l ls.n m:=by rw[hS];unfold Sl.toList Iy;rw[c1];exact Ax9 ls.n c2
   have hlen:(TX N h l ls.n m).length=c.n:=by rw[<- hT,HU]
   have h7:x7.n<=64:=by rw[<- HU x7];exact As9 t
   have d:Zk (TX N h l ls.n) (m+1)=if 64<(if 1<c.n then x7.toList++c.toList else x7.toList).length then none else some (if 1<c.n then x7.toList++c.toList else x7.toList):=by show (Zk _ m).bind _=_;rw[t,AS4,hlen,hT]
   refine ifF (by simp) ?_;by_cases h1:1<c.n
   ·simp only[if_pos h1]at d;have hl2:(x7.toList++c.toList).length=x7.n+c.n:=by rw[AT8,HU,HU]
    refine ifT (by simp;omega) (ifT (by omega) ?_);by_cases h64:64<x7.n+c.n
    ·rw[if_pos (by rw[hl2];exact h64)]at d;refine ifT (by show decide ((64:Int)<((x7.n+c.n:Nat):Int))=true;simp;omega) ⟨_,rfl,?_⟩;rw[TV (show m+1<=l.n by omega) d];exact⟨rfl,rfl,rfl⟩
    ·rw[if_neg (by rw[hl2];exact h64)]at d;refine ifF (by show ¬decide ((64:Int)<((x7.n+c.n:Nat):Int))=true;simp;omega) (hs5 a4 _ _ ⟨B8 (by omega),?_⟩);rw[d,Ax8]
   ·simp only[if_neg h1]at d;rw[if_neg (by rw[HU];omega)]at d;refine ifF (by simp;omega) (ifF (by simp;omega) (hs5 a4 _ _ ⟨B8 (by omega),d⟩))
 ·obtain rfl:m=l.n:=by omega
  refine ifF (by simp) ⟨_,rfl,?_⟩;rw[t];exact⟨rfl,rfl,rfl⟩
end Go.AM
namespace Go.AM
open Go.Proofs
end Go.AM
namespace Go.AM
open IntKind (wrap)
open Go.Proofs
structure Rz (x:Hq):Prop where
 par:∀i,i<x.Parents.n->∃k:Nat,x.Parents.g i=(k:Int)/\k<256
 laws:DQ x.Laws
 on:∀i,i<x.On.n->∃k:Nat,x.On.g i=(k:Int)/\k<65536
theorem Xv {n:Nat}(h:n<256):IntKind.u8.wrap (n:Int)=n:=by have h1:((n:Int) % (2 ^ 8:Int))=n:=Bc1 (by omega) (by omega);unfold wrap;simp only[IntKind.bits,IntKind.signed,h1,Bb8,AT0,if_false]
def Ah6 (a j:Nat):Str:=[UInt8.ofNat (a+j)]
theorem Ah7 {a j:Nat}(h:a+j<256):[UInt8.ofNat (wrap .u8 ((a:Int)+(wrap .u8 (j:Int)))).toNat]=Ah6 a j:=by rw[Xv (by omega),<- Int.natCast_add,Xv h,AS2];rfl
theorem Xw {a i j:Nat}(b:a+i<256)(c:a+j<256)(h:Ah6 a i=Ah6 a j):i=j:=by
 have:=congrArg UInt8.toNat (Bl2 h).1
 rw[Bb5,Bb5]at this;omega
theorem Ah8:∀j:Fin 10,LA (Ah6 97 j.val)=true:=by decide +kernel
def At0 (x:Hq):Nat->H9
 |0=>⟨-1,[114]⟩
 |j+1=>⟨(((x.Parents.g j).toNat % (j+1):Nat):Int),Ah6 97 (j+1)⟩
def AH6 (x:Hq)(j:Nat):Law:=⟨Ah6 65 j,(x.Laws.g j).Left,(x.Laws.g j).Right,(x.Laws.g j).If,(x.Laws.g j).Out,(x.Laws.g j).Mode⟩
theorem Ah9 {x:Hq}(hx:Rz x){j:Nat}(d:j<x.Laws.n):JA (AH6 x j):=by obtain⟨⟨a,b,c⟩,l,f,g,i⟩:=hx.laws j d;exact⟨⟨a,b,c⟩,by show 1<_;omega,f,g,i⟩
theorem At1 {x:Hq}{t:Sl H9}(hn:t.n<=10)(ht:∀j,j<t.n->t.g j=At0 x j){v:Nat}(c:v<t.n):As1 t v:=by
 have a:∀j,j<t.n->0<j->(At0 x j).Name=Ah6 97 j:=fun j _ d=>by obtain⟨k,rfl⟩:∃k,j=k+1:=⟨j-1,by omega⟩;rfl
 have b:∀j,j<10->([114]:Str)≠Ah6 97 j:=fun j f h=>by
  have:=congrArg UInt8.toNat (Bl2 h).1
  rw[Bb5]at this;have e:(114:UInt8).toNat=114:=rfl;omega
 refine⟨fun h=>by rw[ht 0 (by omega)];rfl,fun d=>?_,?_,fun u i=>?_⟩
 ·obtain⟨k,rfl⟩:∃k,v=k+1:=⟨v-1,by omega⟩;rw[ht _ c];show 0<=(((x.Parents.g k).toNat % (k+1):Nat):Int)/\(((x.Parents.g k).toNat % (k+1):Nat):Int)<((k+1:Nat):Int)
  have:=Bl3 (x.Parents.g k).toNat (show 0<k+1 by omega)
  omega
 ·rw[ht _ c];by_cases d:v=0
  ·subst d;show LA [114]=true;decide +kernel
  ·rw[a v c (by omega)];exact Ah8 ⟨v,by omega⟩
 ·rw[ht _ c,ht u (by omega),a v c (by omega)];by_cases d:u=0
  ·subst d;exact b v (by omega)
  ·rw[a u (by omega) (by omega)];exact fun h=>by have:=Xw (by omega) (by omega) h;omega
theorem PU {h:A7}(ht:Aq h.Tree)(a:∀v,v<h.Tree.n->(h.On.g v).n<=5):∀(m v:Nat),v<=m->v<h.Tree.n->(N6 h v).n<=(v+1)*5
 |m,v,hm,hv=>by
  have:=a v hv
  rcases T0 ht hv with⟨_,e⟩ | ⟨p,hp,e⟩
  ·rw[Bq (by omega)];show 0+(h.On.g v).n<=_;omega
  ·rw[Ei e hp];show (N6 h p).n+(h.On.g v).n<=_
   match m with
   |0=>omega
   |m+1=>
    have:=PU ht a m p (by omega) (by omega)
    omega
structure Ai0 (N:Nat) (x:Hq) (h:A7):Prop where
 hist:BX N h
 n:h.Tree.n<=10
 node:∀j,j<h.Tree.n->h.Tree.g j=At0 x j
 laws:h.Laws.n<=6
 law:∀j,j<h.Laws.n->h.Laws.g j=AH6 x j/\j<x.Laws.n
 five:∀v,v<h.Tree.n->(h.On.g v).n<=5
theorem At2 {N:Nat}(hN:3000000<=N){x:Hq}(hx:Rz x) :∃r:A7×Bool,V2 N x=some r/\Z4 r.1/\(r.2=true->Ai0 N x r.1):=by
 have t:Z4 (⟨(Sl.nil:Sl H9),(Sl.nil:Sl Law),(Sl.nil:Sl (Sl Int))⟩:A7):=
  ⟨fun i hi=>absurd hi (AW0 i),fun i hi=>absurd hi (AW0 i),by show 0<_;omega,fun i hi=>absurd hi (AW0 i)⟩
 unfold V2;refine P3 (fun i (x1:Sl H9) x2=>x2=((i+1:Nat):Int)/\x1.n=i+1/\∀j,j<i+1->x1.g j=At0 x j) 9 _ (by omega) ⟨rfl,rfl,fun j s=>by obtain rfl:j=0:=(by omega);rfl⟩ ?_;rintro self i x1 x2 hi ⟨rfl,hn1,h1⟩ hs;by_cases hlt:i+1<=x.Parents.n/\i+1<10
 ·obtain⟨k,hk,hk2⟩:=hx.par i (by omega);have e1:wrap .i64 (((i+1:Nat):Int)-1)=(i:Int):=by rw[AE4 (by omega) (by omega)];rfl
  refine ifT (by simp;omega) ?_;rw[e1,AS2,hk,E1 (n:=(k:Int)) (by omega) (by omega)];refine ifT ⟨⟨by omega,by omega⟩,by omega⟩ (ifT (by show (x1.n+1)*24<=_/\x1.n+1<=_;omega) (hs (by omega) _ _ ⟨B8 (by omega),by show x1.n+1=_;omega,fun j s=>?_⟩));show (if j<x1.n then x1.g j else _)=_;by_cases e:j<x1.n
  ·rw[if_pos e];exact h1 j (by omega)
  ·obtain rfl:j=i+1:=by omega
   rw[if_neg e];have e2:[UInt8.ofNat (wrap .u8 (97+(wrap .u8 ((i+1:Nat):Int)))).toNat]=Ah6 97 (i+1):=Ah7 (a:=97) (by omega);rw[e2];show (⟨_,_⟩:H9)=⟨(((x.Parents.g i).toNat % (i+1):Nat):Int),Ah6 97 (i+1)⟩;rw[hk,AS2];rfl
 refine ifF (by simp;omega) ?_;clear hs;refine P3 (fun i (x4:Sl Law) x5=>x5=(i:Int)/\x4.n=i/\∀j,j<i->x4.g j=AH6 x j/\j<x.Laws.n/\chkAll N (AH6 x j)) 6 _ (by omega) ⟨rfl,rfl,fun j s=>absurd s (by omega)⟩ ?_;rintro self2 m x4 x5 hm ⟨rfl,hn4,h4⟩ hs2;by_cases hlt2:m<x.Laws.n/\m<6
 ·obtain⟨hml,hm6⟩:=hlt2;have e2:[UInt8.ofNat (wrap .u8 (65+(wrap .u8 (m:Int)))).toNat]=Ah6 65 m:=Ah7 (a:=65) (by omega);have hin:=Ah9 hx hml;refine ifT (by simp;omega) (ifT (by omega) ?_);rw[AS2,e2];obtain⟨b,hb,_⟩:=TT hN (⟨(Sl.nil:Sl H9),(Sl.of [AH6 x m]:Sl Law),(Sl.nil:Sl (Sl Int))⟩:A7);have hl:DM N (AH6 x m)=some b:=by unfold DM;rw[hb];rfl
  refine B1 hl (ltX ?_);cases b
  ·exact ifT rfl (ifT rfl ⟨_,rfl,t,fun h=>by cases h⟩)
  ·refine ifF (by decide) ?_;obtain⟨e,he,hE⟩:=PO hN hin;refine B1 he ?_;rcases hE with⟨rfl,hc⟩ | ⟨rfl,_⟩
   ·refine ifF (by decide) (ifT (by show (x4.n+1)*200<=_/\x4.n+1<=_;omega) (hs2 hm6 _ _ ⟨B8 (by omega),by show x4.n+1=_;omega,fun j s=>?_⟩));show (if j<x4.n then x4.g j else AH6 x m)=_/\_;by_cases e:j<x4.n
    ·rw[if_pos e];exact h4 j (by omega)
    ·obtain rfl:j=m:=by omega
     rw[if_neg e];exact⟨rfl,hml,hc⟩
   ·exact ifT (by decide) ⟨_,rfl,t,fun h=>by cases h⟩
 refine ifF (by simp;omega) ?_;clear hs2;have hL1:wrap .i64 ((x4.n:Int)+1)=((x4.n+1:Nat):Int):=B8 (by omega);rw[hL1];refine P3 (fun v (f:Sl (Sl Int)) x11=>x11=(v:Int)/\f.n=v/\∀u,u<v->(f.g u).n<=5/\∀j,j<(f.g u).n->0<=(f.g u).g j/\(f.g u).g j<x4.n) x1.n _ (by omega) ⟨rfl,rfl,fun j s=>absurd s (by omega)⟩ ?_;rintro self5 v f x11 w ⟨rfl,hn10,a1⟩ hs5;by_cases hvl:v<x1.n
 ·obtain⟨c,hc,hc2⟩:∃c:Nat,CK N x.On (v:Int)=some (c:Int)/\c<65536:=by
   unfold CK;by_cases h:v<x.On.n
   ·obtain⟨k,hk,hk2⟩:=hx.on v h;exact⟨k,by rw[if_pos (by simp;omega),if_pos (by omega),AS2,hk,E1 (by omega) (by omega)],hk2⟩
   ·exact⟨0,by rw[if_neg (by simp;omega)];rfl,by omega⟩
  refine ifT (by simp;omega) (B1 hc ?_);refine P3 (fun q (l:Sl Int) x15=>l.n=q/\(∃d:Nat,x15=(d:Int)/\d<65536)/\∀j,j<l.n->0<=l.g j/\l.g j<x4.n) 5 _ (by omega) ⟨rfl,⟨c,rfl,hc2⟩,fun j s=>absurd s (AW0 j)⟩ ?_;rintro self6 q l x15 hq ⟨hn14,⟨d,rfl,hd⟩,h14⟩ hs6;refine ifT (by omega) ?_;have em:(d:Int).tmod ((x4.n+1:Nat):Int)=((d % (x4.n+1):Nat):Int):=rfl;have ed:(d:Int).tdiv ((x4.n+1:Nat):Int)=((d / (x4.n+1):Nat):Int):=rfl;rw[em,ed];have hlt3:=Bl3 d (show 0<x4.n+1 by omega);have hle3:=Nat.div_le_self d (x4.n+1);generalize d / (x4.n+1)=d1 at hle3;generalize d % (x4.n+1)=m1 at hlt3;by_cases g:m1≠0/\q<5
  ·rw[AE4 (by omega) (by omega),E1 (n:=(d1:Int)) (by omega) (by omega)];refine ifT (by simp;omega) (ifT ⟨⟨by omega,by show (l.n+1)*8<=_;omega,by show l.n+1<=_;omega⟩,by omega⟩ (hs6 (by omega) _ _ ⟨by show l.n+1=_;omega,⟨_,rfl,by omega⟩,fun j s=>?_⟩));show 0<=(if j<l.n then l.g j else _)/\(if j<l.n then l.g j else _)<_;by_cases e:j<l.n
   ·rw[if_pos e];exact h14 j e
   ·rw[if_neg e];omega
  ·refine ifF (by simp;omega) (ifT (by show (f.n+1)*24<=_/\f.n+1<=_;omega) (hs5 hvl _ _ ⟨B8 (by omega),by show f.n+1=_;omega,fun u hu=>?_⟩));show (if u<f.n then f.g u else l).n<=5/\∀j,j<(if u<f.n then f.g u else l).n->0<=(if u<f.n then f.g u else l).g j/\(if u<f.n then f.g u else l).g j<_;by_cases e:u<f.n
   ·rw[if_pos e];exact a1 u (by omega)
   ·rw[if_neg e];exact⟨by omega,h14⟩
 obtain rfl:v=x1.n:=by omega
 refine ifF (by simp) ⟨_,rfl,?_,fun _=>?_⟩
 ·refine⟨fun i o=>?_,fun i o=>?_,by show f.n<_;omega,fun i o=>?_⟩
  ·have o:i<x4.n:=o;show JA (x4.g i);obtain⟨e,hil,_⟩:=h4 i (by omega);rw[e];exact Ah9 hx hil
  ·have o:i<x1.n:=o;show (x1.g i).Name.length<_;rw[h1 i (by omega)];cases i<;>(show 1<_;omega)
  ·have o:i<f.n:=o;show (f.g i).n<_
   have:=(a1 i (by omega)).1
   omega
 ·have y:Aq x1:=⟨by omega,by omega,fun v w=>At1 (by omega) (fun j s=>h1 j (by omega)) w⟩;have z:∀v,v<x1.n->(f.g v).n<=5:=fun v w=>(a1 v (by omega)).1;refine⟨⟨y,⟨by show x4.n<=64;omega,fun i o=>?_⟩,?_,by show f.n=x1.n;omega,?_,fun v w=>?_⟩,by show x1.n<=10;omega,fun j s=>h1 j (by have s:j<x1.n:=s;omega),by show x4.n<=6;omega,fun j s=>?_,fun v w=>z v w⟩
  ·have o:i<x4.n:=o;show chkAll N (x4.g i);obtain⟨e,_,hc⟩:=h4 i (by omega);rw[e];exact hc
  ·rintro⟨u,v,h1',h2',a2⟩;have h2' : v<x4.n:=h2';have a2 : (x4.g u).Name=(x4.g v).Name:=a2;rw[(h4 u (by omega)).1,(h4 v (by omega)).1]at a2
   have:=Xw (a:=65) (by omega) (by omega) a2
   omega
  ·rintro⟨v,w,a0⟩;have w:v<f.n:=w;have a0:64<(N6 (⟨x1,x4,f⟩:A7) v).n:=a0
   have:=PU (h:=(⟨x1,x4,f⟩:A7)) y z v v (AS8 _) (by show v<x1.n;omega)
   omega
  ·have w:v<f.n:=w;rintro⟨j,s,hb⟩;have s:j<(f.g v).n:=s;have hb:(f.g v).g j<0 \/ ((x4.n:Nat):Int)<=(f.g v).g j:=hb
   have:=(a1 v (by omega)).2 j s
   omega
  ·have s:j<x4.n:=s;exact⟨(h4 j (by omega)).1,(h4 j (by omega)).2.1⟩
end Go.AM
namespace Go.AM
open Go.Proofs
theorem PW (x:Nat->Str)(K m:Nat):Iy x (K+1) m=Iy x K m++if F7 x K then [U (RE (Ey x K) m)]else []:=by unfold Iy;rw[AX3,Bh3,AY7];by_cases e:F7 x K=true<;>simp[e]
theorem Z5 (x:Nat->Str)(m:Nat):∀K,(Iy x K m).length=DT (F7 x) K
 |0=>rfl
 |K+1=>by rw[PW,AT8,Z5 x m K,DN];split<;>rfl
theorem TY (x:Nat->Str)(m:Nat):∀(K p:Nat),p<K->F7 x p=true->(Iy x K m)[DT (F7 x) p]? = some (U (RE (Ey x p) m))
 |0,p,h,_=>absurd h (by omega)
 |K+1,p,h,hp=>by
  rw[PW];by_cases e:p=K
  ·subst e;rw[Bb2 (by rw[Z5];exact AS8 _),Z5,if_pos hp];simp
  ·have a:=GW hp (show p<K by omega);rw[AY1 (by rw[Z5];exact a)];exact TY x m K p (by omega) hp
theorem nthP (p:Nat->Bool):∀(K i:Nat),i<DT p K->∃q,q<K/\p q=true/\DT p q=i
 |0,i,h=>absurd h (by simp[DT,FL])
 |K+1,i,h=>by
  rw[DN]at h;by_cases e:i<DT p K
  ·obtain⟨q,h1,a⟩:=nthP p K i e;exact⟨q,by omega,a⟩
  ·by_cases hk:p K=true
   ·rw[if_pos hk]at h;exact⟨K,by omega,hk,by omega⟩
   ·rw[if_neg hk]at h;omega
theorem Ai1 {t:Sl H9}(ht:Aq t):0<(R6 t t.n).n:=by
 obtain⟨k,hk⟩:∃k,t.n=k+1:=⟨t.n-1,by have:=ht.1;omega⟩;have a:OL t k:=fun u h1 b c=>by
  have:=(ht.2.2 u b).2.1 h1
  omega
 rw[hk,JH a];exact Nat.succ_pos _
theorem Ai2 {N:Nat}{x y:Sl Sound}(a:x.n<N)(hs:x.n<10000000):∃b,E5 N x y=some b/\(b=true↔SE x y):=AH0 a hs
theorem AQ5 {N:Nat}(c:3000000<=N){h:A7}(d:Z4 h)(a:BX N h){w:Sl Sound}(hw:okA w){e:Int}(f:Ug w e)(g:e≠0)(v:Int):∃u,T4 N h w v=some (u,e):=by unfold T4 Y8;obtain⟨e',e1,b⟩:=DP (N:=N) (by omega) hw;obtain rfl:=GS f b;rw[Co c d,hres_zero.2 a,AS4,if_neg (by decide),e1];simp only[AS4];rw[if_pos (by simpa using g)];exact⟨_,rfl⟩
theorem AQ6 {N:Nat}(d:3000000<=N){h:A7}(f:Z4 h)(a:BX N h){w:Sl Sound}(hw:wOk w){k:Nat}(hk:k<(R6 h.Tree h.Tree.n).n) :∃r,T4 N h w ((R6 h.Tree h.Tree.n).g k)=some r/\SE r.1 (drv N h w k).1/\r.2=(drv N h w k).2:=by obtain⟨_,b⟩:=NO d f a hk;obtain⟨_,_,r2,c1,c2,c3⟩:=b w hw;obtain⟨r,r',a1,a2,a3,a4,_⟩:=AQ2 d f (SE.refl w) (fun i c=>(hw.2 i c).ok) ((R6 h.Tree h.Tree.n).g k);rw[c1]at a2;cases a2;exact⟨r,a1,a3.trans c2.symm,by rw[a4,c3]⟩
theorem Ai3 {N:Nat}(f:3000000<=N){h:A7}(g:Z4 h)(c:BX N h){w:Sl Sound}(hw:okA w){e:Int}(i:Ug w e)(j:e≠0):∃u,K3 N h (Sl.of [w]:Sl (Sl Sound))=some (u,e):=by
 suffices h:∃r,K3 N h (Sl.of [w]:Sl (Sl Sound))=some r/\r.2=e by obtain⟨r,a,b⟩:=h;exact⟨r.1,by rw[a,<- b]⟩
 unfold K3;refine B1 (Co f g) (ifF (by rw[hres_zero.2 c];decide) (ifF (by show ¬decide ((256:Int)<((1:Nat):Int))=true;decide) ?_));obtain⟨M,rfl⟩:∃M,N=M+1:=⟨N-1,by omega⟩;rw[AH];obtain⟨e',e1,d⟩:=DP (N:=M+1) (by omega) hw;obtain rfl:=GS i d;exact ifT (by show decide ((0:Int)<((1:Nat):Int))=true;decide) (ifT (by show (0:Int)<=0/\(0:Int)<((1:Nat):Int);omega) (B1 e1 (ifT (by simpa using j) ⟨_,rfl,rfl⟩)))
theorem Ai4 {N:Nat}(m:3000000<=N){h:A7}(o:Z4 h)(d:BX N h){ls:Sl Int}(f:ls=R6 h.Tree h.Tree.n)(q:ls.n<=32)(g:P1 N h=some (ls,0)){w:Sl Sound}(hw:wOk w) :∃t:A3,K3 N h (Sl.of [w]:Sl (Sl Sound))=some (t,0)/\t.Langs=(ls.n:Int)/\((t.Has.n=0/\DT (F7 (Ui N h w)) ls.n<=1) \/ (2<=t.Has.n/\t.Has.toList=Iy (Ui N h w) ls.n ls.n)):=by
 obtain⟨r,a,b⟩:=Za m o d f q g (l:=(Sl.of [w]:Sl (Sl Sound))) (by show 1<=256;omega) (fun i j=>by
  match i,j with
  |0,_=>exact hw)
 have hS:TX N h (Sl.of [w]:Sl (Sl Sound)) ls.n 0=Iy (Ui N h w) ls.n ls.n:=rfl;have hl:=Z5 (Ui N h w) ls.n ls.n;have hle:=TW (Ui N h w) ls.n ls.n;have c:Zk (TX N h (Sl.of [w]:Sl (Sl Sound)) ls.n) (Sl.of [w]:Sl (Sl Sound)).n=some (if 1<(Iy (Ui N h w) ls.n ls.n).length then Iy (Ui N h w) ls.n ls.n else []):=by
  show (some ([]:List Int)).bind _=_;rw[AS4,hS,List.nil_append,if_neg];split
  ·omega
  ·show ¬ 64<0;omega
 rw[c]at b;obtain⟨b1,b2,b3⟩:=b;refine⟨r.1,by rw[a,<- b3],b1,?_⟩;by_cases h1:1<(Iy (Ui N h w) ls.n ls.n).length
 ·rw[if_pos h1]at b2;exact .inr ⟨by rw[<- HU r.1.Has,b2];exact h1,b2⟩
 ·rw[if_neg h1]at b2;exact .inl ⟨by rw[<- HU r.1.Has,b2];rfl,by omega⟩
theorem Ld {N:Nat}(hN:3000000<=N)(hW:U1 N=some true){x0:Hq}(hx:Rz x0){w:Sl Sound}(hw:okA w):W7 N x0 w=some true:=by
 obtain⟨⟨h,ok⟩,hM,s,hs⟩:=At2 hN hx;have s:Z4 h:=s;have hs:ok=true->Ai0 N x0 h:=hs;refine eqR ?_;unfold W7;refine B1 hM (ltX ?_);cases ok
 ·exact ifT rfl (ifT rfl (B1 hW ⟨_,rfl,rfl⟩))
 have hs:=hs rfl;have d:=hs.hist;refine ifF (by show ¬(!true)=true;decide) ?_;obtain⟨b,hb,hb2⟩:=Ah0 hN s (Sl.of [w]:Sl (Sl Sound));refine B1 hb ?_;cases b
 ·exact ifT rfl (B1 hW ⟨_,rfl,rfl⟩)
 refine ifF (by decide) ?_;have hw50:w.n<=50:=(hb2 rfl).2 0 (by show 0<1;omega);have hn10:=hs.n;obtain⟨ls,e',hl1,_,hl3⟩:=YZ hN s.tree;rcases hl3 with⟨_,rfl,f⟩ | ⟨g,_⟩
 case inr=>exact absurd d.tree g
 have hK:ls.n<=10:=by rw[f];exact AX1 (Wh _ _) hn10
 have hK0:0<ls.n:=by rw[f];exact Ai1 d.tree
 obtain⟨e,_,he⟩:=DP (N:=N) (by omega) hw;by_cases h0:e=0
 case neg=>
  obtain⟨u,hu⟩:=Ai3 hN s d hw he h0;refine B1 hu (B1 hl1 ?_);dsimp only;refine Rk (fun k (x3:Sl (Sl Sound)) (x4:Sl Int) x5=>x5=(k:Int)/\x3.n=k/\x4.n=k/\(e=14->k=0)) ls.n _ (by omega) ⟨rfl,rfl,rfl,fun _=>rfl⟩ ?_;rintro self1 k x3 x4 x5 hk ⟨rfl,h3,h4,h14⟩ hs1;by_cases hkl:k<ls.n
  ·obtain⟨v,hv⟩:=AQ5 hN s d hw he h0 (ls.g k);refine ifT (by simp;omega) (ifT (by show ((0:Int)<=(k:Int)/\(k:Int)<(ls.n:Int))/\(k:Int).toNat<ls.n;omega) ?_);rw[AS2];refine B1 hv ?_;dsimp only;by_cases h11:e=11
   ·refine ifF (by simp[h11]) (ifT (by show ((x3.n+1)*24<=_/\x3.n+1<=_)/\((x4.n+1)*8<=_/\x4.n+1<=_);omega) (hs1 hkl _ _ _ ⟨B8 (by omega),by show x3.n+1=_;omega,by show x4.n+1=_;omega,fun h=>by omega⟩))
   ·have h14' : e=14:=by
     rcases he with⟨_,g⟩ | ⟨_,_,g⟩ | ⟨_,g⟩
     ·exact absurd g h11
     ·exact g
     ·exact absurd g h0
    subst h14';exact ifT (by decide) (ltX (ifT (by simp) (ifT (by decide) (B1 hW ⟨_,rfl,rfl⟩))))
  ·have h11:e=11:=by
    rcases he with⟨_,g⟩ | ⟨_,_,g⟩ | ⟨_,g⟩
    ·exact g
    ·have:=h14 g;omega
    ·exact absurd g h0
   have h32:32<w.n:=by
    rcases he with⟨g,_⟩ | ⟨_,_,g⟩ | ⟨_,g⟩
    ·exact g
    ·rw[h11]at g;cases g
    ·exact absurd g h0
   subst h11;exact ifF (by simp;omega) (ifT (by simp;omega) (ltX (ifT (by decide) (B1 hW ⟨_,rfl,rfl⟩))))
 have m:=(Z2 he).1 h0;have h32:=m.1;have hlv:P1 N h=some (ls,0):=by unfold P1;rw[hl1,AS4,if_neg (by show ¬((0:Int) != 0)=true;decide),if_neg (by simp;omega)]
 obtain⟨t,t1,t2,t3⟩:=Ai4 hN s d f (by omega) hlv m;refine B1 t1 (B1 hl1 ?_);dsimp only;refine Rk (fun k (x3:Sl (Sl Sound)) (x4:Sl Int) x5=>x5=(k:Int)/\x3.n=k/\x4.n=k/\∀j,j<k->SE (x3.g j) (drv N h w j).1/\x4.g j=(drv N h w j).2) ls.n _ (by omega) ⟨rfl,rfl,rfl,fun j hj=>absurd hj (by omega)⟩ ?_;rintro self1 k x3 x4 x5 hk ⟨rfl,h3,h4,h5⟩ hs1;by_cases hkl:k<ls.n
 ·obtain⟨r,a1,a2,a3⟩:=AQ6 hN s d m (k:=k) (by rw[<- f];exact hkl);rw[<- f]at a1;obtain⟨_,b⟩:=NO hN s d (k:=k) (by rw[<- f];exact hkl);obtain⟨_,b2,_⟩:=b w m;refine ifT (by simp;omega) (ifT (by show ((0:Int)<=(k:Int)/\(k:Int)<(ls.n:Int))/\(k:Int).toNat<ls.n;omega) ?_);rw[AS2];refine B1 a1 (ifF ?_ (ifT (by show ((x3.n+1)*24<=_/\x3.n+1<=_)/\((x4.n+1)*8<=_/\x4.n+1<=_);omega) (hs1 hkl _ _ _ ⟨B8 (by omega),by show x3.n+1=_;omega,by show x4.n+1=_;omega,fun j hj=>?_⟩)))
  ·rw[a3];rcases b2 with⟨g,_⟩ | ⟨_,g⟩<;>rw[g]<;>decide
  ·show SE (if j<x3.n then x3.g j else r.1) _/\(if j<x4.n then x4.g j else r.2)=_;by_cases e:j<k
   ·rw[if_pos (by omega),if_pos (by omega)];exact h5 j e
   ·obtain rfl:j=k:=by omega
    rw[if_neg (by omega),if_neg (by omega)];exact⟨a2,a3⟩
 obtain rfl:k=ls.n:=by omega
 clear hs1;have hE:∀i j,i<ls.n->j<ls.n->((x4.g i=x4.g j/\SE (x3.g i) (x3.g j))↔Ui N h w i=Ui N h w j):=fun i j hi' hj'=>by obtain⟨_,b⟩:=NO hN s d (k:=i) (by rw[<- f];exact hi');obtain⟨_,b2,_⟩:=b w m;obtain⟨_,c⟩:=NO hN s d (k:=j) (by rw[<- f];exact hj');obtain⟨_,c2,_⟩:=c w m;unfold Ui;rw[As7 b2 c2,(h5 i hi').2,(h5 j hj').2];exact and_congr_right fun _=>⟨fun g=>((h5 i hi').1.symm.trans g).trans (h5 j hj').1,fun g=>((h5 i hi').1.trans g).trans (h5 j hj').1.symm⟩
 have hsz:∀k,k<ls.n->(x3.g k).n<=32:=fun k hk=>by
  obtain⟨_,b⟩:=NO hN s d (k:=k) (by rw[<- f];exact hk);obtain⟨_,b2,_⟩:=b w m;rw[(h5 k hk).1.1];rcases b2 with⟨_,g⟩ | ⟨g,_⟩
  ·exact g.1
  ·rw[g];exact Ba9 _
 generalize Ui N h w=x at hE t3;have hm:t.Has.n<=ls.n:=by
  rcases t3 with⟨g,_⟩ | ⟨_,g⟩
  ·omega
  ·rw[<- HU t.Has,g];exact TW _ _ _
 have hn1:¬((t.Has.n:Int)==1)=true:=by rcases t3 with⟨g,_⟩ | ⟨g,_⟩<;>(simp;omega)
 refine ifF (by simp) (ifF (by simp;omega) (ifF (by simp;omega) (ifF (by rw[t2];simpa using hn1) ?_)));have hT:∀i,i<t.Has.n->∃p,p<ls.n/\F7 x p=true/\DT (F7 x) p=i/\t.Has.g i=U (RE (Ey x p) ls.n):=fun i hii=>by
  rcases t3 with⟨g,_⟩ | ⟨_,g⟩
  ·omega
  ·have hlen:t.Has.n=DT (F7 x) ls.n:=by rw[<- HU t.Has,g,Z5]
   obtain⟨p,p1,p2,p3⟩:=nthP (F7 x) ls.n i (by omega);refine⟨p,p1,p2,p3,?_⟩;have q:=TY x ls.n ls.n p p1 p2;rw[<- g,p3]at q;simpa[Sl.toList,hii]using q
 have a:∀(p b:Nat),b<64->((RE (Ey x p) ls.n).getLsbD b=true↔b<ls.n/\x b=x p):=fun p b hb=>by rw[Xs _ _ (by omega) b hb];simp[Ey]
 have hcov:0<t.Has.n->∀b,b<ls.n->∃p,p<ls.n/\F7 x p=true/\DT (F7 x) p<t.Has.n/\x b=x p:=fun h0 b hb=>by
  rcases t3 with⟨g,_⟩ | ⟨_,g⟩
  ·omega
  ·have hlen:t.Has.n=DT (F7 x) ls.n:=by rw[<- HU t.Has,g,Z5]
   obtain⟨q,q1,q2,q3⟩:=JI x b b (AS8 _);exact⟨q,by omega,q2,by rw[hlen];exact GW q2 (by omega),q3.symm⟩
 have hsame:t.Has.n=0->∀i j,i<ls.n->j<ls.n->x i=x j:=fun h0 i j hi' hj'=>by
  rcases t3 with⟨_,g⟩ | ⟨g,_⟩
  ·obtain⟨p,p1,p2,p3⟩:=JI x i i (AS8 _);obtain⟨q,q1,q2,q3⟩:=JI x j j (AS8 _);have c1:=GW p2 (show p<ls.n by omega);have c2:=GW q2 (show q<ls.n by omega);obtain rfl:=LN p2 q2 (show DT (F7 x) p=DT (F7 x) q by omega);rw[<- p3,<- q3]
  ·omega
 refine Rk (fun i (x11 x12 x13:Int)=>x13=(i:Int)/\(∃z:BitVec 64,x11=U z/\∀b,b<64->(z.getLsbD b=true↔b<ls.n/\∃p,p<ls.n/\F7 x p=true/\DT (F7 x) p<i/\x b=x p))/\∀p,p<ls.n->F7 x p=true->i<=DT (F7 x) p->x12<(p:Int)) t.Has.n _ (by omega)
  ⟨rfl,⟨0#64,rfl,fun b hb=>by simp⟩,fun p _ _ _=>by show (-1:Int)<(p:Int);omega⟩ ?_
 rintro self2 i x11 x12 x13 hii ⟨rfl,⟨z,rfl,hz⟩,hlow⟩ hs2;by_cases hlt:i<t.Has.n
 ·obtain⟨p,p1,p2,p3,p4⟩:=hT i hlt;have hne:RE (Ey x p) ls.n≠0#64:=fun g=>by
   have:=(a p p (by omega)).2 ⟨p1,rfl⟩
   rw[g]at this;simp at this
  obtain⟨tz,z1,z2,z3,z4,_⟩:=AP3 (N:=N) hne;have htz:tz=p:=by
   obtain⟨g1,g2⟩:=(a p tz z1).1 z3;rcases Bf3 tz p with g|g|g
   ·exact absurd g2 (firstK_iff.1 p2 tz g)
   ·exact g
   ·have:=z4 p g
    rw[(a p p (by omega)).2 ⟨p1,rfl⟩]at this;cases this
  subst htz;have hp12:=hlow tz p1 p2 (by omega);refine ifT (by simp;omega) (ifT (by omega) ?_);rw[AS2,p4,AP0,AD8];refine ltX (ifF (by rw[beq_iff_eq];exact fun g=>hne (u_zero.1 g)) (ifF ?_ (B1 z2 (ifF (by simp;omega) (B1 z2 (hs2 hlt _ _ _ ⟨B8 (by omega),⟨_,rfl,fun b hb=>?_⟩,fun q q1 q2 q3=>?_⟩))))))
  ·rw[Bc6,bne_eq_false_iff_eq,u_zero,Ad3];intro b hb;rw[AT6,Bf8];refine AV1 fun g=>?_;have g1:z.getLsbD b=true:=by
    cases hzb:z.getLsbD b with
    |true=>rfl
    |false=>exact absurd (.inl hzb) g
   have g2:(RE (Ey x tz) ls.n).getLsbD b=true:=by
    cases hzb:(RE (Ey x tz) ls.n).getLsbD b with
    |true=>rfl
    |false=>exact absurd (.inr hzb) g
   obtain⟨_,q,q1,q2,q3,q4⟩:=(hz b hb).1 g1;obtain⟨_,q5⟩:=(a tz b hb).1 g2
   have:=PT q2 p2 (q4.symm.trans q5)
   subst this;omega
  ·rw[AT5,AU0,hz b hb,a tz b hb];constructor
   ·rintro (⟨g1,q,q1,q2,q3,q4⟩ | ⟨g1,g2⟩)
    ·exact⟨g1,q,q1,q2,by omega,q4⟩
    ·exact⟨g1,tz,p1,p2,by omega,g2⟩
   ·rintro⟨g1,q,q1,q2,q3,q4⟩;by_cases e:DT (F7 x) q=i
    ·obtain rfl:=LN q2 p2 (by omega:DT (F7 x) q=DT (F7 x) tz);exact .inr ⟨g1,q4⟩
    ·exact .inl ⟨g1,q,q1,q2,by omega,q4⟩
  ·have:¬q<=tz:=fun g=>by have:=Wk (F7 x) g;omega
   omega
 ·obtain rfl:i=t.Has.n:=by omega
  refine ifF (by simp) (ifT (fun _=>by omega) (ifF ?_ ?_))
  ·rw[AE5 (by omega)];simp only[AS7,decide_eq_true_eq,bne_iff_ne,ne_eq,not_and,Bh8];intro h0;refine congrArg U (QY fun b hb=>?_);rw[hz b hb,Ap8 hb,decide_eq_true_eq];exact⟨fun g=>g.1,fun g=>⟨g,hcov (by omega) b g⟩⟩
  refine BP (fun i x23=>x23=(i:Int)) ls.n _ (by omega) rfl ?_;rintro self11 i x23 hii' rfl hs11;by_cases l:i<ls.n
  ·refine ifT (by simp;omega) ?_;refine BP (fun j x33=>x33=(j:Int)) ls.n _ (by omega) rfl ?_;rintro self14 j x33 hjj rfl hs14;by_cases o:j<ls.n
   ·refine ifT (by simp;omega) ?_;refine P3 (fun q (x36:Bool) x37=>x37=(q:Int)/\(x36=true↔t.Has.n=0 \/ ∃p,p<ls.n/\F7 x p=true/\DT (F7 x) p<q/\x i=x p/\x j=x p)) t.Has.n _ (by omega) ⟨rfl,?_⟩ ?_
    ·rw[beq_iff_eq];constructor
     ·exact fun g=>.inl (by omega)
     ·rintro (g|⟨_,_,_,g,_⟩)
      ·omega
      ·omega
    rintro self15 q x36 x37 hqq ⟨rfl,h36⟩ hs15;by_cases hql:q<t.Has.n
    ·obtain⟨p,p1,p2,p3,p4⟩:=hT q hql;refine ifT (by simp;omega) (ifT (by omega) (ifT ⟨fun _=>by omega,fun _ _=>by omega⟩ ?_));rw[AS2,p4,AD9,AD9];refine hs15 hql _ _ ⟨B8 (by omega),?_⟩;rw[AU0,h36,AS7,a p i (by omega),a p j (by omega)];constructor
     ·rintro ((g|⟨p',g1,g2,g3,g4⟩)|⟨⟨_,g1⟩,⟨_,g2⟩⟩)
      ·exact .inl g
      ·exact .inr ⟨p',g1,g2,by omega,g4⟩
      ·exact .inr ⟨p,p1,p2,by omega,g1,g2⟩
     ·rintro (g|⟨p',g1,g2,g3,g4,g5⟩)
      ·exact .inl (.inl g)
      ·by_cases e:DT (F7 x) p' = q
       ·obtain rfl:=LN g2 p2 (by omega:DT (F7 x) p' = DT (F7 x) p);exact .inr ⟨⟨l,g4⟩,⟨o,g5⟩⟩
       ·exact .inl (.inr ⟨p',g1,g2,by omega,g4,g5⟩)
    ·obtain rfl:q=t.Has.n:=by omega
     have hto:x36=true↔x i=x j:=by
      rw[h36];constructor
      ·rintro (g|⟨_,_,_,_,g1,g2⟩)
       ·exact hsame g i j l o
       ·exact g1.trans g2.symm
      ·intro g;by_cases h0:t.Has.n=0
       ·exact .inl h0
       ·obtain⟨p,q1,q2,q3,q4⟩:=hcov (by omega) i l;exact .inr ⟨p,q1,q2,q3,q4,g.symm.trans q4⟩
     refine ifF (by simp) (ifT (by rw[h4];omega) ?_);rw[AS2,AS2];by_cases e4:x4.g i=x4.g j
     ·refine ifT (by simpa using e4) (ifT (by rw[h3];omega) ?_);obtain⟨b,b1,b2⟩:=Ai2 (N:=N) (x:=x3.g i) (y:=x3.g j) (by have:=hsz i l;omega) (by have:=hsz i l;omega);refine B1 b1 (ifF ?_ (hs14 o _ (B8 (by omega))))
      have:x36=b:=by rw[AV7,hto,b2,<- hE i j l o];exact⟨fun g=>g.2,fun g=>⟨e4,g⟩⟩
      rw[this];simp
     ·refine ifF (by simpa using e4) (ifF ?_ (hs14 o _ (B8 (by omega))))
      have:x36=false:=by rw[<- Bc6,hto,<- hE i j l o];exact fun g=>e4 g.1
      rw[this];decide
   ·exact ifF (by simp;omega) (hs11 l _ (B8 (by omega)))
  ·exact ifF (by simp;omega) (B1 hW ⟨_,rfl,rfl⟩)
end Go.AM
