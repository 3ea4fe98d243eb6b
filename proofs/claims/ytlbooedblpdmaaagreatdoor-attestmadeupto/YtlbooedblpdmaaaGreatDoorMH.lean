/- Part 8. -/
import Derived.Test.YtlbooedblpdmaaaGreatDoorMG
import Derived.Test.YtlbooedblpdmaaaGreatDoorMF
set_option linter.defProp false
set_option linter.unusedSimpArgs false
set_option linter.unusedVariables false
set_option linter.unusedSectionVars false
namespace Go.AM
abbrev Oe:Sl Oh:=Sl.of []
variable {N:Nat}
def Kb{c:Prop}{i:Decidable c}{α:Sort _}{a b:α}(h:¬c:=by simp):(if c then a else b)=b:=Ke h
def Ka{c:Prop}{i:Decidable c}{α:Sort _}{a b:α}(h:¬c:=by simp;omega):(if c then a else b)=b:=Ke h
def Jf{c:Prop}{i:Decidable c}{α:Sort _}{a b:α}(h:c:=by simp):(if c then a else b)=a:=Kc h
def Ih{c:Prop}{i:Decidable c}{α:Sort _}{a b:α}(h:c:=by simp;omega):(if c then a else b)=a:=Kc h
open IntKind (wrap)
def Bg2:=@List.flatMap_cons
def Bk1:=@List.filter_append
def Bo3:=@List.flatMap_append
def Bp4:=@Classical.not_not
def Bp8:=@Nat.gcd_pos_of_pos_left
def Br1:=@List.filterMap_append
def Bt2:=@UInt8.toNat_ofNat'
def Bt3:=@Nat.gcd_zero_right
def Bt4:=@Nat.le_of_dvd
open Go.Proofs
def nf:(!false)=true:=rfl
def AL4 {α : Type}{s t:Sl α}(h:s.n=0):s.app t=t:=by cases t;simp[Sl.app,h]
def AA8 {α : Type}[Inhabited α](s:Sl (Sl α)):Nat->Sl α
 |0=>Sl.nil
 |k+1=>(AA8 s k).app (s.g k)
def AA9 {α : Type}[Inhabited α](s:Sl (Sl α)){B:Nat}:∀k,(∀i,i<k->(s.g i).n<=B)->(AA8 s k).n<=k*B
 |0,_=>by simp[AA8]
 |k+1,h=>by
  have:=AA9 s k fun i a=>h i (by omega)
  have:=h k (by omega)
  show (AA8 s k).n+(s.g k).n<=_;rw[Bl5];omega
def VU {s:Sl (Sl Oh)}(hn:s.n<1000)(d:1000<=N)(hs:∀i,i<s.n->(s.g i).n<=3000000) :A9 N s=some (AA8 s s.n):=by
 suffices h:∃r,A9 N s=some r/\r=AA8 s s.n by obtain⟨r,h,rfl⟩:=h;exact h
 unfold A9;refine O8 (fun (i:Nat) (x1 x2:Int)=>x2=(i:Int)/\0<=x1/\x1<=(i:Int)*3000000) s.n _ (by omega) ⟨rfl,Int.le_refl 0,by simp⟩ ?_;rintro b i x1 x2 c ⟨rfl,f,h1⟩ a;by_cases hl:i<s.n
 .have:=hs i hl
  refine Ao (Am ?_);rw[AZ2,E4 (by omega) (by omega)];exact Df (a hl _ _ ⟨Gx,by omega,by omega⟩)
 refine Df (B0 (x:=Sl.nil) ?_ ?_)
 .unfold I1;rw[Ig]
 refine O8 (fun i x1 x2=>x2=(i:Int)/\x1=AA8 s i) s.n _ (by omega) ⟨rfl,rfl⟩ ?_;rintro b i x1 x2 c ⟨rfl,rfl⟩ a;by_cases hl:i<s.n
 .have g1:=hs i hl;have g2:=AA9 s i (B:=3000000) fun j l=>hs j (by omega);refine Ao (ifT ⟨by omega,?_⟩ (a hl _ _ ⟨Gx,?_⟩))
  .rw[AZ2];omega
  rw[AZ2];rfl
 exact Df ⟨_,rfl,by congr 1;omega⟩
def AP1 (w:Sl Oh)(i k:Nat)(y:Sl Oh):Sl Oh:=((w.take i).app y).app (w.drop (i+k))
def Ag2 {w y:Sl Oh}{i k:Nat}(b:i+k<=w.n)(hw:∀j,j<w.n->vS (w.g j))(hy:∀j,j<y.n->vS (y.g j)):(AP1 w i k y).n=w.n-k+y.n/\∀j,j<(AP1 w i k y).n->vS ((AP1 w i k y).g j):=by
 have hn:(AP1 w i k y).n=w.n-k+y.n:=by show i+y.n+(w.n-(i+k))=_;omega
 refine⟨hn,fun j a=>?_⟩;rw[hn]at a;show vS (if j<i+y.n then (if j<i then w.g j else y.g (j-i))else w.g (i+k+(j-(i+y.n))));split
 .split
  .exact hw _ (by omega)
  exact hy _ (by omega)
 exact hw _ (by omega)
def Hs (N:Nat)(l:Law)(w:Sl Oh)(i:Nat):Sl Oh:=(O6 N l (w.sub i (i+l.If.n))).getD Sl.nil
def Z4 (N:Nat)(l:Law)(w:Sl Oh)(i:Nat):Sl Oh:=AP1 w i l.If.n (Hs N l w i)
def vOk {w:Sl Oh}(h:wOk w):okW w:=⟨by have:=h.1;omega,fun i a=>(h.2 i a).ok⟩
def GJ (a:1000<=N){l:Law}(b:AO9 l){w:Sl Oh}(hw:∀j,j<w.n->vS (w.g j)){i:Nat}(o:i+l.If.n<=w.n) :O6 N l (w.sub i (i+l.If.n))=some (Hs N l w i)/\Dn N l (w.sub i (i+l.If.n))=some (Hs N l w i)/\(Hs N l w i).n=l.Out.n/\∀j,j<(Hs N l w i).n->vS ((Hs N l w i).g j):=by
 obtain⟨s,h1,c,d,f⟩:=AL1 a b (cut:=w.sub i (i+l.If.n)) (by show i+l.If.n-i=_;omega) fun j m=>(hw (i+j) (by have:j<i+l.If.n-i:=m;omega)).ok;have e:Hs N l w i=s:=by unfold Hs;rw[h1];rfl
 rw[e];exact⟨h1,c,d,f⟩
def cat3 (a b c:Sl Oh):AA8 (Sl.of [a,b,c]:Sl (Sl Oh)) 3=(a.app b).app c:=by show ((Od.app a).app b).app c=_;rw[AL4 (s:=Od) rfl]
def Ag3 (d:1000<=N){a b c:Sl Oh}(ha:a.n<=3000000)(hb:b.n<=3000000)(hc:c.n<=3000000):A9 N (Sl.of [a,b,c]:Sl (Sl Oh))=some ((a.app b).app c):=by
 have h:=VU (N:=N) (s:=(Sl.of [a,b,c]:Sl (Sl Oh))) (by show 3<1000;omega) d fun i f=>by
  match i,f with
  |0,_=>exact ha
  |1,_=>exact hb
  |2,_=>exact hc
 rw[h];exact congrArg some (cat3 a b c)
def FE (a:1000<=N){l:Law}(b:AO9 l){w:Sl Oh}(c:w.n<1000)(hw:∀j,j<w.n->vS (w.g j)){i:Nat}(d:i+l.If.n<=w.n) :R7 N l w i=some (Z4 N l w i)/\Ac N l w i=some (Z4 N l w i):=by
 obtain⟨h1,f,m,o⟩:=GJ a b hw d;have q:=b.1;constructor
 .unfold R7;rw[Dy (by omega),Ig,AZ2,AZ2,h1,AZ6,Ig,
   Ag3 a (by show i<=_;omega) (by omega) (by show w.n-(i+l.If.n)<=_;omega)]
  rfl
 unfold Ac;rw[Dy (by omega),AZ2,AZ2,AL4 (s:=Oe) rfl,Kc ⟨by omega,by show (0+i)*8<=_/\0+i<=_;omega⟩,Ig,f,AZ6,
  Kc (by show (i+(Hs N l w i).n)*8<=_/\i+(Hs N l w i).n<=_;omega),Kc ⟨by omega,by show (i+(Hs N l w i).n+(w.n-(i+l.If.n)))*8<=_/\i+(Hs N l w i).n+(w.n-(i+l.If.n))<=_;omega⟩]
 rfl
def SE {α : Type}(s t:Sl α):Prop:=s.n=t.n/\∀i,i<s.n->s.g i=t.g i
def SE.refl {α : Type}(s:Sl α):SE s s:=⟨rfl,fun _ _=>rfl⟩
def SE.symm {α : Type}{s t:Sl α}(h:SE s t):SE t s:=⟨h.1.symm,fun i a=>(h.2 i (by rw[h.1];exact a)).symm⟩
def SE.trans {α : Type}{s t u:Sl α}(h:SE s t)(h' : SE t u):SE s u:=⟨h.1.trans h'.1,fun i a=>(h.2 i a).trans (h'.2 i (by rw[<- h.1];exact a))⟩
def SE.app {α : Type}{s t u v:Sl α}(h:SE s t)(h' : SE u v):SE (s.app u) (t.app v):=⟨by show s.n+u.n=t.n+v.n;rw[h.1,h'.1],fun i a=>by
 show (if i<s.n then s.g i else u.g (i-s.n))=if i<t.n then t.g i else v.g (i-t.n)
 have a:i<s.n+u.n:=a;rw[<- h.1];split
 .exact h.2 i (by assumption)
 exact h'.2 _ (by omega)⟩
def SE.drop {α : Type}{s t:Sl α}(h:SE s t)(k:Nat):SE (s.drop k) (t.drop k):=⟨by show s.n-k=t.n-k;rw[h.1],fun i a=>by have a:i<s.n-k:=a;exact h.2 _ (by omega)⟩
def SE.take {α : Type}{s t:Sl α}(h:SE s t){k:Nat}(hk:k<=s.n):SE (s.take k) (t.take k):=⟨rfl,fun i a=>h.2 i (by have a:i<k:=a;omega)⟩
def SE.sub {α : Type}{s t:Sl α}(h:SE s t){a b:Nat}(hk:b<=s.n):SE (s.sub a b) (t.sub a b):=⟨rfl,fun i c=>h.2 _ (by have c:i<b-a:=c;omega)⟩
def SE.v {s t:Sl Oh}(h:SE s t)(b:∀j,j<s.n->vS (s.g j)):∀j,j<t.n->vS (t.g j):=fun j a=>by rw[<- h.2 j (by rw[h.1];exact a)];exact b j (by rw[h.1];exact a)
def SE.wOk {s t:Sl Oh}(h:SE s t)(a:wOk s):wOk t:=⟨by rw[<- h.1];exact a.1,h.v a.2⟩
def Rs {w w' : Sl Oh}(h:SE w w'):∀p:Pat,PR w p=PR w' p
 |.nil=>rfl
 |.mk kind is no mn mx m g=>by
  have ih:(fun i=>PR w (g i))=fun i=>PR w' (g i):=funext fun i=>Rs h (g i);have ih1:∀i,PR w (g i)=PR w' (g i):=fun i=>congrFun ih i;have e1:∀a,(a<w.n↔a<w'.n):=fun a=>by rw[h.1]
  funext a b;unfold PR;rw[ih];simp only[ih1,<- h.1];by_cases ha:a<w.n
  .rw[h.2 a ha]
  simp[ha]
def Zc {l:Law}{w w' : Sl Oh}(h:SE w w'){i:Nat}:PJ l w i↔PJ l w' i:=by
 suffices H:∀{w w' : Sl Oh},SE w w' -> PJ l w i->PJ l w' i by exact⟨H h,H h.symm⟩
 intro w w' h;rintro⟨h1,f,g,m,n,q,⟨a,ha,c⟩,b,hb,d⟩;have hn:=h.1;refine⟨by omega,fun j o=>?_,g,m,h.wOk n,by omega,⟨a,by omega,?_⟩,b,by omega,?_⟩
 .rw[<- h.2 (i+j) (by omega)];exact f j o
 .rw[<- Rs h];exact c
 rw[<- Rs h];exact d
structure LE (l l' : Law):Prop where
 name:l'.Name=l.Name
 left:PE l.Left l'.Left
 right:PE l.Right l'.Right
 cond:SE l.If l'.If
 out:SE l.Out l'.Out
 mode:l'.Mode=l.Mode
def LE.refl (l:Law):LE l l:=⟨rfl,VR _,VR _,SE.refl _,SE.refl _,rfl⟩
def LE.symm {l l' : Law}(h:LE l l'):LE l' l:=⟨h.name.symm,VT h.left,VT h.right,h.cond.symm,h.out.symm,h.mode.symm⟩
def AL5 {l l' : Law}(h:LE l l'){w:Sl Oh}{i:Nat}:PJ l w i↔PJ l' w i:=by
 suffices H:∀{l l' : Law},LE l l' -> PJ l w i->PJ l' w i by exact⟨H h,H h.symm⟩
 intro l l' h;rintro⟨h1,m,f,g,n,o,⟨a,ha,c⟩,b,hb,d⟩;have hn:=h.cond.1;refine⟨by omega,fun j q=>?_,(Kv h.left).1 f,(Kv h.right).1 g,n,by omega,⟨a,ha,?_⟩,b,hb,?_⟩
 .rw[<- h.cond.2 j (by omega)];exact m j (by omega)
 .rw[<- AL3 40 (ND 40 _ (by omega) f _ (by simp)) h.left];exact c
 rw[<- hn,<- AL3 40 (ND 40 _ (by omega) g _ (by simp)) h.right];exact d
def Iv {l l' : Law}(e:LE l l'){w w' : Sl Oh}(h:SE w w'){i:Nat}:PJ l w i↔PJ l' w' i:=(AL5 e).trans (Zc h)
def LR {l l' : Law}(h:LE l l')(hl:LH l):LH l':=by obtain⟨⟨h1,a,b⟩,c,g,j,d⟩:=hl;have m:=h.cond.1;have n:=h.out.1;exact⟨⟨NH h.left h1,NH h.right a,fun i f=>by rw[<- h.cond.2 i (by omega)];exact b i (by omega)⟩,by rw[h.name];exact c,by omega,by omega,fun i f=>by rw[<- h.out.2 i (by omega)];exact d i (by omega)⟩
def AL6 {l l' : Law}(h:LE l l')(hl:AO9 l):AO9 l':=by have a:=h.cond.1;have b:=h.out.1;exact⟨by rw[<- b];exact hl.1,fun i c=>by rw[<- h.out.2 i (by omega),<- a];exact hl.2 i (by omega)⟩
def VV {l l' : Law}(h:LE l l')(hl:AP0 l):AP0 l':=by obtain⟨⟨h1,a,b⟩,c,d,j,f,m,n,g⟩:=hl;have o:=h.cond.1;have q:=h.out.1;have hm:=h.mode;exact⟨⟨NH h.left h1,NH h.right a,fun i r=>by rw[<- h.cond.2 i (by omega)];exact b i (by omega)⟩,(Kv h.left).1 c,(Kv h.right).1 d,by omega,AL6 h f,by omega,by omega,by omega⟩
def EK {l l' : Law}(h:LE l l'):chkAll N l↔chkAll N l':=by
 suffices H:∀{l l' : Law},LE l l' -> chkAll N l->chkAll N l' by exact⟨H h,H h.symm⟩
 rintro l l' h ⟨h1,b,c,j,m,n,o,q,d,a⟩;have f:=h.cond.1;have r:=h.out.1;have hm:=h.mode;exact⟨by rw[h.name];exact h1,(Kv h.left).1 b,(Kv h.right).1 c,by omega,by omega,by omega,by omega,by omega,
  fun i g=>by rw[<- h.cond.2 i (by omega)];exact d i (by omega),fun i g=>by rw[<- h.out.2 i (by omega),<- f];exact a i (by omega)⟩
def AL7 {l l' : Law}(h:LE l l'){e:Int}(b:AL2 N l e):AL2 N l' e:=by
 rcases b with⟨h1,a⟩ | ⟨h1,a⟩
 .exact .inl ⟨h1,(EK h).1 a⟩
 exact .inr ⟨h1,fun g=>a ((EK h).2 g)⟩
def Ag4 {l:Law}{c c' : Sl Oh}(h:SE c c'):O6 N l c=O6 N l c':=by
 unfold O6;congr 1;funext self x1 x2;by_cases h1:(decide (x2<(l.Out.n:Int)))=true
 case neg=>rw[Ke h1,Ke h1]
 rw[Kc h1,Kc h1,<- h.1];have e1:∀y:Int,(0:Int)<=y->y<(c.n:Int)->c.g y.toNat=c'.g y.toNat:=fun y i h1=>h.2 _ (by omega);by_cases b:(0:Int)<=x2/\x2<(l.Out.n:Int)
 case neg=>rw[Ke b,Ke b]
 rw[Kc b,Kc b];split
 .rename_i f;have e2:(⟨(if (decide (0<=(l.Out.g x2.toNat).From)) then (c.g (l.Out.g x2.toNat).From.toNat).Plus else 0),(if (decide (0<=(l.Out.g x2.toNat).From)) then (c.g (l.Out.g x2.toNat).From.toNat).Minus else 0)⟩:Oh) =
   ⟨(if (decide (0<=(l.Out.g x2.toNat).From)) then (c'.g (l.Out.g x2.toNat).From.toNat).Plus else 0),(if (decide (0<=(l.Out.g x2.toNat).From)) then (c'.g (l.Out.g x2.toNat).From.toNat).Minus else 0)⟩:=by
   by_cases a:decide (0<=(l.Out.g x2.toNat).From)=true
   .have:=f a
    rw[Kc a,Kc a,Kc a,Kc a,e1 _ this.1 this.2]
   rw[Ke a,Ke a,Ke a,Ke a]
  rw[e2];congr 1;funext y5;split
  .split
   .rename_i d;rw[e1 _ d.1 d.2]
   rfl
  rfl
 rfl
def Zd {l l' : Law}(h:SE l.Out l'.Out)(c:Sl Oh):O6 N l c=O6 N l' c:=by
 unfold O6;congr 1;funext self x1 x2;rw[<- h.1];by_cases h1:(0:Int)<=x2/\x2<(l.Out.n:Int)
 .rw[h.2 x2.toNat (by omega)]
 by_cases a:(decide (x2<(l.Out.n:Int)))=true
 .rw[Kc a,Kc a,Ke h1,Ke h1]
 rw[Ke a,Ke a]
def NI {l l' : Law}(e:LE l l'){w w' : Sl Oh}(h:SE w w'){i:Nat}(a:i+l.If.n<=w.n):Hs N l w i=Hs N l' w' i:=by unfold Hs;rw[Ag4 (h.sub a),Zd e.out,<- e.cond.1]
def Lk {l l' : Law}(e:LE l l'){w w' : Sl Oh}(h:SE w w'){i:Nat}(a:i+l.If.n<=w.n):SE (Z4 N l w i) (Z4 N l' w' i):=by unfold Z4 AP1;rw[NI e h a,<- e.cond.1];exact ((h.take (by omega)).app (SE.refl _)).app (h.drop _)
def RL:List (Int×Sl Oh)->List (Int×Sl Oh)->Prop
 |[],[]=>True
 |(p,v)::L,(q,u)::M=>p=q/\SE v u/\RL L M
 |_,_=>False
def Kw:Sl Int->Sl (Sl Oh)->List (Int×Sl Oh)->Sl Int×Sl (Sl Oh)×Int
 |x,y,[]=>(x,y,0)
 |x,y,(p,v)::L=>if 32<v.n then (Sl.nil,Sl.nil,11)else Kw (x.push p) (y.push v) L
abbrev TL:=List (Int×Sl Oh)
def vL (L:TL):Prop:=∀x∈L,∀j,j<x.2.n->vS (x.2.g j)
def TM:vL []:=fun x hx=>Lq hx (by simp)
def VW {x:Int×Sl Oh}{L:TL}(h:∀j,j<x.2.n->vS (x.2.g j))(hL:vL L):vL (x::L):=fun y hy=>by
 rcases Bd1.1 hy with rfl|hy
 .exact h
 exact hL y hy
def TN (N:Nat)(l:Law)(a:Sl Oh->Int->Option TL)(x5:Sl Oh)(x6:Int):Option TL:= if (decide ((wrap .i64 (x6+(l.If.n:Int)))<=(x5.n:Int))) then (Cl N l x5 x6).bind fun c=>if (!c) then a x5 (wrap .i64 (x6+1)) else (R7 N l x5 x6).bind fun b=>X1 (x6,b) (if ((l.If.n:Int)==0) then a b (wrap .i64 ((wrap .i64 (x6+(l.Out.n:Int)))+1)) else a b (wrap .i64 (x6+(l.Out.n:Int)))) else some []
abbrev Au5:=(Sl Int)×(Sl (Sl Oh))×Int
def TO (N:Nat)(l:Law)(a:Sl Oh->Sl Int->Sl (Sl Oh)->Int->Option Au5)(x1:Sl Oh)(x2:Sl Int)(x3:Sl (Sl Oh))(x4:Int):Option Au5:= if (decide ((wrap .i64 (x4+(l.If.n:Int)))<=(x1.n:Int))) then (Ci N l x1 x4).bind fun y5=>if (!y5) then a x1 x2 x3 (wrap .i64 (x4+1)) else (Ac N l x1 x4).bind fun y6=>if (decide (32<(y6.n:Int))) then some (Oc,Og,11) else if (((x2.n+(Sl.of [x4]:Sl Int).n)*8<=140737488355328/\x2.n+(Sl.of [x4]:Sl Int).n<=140737488355328)/\((x3.n+(Sl.of [y6]:Sl (Sl Oh)).n)*24<=140737488355328/\x3.n+(Sl.of [y6]:Sl (Sl Oh)).n<=140737488355328))then if ((l.If.n:Int)==0) then a y6 (x2.push x4) (x3.push y6) (wrap .i64 ((wrap .i64 (x4+(l.Out.n:Int)))+1)) else a y6 (x2.push x4) (x3.push y6) (wrap .i64 (x4+(l.Out.n:Int))) else none else some (x2,x3,0)
def Ag5 (hN:3000<=N){l l' : Law}(hf:AP0 l)(s:LE l l'):∀(m:Nat) (w w' : Sl Oh) (i:Nat),SE w w' -> w.n<=100->(∀j,j<w.n->vS (w.g j))->i<=200->w.n+1<=i+m ->
 ∃L L',(∀M,m<M->Q3 M (TN N l) w i=some L)/\vL L/\L.length<=m/\RL L L' /\ ∀M x2 x3,m<M->x2.n+m<=1000->x3.n+m<=1000->WM M (TO N l') w' x2 x3 i=some (Kw x2 x3 L'):=by
 obtain⟨hl,_,_,hk,x,y,_,_⟩:=hf;have h6:=x.1;obtain⟨z,_,_,a0,a1,_,_,_⟩:=VV s ⟨hl,‹_›, ‹_›,hk,x,y,‹_›, ‹_›⟩;have c:l'.If.n=l.If.n:=s.cond.1.symm;have d:l'.Out.n=l.Out.n:=s.out.1.symm;intro m
 induction m with
 |zero=>
  intro w w' i a hn o hi hm;have a2:=a.1;refine⟨[],[],fun M q=>?_,TM,Ba0 _,trivial,fun M x2 x3 q _ _=>?_⟩
  .obtain⟨M,rfl⟩:∃K,M=K+1:=⟨M-1,by omega⟩;rw[E1,TN,Dy (by omega),Ka]
  obtain⟨M,rfl⟩:∃K,M=K+1:=⟨M-1,by omega⟩;rw[U4,TO,c,d,Dy (by omega),Ka,Kw]
 |succ m ih=>
  intro w w' i a hn o hi hm;have a2:=a.1;by_cases hle:i+l.If.n<=w.n
  case neg=>
   refine⟨[],[],fun M q=>?_,TM,by simp,trivial,fun M x2 x3 q _ _=>?_⟩
   .obtain⟨M,rfl⟩:∃K,M=K+1:=⟨M-1,by omega⟩;rw[E1,TN,Dy (by omega),Ka]
   obtain⟨M,rfl⟩:∃K,M=K+1:=⟨M-1,by omega⟩;rw[U4,TO,c,d,Dy (by omega),Ka,Kw]
  have hw:okW w:=⟨by omega,fun j hj=>(o j hj).ok⟩;have t:=a.v o;have hw' : okW w':=⟨by omega,fun j hj=>(t j hj).ok⟩;obtain⟨b,e1,h1⟩:=Af6 hN hl hk hw i (by omega);obtain⟨b',e2,h2⟩:=Rq hN z a0 hw' i (by omega);obtain rfl:b' = b:=by rw[Bd2,h1,h2,Iv s a]
  cases b'
  .obtain⟨L,L',g1,g2,g3,g5,g4⟩:=ih w w' (i+1) a hn o (by omega) (by omega);refine⟨L,L',fun M q=>?_,g2,by omega,g5,fun M x2 x3 q hx hy=>?_⟩
   .obtain⟨M,rfl⟩:∃K,M=K+1:=⟨M-1,by omega⟩;rw[E1,TN,Dy (by omega),Ih,e1,AZ6,Kc nf,Gx];exact g1 M (by omega)
   obtain⟨M,rfl⟩:∃K,M=K+1:=⟨M-1,by omega⟩;rw[U4,TO,c,d,Dy (by omega),Ih,e2,AZ6,Kc nf,Gx];exact g4 M x2 x3 (by omega) (by omega) (by omega)
  have hit:=h1.1 rfl;have hw32:=hit.2.2.2.2.1.1;have r1:=(FE (N:=N) (by omega) x (by omega) o hle).1;have r2:=(FE (N:=N) (l:=l') (w:=w') (i:=i) (by omega) a1 (by omega) t (by omega)).2;have r:=Lk (N:=N) s a hle;have hrn:=r.1;obtain⟨_,_,p3,p4⟩:=GJ (N:=N) (by omega) x o hle;obtain⟨q1,q2⟩:=Ag2 hle o p4;have q1:(Z4 N l w i).n=w.n-l.If.n+l.Out.n:=by rw[<- p3];exact q1
  have q2:∀j,j<(Z4 N l w i).n->vS ((Z4 N l w i).g j):=q2;obtain⟨L,L',g1,g2,g3,g5,g4⟩:=ih (Z4 N l w i) (Z4 N l' w' i) (if l.If.n=0 then i+l.Out.n+1 else i+l.Out.n) r (by omega) q2 (by split<;>omega) (by split<;>omega);refine⟨((i:Int),Z4 N l w i)::L,((i:Int),Z4 N l' w' i)::L',fun M q=>?_,VW q2 g2,by simp;omega,⟨rfl,r,g5⟩,fun M x2 x3 q hx hy=>?_⟩
  .obtain⟨M,rfl⟩:∃K,M=K+1:=⟨M-1,by omega⟩;rw[E1,TN,Dy (by omega),Ih,e1,AZ6,Kb,r1,AZ6,Dy (by omega),Gx];have g1:=g1 M (by omega);by_cases f:l.If.n=0
   .rw[Kc f]at g1;rw[Kc (by simp[f]),g1];rfl
   rw[Ke f]at g1;rw[Ke (by simp[f]),g1];rfl
  obtain⟨M,rfl⟩:∃K,M=K+1:=⟨M-1,by omega⟩;rw[U4,TO,c,d,Dy (by omega),Ih,e2,AZ6,Kb,r2,AZ6,Dy (by omega),Gx,Kw];by_cases u:32<(Z4 N l' w' i).n
  .rw[Ih,Kc u]
  rw[Ka,Ke u,Kc (by show ((x2.n+1)*8<=_/\x2.n+1<=_)/\(x3.n+1)*24<=_/\x3.n+1<=_;omega)];have g4:=g4 M (x2.push (i:Int)) (x3.push (Z4 N l' w' i)) (by omega) (by show x2.n+1+m<=_;omega) (by show x3.n+1+m<=_;omega);by_cases f:l.If.n=0
  .rw[Kc f]at g4;rw[Kc (by simp[f]),g4]
  rw[Ke f]at g4;rw[Ke (by simp[f]),g4]
def Ag6 (N:Nat)(l:Law)(a:Sl Oh->Int->Option TL)(x7:Sl Oh)(x8:Int):Option TL:= if (decide (0<=x8)) then (Cl N l x7 x8).bind fun c=>if (!c) then a x7 (wrap .i64 (x8-1)) else (R7 N l x7 x8).bind fun b=>X1 (x8,b) (a b (wrap .i64 (x8-(if (l.If.n:Int)<1 then 1 else (l.If.n:Int))))) else some []
def Ag7 (N:Nat)(l:Law)(a:Sl Oh->Sl Int->Sl (Sl Oh)->Int->Option Au5)(x1:Sl Oh)(x2:Sl Int)(x3:Sl (Sl Oh))(x4:Int):Option Au5:= if (decide (0<=x4)) then (Ci N l x1 x4).bind fun y5=>if (!y5) then a x1 x2 x3 (wrap .i64 (x4-1)) else (Ac N l x1 x4).bind fun y6=>if (decide (32<(y6.n:Int))) then some (Oc,Og,11) else if (((x2.n+(Sl.of [x4]:Sl Int).n)*8<=140737488355328/\x2.n+(Sl.of [x4]:Sl Int).n<=140737488355328)/\((x3.n+(Sl.of [y6]:Sl (Sl Oh)).n)*24<=140737488355328/\x3.n+(Sl.of [y6]:Sl (Sl Oh)).n<=140737488355328))then if ((l.If.n:Int)==0) then a y6 (x2.push x4) (x3.push y6) (wrap .i64 ((wrap .i64 (x4-(l.If.n:Int)))-1)) else a y6 (x2.push x4) (x3.push y6) (wrap .i64 (x4-(l.If.n:Int))) else none else some (x2,x3,0)
def Au6 (hN:3000<=N){l l' : Law}(hf:AP0 l)(r:LE l l'):∀(m:Nat) (w w' : Sl Oh) (i:Int),SE w w' -> w.n<=100->(∀j,j<w.n->vS (w.g j)) -> -100<=i->i+1<=m->m<=200 ->
 ∃L L',(∀M,m<M->Q3 M (Ag6 N l) w i=some L)/\vL L/\L.length<=m/\RL L L' /\ ∀M x2 x3,m<M->x2.n+m<=1000->x3.n+m<=1000->WM M (Ag7 N l') w' x2 x3 i=some (Kw x2 x3 L'):=by
 obtain⟨hl,_,_,hk,x,y,_,_⟩:=hf;have h6:=x.1;obtain⟨z,_,_,a0,a1,_,_,_⟩:=VV r ⟨hl,‹_›, ‹_›,hk,x,y,‹_›, ‹_›⟩;have c:l'.If.n=l.If.n:=r.cond.1.symm;have hof:l'.Out.n=l.Out.n:=r.out.1.symm;intro m
 induction m with
 |zero=>
  intro w w' i a hn d hi hm a2;have a3:=a.1;refine⟨[],[],fun M f=>?_,TM,Ba0 _,trivial,fun M x2 x3 f _ _=>?_⟩
  .obtain⟨M,rfl⟩:∃K,M=K+1:=⟨M-1,by omega⟩;rw[E1,Ag6,Ka]
  obtain⟨M,rfl⟩:∃K,M=K+1:=⟨M-1,by omega⟩;rw[U4,Ag7,c,Ka,Kw]
 |succ m ih=>
  intro w w' i a hn d hi hm a2;have a3:=a.1;by_cases hle:0<=i
  case neg=>
   refine⟨[],[],fun M f=>?_,TM,by simp,trivial,fun M x2 x3 f _ _=>?_⟩
   .obtain⟨M,rfl⟩:∃K,M=K+1:=⟨M-1,by omega⟩;rw[E1,Ag6,Ka]
   obtain⟨M,rfl⟩:∃K,M=K+1:=⟨M-1,by omega⟩;rw[U4,Ag7,c,Ka,Kw]
  obtain⟨k,rfl⟩:∃k:Nat,i=(k:Int):=⟨i.toNat,by omega⟩;have hw:okW w:=⟨by omega,fun j hj=>(d j hj).ok⟩;have s:=a.v d;have hw' : okW w':=⟨by omega,fun j hj=>(s j hj).ok⟩;obtain⟨b,e1,h1⟩:=Af6 hN hl hk hw k (by omega);obtain⟨b',e2,h2⟩:=Rq hN z a0 hw' k (by omega);obtain rfl:b' = b:=by rw[Bd2,h1,h2,Iv r a]
  cases b'
  .obtain⟨L,L',g1,g2,g3,g5,g4⟩:=ih w w' ((k:Int)-1) a hn d (by omega) (by omega) (by omega);refine⟨L,L',fun M f=>?_,g2,by omega,g5,fun M x2 x3 f hx hy=>?_⟩
   .obtain⟨M,rfl⟩:∃K,M=K+1:=⟨M-1,by omega⟩;rw[E1,Ag6,Jf,e1,AZ6,Kc nf,E4 (by omega) (by omega)];exact g1 M (by omega)
   obtain⟨M,rfl⟩:∃K,M=K+1:=⟨M-1,by omega⟩;rw[U4,Ag7,c,Jf,e2,AZ6,Kc nf,E4 (by omega) (by omega)];exact g4 M x2 x3 (by omega) (by omega) (by omega)
  have t:=h1.1 rfl;have hle:=t.1;have hw32:=t.2.2.2.2.1.1;have r1:=(FE (N:=N) (by omega) x (by omega) d hle).1;have r2:=(FE (N:=N) (l:=l') (w:=w') (i:=k) (by omega) a1 (by omega) s (by omega)).2;have o:=Lk (N:=N) r a hle;have hrn:=o.1;obtain⟨_,_,p3,p4⟩:=GJ (N:=N) (by omega) x d hle;obtain⟨q1,q2⟩:=Ag2 hle d p4;have q1:(Z4 N l w k).n=w.n-l.If.n+l.Out.n:=by rw[<- p3];exact q1
  have q2:∀j,j<(Z4 N l w k).n->vS ((Z4 N l w k).g j):=q2;obtain⟨L,L',g1,g2,g3,g5,g4⟩:=ih (Z4 N l w k) (Z4 N l' w' k) (if l.If.n=0 then (k:Int)-1 else (k:Int)-l.If.n) o (by omega) q2 (by split<;>omega) (by split<;>omega) (by omega);refine⟨((k:Int),Z4 N l w k)::L,((k:Int),Z4 N l' w' k)::L',fun M f=>?_,VW q2 g2,by simp;omega,⟨rfl,o,g5⟩,fun M x2 x3 f hx hy=>?_⟩
  .obtain⟨M,rfl⟩:∃K,M=K+1:=⟨M-1,by omega⟩;rw[E1,Ag6,Jf,e1,AZ6,Kb,r1,AZ6];have g1:=g1 M (by omega);by_cases q:l.If.n=0
   .rw[Kc q]at g1;rw[Ig,E4 (by omega) (by omega),g1];rfl
   rw[Ke q]at g1;rw[Jo,E4 (by omega) (by omega),g1];rfl
  obtain⟨M,rfl⟩:∃K,M=K+1:=⟨M-1,by omega⟩;rw[U4,Ag7,c,Jf,e2,AZ6,Kb,r2,AZ6,Kw];by_cases u:32<(Z4 N l' w' k).n
  .rw[Ih,Kc u]
  rw[Ka,Ke u,Kc (by show ((x2.n+1)*8<=_/\x2.n+1<=_)/\(x3.n+1)*24<=_/\x3.n+1<=_;omega)];have g4:=g4 M (x2.push (k:Int)) (x3.push (Z4 N l' w' k)) (by omega) (by show x2.n+1+m<=_;omega) (by show x3.n+1+m<=_;omega);rw[E4 (n:=(k:Int)-(l.If.n:Int)) (by omega) (by omega)];by_cases q:l.If.n=0
  .rw[Kc q]at g4;rw[Kc (by simp[q]),E4 (by omega) (by omega),show (k:Int)-(l.If.n:Int)-1=(k:Int)-1 by omega,g4]
  rw[Ke q]at g4;rw[Ke (by simp[q]),g4]
end Go.AM
namespace Go.AM
open IntKind (wrap)
open Go.Proofs
abbrev AllS:=Sl Oh×Int×Int
def LI (N:Nat)(l:Law)(q0:Sl Oh)(a:AllS->Option TL)(x1:Int)(z1:AllS):Option TL:= if (decide (x1<z1.2.1)) then a (z1.1,z1.2.1,z1.2.2) else if (((0:Int)<=(wrap .i64 (x1+z1.2.2))/\(wrap .i64 (x1+z1.2.2))<=(z1.1.n:Int))/\((0:Int)<=x1/\x1<=(wrap .i64 (x1+(l.If.n:Int)))/\(wrap .i64 (x1+(l.If.n:Int)))<=(q0.n:Int)))then (O6 N l (q0.sub x1.toNat (wrap .i64 (x1+(l.If.n:Int))).toNat)).bind fun y6=>if ((0:Int)<=(wrap .i64 (x1+(l.If.n:Int)))/\(wrap .i64 (x1+(l.If.n:Int)))<=(q0.n:Int))then (A9 N (Sl.of [z1.1.take (wrap .i64 (x1+z1.2.2)).toNat,y6,q0.drop (wrap .i64 (x1+(l.If.n:Int))).toNat]:Sl (Sl Oh))).bind fun y7=>X1 (x1,y7) (a (y7,wrap .i64 (x1+(if (l.If.n:Int)<1 then 1 else (l.If.n:Int))),wrap .i64 ((wrap .i64 (z1.2.2+(l.Out.n:Int)))-(l.If.n:Int)))) else none else none
def AP2 (N:Nat)(a:Law)(b:Sl Oh)(c:Sl Int->Sl (Sl Oh)->Sl Oh->Int->Option Au5)(x2:Sl Int)(x3:Sl (Sl Oh))(x4:Sl Oh)(x5:Int):Option Au5:= if (decide (x5<=(b.n:Int))) then (Ci N a b x5).bind fun y5=>if (!y5) then lt (fun (z3:Sl Oh)=>c x2 x3 z3 (wrap .i64 (x5+1))) fun k3=>if (decide (x5<(b.n:Int))) then if (((0:Int)<=x5/\x5<(b.n:Int))/\((x4.n+(Sl.of [b.g x5.toNat]:Sl Oh).n)*8<=140737488355328/\x4.n+(Sl.of [b.g x5.toNat]:Sl Oh).n<=140737488355328))then k3 (x4.push (b.g x5.toNat)) else none else k3 x4 else if ((0:Int)<=x5/\x5<=(wrap .i64 (x5+(a.If.n:Int)))/\(wrap .i64 (x5+(a.If.n:Int)))<=(b.n:Int))then (Dn N a (b.sub x5.toNat (wrap .i64 (x5+(a.If.n:Int))).toNat)).bind fun y6=>if ((x4.n+y6.n)*8<=140737488355328/\x4.n+y6.n<=140737488355328)then if ((x2.n+(Sl.of [x5]:Sl Int).n)*8<=140737488355328/\x2.n+(Sl.of [x5]:Sl Int).n<=140737488355328)then if ((((Oe.n+(x4.app y6).n)*8<=140737488355328/\Oe.n+(x4.app y6).n<=140737488355328)/\((0:Int)<=(wrap .i64 (x5+(a.If.n:Int)))/\(wrap .i64 (x5+(a.If.n:Int)))<=(b.n:Int)))/\(((Oe.app (x4.app y6)).n+(b.drop (wrap .i64 (x5+(a.If.n:Int))).toNat).n)*8<=140737488355328/\(Oe.app (x4.app y6)).n+(b.drop (wrap .i64 (x5+(a.If.n:Int))).toNat).n<=140737488355328))then if (decide (32<(((Oe.app (x4.app y6)).app (b.drop (wrap .i64 (x5+(a.If.n:Int))).toNat)).n:Int))) then some (Oc,Og,11) else if ((x3.n+(Sl.of [(Oe.app (x4.app y6)).app (b.drop (wrap .i64 (x5+(a.If.n:Int))).toNat)]:Sl (Sl Oh)).n)*24<=140737488355328/\x3.n+(Sl.of [(Oe.app (x4.app y6)).app (b.drop (wrap .i64 (x5+(a.If.n:Int))).toNat)]:Sl (Sl Oh)).n<=140737488355328)then if ((a.If.n:Int)==0) then if (decide ((wrap .i64 (x5+(a.If.n:Int)))<(b.n:Int))) then if (((0:Int)<=(wrap .i64 (x5+(a.If.n:Int)))/\(wrap .i64 (x5+(a.If.n:Int)))<(b.n:Int))/\(((x4.app y6).n+(Sl.of [b.g (wrap .i64 (x5+(a.If.n:Int))).toNat]:Sl Oh).n)*8<=140737488355328/\(x4.app y6).n+(Sl.of [b.g (wrap .i64 (x5+(a.If.n:Int))).toNat]:Sl Oh).n<=140737488355328))then c (x2.push x5) (x3.push ((Oe.app (x4.app y6)).app (b.drop (wrap .i64 (x5+(a.If.n:Int))).toNat))) ((x4.app y6).push (b.g (wrap .i64 (x5+(a.If.n:Int))).toNat)) (wrap .i64 ((wrap .i64 (x5+(a.If.n:Int)))+1)) else none else c (x2.push x5) (x3.push ((Oe.app (x4.app y6)).app (b.drop (wrap .i64 (x5+(a.If.n:Int))).toNat))) (x4.app y6) (wrap .i64 ((wrap .i64 (x5+(a.If.n:Int)))+1)) else c (x2.push x5) (x3.push ((Oe.app (x4.app y6)).app (b.drop (wrap .i64 (x5+(a.If.n:Int))).toNat))) (x4.app y6) (wrap .i64 (x5+(a.If.n:Int))) else none else none else none else none else none else some (x2,x3,0)
abbrev vW (s:Sl Oh):Prop:=∀j,j<s.n->vS (s.g j)
def AB0 {s t:Sl Oh}(h:vW s)(h' : vW t):vW (s.app t):=fun j a=>by
 have a:j<s.n+t.n:=a;show vS (if j<s.n then s.g j else t.g (j-s.n));split
 .exact h j (by assumption)
 exact h' _ (by omega)
def AL8 {s:Sl Oh}(h:vW s)(k:Nat):vW (s.drop k):=fun j a=>h _ (by have a:j<s.n-k:=a;omega)
def AL9 {s:Sl Oh}(h:vW s){k:Nat}(hk:k<=s.n):vW (s.take k):=fun j a=>h _ (by have a:j<k:=a;omega)
def TP {x s:Sl Oh}{i:Nat}(b:i<s.n):SE (x.app (s.drop i)) ((x.push (s.g i)).app (s.drop (i+1))):=⟨by show x.n+(s.n-i)=x.n+1+(s.n-(i+1));omega,fun j _=>by
 show (if j<x.n then x.g j else s.g (i+(j-x.n)))=if j<x.n+1 then (if j<x.n then x.g j else s.g i)else s.g (i+1+(j-(x.n+1)))
 by_cases h1:j<x.n
 .rw[Kc h1,Ig,Kc h1]
 rw[Ke h1];by_cases a:j=x.n
 .rw[Ig,Ke h1,a];simp
 rw[Jo];congr 1;omega⟩
def Au7 {a x t:Sl Oh}(h:SE a (x.app t)):SE (a.take x.n) x:=⟨rfl,fun j b=>by
 have b:j<x.n:=b;have hn:a.n=x.n+t.n:=h.1;have e:a.g j=if j<x.n then x.g j else t.g (j-x.n):=h.2 j (by omega)
 rw[Kc b]at e;exact e⟩
def Xx {N:Nat}{l:Law}{w:Sl Oh}{K:AllS->Option TL}{acc:Sl Oh}{next sh:Int}:∀(d i:Nat),((i+d:Nat):Int)<=next->N8 (Ef l w i) (LI N l w) K (acc,next,sh)=N8 (Ef l w (i+d)) (LI N l w) K (acc,next,sh)
 |0,i,_=>rfl
 |d+1,i,h=>by
  have ih:=Xx (N:=N) (l:=l) (w:=w) (K:=K) (acc:=acc) (next:=next) (sh:=sh) d (i+1) (by omega);rw[show i+(d+1)=i+1+d by omega,<- ih];by_cases a:PJ l w i
  .rw[JB (by have:=a.1;omega) a];show LI N l w (N8 (Ef l w (i+1)) (LI N l w) K) (i:Int) (acc,next,sh)=_;unfold LI;rw[Ih]
  rw[JC a]
def AM0 {N:Nat}(hN:3000<=N){l l' : Law}(hf:AP0 l)(he:LE l l'){w w' : Sl Oh}(b:SE w w')(hn:w.n<=32)(hv:vW w):∀(m i:Nat) (x4 acc:Sl Oh) (sh next:Int),i<=w.n+1->w.n+1<=i+m ->
 (i<=w.n->SE acc (x4.app (w'.drop i))/\(x4.n:Int)=i+sh)->next<=i->x4.n<=7*i->vW acc -> -1000<=sh->sh<=1000 ->
 ∃L L',N8 (Ef l w i) (LI N l w) (fun _=>some []) (acc,next,sh)=some L/\vL L/\L.length<=m/\RL L L' /\ ∀M x2 x3,m<M->x2.n+m<=1000->x3.n+m<=1000->WM M (AP2 N l' w') x2 x3 x4 i=some (Kw x2 x3 L'):=by
 obtain⟨hl,_,_,hk,ho,hko,_,_⟩:=hf;have h6:=ho.1;obtain⟨hl',_,_,hk',ho',_,_,_⟩:=VV he ⟨hl,‹_›, ‹_›,hk,ho,hko,‹_›, ‹_›⟩;have d:l'.If.n=l.If.n:=he.cond.1.symm;have hn':=b.1;have hw:okW w:=⟨by omega,fun j hj=>(hv j hj).ok⟩;have r : vW w':=b.v hv;have hw' : okW w':=⟨by omega,fun j hj=>(r j hj).ok⟩;have fin:∀(m i:Nat) (x4 acc:Sl Oh) (sh next:Int),w.n<i->∃L L',N8 (Ef l w i) (LI N l w) (fun _=>some []) (acc,next,sh)=some L/\vL L/\L.length<=m/\RL L L' /\ ∀M x2 x3,m<M->x2.n+m<=1000->x3.n+m<=1000->WM M (AP2 N l' w') x2 x3 x4 i=some (Kw x2 x3 L'):=by
  intro m i x4 acc sh next hi
  refine⟨[],[],by rw[Ku (by omega)];rfl,TM,by simp,trivial,fun M x2 x3 hM _ _=>?_⟩;obtain⟨M,rfl⟩:∃K,M=K+1:=⟨M-1,by omega⟩;rw[U4,AP2,Ka,Kw]
 intro m
 induction m with
 |zero=>exact fun i x4 acc sh next h1 t _ _ _ _ _ _=>fin 0 i x4 acc sh next (by omega)
 |succ m ih=>
  intro i x4 acc sh next hi hm hx hnx h7 f u x
  by_cases hle:i<=w.n
  case neg=>exact fin _ i x4 acc sh next (by omega)
  obtain⟨o,hnn⟩:=hx hle;have han:acc.n=x4.n+(w.n-i):=by rw[o.1];show x4.n+(w'.n-i)=_;omega
  obtain⟨b',e2,t⟩:=Rq hN hl' hk' hw' i (by omega);have t:=t.trans (Iv he b).symm;cases b'
  .have hno:¬PJ l w i:=fun h=>by have:=t.2 h;cases this
   rw[JC hno];by_cases y:i<w.n
   .obtain⟨L,L',g1,g2,g3,g5,g4⟩:=ih (i+1) (x4.push (w'.g i)) acc sh next (by omega) (by omega) (fun _=>⟨o.trans (TP (by omega)),by show ((x4.n+1:Nat):Int)=_;omega⟩) (by omega) (by show x4.n+1<=_;omega) f u x
    refine⟨L,L',g1,g2,by omega,g5,fun M x2 x3 hM hx hy=>?_⟩;obtain⟨M,rfl⟩:∃K,M=K+1:=⟨M-1,by omega⟩;rw[U4,AP2,d,Ih,e2,AZ6,Kc nf,lt,Ih,Kc ⟨by omega,by show (x4.n+1)*8<=_/\x4.n+1<=_;omega⟩,Gx,AZ2];exact g4 M x2 x3 (by omega) (by omega) (by omega)
   obtain⟨L,L',g1,g2,g3,g5,g4⟩:=ih (i+1) x4 acc sh next (by omega) (by omega) (fun h=>by omega) (by omega) (by omega) f u x
   refine⟨L,L',g1,g2,by omega,g5,fun M x2 x3 hM hx hy=>?_⟩;obtain⟨M,rfl⟩:∃K,M=K+1:=⟨M-1,by omega⟩;rw[U4,AP2,d,Ih,e2,AZ6,Kc nf,lt,Ka,Gx];exact g4 M x2 x3 (by omega) (by omega) (by omega)
  have z:=t.1 rfl;have a0:=z.1;rw[JB hle z];obtain⟨p1,_,p3,p4⟩:=GJ (N:=N) (by omega) ho hv a0;obtain⟨_,p2,_,_⟩:=GJ (N:=N) (l:=l') (i:=i) (by omega) ho' r (by omega);rw[<- NI he b a0,d]at p2;generalize hY:Hs N l w i=Y at p1 p2 p3 p4;have c:SE (((acc.take x4.n).app Y).app (w.drop (i+l.If.n))) ((x4.app Y).app (w'.drop (i+l.If.n))):=((Au7 o).app (SE.refl _)).app (b.drop _);have q:vW (((acc.take x4.n).app Y).app (w.drop (i+l.If.n))):=AB0 (AB0 (AL9 f (by omega)) p4) (AL8 hv _);generalize hZ:(((acc.take x4.n).app Y).app (w.drop (i+l.If.n)))=Z at c q;have hZn:Z.n=x4.n+Y.n+(w.n-(i+l.If.n)):=by rw[<- hZ]
  obtain⟨L,L',g1,g2,g3,g5,g4⟩:=ih (if l.If.n=0 then i+1 else i+l.If.n) (if l.If.n=0/\i<w.n then (x4.app Y).push (w'.g i)else x4.app Y) Z (sh+l.Out.n-l.If.n) (if l.If.n=0 then i+1 else i+l.If.n:Nat)
   (by split<;>omega) (by split<;>omega)
   (fun h=>by
    by_cases a:l.If.n=0
    .rw[Kc a]at h;rw[Kc a,Kc ⟨a,by omega⟩];rw[a]at c;exact⟨c.trans (TP (by omega)),by show ((x4.n+Y.n+1:Nat):Int)=_;omega⟩
    rw[Ke a,Jo];exact⟨c,by show ((x4.n+Y.n:Nat):Int)=_;omega⟩)
   (by omega)
   (by
    by_cases a:l.If.n=0
    .rw[Kc a];split
     .show x4.n+Y.n+1<=_;omega
     show x4.n+Y.n<=_;omega
    rw[Ke a,Jo];show x4.n+Y.n<=_;omega)
   q (by omega) (by omega)
  refine⟨((i:Int),Z)::L,((i:Int),(x4.app Y).app (w'.drop (i+l.If.n)))::L', ?_,VW q g2,by simp;omega,⟨rfl,c,g5⟩,fun M x2 x3 hM hx hy=>?_⟩
  .show LI N l w (N8 (Ef l w (i+1)) (LI N l w) fun _=>some []) (i:Int) (acc,next,sh)=_;unfold LI;have es:wrap .i64 ((i:Int)+sh)=((x4.n:Nat):Int):=by rw[E4 (by omega) (by omega),hnn]
   simp only[es];rw[Dy (by omega),Ka,Ig];simp only[AZ2];rw[p1,AZ6,Ig,Ag3 (by omega) (by show x4.n<=_;omega) (by omega) (by show w.n-(i+l.If.n)<=_;omega),AZ6,hZ];have en:wrap .i64 ((i:Int)+(if (l.If.n:Int)<1 then 1 else (l.If.n:Int)))=((if l.If.n=0 then i+1 else i+l.If.n:Nat):Int):=by
    by_cases a:l.If.n=0
    .rw[Ig,Kc a,E4 (by omega) (by omega)];omega
    rw[Jo,Ke a,E4 (by omega) (by omega)];omega
   have eh:wrap .i64 ((wrap .i64 (sh+(l.Out.n:Int)))-(l.If.n:Int))=sh+l.Out.n-l.If.n:=by rw[E4 (n:=sh+(l.Out.n:Int)) (by omega) (by omega),E4 (by omega) (by omega)]
   rw[en,eh];have sk:=Xx (N:=N) (l:=l) (w:=w) (K:=fun _=>some []) (acc:=Z) (next:=((if l.If.n=0 then i+1 else i+l.If.n:Nat):Int)) (sh:=sh+l.Out.n-l.If.n) (if l.If.n=0 then 0 else l.If.n-1) (i+1) (by split<;>omega);rw[show i+1+(if l.If.n=0 then 0 else l.If.n-1)=(if l.If.n=0 then i+1 else i+l.If.n) by split<;>omega]at sk;show X1 _ (N8 (Ef l w (i+1)) (LI N l w) (fun _=>some []) (Z,_,_))=_;rw[sk,g1];rfl
  obtain⟨M,rfl⟩:∃K,M=K+1:=⟨M-1,by omega⟩;have hdn:((x4.app Y).app (w'.drop (i+l.If.n))).n=x4.n+Y.n+(w'.n-(i+l.If.n)):=rfl;rw[U4,AP2,d,Ih,e2,AZ6,Kb,Dy (by omega),Ig];simp only[AZ2];rw[p2,AZ6,Ig,Kc (by show (x2.n+1)*8<=_/\x2.n+1<=_;omega)];rw[Kc ⟨⟨by show (0+(x4.n+Y.n))*8<=_/\0+(x4.n+Y.n)<=_;omega,by omega⟩,by simp only[Bk5];omega⟩,Kw];by_cases a1:32<((x4.app Y).app (w'.drop (i+l.If.n))).n
  .rw[Kc (by simp only[Lt,Bk5];omega),Kc a1]
  rw[Ke (by simp only[Lt,Bk5];omega),Ke a1,AL4 (s:=Oe) rfl,Kc (by show (x3.n+1)*24<=_/\x3.n+1<=_;omega)];have g4:=g4 M (x2.push (i:Int)) (x3.push ((x4.app Y).app (w'.drop (i+l.If.n)))) (by omega) (by show x2.n+1+m<=_;omega) (by show x3.n+1+m<=_;omega);by_cases a:l.If.n=0
  .rw[Kc (by simp[a])];rw[Kc a]at g4;by_cases y:i<w.n
   .rw[Kc ⟨a,y⟩]at g4;rw[Kc (by simp only[Lt];omega),Kc ⟨by omega,by show (x4.n+Y.n+1)*8<=_/\x4.n+Y.n+1<=_;omega⟩,Gx,show w'.g (i+l.If.n)=w'.g i by rw[a];rfl,show i+l.If.n+1=i+1 by omega];exact g4
   rw[Jo]at g4;rw[Ke (by simp only[Lt];omega),Gx,show i+l.If.n+1=i+1 by omega];exact g4
  rw[Ke (by simp[a])];rw[Ke a,Jo]at g4;exact g4
def trS (r r' : Au5):Prop:=r.1=r'.1/\r.2.1.n=r'.2.1.n/\(∀i,i<r.2.1.n->SE (r.2.1.g i) (r'.2.1.g i))/\r.2.2=r'.2.2
def AB1:∀(L L' : TL) (x:Sl Int) (y y' : Sl (Sl Oh)),RL L L' -> y.n=y'.n->(∀i,i<y.n->SE (y.g i) (y'.g i))->trS (Kw x y L) (Kw x y' L')
 |[],[],x,y,y',_,h1,h2=>⟨rfl,h1,h2,rfl⟩
 |(p,v)::L,(q,u)::M,x,y,y',⟨h3,h4,h5⟩,h1,h2=>by
  subst h3;unfold Kw;rw[<- h4.1];split
  .exact⟨rfl,rfl,fun i a=>Lq a (Bb5 i),rfl⟩
  refine AB1 L M _ _ _ h5 (by show y.n+1=y'.n+1;omega) fun i a=>?_;have a:i<y.n+1:=a;show SE (if i<y.n then y.g i else v) (if i<y'.n then y'.g i else u);rw[<- h1];split
  .exact h2 i (by assumption)
  exact h4
 |[],_::_,_,_,_,h,_,_=>h.elim
 |_::_,[],_,_,_,h,_,_=>h.elim
def Ag8:∀(L:TL) (x:Sl Int) (y:Sl (Sl Oh)),vL L->(∀i,i<y.n->wOk (y.g i))->(Kw x y L).2.2=11 \/ ((Kw x y L).2.2=0/\(Kw x y L).2.1.n<=y.n+L.length/\∀i,i<(Kw x y L).2.1.n->wOk ((Kw x y L).2.1.g i))
 |[],x,y,_,h=>.inr ⟨rfl,Ba0 _,h⟩
 |(p,v)::L,x,y,hv,h=>by
  unfold Kw;split
  .exact .inl rfl
  have:=Ag8 L (x.push p) (y.push v) (fun z b=>hv z (Bb1 _ b)) fun i d=>by
   show wOk (if i<y.n then y.g i else v);split
   .exact h i (by assumption)
   exact⟨by omega,hv (p,v) (by simp)⟩
  rcases this with h|⟨h1,a,c⟩
  .exact .inl h
  refine .inr ⟨h1,?_,c⟩;have a:_<=y.n+1+L.length:=a;simp only[Bd3];omega
def TQ:∀(L:TL) (x:Sl Int) (y:Sl (Sl Oh)),x.n+L.length<=100000->y.n+L.length<=100000 ->
 N8 L (fun (a:Sl Int×Sl (Sl Oh)->Option Au5) (x1:Int×(Sl Oh)) (z1:(Sl Int)×(Sl (Sl Oh)))=>
  if (decide (32<(x1.2.n:Int))) then
   some (Oc,Og,11)
  else
   if ((z1.1.n+(Sl.of [x1.1]:Sl Int).n)*8<=140737488355328/\z1.1.n+(Sl.of [x1.1]:Sl Int).n<=140737488355328)then
    if ((z1.2.n+(Sl.of [x1.2]:Sl (Sl Oh)).n)*24<=140737488355328/\z1.2.n+(Sl.of [x1.2]:Sl (Sl Oh)).n<=140737488355328)then
     a (z1.1.push x1.1,z1.2.push x1.2)
    else none
   else none
  ) (fun (z1:(Sl Int)×(Sl (Sl Oh)))=>
   some (z1.1,z1.2,0)
  ) (x,y)=some (Kw x y L)
 |[],x,y,_,_=>rfl
 |(p,v)::L,x,y,hx,hy=>by
  simp only[Bd3]at hx hy;have ih:=TQ L (x.push p) (y.push v) (by show x.n+1+_<=_;omega) (by show y.n+1+_<=_;omega);rw[N8,Kw];by_cases h:32<v.n
  .rw[Ih,Kc h]
  rw[Ka,Ke h,Kc (by show (x.n+1)*8<=_/\x.n+1<=_;omega),Kc (by show (y.n+1)*24<=_/\y.n+1<=_;omega)];exact ih
def trE (N:Nat)(l:Law)(w:Sl Oh)(r:Au5):Prop:=(r.2.2=17/\¬chkAll N l) \/ (chkAll N l/\Xt w r.2.2/\r.2.2≠0) \/ (chkAll N l/\wOk w/\(r.2.2=11 \/ (r.2.2=0/\r.2.1.n<=1000/\∀i,i<r.2.1.n->wOk (r.2.1.g i))))
def Ag9 (e:Int):trS (Oc,Og,e) (Oc,Og,e):=⟨rfl,rfl,fun i a=>Lq a (Bb5 i),rfl⟩
def AB2 {w w' : Sl Oh}(h:SE w w'){e:Int}(hw:Xt w e):Xt w' e:=by
 rcases hw with⟨h1,a⟩ | ⟨h1,⟨i,b,a⟩,c⟩ | ⟨h1,a⟩
 .exact .inl ⟨by rw[<- h.1];exact h1,a⟩
 .exact .inr (.inl ⟨by rw[<- h.1];exact h1,⟨i,by rw[<- h.1];exact b,by rw[<- h.2 i b];exact a⟩,c⟩)
 exact .inr (.inr ⟨h.wOk h1,a⟩)
def AW6 {w w' : Sl Oh}(h:SE w w')(hw:∀i,i<w.n->okS (w.g i)):∀i,i<w'.n->okS (w'.g i):=fun i a=>by rw[<- h.2 i (by rw[h.1];exact a)];exact hw i (by rw[h.1];exact a)
def Ah0 {N:Nat}(u:3000000<=N){l l' : Law}(hl:LH l)(hle:LE l l'){w w' : Sl Oh}(a:SE w w')(hw:∀i,i<w.n->okS (w.g i)) :∃r r',Dq N l w=some r/\Ik N l' w' = some r' /\ trS r r' /\ trE N l w r:=by
 obtain⟨e,e1,_,v⟩:=EJ u hl;obtain⟨e0,_,e2,q⟩:=EJ u (LR hle hl);obtain rfl:=TI (AL7 hle v) q;unfold Dq Ik Fu Np;rw[e1,e2,AZ6,AZ6];rcases v with⟨rfl,hc⟩ | ⟨rfl,hc⟩
 case inr=>rw[Kc (by decide),Kc (by decide)];exact⟨_,_,rfl,rfl,Ag9 17,.inl ⟨rfl,hc⟩⟩
 rw[Ke (by decide),Ke (by decide)];obtain⟨e',e3,c⟩:=GI (N:=N) (by omega) hw;obtain⟨e'',e4,j⟩:=Hi (N:=N) (by omega) (AW6 a hw);obtain rfl:=NG (AB2 a c) j;rw[e3,e4];simp only[AZ6];by_cases d:e' = 0
 case neg=>rw[Kc (by simpa using d),Kc (by simpa using d)];exact⟨_,_,rfl,rfl,Ag9 e', .inr (.inl ⟨hc,c,d⟩)⟩
 rw[Ke (by simp[d]),Ke (by simp[d])];have b:wOk w:=(Bz c).1 d;have o:=hc.f hl;obtain⟨s,_,_,hk,ho,y,z,a0⟩:=id o;have hn:=b.1;have t:=a.1;have key:∃L L',BO N w l (l.If.n:Int) (l.Out.n:Int)=some L/\vL L/\L.length<=100/\RL L L' /\
  (if (l'.Mode==1) then (Nq N l' w').bind fun y2=>some (y2.1,y2.2.1,y2.2.2)
   else if (l'.Mode==2) then (Ij N l' w').bind fun y3=>some (y3.1,y3.2.1,y3.2.2)
   else (He N l' w').bind fun y4=>some (y4.1,y4.2.1,y4.2.2))=some (Kw Oc Og L'):=by
  unfold BO;rw[hle.mode];by_cases c1:l.Mode=1
  .rw[Kc (show (l.Mode==1)=true by simp[c1]),Kc (show (l.Mode==1)=true by simp[c1])];obtain⟨L,L',g1,g2,g3,g5,g4⟩:=AM0 (N:=N) (by omega) o hle a hn b.2 (w.n+1) 0 Od w 0 0 (by omega) (by omega) (fun _=>⟨by rw[AL4 rfl];exact⟨a.1,fun i m=>by rw[a.2 i m];show _=w'.g (0+i);rw[Bd4]⟩,rfl⟩) (by omega) (by show 0<=_;omega) b.2 (by omega) (by omega);have hh:=Xv (N:=N) (by omega) s hk (w:=w) (vOk b) 0 (by omega);refine⟨L,L', ?_,g2,by omega,g5,?_⟩
   .show ((Y9 N l w ((0:Nat):Int)).bind fun L1=>N8 L1 (LI N l w) (fun _=>some []) (w,0,0))=_;rw[hh,AZ6];exact g1
   have:Nq N l' w' = some _:=g4 N Oc Og (by omega) (by show 0+_<=_;omega) (by show 0+_<=_;omega)
   rw[this];rfl
  rw[Ke (show ¬(l.Mode==1)=true by simp[c1]),Ke (show ¬(l.Mode==1)=true by simp[c1])];by_cases c2:l.Mode=2
  .rw[Kc (show (l.Mode==2)=true by simp[c2]),Kc (show (l.Mode==2)=true by simp[c2])];obtain⟨L,L',g1,g2,g3,g5,g4⟩:=Ag5 (N:=N) (by omega) o hle (w.n+1) w w' 0 a (by omega) b.2 (by omega) (by omega);refine⟨L,L',g1 N (by omega),g2,by omega,g5,?_⟩
   have:Ij N l' w' = some _:=g4 N Oc Og (by omega) (by show 0+_<=_;omega) (by show 0+_<=_;omega)
   rw[this];rfl
  have c3:l.Mode=3:=by omega
  rw[Ke (show ¬(l.Mode==2)=true by simp[c2]),Ke (show ¬(l.Mode==2)=true by simp[c2]),Kc (show (l.Mode==3)=true by simp[c3])];obtain⟨L,L',g1,g2,g3,g5,g4⟩:=Au6 (N:=N) (by omega) o hle (w.n+1) w w' ((w.n:Int)-(l.If.n:Int)) a (by omega) b.2 (by omega) (by omega) (by omega);refine⟨L,L', ?_,g2,by omega,g5,?_⟩
  .rw[E4 (by omega) (by omega)];exact g1 N (by omega)
  have g4:=g4 N Oc Og (by omega) (by show 0+_<=_;omega) (by show 0+_<=_;omega)
  have:He N l' w' = some (Kw Oc Og L'):=by unfold He;rw[show wrap .i64 ((w'.n:Int)-(l'.If.n:Int))=(w.n:Int)-(l.If.n:Int) by rw[<- t, <- hle.cond.1,E4 (by omega) (by omega)]];exact g4
  rw[this];rfl
 obtain⟨L,L',g1,g2,g3,g5,g4⟩:=key;refine⟨Kw Oc Og L,_,?_,g4,AB1 L L' _ _ _ g5 rfl fun i m=>Lq m (Bb5 i),.inr (.inr ⟨hc,b,?_⟩)⟩
 .rw[Jv,AZ6];show ((BO N w l (l.If.n:Int) (l.Out.n:Int)).bind _)=_;rw[g1,AZ6];exact TQ L _ _ (by show 0+_<=_;omega) (by show 0+_<=_;omega)
 rcases Ag8 L Oc Og g2 fun i m=>Lq m (Bb5 i)with h|⟨h1,x,h3⟩
 .exact .inl h
 exact .inr ⟨h1,by have x:_<=0+L.length:=x;omega,h3⟩
end Go.AM
namespace Go.AM
variable {N:Nat}
open IntKind (wrap)
open Go.Proofs
def apE (N:Nat)(l:Law)(w:Sl Oh)(r:Sl Oh×Int):Prop:=(r.2=17/\¬chkAll N l) \/ (chkAll N l/\Xt w r.2/\r.2≠0) \/ (chkAll N l/\wOk w/\(r.2=11 \/ (r.2=0/\wOk r.1)))
def JD (o:3000000<=N){l l' : Law}(hl:LH l)(hle:LE l l'){w w' : Sl Oh}(b:SE w w')(hw:∀i,i<w.n->okS (w.g i)) :∃r r',S2 N l w=some r/\Ft N l' w' = some r' /\ SE r.1 r'.1/\r.2=r'.2/\apE N l w r:=by
 obtain⟨⟨x,y,e⟩,⟨x',y',e'⟩,h1,q,⟨_,hn,hs,m⟩,ht⟩:=Ah0 o hl hle b hw;dsimp only at hn hs m;subst m;have t:=b.1;unfold trE at ht;dsimp only at ht;unfold S2 Ft;rw[h1,q,AZ6,AZ6];dsimp only;by_cases a:e=0
 case neg=>
  rw[Kc (show (e != 0)=true by simpa using a),Kc (show (e != 0)=true by simpa using a)];refine⟨_,_,rfl,rfl,SE.refl _,rfl,?_⟩;rcases ht with h|h|⟨j,c,d⟩
  .exact .inl h
  .exact .inr (.inl h)
  exact .inr (.inr ⟨j,c,.inl (d.resolve_right fun h=>a h.1)⟩)
 rw[Ke (show ¬(e != 0)=true by simp[a]),Ke (show ¬(e != 0)=true by simp[a])];rcases ht with h|h|⟨j,c,d⟩
 .exact Lq (h.1.symm.trans a) (by decide)
 .exact Lq a h.2.2
 rcases d with d|⟨_,h6,u⟩
 .exact Lq (d.symm.trans a) (by decide)
 have v:=c.1;by_cases hy:y.n=0
 .rw[Ke (show ¬decide ((0:Int)<(y.n:Int))=true by simp[hy]),Kc (show ((y'.n:Int)==0)=true by simp[<- hn,hy]),Kc (by show (0+w'.n)*8<=_/\0+w'.n<=_;omega),AL4 (s:=Oe) rfl];unfold A6;rw[Ig];exact⟨_,_,rfl,rfl,b,rfl,.inr (.inr ⟨j,c,.inr ⟨rfl,c⟩⟩)⟩
 have hk:=u (y.n-1) (by omega);have f:=hs (y.n-1) (by omega);have hb:=hk.1;have z:=f.1;have e1:wrap .i64 ((y.n:Int)-1)=((y.n-1:Nat):Int):=AW0 (by omega) (by omega);have e2:wrap .i64 ((y'.n:Int)-1)=((y.n-1:Nat):Int):=by rw[<- hn];exact e1
 rw[e1,e2,AZ2,Kc (show decide ((0:Int)<(y.n:Int))=true by simp;omega),Ig,Ke (show ¬((y'.n:Int)==0)=true by simp;omega),Kc ⟨by omega,by show (0+(y'.g (y.n-1)).n)*8<=_/\0+(y'.g (y.n-1)).n<=_;omega⟩,AL4 (s:=Oe) rfl];exact⟨_,_,rfl,rfl,f,rfl,.inr (.inr ⟨j,c,.inr ⟨rfl,hk⟩⟩)⟩
def TR {s:Sl Law}(m:s.n<N)(hs:s.n<1000000){f:Law->Option Bool}{b:Nat->Bool}(o:∀i,i<s.n->f (s.g i)=some (b i)) :∃r,C8 N s f=some r/\(r=true ↔ ∃i,i<s.n/\b i=true):=by
 unfold C8 F7
 have:∃y,Q5 N (fun (a:Int->Option Int) (x1:Int)=>
  if (decide (x1<(s.n:Int))) then
   if ((0:Int)<=x1/\x1<(s.n:Int))then
    (f (s.g x1.toNat)).bind fun y3=>
    if y3 then
     some x1
    else
     a (wrap .i64 (x1+1))
   else none
  else
   some (-1)) 0=some y/\(0<=y ↔ ∃i,i<s.n/\b i=true):=by
  refine Av (fun i x1=>x1=(i:Int)/\∀j,j<i->b j=false) s.n _ m ⟨rfl,fun j c=>Lq c (by omega)⟩ ?_;rintro l i x1 q ⟨rfl,h⟩ d;by_cases hl:i<s.n
  .refine Ao (Am (B0 (by rw[AZ2];exact o i hl) ?_));cases hb:b i
   .refine Dg (d hl _ ⟨Gx,fun j c=>?_⟩);by_cases e:j=i
    .subst e;exact hb
    exact h j (by omega)
   exact ifT rfl ⟨i,rfl,fun _=>⟨i,hl,hb⟩,fun _=>by omega⟩
  refine Df ⟨-1,rfl,fun h=>Lq h (by decide),?_⟩;rintro⟨j,c,hb⟩;rw[h j (by omega)]at hb;cases hb
 obtain⟨y,e,hy⟩:=this;exact B0 e ⟨_,rfl,by rw[Lt];exact hy⟩
def LJ (N:Nat)(laws:Sl Law)(e:Int):Prop:=(64<laws.n/\e=12) \/ (laws.n<=64/\(∃i,i<laws.n/\¬chkAll N (laws.g i))/\e=17) \/ ((laws.n<=64/\∀i,i<laws.n->chkAll N (laws.g i))/\e=0)
def Hj {laws:Sl Law}{e e' : Int}(h:LJ N laws e)(h' : LJ N laws e'):e=e':=by rcases h with⟨h,rfl⟩ | ⟨h,⟨i,b,a⟩,rfl⟩ | ⟨⟨h,a⟩,rfl⟩<;>rcases h' with⟨g,rfl⟩ | ⟨g,⟨j,c,g2⟩,rfl⟩ | ⟨⟨g,g2⟩,rfl⟩<;>first|rfl|(exfalso;omega)|exact Lq (g2 i b) a|exact Lq (a j c) g2
def LS (s t:Sl Law):Prop:=s.n=t.n/\∀i,i<s.n->LE (s.g i) (t.g i)
def LS.refl (s:Sl Law):LS s s:=⟨rfl,fun _ _=>LE.refl _⟩
def Ah1 {laws laws' : Sl Law}(h:LS laws laws'){e:Int}(hw:LJ N laws e):LJ N laws' e:=by
 have hn:=h.1;rcases hw with⟨h1,a⟩ | ⟨h1,⟨i,c,a⟩,b⟩ | ⟨⟨h1,a⟩,b⟩
 .exact .inl ⟨by omega,a⟩
 .exact .inr (.inl ⟨by omega,⟨i,by omega,fun g=>a ((EK (h.2 i c)).2 g)⟩,b⟩)
 exact .inr (.inr ⟨⟨by omega,fun i c=>(EK (h.2 i (by omega))).1 (a i (by omega))⟩,b⟩)
def EL (laws:Sl Law):Prop:=∀i,i<laws.n->LH (laws.g i)
def Xy {laws laws' : Sl Law}(h:LS laws laws')(hl:EL laws):EL laws':=fun i a=>by exact LR (h.2 i (by rw[h.1];exact a)) (hl i (by rw[h.1];exact a))
def PL (o:3000000<=N){laws:Sl Law}(hl:EL laws):∃e,W2 N laws=some e/\Fr N laws=some e/\LJ N laws e:=by
 have h1:∃e,W2 N laws=some e/\LJ N laws e:=by
  unfold W2;by_cases hn:64<laws.n
  .exact Ao ⟨12,rfl,.inl ⟨hn,rfl⟩⟩
  refine Df ?_;have u:∀i,∃b,i<laws.n->Q9 N (laws.g i)=some b/\(b=true ↔ ¬chkAll N (laws.g i)):=by
   intro i;by_cases a:i<laws.n
   .obtain⟨e,e1,_,d⟩:=EJ o (hl i a);refine⟨e != 0,fun _=>⟨by unfold Q9;rw[e1];rfl,?_⟩⟩;rcases d with⟨rfl,h⟩ | ⟨rfl,h⟩
    .exact⟨fun h=>Lq h (by decide),fun g=>Lq h g⟩
    exact⟨fun _=>h,fun _=>by decide⟩
   exact⟨false,fun h=>Lq h a⟩
  obtain⟨f,l⟩:=Bi2 u;obtain⟨r,e1,h1⟩:=TR (N:=N) (s:=laws) (by omega) (by omega) (f:=fun u1=>Q9 N u1) (fun i a=>(l i a).1);refine B0 e1 ?_;cases q:r
  .refine Dg ⟨0,rfl,.inr (.inr ⟨⟨by omega,fun i a=>Ba9 fun hn=>?_⟩,rfl⟩)⟩
   have:=h1.2 ⟨i,a,(l i a).2.2 hn⟩
   rw[q]at this;cases this
  obtain⟨i,a,hb⟩:=h1.1 q;exact ifT rfl ⟨17,rfl,.inr (.inl ⟨by omega,⟨i,a,(l i a).2.1 hb⟩,rfl⟩)⟩
 have v:∃e,Fr N laws=some e/\LJ N laws e:=by
  unfold Fr;by_cases hn:64<laws.n
  .exact Ao ⟨12,rfl,.inl ⟨hn,rfl⟩⟩
  refine Df ?_;refine Av (fun i x1=>x1=(i:Int)/\∀j,j<i->chkAll N (laws.g j)) laws.n _ (by omega) ⟨rfl,fun j m=>Lq m (by omega)⟩ ?_;rintro t i x1 a ⟨rfl,h⟩ hs;by_cases c:i<laws.n
  .obtain⟨e,_,e1,d⟩:=EJ o (hl i c);refine Ao (Am (B0 (by rw[AZ2];exact e1) ?_));rcases d with⟨rfl,hc⟩ | ⟨rfl,hc⟩
   .refine Gv (hs c _ ⟨Gx,fun j m=>?_⟩);by_cases e:j=i
    .subst e;exact hc
    exact h j (by omega)
   exact Az ⟨17,rfl,.inr (.inl ⟨by omega,⟨i,c,hc⟩,rfl⟩)⟩
  exact Df ⟨0,rfl,.inr (.inr ⟨⟨by omega,fun j m=>h j (by omega)⟩,rfl⟩)⟩
 obtain⟨e,e1,g1⟩:=h1;obtain⟨e',e2,g2⟩:=v;obtain rfl:=Hj g1 g2;exact⟨_,e1,e2,g1⟩
def AB3 (l:Sl (Sl Oh))(e:Int):Prop:=(e=0/\∀i,i<l.n->wOk (l.g i)) \/ (∃i,i<l.n/\(∀j,j<i->wOk (l.g j))/\Xt (l.g i) e/\e≠0)
def Ze (o:3000000<=N){l:Sl (Sl Oh)}(hn:l.n<2000000)(hw:∀i,i<l.n->∀j,j<(l.g i).n->okS ((l.g i).g j)) :∃e,Q5 N (fun (a:Int->Option Int) (x1:Int)=>
  if (decide (x1<(l.n:Int))) then
   if ((0:Int)<=x1/\x1<(l.n:Int))then
    (J6 N (l.g x1.toNat)).bind fun y4=>
    if (y4 != 0) then
     some y4
    else
     a (wrap .i64 (x1+1))
   else none
  else
   some 0
  ) 0=some e/\AB3 l e:=by
 refine Av (fun i x1=>x1=(i:Int)/\∀j,j<i->wOk (l.g j)) l.n _ (by omega) ⟨rfl,fun j d=>Lq d (by omega)⟩ ?_;rintro f i x1 q ⟨rfl,h⟩ hs;by_cases b:i<l.n
 .obtain⟨e,e1,m⟩:=GI (N:=N) (by omega) (hw i b);refine Ao (Am (B0 (by rw[AZ2];exact e1) ?_));by_cases c:e=0
  .refine ifF (by simp[c]) (hs b _ ⟨Gx,fun j d=>?_⟩);by_cases e:j=i
   .subst e;exact (Bz m).1 c
   exact h j (by omega)
  exact ifT (by simpa using c) ⟨e,rfl,.inr ⟨i,b,h,m,c⟩⟩
 exact Df ⟨0,rfl,.inl ⟨rfl,fun j d=>h j (by omega)⟩⟩
def AM1 {w:Sl Oh}{e:Int}(h:AB3 (Sl.of [w]:Sl (Sl Oh)) e):Xt w e:=by
 rcases h with⟨rfl,h⟩ | ⟨i,a,_,h,_⟩
 .exact .inr (.inr ⟨h 0 (by show 0<1;omega),rfl⟩)
 match i,a with
 |0,_=>exact h
def NJ (b:3000000<=N){laws:Sl Law}(hl:EL laws){w:Sl Oh}(hw:∀i,i<w.n->okS (w.g i)) :∃e,AI N laws (Sl.of [w]:Sl (Sl Oh))=some e/\((LJ N laws e/\e≠0) \/ (LJ N laws 0/\Xt w e)):=by
 unfold AI;obtain⟨e,e1,_,h1⟩:=PL b hl;refine B0 e1 ?_;by_cases a:e=0
 case neg=>exact ifT (by simpa using a) ⟨e,rfl,.inl ⟨h1,a⟩⟩
 refine ifF (by simp[a]) (ifF (by show ¬decide ((256:Int)<((1:Nat):Int))=true;decide) ?_);obtain⟨e2,e3,c⟩:=Ze (N:=N) b (l:=(Sl.of [w]:Sl (Sl Oh))) (by show 1<_;omega) fun i d=>by
  match i,d with
  |0,_=>exact hw
 exact⟨e2,e3,.inr ⟨a ▸ h1,AM1 c⟩⟩
def T5 (N:Nat)(c:Int)(q1:Sl Law)(a:Sl Oh->Int->Option TL)(x1:Sl Oh)(x2:Int):Option TL:= if (decide (x2<(q1.n:Int))) then if ((0:Int)<=x2/\x2<(q1.n:Int))then (S2 N (q1.g x2.toNat) x1).bind fun y4=>if (y4.2 != 0) then if y4.2=c then some []else none else X1 (wrap .i64 (x2+1),y4.1) (a y4.1 (wrap .i64 (x2+1))) else none else if c=0 then some []else none
def S3 {c:Int}{laws:Sl Law}{a:Sl Oh->Int->Option TL}{w:Sl Oh}{i:Nat}(d:i<laws.n)(b:laws.n<=64){y:Sl Oh×Int}(h:S2 N (laws.g i) w=some y) :T5 N c laws a w (i:Int)=if (y.2 != 0) then (if y.2=c then some []else none)else X1 (((i+1:Nat):Int),y.1) (a y.1 ((i+1:Nat):Int)):=by unfold T5;rw[Kc (show decide ((i:Int)<(laws.n:Int))=true by simp;omega),Ig,AZ2,h,AZ6,Gx]
abbrev AW7:=(Sl (Sl Oh))×Int
def GK (N:Nat)(a:Sl Law)(b:Sl (Sl Oh)->Int->Option AW7)(x2:Sl (Sl Oh))(x3:Int):Option AW7:= if (decide (x3<(a.n:Int))) then if ((((0:Int)<=x3/\x3<(a.n:Int))/\((0:Int)<=x3/\x3<(x2.n:Int)))/\x3.toNat<x2.n)then (Ft N (a.g x3.toNat) (x2.g x3.toNat)).bind fun y7=>if (y7.2 != 0) then some (Og,y7.2) else if ((x2.n+(Sl.of [y7.1]:Sl (Sl Oh)).n)*24<=140737488355328/\x2.n+(Sl.of [y7.1]:Sl (Sl Oh)).n<=140737488355328)then b (x2.push y7.1) (wrap .i64 (x3+1)) else none else none else some (x2,0)
def JE:Sl Oh->TL->Sl Oh
 |w,[]=>w
 |_,(_,v)::L=>JE v L
def JF:∀(L:TL) (w:Sl Oh),N8 L (fun (a:Sl Oh->Option (Sl Oh)) (x1:Int×(Sl Oh)) (z1:Sl Oh)=>a x1.2) (fun (z1:Sl Oh)=>some z1) w=some (JE w L)
 |[],w=>rfl
 |(p,v)::L,w=>JF L v
def EM (N:Nat)(laws:Sl Law):Prop:=laws.n<=64/\∀i,i<laws.n->chkAll N (laws.g i)
def Ah2 (x:3000000<=N){laws laws' : Sl Law}(hl:EL laws)(o:LS laws laws')(q:EM N laws):∀(m i:Nat) (w w' : Sl Oh),SE w w' -> wOk w->i<=laws.n->laws.n<=i+m ->
 (∃L v',SE (JE w L) v' /\ wOk (JE w L)/\(∀M,m<M->Q3 M (T5 N 0 laws) w i=some L)/\∀M x2,m<M->x2.n=i+1->x2.g i=w' -> ∃y,Q3 M (GK N laws') x2 i=some (y,0)/\y.n=laws.n+1/\y.g laws.n=v') \/
 ((∃L,∀M,m<M->Q3 M (T5 N 0 laws) w i=none/\Q3 M (T5 N 11 laws) w i=some L)/\∀M x2,m<M->x2.n=i+1->x2.g i=w' -> Q3 M (GK N laws') x2 i=some (Og,11)):=by
 have z:=o.1;have b:=q.1;intro m
 induction m with
 |zero=>
  intro i w w' c hw hi hm;refine .inl ⟨[],w',c,hw,fun M d=>?_,fun M x2 d hx f=>⟨x2,?_,by omega,by rw[<- f];congr 1;omega⟩⟩
  .obtain⟨M,rfl⟩:∃K,M=K+1:=⟨M-1,by omega⟩;rw[E1,T5,Ka,Kc rfl]
  obtain⟨M,rfl⟩:∃K,M=K+1:=⟨M-1,by omega⟩;rw[E1,GK,Ka]
 |succ m ih=>
  intro i w w' c hw hi hm;by_cases a:i<laws.n
  case neg=>
   refine .inl ⟨[],w',c,hw,fun M d=>?_,fun M x2 d hx f=>⟨x2,?_,by omega,by rw[<- f];congr 1;omega⟩⟩
   .obtain⟨M,rfl⟩:∃K,M=K+1:=⟨M-1,by omega⟩;rw[E1,T5,Ka,Kc rfl]
   obtain⟨M,rfl⟩:∃K,M=K+1:=⟨M-1,by omega⟩;rw[E1,GK,Ka]
  obtain⟨⟨v,e⟩,⟨v',e'⟩,h1,r,s,t,l⟩:=JD x (hl i a) (o.2 i a) c fun j hj=>(hw.2 j hj).ok;simp only at s t;subst t;rcases l with⟨_,l⟩ | ⟨_,l,h6⟩ | ⟨_,_,l⟩
  .exact Lq (q.2 i a) l
  .exact Lq ((Bz l).2 hw) h6
  rcases l with rfl|⟨rfl,hv⟩
  .refine .inr ⟨⟨[],fun M d=>?_⟩,fun M x2 d hx f=>?_⟩
   .obtain⟨M,rfl⟩:∃K,M=K+1:=⟨M-1,by omega⟩;rw[E1,E1,S3 a b h1,S3 a b h1];exact⟨rfl,rfl⟩
   obtain⟨M,rfl⟩:∃K,M=K+1:=⟨M-1,by omega⟩;rw[E1,GK,Ih,Ig,AZ2,f,r,AZ6,Jf]
  rcases ih (i+1) v v' s hv (by omega) (by omega)with⟨L,u,g1,g2,g3,g4⟩ | ⟨⟨L,g1⟩,g2⟩
  .refine .inl ⟨((i+1:Nat),v)::L,u,g1,g2,fun M d=>?_,fun M x2 d hx f=>?_⟩
   .obtain⟨M,rfl⟩:∃K,M=K+1:=⟨M-1,by omega⟩;rw[E1,S3 a b h1,Kb];show X1 _ (Q3 M (T5 N 0 laws) v _)=_;rw[g3 M (by omega)];rfl
   obtain⟨M,rfl⟩:∃K,M=K+1:=⟨M-1,by omega⟩;rw[E1,GK,Ih,Ig,AZ2,f,r,AZ6,Kb,Kc (by show (x2.n+1)*24<=_/\x2.n+1<=_;omega),Gx];exact g4 M (x2.push v') (by omega) (by show x2.n+1=_;omega) (by show (if i+1<x2.n then x2.g (i+1)else v')=v';rw[Jo])
  refine .inr ⟨⟨((i+1:Nat),v)::L,fun M d=>?_⟩,fun M x2 d hx f=>?_⟩
  .obtain⟨M,rfl⟩:∃K,M=K+1:=⟨M-1,by omega⟩;obtain⟨a1,a2⟩:=g1 M (by omega);rw[E1,E1,S3 a b h1,S3 a b h1,Kb,Kb];refine⟨?_,?_⟩
   .show X1 _ (Q3 M (T5 N 0 laws) v _)=_;rw[a1];rfl
   show X1 _ (Q3 M (T5 N 11 laws) v _)=_;rw[a2];rfl
  obtain⟨M,rfl⟩:∃K,M=K+1:=⟨M-1,by omega⟩;rw[E1,GK,Ih,Ig,AZ2,f,r,AZ6,Kb,Kc (by show (x2.n+1)*24<=_/\x2.n+1<=_;omega),Gx];exact g2 M (x2.push v') (by omega) (by show x2.n+1=_;omega) (by show (if i+1<x2.n then x2.g (i+1)else v')=v';rw[Jo])
def Au8 {w:Sl Oh}(d:w.n<N)(hs:w.n<10000000):∃y,Ha N w=some y/\SE w y:=by
 suffices h:∃y,Ha N w=some y/\y=BC w.g w.n by obtain⟨y,h,rfl⟩:=h;exact⟨_,h,(Iu _ _).symm,fun i b=>(VQ w.g b).symm⟩
 unfold Ha;refine O8 (fun i x1 x2=>x2=(i:Int)/\x1=BC w.g i) w.n _ d ⟨rfl,rfl⟩ ?_;rintro c i x1 x2 b ⟨rfl,rfl⟩ a;by_cases hl:i<w.n
 .have:=Iu w.g i
  refine Ao (ifT ⟨by omega,by show ((BC w.g i).n+1)*8<=_/\(BC w.g i).n+1<=_;omega⟩ (a hl _ _ ⟨Gx,by rw[AZ2];rfl⟩))
 exact Df ⟨_,rfl,by congr 1;omega⟩
def deE (N:Nat)(laws:Sl Law)(w:Sl Oh)(r:Sl Oh×Int):Prop:=(LJ N laws r.2/\r.2≠0) \/ (LJ N laws 0/\Xt w r.2/\r.2≠0) \/ (EM N laws/\wOk w/\(r.2=11 \/ (r.2=0/\wOk r.1)))
def lawsE_zero {laws:Sl Law}:LJ N laws 0↔EM N laws:=by
 constructor
 .rintro (⟨_,h⟩ | ⟨_,_,h⟩ | ⟨h,_⟩)
  .cases h
  .cases h
  exact h
 exact fun h=>.inr (.inr ⟨h,rfl⟩)
def Zf (v:3000000<=N){laws laws' : Sl Law}(hl:EL laws)(j:LS laws laws'){w w' : Sl Oh}(m:SE w w')(hw:∀i,i<w.n->okS (w.g i)) :∃r r',G8 N laws w=some r/\DN N laws' w' = some r' /\ SE r.1 r'.1/\r.2=r'.2/\deE N laws w r:=by
 obtain⟨e,e1,h1⟩:=NJ v hl hw;obtain⟨a,_,a1,ha⟩:=PL v (Xy j hl);unfold G8 DN Nr;rw[e1,a1,AZ6,AZ6];rcases h1 with⟨h1,u⟩ | ⟨h1,x⟩
 .obtain rfl:=Hj (Ah1 j h1) ha;have d:(e != 0)=true:=by simpa using u
  have o:¬(e==0)=true:=by simpa using u
  rw[Kc d,lt,Ke o];dsimp only;rw[Kc d,AZ6];dsimp only;rw[Kc d];exact⟨_,_,rfl,rfl,SE.refl _,rfl,.inl ⟨h1,u⟩⟩
 obtain rfl:=Hj (Ah1 j h1) ha;rw[lt,Kc (show ((0:Int)==0)=true from rfl)];obtain⟨b,b1,hb⟩:=Hi (N:=N) (by omega) (AW6 m hw);obtain rfl:=NG (AB2 m x) hb;rw[b1,AZ6];dsimp only;by_cases u:e=0
 case neg=>
  have d:(e != 0)=true:=by simpa using u
  rw[Kc d,Kc d,AZ6];dsimp only;rw[Kc d];exact⟨_,_,rfl,rfl,SE.refl _,rfl,.inr (.inl ⟨h1,x,u⟩)⟩
 have o:¬(e != 0)=true:=by simp[u]
 rw[Ke o,Ke o];have q:=lawsE_zero.1 h1;have s:wOk w:=(Bz x).1 u;have a0:=s.1;have a2:=m.1;have a3:=q.1;have a4:=j.1;obtain⟨y4,c1,c2⟩:=Au8 (N:=N) (w:=w') (by omega) (by omega);have t:A6 N w=some w:=by unfold A6;rw[Ig]
 have l:∀c,C5 N c laws w=(X1 (0,w) (Q3 N (T5 N c laws) w 0)).bind fun L1=>N8 L1 (fun (f:Sl Oh->Option (Sl Oh)) (x1:Int×(Sl Oh)) (z1:Sl Oh)=>f x1.2) (fun (z1:Sl Oh)=>some z1) Od:=by intro c;unfold C5 AJ V2;rw[AZ6,t,AZ6];rfl
 have z:∀(x2:Sl (Sl Oh)),(Q3 N (fun f (x2:Sl (Sl Oh)) (x3:Int)=>GK N laws' f x2 x3) x2 0)=Q3 N (GK N laws') x2 ((0:Nat):Int):=fun _=>rfl;rw[c1,AZ6];rcases Ah2 v hl j q laws.n 0 w y4 (m.trans c2) s (by omega) (by omega)with⟨L,v',g1,g2,g3,g4⟩ | ⟨⟨L,g1⟩,g2⟩
 .obtain⟨y,d1,d2,d3⟩:=g4 N (Sl.of [y4]:Sl (Sl Oh)) (by omega) rfl rfl
  have:G1 N laws w=some (JE w L,true):=by
   have e0:C5 N 0 laws w=some (JE w L):=by rw[l];have g3:Q3 N (T5 N 0 laws) w 0=some L:=g3 N (by omega);rw[g3];exact JF _ _
   unfold G1;rw[e0]
  rw[this,AZ6,Kb];refine⟨_,(v',0),rfl,?_,g1,rfl,.inr (.inr ⟨q,s,.inr ⟨rfl,g2⟩⟩)⟩;show Option.bind (Q3 N (GK N laws') (Sl.of [y4]:Sl (Sl Oh)) ((0:Nat):Int)) _=_;rw[d1,AZ6,Kb];have ew:wrap .i64 ((y.n:Int)-1)=((laws.n:Nat):Int):=by rw[d2,E4 (by omega) (by omega)];omega
  simp only[ew,AZ2];rw[Ig,d3]
 have:G1 N laws w=some (Od,false):=by
  obtain⟨g3,g4⟩:=g1 N (by omega);have g3:Q3 N (T5 N 0 laws) w 0=none:=g3;have g4:Q3 N (T5 N 11 laws) w 0=some L:=g4;have e0:C5 N 0 laws w=none:=by rw[l,g3];rfl
  have e11:C5 N 11 laws w=some (JE w L):=by rw[l,g4];exact JF _ _
  unfold G1;rw[e0,e11];rfl
 rw[this,AZ6,Jf];refine⟨_,(Od,11),rfl,?_,SE.refl _,rfl,.inr (.inr ⟨q,s,.inl rfl⟩)⟩;show Option.bind (Q3 N (GK N laws') (Sl.of [y4]:Sl (Sl Oh)) ((0:Nat):Int)) _=_;rw[g2 N (Sl.of [y4]:Sl (Sl Oh)) (by omega) rfl rfl,AZ6,Kc (by decide)]
end Go.AM
namespace Go.AM
variable {N:Nat}
open IntKind (wrap)
open Go.Proofs
def Eg {α : Type}(s:Sl α)(a : α):(s.push a).toList=s.toList++[a]:=by
 show (List.range (s.n+1)).map (fun i=>if i<s.n then s.g i else a)=_;rw[Bh1,Be6];congr 1
 .exact Bc4 fun i b=>Kc (Bc3.1 b)
 simp
def EN {α : Type}(s:Sl α):s.toList.length=s.n:=by simp[Sl.toList]
def tl_eq {α : Type}{s t:Sl α}:s.toList=t.toList↔SE s t:=by
 constructor
 .intro h;have hn:s.n=t.n:=by rw[<- Bc s,h,Bc]
  refine⟨hn,fun i a=>?_⟩
  have:=congrArg (fun l=>l[i]?) h
  simpa[Sl.toList,a,hn ▸ a]using this
 rintro⟨h1,b⟩;unfold Sl.toList;rw[<- h1];exact Bc4 fun i a=>b i (Bc3.1 a)
def sEq (x y:Oh):((x.Plus==y.Plus)&&(x.Minus==y.Minus))=decide (x=y):=by cases x;cases y;rw[Bd2];simp
def Ah3 {x y:Sl Oh}(l:x.n<N)(hs:x.n<10000000) :∃b,(if ((x.n:Int) != (y.n:Int)) then
 some false
 else
  Q5 N (fun (a:Int->Option Bool) (x1:Int)=>
   if (decide (x1<(x.n:Int))) then
    if (((0:Int)<=x1/\x1<(x.n:Int))/\((0:Int)<=x1/\x1<(y.n:Int)))then
     if ((((x.g x1.toNat).Plus==(y.g x1.toNat).Plus)&&((x.g x1.toNat).Minus==(y.g x1.toNat).Minus)) != true) then
      some false
     else
      a (wrap .i64 (x1+1))
    else none
   else
    some true
   ) 0)=some b/\(b=true↔SE x y):=by
 by_cases hn:x.n=y.n
 case neg=>exact Ao ⟨false,rfl,by simp,fun h=>Lq h.1 hn⟩
 refine ifF (by simp[hn]) ?_;refine Av (fun i x1=>x1=(i:Int)/\∀j,j<i->x.g j=y.g j) x.n _ l ⟨rfl,fun j c=>Lq c (by omega)⟩ ?_;rintro f i x1 m ⟨rfl,h⟩ d;by_cases hl:i<x.n
 .refine Ao (Am ?_);rw[AZ2,sEq];by_cases e:x.g i=y.g i
  .refine ifF (by simp[e]) (d hl _ ⟨Gx,fun j c=>?_⟩);by_cases e2:j=i
   .subst e2;exact e
   exact h j (by omega)
  exact ifT (by simp[e]) ⟨false,rfl,by simp,fun h=>Lq (h.2 i hl) e⟩
 exact Df ⟨true,rfl,fun _=>⟨hn,fun j c=>h j (by omega)⟩,fun _=>rfl⟩
def AM2 {x y:Sl Oh}(a:x.n<N)(hs:x.n<10000000):∃b,P1 N x y=some b/\(b=true↔SE x y):=by obtain⟨b,h,hb⟩:=Ah3 (N:=N) (x:=x) (y:=y) a hs;exact⟨b,by unfold P1;rw[show F5 N x y=some b from h];rfl,hb⟩
def AM3 {x y:Sl Oh}(a:x.n<N)(hs:x.n<10000000):∃b,Fq N x y=some b/\(b=true↔SE x y):=Ah3 a hs
abbrev okA (w:Sl Oh):Prop:=∀i,i<w.n->okS (w.g i)
end Go.AM
namespace Go.AM
open Go.Proofs
def dep:Nat->Pat->Prop
 |0,_=>False
 |d+1,p=>p.L.n<=40/\∀i,i<p.L.n->dep d (p.L.g i)
def AB4:∀(d:Nat) (p:Pat),dep d p->∀e,d<=e->dep e p
 |0,_,h,_,_=>h.elim
 |d+1,p,h,0,he=>by omega
 |d+1,p,h,e+1,he=>⟨h.1,fun i a=>AB4 d _ (h.2 i a) e (by omega)⟩
def TT {N:Nat}(o:1000<=N):∀(d:Nat),d<=40->∀(p:Pat) (M:Nat),N+d+2<=M->∃r:Nat,AT M p ((40-d:Nat):Int)=some (r:Int)/\40-d<r/\r<=41/\(r<=40->dep (d+1) p)
 |d,hd,p,0,hM=>by omega
 |d,hd,p,M+1,hM=>by
  have:∃x,AT (M+1) p ((40-d:Nat):Int)=some x/\∃r:Nat,x=(r:Int)/\40-d<r/\r<=41/\(r<=40->dep (d+1) p):=by
   show ∃x,Bp (AT M) M p _=some x/\_;unfold Bp;rw[Gx];refine O8 (fun i x1 x2=>x2=(i:Int)/\∃k:Nat,x1=(k:Int)/\40-d+1+i<=k/\k<=41/\i<=p.L.n/\(k<=40->∀j,j<i->dep d (p.L.g j))) 41 _ (by omega) ⟨rfl,40-d+1,rfl,by omega,by omega,by omega,fun _ j b=>Lq b (by omega)⟩ ?_;rintro f i x1 x2 q ⟨rfl,k,rfl,h1,c,s,l⟩ hs;by_cases hc:i<p.L.n/\k<=40
   .refine ifT (by simp only[AZ9,Lt];omega) (Am ?_);obtain⟨r,m,r1,r2,r3⟩:=TT o (40-k) (by omega) (p.L.g i) M (by omega);rw[show ((40-(40-k):Nat):Int)=(k:Int) by omega]at m;refine B0 (by rw[AZ2];exact m) (hs (by omega) _ _ ⟨Gx,r,rfl,by omega,r2,by omega,fun a j b=>?_⟩);by_cases e:j=i
    .subst e;exact AB4 _ _ (r3 a) d (by omega)
    exact l hc.2 j (by omega)
   refine ifF (by simp only[AZ9,Lt];omega) ⟨_,rfl,k,rfl,by omega,c,fun hk=>⟨by omega,fun j b=>l hk j (by omega)⟩⟩
  obtain⟨x,h1,r,rfl,c⟩:=this;exact⟨r,h1,c⟩
def Xz {N:Nat}(b:2000<=N)(p:Pat):∃r:Nat,CP N p=some (r:Int)/\(r<=40->dep 41 p):=by obtain⟨r,h1,_,_,a⟩:=TT (N:=1000) (by omega) 40 (by omega) p N (by omega);exact⟨r,by unfold CP;rw[show AT N p 0=some (r:Int) from h1];rfl,a⟩
end Go.AM
namespace Go.AM
variable {N:Nat}
open IntKind (wrap)
open Go.Proofs
def EO (s:Str):Bool:=(decide (1<=s.length)&&decide (s.length<=24))&&s.all fun c=>Rr ((c.toNat:Nat):Int)
def TU {s:Str}(m:s.length<N)(hs:s.length<1000000000){let_:Int->Option Bool}(hl:∀y,let_ y=some (Rr y)){fin:Bool}(n:fin=(decide (1<=s.length)&&decide (s.length<=24))) :Q5 N (fun (a:Int->Option Bool) (x1:Int)=>
  if (decide (x1<(s.length:Int))) then
   if ((0:Int)<=x1/\x1<(s.length:Int))then
    (let_ (Db s x1)).bind fun y3=>
    if (!y3) then
     some false
    else
     a (wrap .i64 (x1+1))
   else none
  else
   some fin
 ) 0=some (EO s):=by
 suffices h:∃b,Q5 N (fun (a:Int->Option Bool) (x1:Int)=>
  if (decide (x1<(s.length:Int))) then
   if ((0:Int)<=x1/\x1<(s.length:Int))then
    (let_ (Db s x1)).bind fun y3=>
    if (!y3) then
     some false
    else
     a (wrap .i64 (x1+1))
   else none
  else
   some fin
  ) 0=some b/\b=EO s by obtain⟨b,h,rfl⟩:=h;exact h
 refine Av (fun i x1=>x1=(i:Int)/\∀j (h:j<s.length),j<i->Rr ((s[j].toNat:Nat):Int)=true) s.length _ m ⟨rfl,fun j _ f=>Lq f (by omega)⟩ ?_;rintro l i x1 q ⟨rfl,h⟩ g;by_cases d:i<s.length
 .have eb:Db s (i:Int)=((s[i].toNat:Nat):Int):=by simp[Db,d]
  refine Ao (Am (B0 (hl _) ?_));rw[eb];cases hb:Rr ((s[i].toNat:Nat):Int)
  .refine ifT rfl ⟨false,rfl,?_⟩;symm;unfold EO;rw[Bq9]
   right
   rw[List.all_eq_false];exact⟨s[i],Bp9 d,by rw[hb];simp⟩
  refine Dg (g d _ ⟨Gx,fun j f o=>?_⟩);by_cases e:j=i
  .subst e;exact hb
  exact h j f (by omega)
 refine Df ⟨_,rfl,?_⟩;unfold EO;rw[n]
 have:(s.all fun c=>Rr ((c.toNat:Nat):Int))=true:=Bb4.2 fun c hc=>by obtain⟨j,f,rfl⟩:=Bn9 hc;exact h j f (by omega)
 rw[this,Bn8]
def Ah4 {s:Str}(a:s.length<N)(hs:s.length<1000000000):Cn N s=some (EO s):=by unfold Cn;exact TU a hs (fun y=>rfl) (by rw[Bd2];simp;omega)
def Rt {s:Str}(a:s.length<N)(hs:s.length<1000000000):EG N s=some (EO s):=by unfold EG;exact TU a hs (fun y=>rfl) (by rw[Bd2];simp;omega)
def AM4 (t:Sl I9)(v:Nat):Prop:=(v=0->(t.g 0).Parent = -1)/\(0<v->0<=(t.g v).Parent/\(t.g v).Parent<v)/\EO (t.g v).Name=true/\∀u,u<v->(t.g u).Name≠(t.g v).Name
def T6 (t:Sl I9):Prop:=1<=t.n/\t.n<=63/\∀v,v<t.n->AM4 t v
def Zg (t:Sl I9)(e:Int):Prop:=(e=0/\T6 t) \/ (e=16/\¬T6 t)
def Zh {t:Sl I9}{e e' : Int}(h:Zg t e)(h' : Zg t e'):e=e':=by
 rcases h with⟨rfl,h⟩ | ⟨rfl,h⟩<;>rcases h' with⟨rfl,h'⟩ | ⟨rfl,h'⟩
 .rfl
 .exact Lq h h'
 .exact Lq h' h
 rfl
def GL (t:Sl I9):Prop:=∀v,v<t.n->(t.g v).Name.length<1100000
def Ah5 (y:3000000<=N){t:Sl I9}(ht:GL t):∃e,BP N t=some e/\Zg t e:=by
 unfold BP;by_cases z:t.n<1
 .exact ifT (fun h=>Lq h (by simp;omega)) (Ao ⟨16,rfl,.inr ⟨rfl,fun h=>by have:=h.1;omega⟩⟩)
 refine ifT (fun _ _=>by omega) ?_;by_cases h1:63<t.n
 .exact Ao ⟨16,rfl,.inr ⟨rfl,fun h=>by have:=h.2.1;omega⟩⟩
 by_cases m:(t.g 0).Parent = -1
 case neg=>exact ifT (by simp[m]) ⟨16,rfl,.inr ⟨rfl,fun h=>m ((h.2.2 0 (by omega)).1 rfl)⟩⟩
 refine ifF (by simp[m];omega) ?_;refine Av (fun i x1=>x1=(i:Int)/\∀j,j<i->AM4 t j) t.n _ (by omega) ⟨rfl,fun j x=>Lq x (by omega)⟩ ?_;rintro f i x1 hi ⟨rfl,h⟩ hs;by_cases a:i<t.n
 case neg=>exact Df ⟨0,rfl,.inl ⟨rfl,by omega,by omega,fun v hv=>h v (by omega)⟩⟩
 refine Ao (ltX ?_);have b:=Rt (N:=N) (s:=(t.g i).Name) (by have:=ht i a;omega) (by have:=ht i a;omega);have rest:(0<i->0<=(t.g i).Parent/\(t.g i).Parent<i)->∃r,(if (!EO (t.g i).Name) then some 16 else
  Q5 N (fun (d:Int->Option Int) (x7:Int)=>
   if (decide (x7<(i:Int))) then
    if (((0:Int)<=x7/\x7<(t.n:Int))/\((0:Int)<=(i:Int)/\(i:Int)<(t.n:Int)))then
     if (((t.g x7.toNat).Name==(t.g (i:Int).toNat).Name) != false) then
      some 16
     else
      d (wrap .i64 (x7+1))
    else none
   else
    f (wrap .i64 ((i:Int)+1))
   ) 0)=some r/\Zg t r:=by
  intro hp;cases hb:EO (t.g i).Name
  .exact ifT rfl ⟨16,rfl,.inr ⟨rfl,fun h=>by have:=(h.2.2 i a).2.2.1;rw[hb]at this;cases this⟩⟩
  refine Dg ?_;refine Av (fun k x7=>x7=(k:Int)/\∀u,u<k->(t.g u).Name≠(t.g i).Name) i _ (by omega) ⟨rfl,fun u o=>Lq o (by omega)⟩ ?_;rintro q k x7 hk ⟨rfl,h'⟩ w;by_cases l:k<i
  .refine Ao (Am ?_);rw[AZ2,AZ2];by_cases e:(t.g k).Name=(t.g i).Name
   .exact ifT (by simp[e]) ⟨16,rfl,.inr ⟨rfl,fun h=>(h.2.2 i a).2.2.2 k l e⟩⟩
   refine ifF (by simp[e]) (w l _ ⟨Gx,fun u o=>?_⟩);by_cases e2:u=k
   .subst e2;exact e
   exact h' u (by omega)
  refine Df (hs a _ ⟨Gx,fun j x=>?_⟩);by_cases e:j=i
  .subst e;exact⟨fun e=>by subst e;exact m,hp,hb,fun u o=>h' u (by omega)⟩
  exact h j (by omega)
 by_cases c:0<i
 .refine Ao (Am ?_);rw[AZ2];by_cases g1:(t.g i).Parent<0
  .exact ifT (by simpa using g1) (ifT rfl ⟨16,rfl,.inr ⟨rfl,fun h=>by have:=((h.2.2 i a).2.1 c).1;omega⟩⟩)
  refine ifF (by simpa using g1) (Am ?_);by_cases g2:(i:Int)<=(t.g i).Parent
  .exact ifT (by simpa using g2) (ifT rfl ⟨16,rfl,.inr ⟨rfl,fun h=>by have:=((h.2.2 i a).2.1 c).2;omega⟩⟩)
  exact ifF (by simpa using g2) (Am (B0 b (rest fun _=>⟨by omega,by omega⟩)))
 exact Df (Am (B0 (by rw[AZ2];exact b) (rest fun h=>Lq h c)))
def Kx {ν : Type}{k s:Str}{v : ν}:∀es:List (Str × ν),W7 eqS s (Hq eqS k v es)=if s=k then some v else W7 eqS s es
 |[]=>by simp only[Hq,W7];by_cases h:s=k<;>simp[eqS,h]
 |(a,x)::es=>by
  simp only[Hq];by_cases h:k=a
  .subst h;rw[Kc (by simp[eqS])];simp only[W7];by_cases b:s=k<;>simp[eqS,b]
  rw[Ke (by simp[eqS,h])];simp only[W7];rw[Kx es];by_cases b:s=k
  .subst b;simp[eqS,h]
  simp[b]
def XA {ν : Type}{k:Str}{v : ν}:∀{es:List (Str × ν)},W7 eqS k es=none->(Hq eqS k v es).length=es.length+1
 |[],_=>rfl
 |(a,x)::es,h=>by
  simp only[W7]at h;simp only[Hq];by_cases e:eqS k a=true
  .rw[Kc e]at h;cases h
  rw[Ke e]at h;rw[Ke e,Bd3,XA h];rfl
def XB {ν : Type}{k:Str}{v x : ν}:∀{es:List (Str × ν)},W7 eqS k es=some x->(Hq eqS k v es).length=es.length
 |[],h=>by cases h
 |(a,y)::es,h=>by
  simp only[W7]at h;simp only[Hq];by_cases e:eqS k a=true
  .rw[Kc e];rfl
  rw[Ke e]at h;rw[Ke e,Bd3,XB h];rfl
def Ah6 (m:3000000<=N){t:Sl I9}(ht:GL t):∃e,R8 N t=some e/\Zg t e:=by
 unfold R8;by_cases o:t.n=0 \/ 63<t.n
 .exact Ao ⟨16,rfl,.inr ⟨rfl,fun h=>by have g1:=h.1;have g2:=h.2.1;omega⟩⟩
 refine Df ?_;refine O8 (fun i (x2:List (Str×Bool)) x3=>x3=(i:Int)/\(∀j,j<i->AM4 t j)/\∀s,(W7 eqS s x2=some true/\∃u,u<i/\(t.g u).Name=s) \/ (W7 eqS s x2=none/\∀u,u<i->(t.g u).Name≠s)) t.n _ (by omega) ⟨rfl,fun j f=>Lq f (by omega),fun s=>.inr ⟨rfl,fun u c=>Lq c (by omega)⟩⟩ ?_;rintro l i x2 x3 q ⟨rfl,h,hm⟩ hs;by_cases a:i<t.n
 case neg=>exact Df ⟨0,rfl,.inl ⟨rfl,by omega,by omega,fun v r=>h v (by omega)⟩⟩
 refine Ao (Am (ltX ?_));rw[AZ2];have b:=Ah4 (N:=N) (s:=(t.g i).Name) (by have:=ht i a;omega) (by have:=ht i a;omega);have e1:(if 0<wrap .i64 ((i:Int)-1)then (0:Int)else wrap .i64 ((i:Int)-1))=if i=0 then -1 else 0:=by rw[E4 (by omega) (by omega)];split<;>split<;>omega
 rw[e1];by_cases g1:(i:Int)<=(t.g i).Parent
 .refine ifT (by simpa using g1) (ifT rfl ⟨16,rfl,.inr ⟨rfl,fun h=>?_⟩⟩);have hk:=h.2.2 i a;by_cases d:i=0
  .subst d;have:=hk.1 rfl;omega
  have:=(hk.2.1 (by omega)).2;omega
 refine ifF (by simpa using g1) ?_;by_cases g2:(t.g i).Parent<if i=0 then -1 else 0
 .refine ifT (by simpa using g2) (ifT rfl ⟨16,rfl,.inr ⟨rfl,fun h=>?_⟩⟩);have hk:=h.2.2 i a;by_cases d:i=0
  .subst d;have:=hk.1 rfl;simp at g2;omega
  have:=(hk.2.1 (by omega)).1;simp[d]at g2;omega
 refine ifF (by simpa using g2) (B0 b ?_);cases hb:EO (t.g i).Name
 .exact ifT rfl (ifT rfl ⟨16,rfl,.inr ⟨rfl,fun h=>by have:=(h.2.2 i a).2.2.1;rw[hb]at this;cases this⟩⟩)
 refine Dg ?_;rcases hm (t.g i).Name with⟨e,u,c,hn⟩ | ⟨e,hn⟩
 .rw[e];exact⟨16,rfl,.inr ⟨rfl,fun h=>(h.2.2 i a).2.2.2 u c hn⟩⟩
 rw[e,MC];refine ifF (show ¬false=true by simp) (hs a _ _ ⟨Gx,fun j f=>?_,fun s=>?_⟩)
 .by_cases e:j=i
  .subst e;refine⟨fun e=>?_,fun hp=>?_,hb,hn⟩
   .subst e;simp at g2;omega
   have:¬j=0:=by omega
   simp[this]at g2;omega
  exact h j (by omega)
 rw[Kx];by_cases e:s=(t.g i).Name
 .exact .inl ⟨by rw[Kc e],i,by omega,e.symm⟩
 rw[Ke e];rcases hm s with⟨g,u,c,hn⟩ | ⟨g,hn⟩
 .exact .inl ⟨g,u,by omega,hn⟩
 refine .inr ⟨g,fun u c=>?_⟩;by_cases e2:u=i
 .subst e2;exact fun h=>e h.symm
 exact hn u (by omega)
def Hk (a:3000000<=N){t:Sl I9}(ht:GL t):∃e,R8 N t=some e/\BP N t=some e/\Zg t e:=by obtain⟨e,h1,b⟩:=Ah6 a ht;obtain⟨e',c,d⟩:=Ah5 a ht;obtain rfl:=Zh b d;exact⟨_,h1,c,b⟩
end Go.AM
namespace Go.AM
open IntKind (wrap)
open Go.Proofs
structure Q2 (h:A3):Prop where
 laws:EL h.Laws
 tree:GL h.Tree
 on:h.On.n<1100000
 len:∀v,v<h.On.n->(h.On.g v).n<1100000
def Eh (h:A3)(v:Nat):Sl Int:= if hp:0<=(h.Tree.g v).Parent/\(h.Tree.g v).Parent<v then (Eh h (h.Tree.g v).Parent.toNat).app (h.On.g v)else Oc.app (h.On.g v)
termination_by v
decreasing_by omega
def EP {h:A3}{v:Nat}(a:(h.Tree.g v).Parent<0):Eh h v=Oc.app (h.On.g v):=by rw[Eh,dif_neg (by omega)]
def JG {h:A3}{v p:Nat}(a:(h.Tree.g v).Parent=(p:Int))(hp:p<v):Eh h v=(Eh h p).app (h.On.g v):=by rw[Eh,dif_pos (by omega),a,AZ2]
def V7 {t:Sl I9}(ht:T6 t){v:Nat}(a:v<t.n):(v=0/\(t.g v).Parent = -1) \/ ∃p:Nat,p<v/\(t.g v).Parent=(p:Int):=by
 have hk:=ht.2.2 v a;by_cases b:v=0
 .subst b;exact .inl ⟨rfl,hk.1 rfl⟩
 obtain⟨g1,g2⟩:=hk.2.1 (by omega);exact .inr ⟨(t.g v).Parent.toNat,by omega,by omega⟩
def VX {h:A3}(a:Q2 h)(ht:T6 h.Tree)(hn:h.On.n=h.Tree.n):∀(m v:Nat),v<=m->v<h.Tree.n->(Eh h v).n<=(v+1)*1100000
 |m,v,hm,hv=>by
  have hl:=a.len v (by omega);rcases V7 ht hv with⟨_,e⟩ | ⟨p,hp,e⟩
  .rw[EP (by omega)];show 0+(h.On.g v).n<=_;omega
  rw[JG e hp]
  match m with
  |0=>omega
  |m+1=>
   have:=VX a ht hn m p (by omega) (by omega)
   show (Eh h p).n+(h.On.g v).n<=_;have b:(p+1)*1100000+1100000<=(v+1)*1100000:=by omega
   omega
def TV {h:A3}(a:Q2 h)(ht:T6 h.Tree)(hn:h.On.n=h.Tree.n):∀(M v:Nat),v+2<=M->v<h.Tree.n->CQ M h (v:Int)=some (Eh h v)
 |0,v,hM,_=>by omega
 |M+1,v,hM,hv=>by
  have b:=ht.2.1;show Cm (CQ M) M h (v:Int)=_;unfold Cm;rw[Kb,Ig,AZ2];have hl:=a.len v (by omega);rcases V7 ht hv with⟨c,e⟩ | ⟨p,hp,e⟩
  .rw[e,EP (by omega)]
   have:CQ M h (-1)=some Oc:=by obtain⟨K,rfl⟩:∃K,M=K+1:=⟨M-1,by omega⟩;show Cm (CQ K) K h (-1)=_;unfold Cm;rw[Kc (by decide)]
   rw[this,AZ6,Kc ⟨by omega,by show (0+(h.On.g v).n)*8<=_/\0+(h.On.g v).n<=_;omega⟩]
  have hb:=VX a ht hn p p (Ba0 _) (by omega);rw[e,TV a ht hn M p (by omega) (by omega),AZ6,JG e hp,Kc ⟨by omega,by omega⟩]
def VY (h:A3):Prop:=∃v,v<h.On.n/\64<(Eh h v).n
def AM5 (h:A3)(v:Nat):Prop:=∃k,k<(h.On.g v).n/\((h.On.g v).g k<0 \/ (h.Laws.n:Int)<=(h.On.g v).g k)
def Ah7 (h:A3)(e:Int):Prop:=(VY h/\e=2) \/ (¬VY h/\(∃v,v<h.On.n/\AM5 h v)/\e=3) \/ (¬VY h/\(∀v,v<h.On.n->¬AM5 h v)/\e=0)
def Ah8 {N:Nat}(hN:3000000<=N){h:A3}(hi:Q2 h)(ht:T6 h.Tree)(hn:h.On.n=h.Tree.n):∃e,Z0 N h=some e/\Ah7 h e:=by
 have h63:=ht.2.1;unfold Z0;refine Am ?_;refine Ro (fun i (x4:Sl Int) (x5:Bool) x6=>x6=(i:Int)/\x4.n=h.On.n/\(∀v,v<i->x4.g v=((Eh h v).n:Int)/\(Eh h v).n<=64)/\(x5=true ↔ ∃v,v<i/\AM5 h v)) h.On.n _ (by omega) ⟨rfl,by show ((h.On.n:Nat):Int).toNat=_;omega,fun v b=>Lq b (by omega),⟨fun g=>(by cases g),fun⟨v,b,_⟩=>Lq b (by omega)⟩⟩ ?_;rintro m i x4 x5 x6 hle ⟨rfl,hx,hp,hb⟩ hs;by_cases o:i<h.On.n
 case neg=>
  refine Df ?_;have hl:¬VY h:=fun⟨v,b,hl⟩=>by have:=(hp v (by omega)).2;omega
  cases x5
  .exact Dg ⟨0,rfl,.inr (.inr ⟨hl,fun v b g=>(by have:=hb.2 ⟨v,by omega,g⟩;cases this),rfl⟩)⟩
  obtain⟨v,b,g⟩:=hb.1 rfl;exact ifT rfl ⟨3,rfl,.inr (.inl ⟨hl,⟨v,by omega,g⟩,rfl⟩)⟩
 refine Ao (ifT (by rw[AZ2];omega) (Am (ltX ?_)));rw[AZ2];have hl:=hi.len i (by omega);have hlb:=VX hi ht hn i i (Ba0 _) (by omega);have rest:∀z:Sl Int,z.n=h.On.n->(∀v,v<i->z.g v=x4.g v)->z.g i=((Eh h i).n:Int)->∃r,(if (((0:Int)<=(i:Int)/\(i:Int)<(z.n:Int))/\i<z.n)then
  if (decide (64<(z.g i))) then
   some 2
  else
   Q3 N (fun (d:Bool->Int->Option Int) (c:Bool) (a:Int)=>
    if (decide (a<((h.On.g i).n:Int))) then
     if ((0:Int)<=a/\a<((h.On.g i).n:Int))then
      d ((c||(decide (((h.On.g i).g a.toNat)<0)))||(decide ((h.Laws.n:Int)<=((h.On.g i).g a.toNat)))) (wrap .i64 (a+1))
     else none
    else
     m z c (wrap .i64 ((i:Int)+1))
    ) x5 0
  else none)=some r/\Ah7 h r:=by
  intro z hz u q;refine Am ?_;rw[q];by_cases w:64<(Eh h i).n
  .exact Ao ⟨2,rfl,.inl ⟨⟨i,o,w⟩,rfl⟩⟩
  refine Df ?_;refine O8 (fun k (c:Bool) a=>a=(k:Int)/\(c=true↔(∃v,v<i/\AM5 h v) \/ ∃j,j<k/\j<(h.On.g i).n/\((h.On.g i).g j<0 \/ (h.Laws.n:Int)<=(h.On.g i).g j))) (h.On.g i).n _ (by omega) ⟨rfl,hb.trans ⟨fun g=>.inl g,fun g=>g.resolve_right fun⟨j,f,_⟩=>Lq f (by omega)⟩⟩ ?_;rintro x k c a hk ⟨rfl,s⟩ y;by_cases l:k<(h.On.g i).n
  .refine Ao (Am (y l _ _ ⟨Gx,?_⟩));rw[AZ2,Bc2,Bc2,s,Lt,Lt];constructor
   .rintro (((g|⟨j,f,g⟩)|g)|g)
    .exact .inl g
    .exact .inr ⟨j,by omega,g⟩
    .exact .inr ⟨k,by omega,l,.inl g⟩
    exact .inr ⟨k,by omega,l,.inr g⟩
   rintro (g|⟨j,f,a0,g⟩)
   .exact .inl (.inl (.inl g))
   by_cases e:j=k
   .subst e;rcases g with g|g
    .exact .inl (.inr g)
    exact .inr g
   exact .inl (.inl (.inr ⟨j,by omega,a0,g⟩))
  refine Df (hs o _ _ _ ⟨Gx,hz,fun v b=>?_,s.trans ?_⟩)
  .by_cases e:v=i
   .subst e;exact⟨q,by omega⟩
   rw[u v (by omega)];exact hp v (by omega)
  constructor
  .rintro (⟨v,b,g⟩ | ⟨j,_,f,g⟩)
   .exact⟨v,by omega,g⟩
   exact⟨i,by omega,j,f,g⟩
  rintro⟨v,b,g⟩;by_cases e:v=i
  .subst e;obtain⟨j,f,g⟩:=g;exact .inr ⟨j,by omega,f,g⟩
  exact .inl ⟨v,by omega,g⟩
 rcases V7 ht (v:=i) (by omega)with⟨_,e⟩ | ⟨p,t,e⟩
 .rw[e];refine Gv (rest _ hx (fun v b=>?_) ?_)
  .show (if v=i then _ else x4.g v)=_;rw[Jo]
  show (if i=i then ((h.On.g i).n:Int)else _)=_;rw[Kc rfl,EP (by omega)];show _=((0+(h.On.g i).n:Nat):Int);omega
 have a1:=hp p t;rw[e];refine Ap (ifT ?_ ?_)
 .show ((((((0:Int)<=(i:Int)/\(i:Int)<(x4.n:Int))/\i<x4.n)/\(0:Int)<=(p:Int)/\(p:Int)<(x4.n:Int))/\(p:Int).toNat<x4.n)/\(0:Int)<=(i:Int)/\(i:Int)<(x4.n:Int))/\i<x4.n;omega
 rw[AZ2];refine rest _ hx (fun v b=>?_) ?_
 .show (if v=i then _ else if v=i then _ else x4.g v)=_;rw[Jo,Jo]
 show (if i=i then wrap .i64 ((if i=i then ((h.On.g i).n:Int)else _)+(if p=i then _ else x4.g p))else _)=_;rw[Kc rfl,Kc rfl,Jo,a1.1,JG e t,E4 (by omega) (by omega)];show _=(((Eh h p).n+(h.On.g i).n:Nat):Int);omega
end Go.AM
namespace Go.AM
variable {N:Nat}
open Go.Proofs
def AP3 (h:A3)(i:Nat):Prop:=∃u v,u<v/\v<i/\(h.Laws.g u).Name=(h.Laws.g v).Name
open Classical in
noncomputable def hres (N:Nat) (h:A3):Int:= if ¬T6 h.Tree then 16 else if 64<h.Laws.n then 12 else if ∃i,i<h.Laws.n/\¬chkAll N (h.Laws.g i)then 17 else if AP3 h h.Laws.n then 6 else if h.On.n≠h.Tree.n then 2 else if VY h then 2 else if ∃v,v<h.On.n/\AM5 h v then 3 else 0
structure T2 (N:Nat) (h:A3):Prop where
 tree:T6 h.Tree
 laws:EM N h.Laws
 dup:¬AP3 h h.Laws.n
 on:h.On.n=h.Tree.n
 long:¬VY h
 bad:∀v,v<h.On.n->¬AM5 h v
def hres_zero {h:A3}:hres N h=0↔T2 N h:=by
 unfold hres;constructor
 .intro g;split at g
  .cases g
  split at g
  .cases g
  split at g
  .cases g
  split at g
  .cases g
  split at g
  .cases g
  split at g
  .cases g
  split at g
  .cases g
  rename_i h1 n c d f j l;exact⟨Bp4.1 h1,⟨by omega,fun i a=>Ba9 fun hn=>c ⟨i,a,hn⟩⟩,d,Bp4.1 f,j,fun v b hb=>l ⟨v,b,hb⟩⟩
 intro g;have m:=g.laws.1;rw[Ke (fun k=>k g.tree),Jo,Ke (fun⟨i,a,hn⟩=>hn (g.laws.2 i a)),Ke g.dup,Ke (fun k=>k g.on),Ke g.long,Ke (fun⟨v,b,hb⟩=>g.bad v b hb)]
def EQ {h:A3}(h1:T6 h.Tree)(a:EM N h.Laws)(b:¬AP3 h h.Laws.n)(c:h.On.n=h.Tree.n){e:Int}(d:Ah7 h e):e=hres N h:=by
 have f:=a.1;unfold hres;rw[Ke (fun k=>k h1),Jo,Ke (fun⟨i,j,hn⟩=>hn (a.2 i j)),Ke b,Ke (fun k=>k c)];rcases d with⟨g,rfl⟩ | ⟨g,g2,rfl⟩ | ⟨g,g2,rfl⟩
 .rw[Kc g]
 .rw[Ke g,Kc g2]
 rw[Ke g,Ke (fun⟨v,l,hb⟩=>g2 v l hb)]
def Hl (z:3000000<=N){h:A3}(o:Q2 h):J4 N h=some (hres N h):=by
 suffices g:∃r,J4 N h=some r/\r=hres N h by obtain⟨r,g,rfl⟩:=g;exact g
 obtain⟨e,e1,_,he⟩:=Hk z o.tree;unfold J4;refine B0 e1 ?_;rcases he with⟨rfl,ht⟩ | ⟨rfl,ht⟩
 case inr=>exact Az ⟨16,rfl,by unfold hres;rw[Kc ht]⟩
 refine Gv ?_;by_cases c:64<h.Laws.n
 .exact Ao ⟨12,rfl,by unfold hres;rw[Ke (fun k=>k ht),Kc c]⟩
 refine Df ?_;refine O8 (fun i (x1:List (Str×Int)) x2=>x2=(i:Int)/\(∀j,j<i->chkAll N (h.Laws.g j))/\(∀s,(W7 eqS s x1=none/\∀u,u<i->(h.Laws.g u).Name≠s) \/ (∃v,W7 eqS s x1=some v)/\∃u,u<i/\(h.Laws.g u).Name=s)/\((AP3 h i/\x1.length<i) \/ (¬AP3 h i/\x1.length=i))) h.Laws.n _ (by omega)
  ⟨rfl,fun j hj=>Lq hj (by omega),fun s=>.inl ⟨rfl,fun u q=>Lq q (by omega)⟩,.inr ⟨fun⟨u,v,_,hv,_⟩=>Lq hv (by omega),rfl⟩⟩ ?_
 rintro self i x1 x2 hle ⟨rfl,hc,hm,hl⟩ hs;by_cases d:i<h.Laws.n
 .obtain⟨y,y1,_,hy⟩:=EJ z (o.laws i d);refine Ao (Am (B0 (by rw[AZ2];exact y1) ?_));rcases hy with⟨rfl,hy⟩ | ⟨rfl,hy⟩
  case inr=>exact Az ⟨17,rfl,by unfold hres;rw[Ke (fun k=>k ht),Ke c,Kc ⟨i,d,hy⟩]⟩
  refine Gv ?_;rw[AZ2];have t : ∀j,j<i+1->chkAll N (h.Laws.g j):=fun j hj=>by
   by_cases e:j=i
   .subst e;exact hy
   exact hc j (by omega)
  have look:∀(v:Int) (s:Str),(W7 eqS s (Hq eqS (h.Laws.g i).Name v x1)=none/\∀u,u<i+1->(h.Laws.g u).Name≠s) \/ (∃w,W7 eqS s (Hq eqS (h.Laws.g i).Name v x1)=some w)/\∃u,u<i+1/\(h.Laws.g u).Name=s:=by
   intro v s;rw[Kx];by_cases e:s=(h.Laws.g i).Name
   .exact .inr ⟨⟨v,by rw[Kc e]⟩,i,by omega,e.symm⟩
   rw[Ke e];rcases hm s with⟨g,g2⟩ | ⟨g,u,q,g2⟩
   .refine .inl ⟨g,fun u q=>?_⟩;by_cases e2:u=i
    .subst e2;exact fun k=>e k.symm
    exact g2 u (by omega)
   exact .inr ⟨g,u,by omega,g2⟩
  rcases hm (h.Laws.g i).Name with⟨g,g2⟩ | ⟨⟨v,g⟩,u,q,g2⟩
  .rw[g,MC];refine hs d _ _ ⟨Gx,t,look _,?_⟩;rw[XA g];rcases hl with⟨⟨a,b,f,hb,hn⟩,hl⟩ | ⟨m,hl⟩
   .exact .inl ⟨⟨a,b,f,by omega,hn⟩,by omega⟩
   refine .inr ⟨fun⟨a,b,f,hb,hn⟩=>?_,by omega⟩;by_cases e:b=i
   .subst e;exact g2 a f hn
   exact m ⟨a,b,f,by omega,hn⟩
  rw[g,Ab6];refine hs d _ _ ⟨Gx,t,look _,?_⟩;rw[XB g];refine .inl ⟨⟨u,i,q,by omega,g2⟩,?_⟩;rcases hl with⟨_,hl⟩ | ⟨_,hl⟩<;>omega
 obtain rfl:i=h.Laws.n:=by omega
 have hok:EM N h.Laws:=⟨by omega,hc⟩;have x:¬ ∃i,i<h.Laws.n/\¬chkAll N (h.Laws.g i):=fun⟨i,o,hn⟩=>hn (hc i o);refine Dg ?_;rw[UT];rcases hl with⟨m,hl⟩ | ⟨m,hl⟩
 .exact Ao ⟨6,rfl,by unfold hres;rw[Ke (fun k=>k ht),Ke c,Ke x,Kc m]⟩
 refine Df ?_;by_cases l:h.On.n=h.Tree.n
 case neg=>exact Ao ⟨2,rfl,by unfold hres;rw[Ke (fun k=>k ht),Ke c,Ke x,Ke m,Kc l]⟩
 refine ifF (by simp[l]) ?_;obtain⟨e,e1,he⟩:=Ah8 z o ht l;exact B0 e1 ⟨e,rfl,EQ ht hok m l he⟩
def Ah9 (hN:3000000<=N){h:A3}(q:Q2 h):Fv N h=some (hres N h):=by
 suffices g:∃r,Fv N h=some r/\r=hres N h by obtain⟨r,g,rfl⟩:=g;exact g
 obtain⟨e,_,e1,he⟩:=Hk hN q.tree;unfold Fv;refine B0 e1 ?_;rcases he with⟨rfl,ht⟩ | ⟨rfl,ht⟩
 case inr=>exact Az ⟨16,rfl,by unfold hres;rw[Kc ht]⟩
 refine Gv ?_;by_cases f:64<h.Laws.n
 .exact Ao ⟨12,rfl,by unfold hres;rw[Ke (fun k=>k ht),Kc f]⟩
 refine Df ?_;refine Av (fun i x1=>x1=(i:Int)/\∀j,j<i->chkAll N (h.Laws.g j)) h.Laws.n _ (by omega) ⟨rfl,fun j s=>Lq s (by omega)⟩ ?_;rintro self i x1 hle ⟨rfl,hc⟩ hs;by_cases a:i<h.Laws.n
 .obtain⟨y,_,y1,hy⟩:=EJ hN (q.laws i a);refine Ao (Am (B0 (by rw[AZ2];exact y1) ?_));rcases hy with⟨rfl,hy⟩ | ⟨rfl,hy⟩
  case inr=>exact Az ⟨17,rfl,by unfold hres;rw[Ke (fun k=>k ht),Ke f,Kc ⟨i,a,hy⟩]⟩
  refine Gv (hs a _ ⟨Gx,fun j s=>?_⟩);by_cases e:j=i
  .subst e;exact hy
  exact hc j (by omega)
 obtain rfl:i=h.Laws.n:=by omega
 have l:EM N h.Laws:=⟨by omega,hc⟩;have w:¬ ∃i,i<h.Laws.n/\¬chkAll N (h.Laws.g i):=fun⟨i,q,hn⟩=>hn (hc i q);refine Dg ?_;refine Av (fun i x1=>x1=(i:Int)/\¬AP3 h i) h.Laws.n _ (by omega) ⟨rfl,fun⟨u,v,_,d,_⟩=>Lq d (by omega)⟩ ?_;rintro a3 i x1 hle2 ⟨rfl,t⟩ a4;by_cases a:i<h.Laws.n
 .refine Ao ?_;refine Av (fun k x5=>x5=(k:Int)/\∀u,u<k->(h.Laws.g u).Name≠(h.Laws.g i).Name) i _ (by omega) ⟨rfl,fun u hu=>Lq hu (by omega)⟩ ?_;rintro a5 k x5 hk ⟨rfl,x⟩ a6;by_cases z:k<i
  .refine Ao (Am ?_);rw[AZ2,AZ2];by_cases e:(h.Laws.g k).Name=(h.Laws.g i).Name
   .exact ifT (by simp[e]) ⟨6,rfl,by unfold hres;rw[Ke (fun k=>k ht),Ke f,Ke w,Kc ⟨k,i,z,a,e⟩]⟩
   refine ifF (by simp;exact fun g=>e g.symm) (a6 z _ ⟨Gx,fun u hu=>?_⟩);by_cases e2:u=k
   .subst e2;exact e
   exact x u (by omega)
  refine Df (a4 a _ ⟨Gx,fun⟨u,v,a7,d,hn⟩=>?_⟩);by_cases e:v=i
  .subst e;exact x u (by omega) hn
  exact t ⟨u,v,a7,by omega,hn⟩
 obtain rfl:i=h.Laws.n:=by omega
 refine Dg ?_;by_cases b:h.On.n=h.Tree.n
 case neg=>exact Ao ⟨2,rfl,by unfold hres;rw[Ke (fun k=>k ht),Ke f,Ke w,Ke t,Kc b]⟩
 refine ifF (by simp[b]) ?_;have h63:=ht.2.1;refine Av (fun i x1=>x1=(i:Int)/\∀v,v<i->¬ 64<(Eh h v).n) h.On.n _ (by omega) ⟨rfl,fun v d=>Lq d (by omega)⟩ ?_;rintro a8 i x1 hle3 ⟨rfl,a0⟩ a9;by_cases a:i<h.On.n
 .refine Ao (B0 (TV q ht b N i (by omega) (by omega)) ?_);by_cases hg:64<(Eh h i).n
  .exact Ao ⟨2,rfl,EQ ht l t b (.inl ⟨⟨i,a,hg⟩,rfl⟩)⟩
  refine Df (a9 a _ ⟨Gx,fun v d=>?_⟩);by_cases e:v=i
  .subst e;exact hg
  exact a0 v (by omega)
 refine Df ?_;have m:¬VY h:=fun⟨v,d,g⟩=>a0 v (by omega) g;refine Av (fun i x1=>x1=(i:Int)/\∀v,v<i->¬AM5 h v) h.On.n _ (by omega) ⟨rfl,fun v d=>Lq d (by omega)⟩ ?_;rintro b0 i x1 hle4 ⟨rfl,a1⟩ b1;by_cases c:i<h.On.n
 .have hl:=q.len i c;refine Ao ?_;refine Av (fun k x1=>x1=(k:Int)/\∀j,j<k->¬((h.On.g i).g j<0 \/ (h.Laws.n:Int)<=(h.On.g i).g j)) (h.On.g i).n _ (by omega) ⟨rfl,fun j s=>Lq s (by omega)⟩ ?_;rintro b2 k x1 hk ⟨rfl,a2⟩ b3;refine Am ?_;rw[AZ2,AZ2];by_cases o:k<(h.On.g i).n
  .refine Ao (Am ?_);by_cases g1:(h.On.g i).g k<0
   .exact ifT (by simpa using g1) ⟨3,rfl,EQ ht l t b (.inr (.inl ⟨m,⟨i,c,k,o,.inl g1⟩,rfl⟩))⟩
   refine ifF (by simpa using g1) (Am ?_);by_cases g2:(h.Laws.n:Int)<=(h.On.g i).g k
   .exact ifT (by simpa using g2) ⟨3,rfl,EQ ht l t b (.inr (.inl ⟨m,⟨i,c,k,o,.inr g2⟩,rfl⟩))⟩
   refine ifF (by simpa using g2) (b3 o _ ⟨Gx,fun j s=>?_⟩);by_cases e:j=k
   .subst e;exact fun g=>g.elim g1 g2
   exact a2 j (by omega)
  refine Df (b1 c _ ⟨Gx,fun v d=>?_⟩);by_cases e:v=i
  .subst e;exact fun⟨j,s,g⟩=>a2 j (by omega) g
  exact a1 v (by omega)
 exact Df ⟨0,rfl,EQ ht l t b (.inr (.inr ⟨m,fun v d=>a1 v (by omega),rfl⟩))⟩
end Go.AM
namespace Go.AM
variable {N:Nat}
open IntKind (wrap)
open Go.Proofs
def GM (t:Sl I9)(v:Nat):List Nat:= if hp:0<=(t.g v).Parent/\(t.g v).Parent<v then GM t (t.g v).Parent.toNat++[v]else [v]
termination_by v
decreasing_by omega
def ER {t:Sl I9}{v:Nat}(a:(t.g v).Parent<0):GM t v=[v]:=by rw[GM,dif_neg (by omega)]
def Ky {t:Sl I9}{v p:Nat}(a:(t.g v).Parent=(p:Int))(hp:p<v):GM t v=GM t p++[v]:=by rw[GM,dif_pos (by omega),a,AZ2]
def NK {t:Sl I9}(ht:T6 t):∀(m v:Nat),v<=m->v<t.n->∀x∈GM t v,x<=v
 |m,v,hm,hv,x,hx=>by
  rcases V7 ht hv with⟨_,e⟩ | ⟨p,hp,e⟩
  .rw[ER (by omega)]at hx;simp at hx;omega
  rw[Ky e hp]at hx;rcases List.mem_append.1 hx with hx|hx
  .match m with
   |0=>omega
   |m+1=>have:=NK ht m p (by omega) (by omega) x hx;omega
  simp at hx;omega
def Au9 {α : Type}{x:Sl α}{m:Nat}(h:x.n=m+1):x.toList.reverse=x.g m::(x.take m).toList.reverse:=by unfold Sl.toList;rw[h,Bh1,Be6,Bh3];rfl
def XC {x2:Sl Int}(hx:x2.n<100000):∀(k M:Nat),k<=x2.n->k<M->Q5 M (fun (a:Int->Option (List Int)) (x3:Int)=>
 if (decide (0<=x3)) then
  if (((0:Int)<=x3/\x3<(x2.n:Int))/\x3.toNat<x2.n)then
   X1 (x2.g x3.toNat) (
    a (wrap .i64 (x3-1))
    )
  else none
 else
  some []
 ) ((k:Int)-1)=some (x2.take k).toList.reverse
 |0,M,hk,hM=>by obtain⟨M,rfl⟩:∃K,M=K+1:=⟨M-1,by omega⟩;rw[P6,Kb];rfl
 |k+1,M,hk,hM=>by obtain⟨M,rfl⟩:∃K,M=K+1:=⟨M-1,by omega⟩;rw[show ((k+1:Nat):Int)-1=(k:Int) by omega,P6,Jf,Kc ⟨by omega,by omega⟩,E4 (by omega) (by omega),XC hx k M (by omega) (by omega),AZ2,Au9 (x:=x2.take (k+1)) (m:=k) rfl];rfl
def AM6 (j:3000000<=N){t:Sl I9}(ht:T6 t){v:Nat}(f:v<t.n):T1 N (v:Int) t=some ((GM t v).map fun (x:Nat)=>(x:Int)):=by
 have i:=ht.2.1;have key:∀(m c:Nat) (x2:Sl Int) (M:Nat),c<m->c<t.n->m+1<M->x2.n+c<=1000->∃y:Sl Int,y.n<=1001/\y.toList.reverse=((GM t c).map fun (x:Nat)=>(x:Int))++x2.toList.reverse /\
  Q3 M (fun (a:Int->Sl Int->Option (List Int)) (x1:Int) (x2:Sl Int)=>
  if (decide (0<=x1)) then
   if (((x2.n+(Sl.of [x1]:Sl Int).n)*8<=140737488355328/\x2.n+(Sl.of [x1]:Sl Int).n<=140737488355328)/\((0:Int)<=x1/\x1<(t.n:Int)))then
    a (t.g x1.toNat).Parent (x2.push x1)
   else none
  else
   Q5 N (fun b (x3:Int)=>
    if (decide (0<=x3)) then
     if (((0:Int)<=x3/\x3<(x2.n:Int))/\x3.toNat<x2.n)then
      X1 (x2.g x3.toNat) (
       b (wrap .i64 (x3-1))
       )
     else none
    else
     some []
    ) (wrap .i64 ((x2.n:Int)-1))
  ) (c:Int) x2=some y.toList.reverse:=by
  intro m
  induction m with
  |zero=>exact fun c _ _ h=>Lq h (by omega)
  |succ m ih=>
   intro c x2 M hc d l hx;obtain⟨M,rfl⟩:∃K,M=K+1:=⟨M-1,by omega⟩;rw[E1,Jf,Kc ⟨by show (x2.n+1)*8<=_/\x2.n+1<=_;omega,by omega⟩,AZ2];rcases V7 ht d with⟨_,e⟩ | ⟨p,hp,e⟩
   .obtain⟨M,rfl⟩:∃K,M=K+1:=⟨M-1,by omega⟩;refine⟨x2.push (c:Int),by show x2.n+1<=_;omega,by rw[Eg,Bh3,ER (by omega)];rfl,?_⟩;rw[e,E1,Ke (by decide)];have hb:=XC (x2:=x2.push (c:Int)) (by show x2.n+1<_;omega) (x2.n+1) N (Ba0 _) (by omega);rw[E4 (by show _<=((x2.n+1:Nat):Int)-1;omega) (by show ((x2.n+1:Nat):Int)-1<=_;omega)];exact hb
   obtain⟨y,y1,y2,y3⟩:=ih p (x2.push (c:Int)) M (by omega) (by omega) (by omega) (by show x2.n+1+p<=_;omega);refine⟨y,y1,?_,by rw[e];exact y3⟩;rw[y2,Eg,Bh3,Ky e hp,Be6,Bf5];rfl
 obtain⟨y,_,y2,y3⟩:=key (v+1) v Oc N (by omega) f (by omega) (by show 0+v<=_;omega);unfold T1;rw[y3,y2];show some (_++[])=_;rw[Be8]
def XD {t:Sl I9}(ht:T6 t):∀(m v:Nat),v<=m->v<t.n->(GM t v).length<=v+1
 |m,v,hm,hv=>by
  rcases V7 ht hv with⟨_,e⟩ | ⟨p,hp,e⟩
  .rw[ER (by omega)];simp
  rw[Ky e hp]
  match m with
  |0=>omega
  |m+1=>have:=XD ht m p (by omega) (by omega);simp;omega
def Iw:∀(d:Nat) (p:Pat),okP d p->∀M,100+d<=M->∃q,P5 M p=some q/\PE p q
 |0,p,h,M,_=>h.elim
 |d+1,p,h,0,hM=>by omega
 |d+1,p,h,M+1,hM=>by
  show ∃q,Q1 (P5 M) M p=some q/\_;unfold Q1;have hn:=h.1;refine O8 (fun i (x1:Sl Pat) x2=>x2=(i:Int)/\x1.n=i/\∀j,j<i->PE (p.L.g j) (x1.g j)) p.L.n _ (by omega) ⟨rfl,rfl,fun j a=>Lq a (by omega)⟩ ?_;rintro c i x1 x2 f ⟨rfl,hx,a⟩ hs;by_cases hl:i<p.L.n
  .obtain⟨q,q1,q2⟩:=Iw d (p.L.g i) (h.2.2 i hl) M (by omega);refine Ao (Am (B0 (by rw[AZ2];exact q1) (ifT (by show (x1.n+1)*64<=_/\x1.n+1<=_;omega) (hs hl _ _ ⟨Gx,by show x1.n+1=_;omega,fun j b=>?_⟩))));show PE _ (if j<x1.n then x1.g j else q);by_cases e:j=i
   .subst e;rw[Jo];exact q2
   rw[Ig];exact a j (by omega)
  exact Df ⟨_,rfl,PE_of.2 ⟨rfl,rfl,rfl,rfl,rfl,by show x1.n=_;omega,fun j b=>a j (by omega)⟩⟩
def Zi (d:3000000<=N){l:Law}(hl:LH l)(hc:chkAll N l):∃l',V4 N l=some l' /\ LE l l':=by have a:=hc.f hl;obtain⟨_,h1,b,g,c,_⟩:=a;have i:=c.1;obtain⟨q1,e1,g1⟩:=Iw 40 l.Left (ND 40 _ (by omega) h1 _ (by simp)) N (by omega);obtain⟨q2,e2,g2⟩:=Iw 40 l.Right (ND 40 _ (by omega) b _ (by simp)) N (by omega);unfold V4 A6 G3;rw[e1,e2,AZ6,AZ6,Ig,AZ6,Ig];exact⟨_,rfl,rfl,g1,g2,SE.refl _,SE.refl _,rfl⟩
def Av0 (m:3000000<=N){h:A3}(o:Q2 h)(c:T2 N h){l:Sl Int}(hn:l.n<1000000)(hl:∀i,i<l.n->0<=l.g i/\l.g i<h.Laws.n) :∃s,W3 N h l=some s/\s.n=l.n/\∀i,i<l.n->LE (h.Laws.g (l.g i).toNat) (s.g i):=by
 unfold W3;refine O8 (fun i (x1:Sl Law) x2=>x2=(i:Int)/\x1.n=i/\∀j,j<i->LE (h.Laws.g (l.g j).toNat) (x1.g j)) l.n _ (by omega) ⟨rfl,rfl,fun j b=>Lq b (by omega)⟩ ?_;rintro f i x1 x2 hle ⟨rfl,hx,b⟩ hs;by_cases a:i<l.n
 .have r:=hl i a;obtain⟨q,q1,q2⟩:=Zi m (o.laws (l.g i).toNat (by omega)) (c.laws.2 (l.g i).toNat (by omega));refine Ao ?_;rw[AZ2];refine ifT ⟨by omega,r⟩ (B0 q1 (ifT (by show (x1.n+1)*200<=_/\x1.n+1<=_;omega) (hs a _ _ ⟨Gx,by show x1.n+1=_;omega,fun j d=>?_⟩)));show LE _ (if j<x1.n then x1.g j else q);by_cases e:j=i
  .subst e;rw[Jo];exact q2
  rw[Ig];exact b j (by omega)
 exact Df ⟨_,rfl,by omega,fun j d=>b j (by omega)⟩
def Ru (h:A3)(l:Sl Int):Sl Law:=⟨l.n,fun i=>h.Laws.g (l.g i).toNat⟩
end Go.AM
namespace Go.AM
variable {N:Nat}
open Go.Proofs
def OG (N:Nat)(l:Law)(w:Sl Oh):Option (Sl Oh):=(S2 N l w).bind fun y=>if y.2=0 then some y.1 else none
def CB (N:Nat):List Law->Sl Oh->Option (Sl Oh)
 |[],w=>some w
 |l::L,w=>(OG N l w).bind (CB N L)
def TW {N:Nat}:∀(A B:List Law) (w:Sl Oh),CB N (A++B) w=(CB N A w).bind (CB N B)
 |[],B,w=>rfl
 |l::A,B,w=>by
  show (OG N l w).bind (CB N (A++B))=((OG N l w).bind (CB N A)).bind (CB N B);cases OG N l w with
  |none=>rfl
  |some v=>exact TW A B v
def Zj (N:Nat)(l:Law):Prop:=LH l/\chkAll N l
def Av1 {l l' : Law}(h:LE l l')(g:Zj N l):Zj N l':=⟨LR h g.1,(EK h).1 g.2⟩
def OR (o o' : Option (Sl Oh)):Prop:=(o=none/\o' = none) \/ ∃v v',o=some v/\o' = some v' /\ SE v v' /\ wOk v
def VZ (a:3000000<=N){l:Law}(hl:Zj N l){w:Sl Oh}(hw:wOk w):(∃v,S2 N l w=some (v,0)/\OG N l w=some v/\wOk v) \/ (∃v,S2 N l w=some (v,11)/\OG N l w=none):=by
 obtain⟨⟨v,e⟩,_,h1,_,_,_,b⟩:=JD a hl.1 (LE.refl l) (SE.refl w) fun i c=>(hw.2 i c).ok;rcases b with⟨_,h⟩ | ⟨_,h,h'⟩ | ⟨_,_,h|⟨h,h'⟩⟩
 .exact Lq hl.2 h
 .exact Lq ((Bz h).2 hw) h'
 .dsimp only at h;subst h;exact .inr ⟨v,h1,by unfold OG;rw[h1];rfl⟩
 dsimp only at h h';subst h;exact .inl ⟨v,h1,by unfold OG;rw[h1];rfl,h'⟩
def AW8 (c:3000000<=N){l l' : Law}(hl:Zj N l)(hle:LE l l'){w w' : Sl Oh}(hw:wOk w)(a:SE w w'):OR (OG N l w) (OG N l' w'):=by
 have b:=a.wOk hw;obtain⟨r,r',h1,g,j,f,_⟩:=JD c hl.1 hle a fun i d=>(hw.2 i d).ok;obtain⟨q,q',k1,k2,k3,k4,_⟩:=JD c (LR hle hl.1) (LE.refl l') (SE.refl w') fun i d=>(b.2 i d).ok;obtain rfl:=Bb9 (g.symm.trans k2);rcases VZ c hl hw with⟨v,g1,g2,g3⟩ | ⟨v,g1,g2⟩<;>rcases VZ c (Av1 hle hl) b with⟨u,p1,p2,p3⟩ | ⟨u,p1,p2⟩
 .obtain rfl:=Bb9 (g1.symm.trans h1);obtain rfl:=Bb9 (p1.symm.trans k1);exact .inr ⟨v,u,g2,p2,j.trans k3.symm,g3⟩
 .obtain rfl:=Bb9 (g1.symm.trans h1);obtain rfl:=Bb9 (p1.symm.trans k1);exact Lq (f.trans k4.symm) (by show ¬((0:Int)=11);decide)
 .obtain rfl:=Bb9 (g1.symm.trans h1);obtain rfl:=Bb9 (p1.symm.trans k1);exact Lq (f.trans k4.symm) (by show ¬((11:Int)=0);decide)
 exact .inl ⟨g2,p2⟩
def LEs:List Law->List Law->Prop
 |[],[]=>True
 |p::l,q::m=>LE p q/\LEs l m
 |_,_=>False
def Ai0 {N:Nat}(a:3000000<=N):∀(L L' : List Law) (w w' : Sl Oh),(∀l∈L,Zj N l)->LEs L L' -> wOk w->SE w w' -> OR (CB N L w) (CB N L' w')
 |[],[],w,w',_,_,hw,hse=>.inr ⟨w,w',rfl,rfl,hse,hw⟩
 |l::L,l' :: L',w,w',hg,⟨h1,h2⟩,hw,hse=>by
  unfold CB;rcases AW8 a (hg l (by simp)) h1 hw hse with⟨e1,e2⟩ | ⟨v,v',e1,e2,e3,e4⟩
  .rw[e1,e2];exact .inl ⟨rfl,rfl⟩
  rw[e1,e2];exact Ai0 a L L' v v' (fun x hx=>hg x (by simp[hx])) h2 e4 e3
 |[],_::_,_,_,_,h,_,_=>h.elim
 |_::_,[],_,_,_,h,_,_=>h.elim
def TX {f g:Nat->Law}:∀(l:List Nat),(∀i∈l,LE (f i) (g i))->LEs (l.map f) (l.map g)
 |[],_=>trivial
 |i::l,h=>⟨h i (by simp),TX l fun j a=>h j (by simp[a])⟩
def LS.s {s t:Sl Law}(h:LS s t):LEs s.toList t.toList:=by unfold Sl.toList;rw[<- h.1];exact TX _ fun i a=>h.2 i (Bc3.1 a)
def AM7 {laws:Sl Law}(hl:EL laws)(b:EM N laws):∀l∈laws.toList,Zj N l:=by intro l h;obtain⟨i,a,rfl⟩:=Bd5.1 h;have a:=Bc3.1 a;exact⟨hl i a,b.2 i a⟩
def Wa (f:3000000<=N){laws:Sl Law}(hl:EL laws)(c:EM N laws):∀(m i:Nat) (w:Sl Oh),wOk w->i<=laws.n->laws.n<=i+m ->
 (∃L,(∀M,m<M->Q3 M (T5 N 0 laws) w i=some L)/\CB N (laws.toList.drop i) w=some (JE w L)/\wOk (JE w L)) \/
 ((∃L,∀M,m<M->Q3 M (T5 N 0 laws) w i=none/\Q3 M (T5 N 11 laws) w i=some L)/\CB N (laws.toList.drop i) w=none):=by
 have b:=c.1;have fin:∀(m i:Nat) (w:Sl Oh),wOk w->i=laws.n->∃L,(∀M,m<M->Q3 M (T5 N 0 laws) w i=some L)/\CB N (laws.toList.drop i) w=some (JE w L)/\wOk (JE w L):=by rintro m i w hw rfl;refine⟨[],fun M d=>?_,by rw[Dv];rfl,hw⟩;obtain⟨M,rfl⟩:∃K,M=K+1:=⟨M-1,by omega⟩;rw[E1,T5,Kb,Kc rfl]
 intro m
 induction m with
 |zero=>exact fun i w hw g hm=>.inl (fin 0 i w hw (by omega))
 |succ m ih=>
  intro i w hw g hm;by_cases a:i<laws.n
  case neg=>exact .inl (fin _ i w hw (by omega))
  rw[FC _ a];rcases VZ f ⟨hl i a,c.2 i a⟩ hw with⟨v,g1,g2,g3⟩ | ⟨v,g1,g2⟩
  .rcases ih (i+1) v g3 (by omega) (by omega)with⟨L,a1,a2,a3⟩ | ⟨⟨L,a1⟩,a2⟩
   .refine .inl ⟨((i+1:Nat),v)::L,fun M d=>?_,by unfold CB;rw[g2];exact a2,a3⟩;obtain⟨M,rfl⟩:∃K,M=K+1:=⟨M-1,by omega⟩;rw[E1,S3 a b g1,Kb];show X1 _ (Q3 M (T5 N 0 laws) v _)=_;rw[a1 M (by omega)];rfl
   refine .inr ⟨⟨((i+1:Nat),v)::L,fun M d=>?_⟩,by unfold CB;rw[g2];exact a2⟩;obtain⟨M,rfl⟩:∃K,M=K+1:=⟨M-1,by omega⟩;obtain⟨b1,b2⟩:=a1 M (by omega);rw[E1,E1,S3 a b g1,S3 a b g1,Kb,Kb];refine⟨?_,?_⟩
   .show X1 _ (Q3 M (T5 N 0 laws) v _)=_;rw[b1];rfl
   show X1 _ (Q3 M (T5 N 11 laws) v _)=_;rw[b2];rfl
  refine .inr ⟨⟨[],fun M d=>?_⟩,by unfold CB;rw[g2];rfl⟩;obtain⟨M,rfl⟩:∃K,M=K+1:=⟨M-1,by omega⟩;rw[E1,E1,S3 a b g1,S3 a b g1];exact⟨rfl,rfl⟩
def NL (g:3000000<=N){laws:Sl Law}(hl:EL laws)(d:EM N laws){w:Sl Oh}(hw:wOk w) :(∃v,CB N laws.toList w=some v/\G8 N laws w=some (v,0)/\wOk v) \/ (CB N laws.toList w=none/\G8 N laws w=some (Od,11)):=by
 have j:=d.1;have l:=hw.1;obtain⟨e,e1,m⟩:=NJ g hl (w:=w) fun i o=>(hw.2 i o).ok
 have:e=0:=by
  rcases m with⟨h,h'⟩ | ⟨_,h⟩
  .exact Hj h (lawsE_zero.2 d)
  exact (Bz h).2 hw
 subst this;have b:A6 N w=some w:=by unfold A6;rw[Ig]
 have a:∀c,C5 N c laws w=(X1 (0,w) (Q3 N (T5 N c laws) w 0)).bind fun L1=>N8 L1 (fun (f:Sl Oh->Option (Sl Oh)) (x1:Int×(Sl Oh)) (z1:Sl Oh)=>f x1.2) (fun (z1:Sl Oh)=>some z1) Od:=by intro c;unfold C5 AJ V2;rw[AZ6,b,AZ6];rfl
 unfold G8;rw[e1,AZ6,Ke (by decide)];rcases Wa g hl d laws.n 0 w hw (by omega) (by omega)with⟨L,g1,g2,g3⟩ | ⟨⟨L,g1⟩,g2⟩
 .have g1:Q3 N (T5 N 0 laws) w 0=some L:=g1 N (by omega)
  have:G1 N laws w=some (JE w L,true):=by
   have e0:C5 N 0 laws w=some (JE w L):=by rw[a,g1];exact JF _ _
   unfold G1;rw[e0]
  rw[this];exact .inl ⟨_,g2,rfl,g3⟩
 obtain⟨g3,g4⟩:=g1 N (by omega);have g3:Q3 N (T5 N 0 laws) w 0=none:=g3;have g4:Q3 N (T5 N 11 laws) w 0=some L:=g4
 have:G1 N laws w=some (Od,false):=by
  have e0:C5 N 0 laws w=none:=by rw[a,g3];rfl
  have e11:C5 N 11 laws w=some (JE w L):=by rw[a,g4];exact JF _ _
  unfold G1;rw[e0,e11];rfl
 rw[this];exact .inr ⟨g2,rfl⟩
def Ai1 {α : Type}(s t:Sl α):(s.app t).toList=s.toList++t.toList:=by
 show (List.range (s.n+t.n)).map (fun i=>if i<s.n then s.g i else t.g (i-s.n))=_;rw[List.range_add,Be6,Bg7];congr 1
 .exact Bc4 fun i a=>Kc (Bc3.1 a)
 refine Bc4 fun i a=>?_;show (if s.n+i<s.n then _ else t.g (s.n+i-s.n))=_;rw[Jo];congr 1;omega
def LT (h:A3)(l:Sl Int):(Ru h l).toList=l.toList.map fun (i:Int)=>h.Laws.g i.toNat:=by unfold Ru Sl.toList;rw[Bg7];rfl
def Kz (h:A3)(L:List Nat):List Law:=L.flatMap fun x=>(Ru h (h.On.g x)).toList
def TY {h:A3}(ht:T6 h.Tree):∀(m v:Nat),v<=m->v<h.Tree.n->Kz h (GM h.Tree v)=(Ru h (Eh h v)).toList
 |m,v,hm,hv=>by
  rcases V7 ht hv with⟨_,e⟩ | ⟨p,hp,e⟩
  .rw[ER (by omega),EP (by omega),AL4 rfl];simp[Kz]
  rw[Ky e hp,JG e hp,LT,Ai1,Be6,<- LT,<- LT]
  match m with
  |0=>omega
  |m+1=>rw[<- TY ht m p (by omega) (by omega)];simp[Kz]
def Av2 {h:A3}(b:Q2 h){l:Sl Int}(hl:∀i,i<l.n->0<=l.g i/\l.g i<h.Laws.n):EL (Ru h l):=fun i a=>b.laws _ (by have:=hl i a;omega)
def Av3 {h:A3}(a:T2 N h){l:Sl Int}(hn:l.n<=64)(hl:∀i,i<l.n->0<=l.g i/\l.g i<h.Laws.n):EM N (Ru h l):=⟨hn,fun i b=>a.laws.2 _ (by have:=hl i b;omega)⟩
def Ai2 {h:A3}(a:T2 N h){x:Nat}(hx:x<h.Tree.n):(h.On.g x).n<=64/\∀i,i<(h.On.g x).n->0<=(h.On.g x).g i/\(h.On.g x).g i<h.Laws.n:=by
 have c:=a.on;refine⟨?_,fun j b=>?_⟩
 .have hl:(Eh h x).n<=64:=Bn0 fun g=>a.long ⟨x,by omega,g⟩;rcases V7 a.tree hx with⟨_,e⟩ | ⟨p,hp,e⟩
  .rw[EP (by omega)]at hl;have hl:0+(h.On.g x).n<=64:=hl;omega
  rw[JG e hp]at hl;have hl:(Eh h p).n+(h.On.g x).n<=64:=hl;omega
 have:=a.bad x (by omega)
 constructor
 .exact Int.not_lt.1 fun g=>this ⟨j,b,.inl g⟩
 exact Int.not_le.1 fun g=>this ⟨j,b,.inr g⟩
def Ai3 {N:Nat}(t:3000000<=N){h:A3}(c:Q2 h)(a:T2 N h):∀(L:List Nat) (z z' : Sl Oh),(∀x∈L,x<h.Tree.n)->wOk z->SE z z' ->
 ∃r,N8 (L.map fun (x:Nat)=>(x:Int)) (fun (d:Sl Oh->Option ((Sl Oh)×Int)) (x1:Int) (z1:Sl Oh)=>
  if ((0:Int)<=x1/\x1<(h.On.n:Int))then
   (W3 N h (h.On.g x1.toNat)).bind fun y8=>
   (G8 N y8 z1).bind fun y9=>
   if (y9.2 != 0) then
    some (Od,y9.2)
   else
    d y9.1
  else none
  ) (fun (z1:Sl Oh)=>
   some (z1,0)
  ) z=some r/\((∃v,CB N (Kz h L) z' = some v/\r.2=0/\SE r.1 v/\wOk r.1) \/ (CB N (Kz h L) z' = none/\r=(Od,11)))
 |[],z,z',_,hz,hse=>⟨(z,0),rfl,.inl ⟨z',rfl,rfl,hse,hz⟩⟩
 |x::L,z,z',hx,hz,hse=>by
  have w:=hx x (by simp);have hon:=a.on;obtain⟨o1,o2⟩:=Ai2 a w;obtain⟨s,s1,s2,s3⟩:=Av0 t c a (l:=h.On.g x) (by omega) o2;have b:LS (Ru h (h.On.g x)) s:=⟨s2.symm,fun i c=>s3 i c⟩;have j:=Av2 c o2;have m:=Av3 a o1 o2;have o:=Xy b j;have q : EM N s:=⟨by omega,fun i c=>(EK (b.2 i (by rw[b.1];exact c))).1 (m.2 i (by rw[b.1];exact c))⟩;have hf:=Ai0 t _ _ z' z (AM7 j m) b.s (hse.wOk hz) hse.symm;have f:CB N (Kz h (x::L)) z' = (CB N (Ru h (h.On.g x)).toList z').bind (CB N (Kz h L)):=by rw[<- TW];rfl
  rw[f,Bc8,N8,Ig,AZ2,s1,AZ6];rcases NL t o q hz with⟨v,d1,d2,d3⟩ | ⟨d1,d2⟩
  .rw[d2,AZ6,Kb];rcases hf with⟨_,f2⟩ | ⟨u,u',f1,f2,f3,f4⟩
   .rw[d1]at f2;cases f2
   rw[d1]at f2;obtain rfl:=Bb9 f2;rw[f1,AZ6];exact Ai3 t c a L v u (fun y hy=>hx y (by simp[hy])) d3 f3.symm
  rw[d2,AZ6,Jf];rcases hf with⟨f1,_⟩ | ⟨u,u',_,f2,_⟩
  .rw[f1];exact⟨_,rfl,.inr ⟨rfl,rfl⟩⟩
  rw[d1]at f2;cases f2
end Go.AM
namespace Go.AM
variable {N:Nat}
open IntKind (wrap)
open Go.Proofs
def eqR {R:Type}{x:Option R}{y:R}(h:∃r,x=some r/\r=y):x=some y:=by obtain⟨r,h,rfl⟩:=h;exact h
def Rv (t:Sl I9)(v:Nat):Prop:=∀u,0<u->u<t.n->(t.g u).Parent≠(v:Int)
open Classical in
noncomputable def F1 (t:Sl I9):Nat->Sl Int
 |0=>Oc
 |i+1=>if Rv t i then (F1 t i).push (i:Int)else F1 t i
def NM {t:Sl I9}{i:Nat}(h:Rv t i):F1 t (i+1)=(F1 t i).push (i:Int):=Kc h
def Rw {t:Sl I9}{i:Nat}(h:¬Rv t i):F1 t (i+1)=F1 t i:=Ke h
def Rx (t:Sl I9):∀i,(F1 t i).n<=i
 |0=>Ba0 0
 |i+1=>by
  have:=Rx t i
  by_cases h:Rv t i
  .rw[NM h];show (F1 t i).n+1<=i+1;omega
  rw[Rw h];omega
def Ix (t:Sl I9):∀i k,k<(F1 t i).n->∃v:Nat,v<i/\(F1 t i).g k=(v:Int)
 |0,k,hk=>Lq hk (Bb5 k)
 |i+1,k,hk=>by
  by_cases h:Rv t i
  .rw[NM h]at hk⊢;have hk:k<(F1 t i).n+1:=hk;show ∃v:Nat,v<i+1/\(if k<(F1 t i).n then (F1 t i).g k else (i:Int))=(v:Int);by_cases a:k<(F1 t i).n
   .rw[Kc a];obtain⟨v,h1,b⟩:=Ix t i k a;exact⟨v,by omega,b⟩
   rw[Ke a];exact⟨i,by omega,rfl⟩
  rw[Rw h]at hk⊢;obtain⟨v,h1,b⟩:=Ix t i k hk;exact⟨v,by omega,b⟩
def Av4 (s:3000000<=N){t:Sl I9}(ht:T6 t):∃X,Z1 N t=some X/\(X.n=t.n/\∀v,v<t.n->((X.g v).n=0↔Rv t v)):=by
 have o:=ht.2.1;unfold Z1;refine Am (O8 (fun i x (X:Sl (Sl Int))=>x=(i:Int)/\X.n=t.n/\∀v,v<t.n->(((X.g v).n=0 ↔ ∀u,0<u->u<i->(t.g u).Parent≠(v:Int))/\(X.g v).n<=i)) t.n _ (by omega)
  ⟨rfl,rfl,fun v b=>⟨⟨fun _ u h1 a=>Lq a (Bb5 u),fun _=>rfl⟩,Ba0 0⟩⟩ ?_)
 rintro l i x X hle ⟨rfl,c,f⟩ hs;by_cases hl:i<t.n
 case neg=>
  obtain rfl:i=t.n:=by omega
  exact Dg ⟨X,rfl,c,fun v b=>(f v b).1⟩
 refine ifT (by simpa using hl) (Am ?_);rw[AZ2,Gx];rcases V7 ht hl with⟨q,h1⟩ | ⟨p,hp,e⟩
 .subst q;rw[h1];refine ifT (by show Int.toNat (-1)<X.n;rw[c];exact hl) (ltX (Dg (hs hl _ _ ⟨rfl,c,fun v b=>?_⟩)));have e:(X.upd (Int.toNat (-1)) (X.g (Int.toNat (-1)))).g v=X.g v:=by
   show (if v=_ then X.g (Int.toNat (-1))else X.g v)=X.g v;split
   .rename_i e;rw[e]
   rfl
  rw[e];obtain⟨g1,g2⟩:=f v b;exact⟨g1.trans ⟨fun _ u h1 a=>Lq a (by omega),fun _ u h1 a=>Lq a (by omega)⟩,by omega⟩
 rw[e,AZ2];have j:p<t.n:=by omega
 have m:=(f p j).2;refine Am (ltX (Ao (ifT ⟨⟨by omega,by rw[c];omega⟩,by omega,by omega⟩ (hs hl _ _ ⟨rfl,c,fun v b=>?_⟩))));show ((if v=p then (X.g p).push (i:Int)else X.g v).n=0↔_)/\(if v=p then (X.g p).push (i:Int)else X.g v).n<=i+1;by_cases d:v=p
 .subst d;rw[Kc rfl];refine⟨⟨fun h=>Lq h (Nat.succ_ne_zero _),fun h=>Lq e (h i (by omega) (by omega))⟩,?_⟩;show (X.g v).n+1<=i+1;omega
 rw[Ke d];obtain⟨g1,g2⟩:=f v b;refine⟨g1.trans ⟨fun h u h1 a=>?_,fun h u h1 a=>h u h1 (by omega)⟩,by omega⟩;by_cases r:u=i
 .subst r;rw[e];omega
 exact h u h1 (by omega)
def AW9 {R:Type}{Q:R->Prop}{a:Sl Int->Int->Option R}{t:Sl I9}{i:Nat}(c:i<1000){b:Bool}(hb:b=true↔Rv t i)(h:∃r,a (F1 t (i+1)) ((i+1:Nat):Int)=some r/\Q r) :∃r,(if b then
  if (((F1 t i).n+(Sl.of [(i:Int)]:Sl Int).n)*8<=140737488355328/\(F1 t i).n+(Sl.of [(i:Int)]:Sl Int).n<=140737488355328)then
   a ((F1 t i).push (i:Int)) (wrap .i64 ((i:Int)+1))
  else none
  else a (F1 t i) (wrap .i64 ((i:Int)+1)))=some r/\Q r:=by
 have hn:=Rx t i;rw[Gx];by_cases hk:Rv t i
 .rw[NM hk]at h;exact ifT (hb.2 hk) (ifT ⟨by show ((F1 t i).n+1)*8<=_;omega,by show (F1 t i).n+1<=_;omega⟩ h)
 rw[Rw hk]at h;exact ifF (fun g=>hk (hb.1 g)) h
def Wb (c:3000000<=N){t:Sl I9}(ht:T6 t):∃r,Bw N t=some r/\r=F1 t t.n:=by
 have d:=ht.2.1;unfold Bw;obtain⟨X,e,a,hk⟩:=Av4 c ht;refine B0 e (O8 (fun i x1 x2=>x2=(i:Int)/\x1=F1 t i) t.n _ (by omega) ⟨rfl,rfl⟩ ?_);rintro b i x1 x2 hle ⟨rfl,rfl⟩ hs;by_cases hl:i<t.n
 .refine ifT (by rw[a];simpa using hl) (Am ?_);rw[AZ2];exact AW9 (by omega) (by rw[<- hk i hl];simp) (hs hl _ _ ⟨rfl,rfl⟩)
 obtain rfl:i=t.n:=by omega
 exact ifF (by rw[a];simp) ⟨_,rfl,rfl⟩
def Av5 (l:3000000<=N){t:Sl I9}(ht:T6 t){v:Nat}(m:v<t.n):∃r,Eb N t (v:Int)=some r/\(r.n=0↔Rv t v):=by
 have f:=ht.2.1;unfold Eb;refine O8 (fun i (x1:Sl Int) x2=>x2=(i:Int)/\x1.n<=i/\(x1.n=0 ↔ ∀u,0<u->u<i->(t.g u).Parent≠(v:Int))) t.n _ (by omega) ⟨rfl,Ba0 0,fun _ u h1 a=>Lq a (Bb5 u),fun _=>rfl⟩ ?_;rintro b i x1 x2 hle ⟨rfl,hn,c⟩ hs;by_cases hl:i<t.n
 .refine ifT (by simpa using hl) (Am ?_);rw[AZ2,Gx];by_cases hp:(t.g i).Parent=(v:Int)
  .have d:0<i:=by
    rcases V7 ht hl with⟨d,h1⟩ | ⟨p,hp,e⟩
    .rw[h1]at hp;omega
    omega
   refine ifT (by simpa using hp) (ifT ⟨by show (x1.n+1)*8<=_;omega,by show x1.n+1<=_;omega⟩ (hs hl _ _ ⟨rfl,by show x1.n+1<=i+1;omega,fun h=>Lq h (Nat.succ_ne_zero _),fun h=>Lq hp (h i d (by omega))⟩))
  refine ifF (by simpa using hp) (hs hl _ _ ⟨rfl,by omega,c.trans ⟨fun h u h1 a=>?_,fun h u h1 a=>h u h1 (by omega)⟩⟩);by_cases j:u=i
  .subst j;exact hp
  exact h u h1 (by omega)
 obtain rfl:i=t.n:=by omega
 exact Dg ⟨_,rfl,c⟩
def KA (a:3000000<=N){t:Sl I9}(c:GL t):∃s e,M0 N t=some (s,e)/\Bb N t=some (s,e)/\((T6 t/\e=0/\s=F1 t t.n) \/ (¬T6 t/\e=16/\s=Oc)):=by
 obtain⟨e,e1,e2,d⟩:=Hk a c;unfold M0 Bb;rw[e1,e2,AZ6,AZ6];rcases d with⟨rfl,ht⟩ | ⟨rfl,ht⟩
 .have f:=ht.2.1;rw[Ke (by decide),Ke (by decide)];obtain⟨r,g1,rfl⟩:=Wb a ht;refine⟨_,0,by rw[g1];rfl,eqR (O8 (fun i x1 x2=>x2=(i:Int)/\x1=F1 t i) t.n _ (by omega) ⟨rfl,rfl⟩ ?_),.inl ⟨ht,rfl,rfl⟩⟩;rintro b i x1 x2 hle ⟨rfl,rfl⟩ hs;by_cases hl:i<t.n
  .refine ifT (by simpa using hl) ?_;obtain⟨r,k1,k2⟩:=Av5 a ht hl;exact B0 k1 (AW9 (by omega) (by rw[<- k2];simp) (hs hl _ _ ⟨rfl,rfl⟩))
  obtain rfl:i=t.n:=by omega
  exact Dg ⟨_,rfl,rfl⟩
 exact⟨_,16,Kc (by decide),Kc (by decide),.inr ⟨ht,rfl,rfl⟩⟩
end Go.AM
namespace Go.AM
open Go.Proofs
def outR (o:Option (Sl Oh))(y:Sl Oh)(e:Int):Prop:=(∃x,o=some x/\e=0/\SE y x/\wOk y) \/ (o=none/\e=11/\y.n=0)
def DV (N:Nat)(h:A3)(w:Sl Oh)(v:Nat):Option (Sl Oh):=CB N (Kz h (GM h.Tree v)) w
def AM8 {N:Nat}(b:3000000<=N){h:A3}(f:Q2 h)(a:T2 N h){w:Sl Oh}(hw:wOk w)(c:okA w){u:Nat}(g:u<h.Tree.n) :∃q,Co N h w (u:Int)=some q/\outR (DV N h w u) q.1 q.2/\q.1.n<=32:=by
 unfold Co Bv;rw[Hl b f,hres_zero.2 a];obtain⟨e',e3,d⟩:=GI (N:=N) (by omega) c;obtain rfl:=(Bz d).2 hw;simp only[AZ6,e3];have hb:¬(!((decide (0<=(u:Int)))&&(decide ((u:Int)<(h.Tree.n:Int)))))=true:=by simp;omega
 rw[ite_self,AZ6,Kb,Ca,AZ6,Ke hb,CL,AZ6];obtain⟨q,q1,q2⟩:=Ai3 b f a (GM h.Tree u) w w (fun x hx=>by have:=NK a.tree u u (Ba0 _) g x hx;omega) hw (SE.refl w);refine⟨q,?_,?_⟩
 .show (T1 N (u:Int) h.Tree).bind _=_;rw[AM6 b a.tree g];exact q1
 rcases q2 with⟨y,y1,y2,y3,y4⟩ | ⟨y1,rfl⟩
 .exact⟨.inl ⟨y,y1,y2,y3,y4⟩,y4.1⟩
 exact⟨.inr ⟨y1,rfl,rfl⟩,Bi0 _⟩
end Go.AM
namespace Go.AM
variable {N:Nat}
open Go.Proofs
def TZ {t:Sl I9}(ht:T6 t):∀(M v:Nat),v+1<=M->v<t.n->∃s,Hg M t (v:Int)=some s/\s.toList=(GM t v).map (fun (x:Nat)=>(x:Int))/\s.n<=v+1
 |0,v,hM,_=>by omega
 |M+1,v,hM,hv=>by
  have b:=ht.2.1;show ∃s,Cp (Hg M) M t (v:Int)=some s/\_;unfold Cp;by_cases a:v=0
  .subst a;refine ifT rfl ⟨_,rfl,?_,Ba0 1⟩;rw[ER (by have:=(ht.2.2 0 hv).1 rfl;omega)];rfl
  refine Df (Am ?_);rw[AZ2];rcases V7 ht hv with⟨h1,_⟩ | ⟨p,hp,e⟩
  .exact Lq h1 a
  obtain⟨s,g1,g2,g3⟩:=TZ ht M p (by omega) (by omega);rw[e];refine B0 g1 (ifT ⟨by show (s.n+1)*8<=_;omega,by show s.n+1<=_;omega⟩ ⟨_,rfl,?_,by show s.n+1<=_;omega⟩);rw[Ky e hp,Be6,<- g2,Eg];rfl
def Ai4 (a:3000000<=N){t:Sl I9}(b:GL t)(ht:T6 t){v:Nat}(c:v<t.n):∃s,Km N t (v:Int)=some (s,0)/\s.toList=(GM t v).map (fun (x:Nat)=>(x:Int))/\s.n<=64:=by
 have d:=ht.2.1;obtain⟨e,_,e1,f⟩:=Hk a b
 have:e=0:=by
  rcases f with⟨h,_⟩ | ⟨_,h⟩
  .exact h
  exact Lq ht h
 subst this;obtain⟨s,g1,g2,g3⟩:=TZ ht N v (by omega) c;refine⟨s,?_,g2,by omega⟩;unfold Km PC;rw[e1,AZ6,Ka,AZ6,Kb,g1];rfl
def AB5 {t:Sl I9}(ht:T6 t):∀(M v:Nat),v+2<=M->v<t.n->Q5 M (fun (a:Int->Option (List Int)) (x1:Int)=>
 if (decide (0<=x1)) then
  X1 x1 (
   if ((0:Int)<=x1/\x1<(t.n:Int))then
    a (t.g x1.toNat).Parent
   else none
   )
 else
  some []) (v:Int)=some ((GM t v).map (fun (x:Nat)=>(x:Int))).reverse
 |0,v,hM,_=>by omega
 |M+1,v,hM,hv=>by
  rw[P6,Jf,Ig,AZ2];rcases V7 ht hv with⟨_,e⟩ | ⟨p,hp,e⟩
  .obtain⟨M,rfl⟩:∃K,M=K+1:=⟨M-1,by omega⟩;rw[e,P6,Ke (by decide),ER (by omega)];rfl
  rw[e,AB5 ht M p (by omega) (by omega),Ky e hp,Be6,Bh3];rfl
def XE:∀(L:List Int) (z:Sl Int),z.n+L.length<=100000->∃s,N8 L (fun (a:Sl Int->Option (Sl Int)) (x1:Int) (z1:Sl Int)=>
 if ((z1.n+(Sl.of [x1]:Sl Int).n)*8<=140737488355328/\z1.n+(Sl.of [x1]:Sl Int).n<=140737488355328)then
  a (z1.push x1)
 else none
 ) (fun (z1:Sl Int)=>some z1) z=some s/\s.toList=z.toList++L
 |[],z,_=>⟨z,rfl,by simp⟩
 |x::L,z,h=>by obtain⟨s,s1,s2⟩:=XE L (z.push x) (by show z.n+1+L.length<=_;simp at h;omega);refine⟨s,?_,by rw[s2,Eg];simp⟩;show (if _ then _ else _)=_;rw[Kc (by show (z.n+1)*8<=_/\z.n+1<=_;simp at h;omega)];exact s1
def AM9 {x:Sl Int}(hn:x.n<100000)(d:x.n<N):∃s,G9 N x=some s/\(s.n=x.n/\∀j,j<x.n->s.g j=x.g (x.n-1-j)):=by
 unfold G9;refine Ro (fun i (x1:Sl Int) x2 x3=>x2=(i:Int)/\x3=(x.n:Int)-1-(i:Int)/\x1.n=x.n/\i<=x.n-i/\∀j,j<x.n->x1.g j=if j<i \/ x.n<=j+i then x.g (x.n-1-j)else x.g j) x.n _ d ⟨rfl,(E4 (by omega) (by omega)).trans (by omega),rfl,by omega,fun j b=>by rw[Jo]⟩ ?_;rintro c i x1 x2 x3 f ⟨rfl,rfl,hx,hle,b⟩ hs;by_cases hl:(i:Int)<(x.n:Int)-1-(i:Int)
 .have e3:((x.n:Int)-1-(i:Int)).toNat=x.n-1-i:=by omega
  refine ifT (by simpa using hl) (ifT (by rw[Sl.upd];dsimp only;omega) ?_);rw[AZ2,e3];refine hs (by omega) _ _ _ ⟨Gx,by rw[E4 (by omega) (by omega)];omega,hx,by omega,fun j a=>?_⟩;show (if j=x.n-1-i then x1.g i else if j=i then x1.g (x.n-1-i)else x1.g j)=_;by_cases e1:j=x.n-1-i
  .rw[Kc e1,b i (by omega),Jo,Ig];congr 1;omega
  rw[Ke e1];by_cases e2:j=i
  .rw[Kc e2,b _ (by omega),Jo,Ig];congr 1;omega
  rw[Ke e2,b j a];by_cases e4:j<i \/ x.n<=j+i
  .rw[Kc e4,Ig]
  rw[Ke e4,Jo]
 refine ifF (by simpa using hl) ⟨_,rfl,hx,fun j a=>?_⟩;rw[b j a];by_cases e4:j<i \/ x.n<=j+i
 .rw[Kc e4]
 rw[Ke e4];congr 1;omega
def AX0 {x s:Sl Int}(hn:s.n=x.n)(h:∀j,j<x.n->s.g j=x.g (x.n-1-j)):s.toList=x.toList.reverse:=by refine List.ext_getElem (by rw[EN,List.length_reverse,EN,hn]) fun i h1 a=>?_;rw[EN]at h1;rw[List.getElem_reverse];simp only[Sl.toList,List.getElem_map,Bs8,Bc9,Bp1];exact h i (by omega)
def Ai5 (f:3000000<=N){t:Sl I9}(a:GL t)(ht:T6 t){v:Nat}(b:v<t.n):∃s,Ds N t (v:Int)=some (s,0)/\s.toList=(GM t v).map (fun (x:Nat)=>(x:Int))/\s.n<=64:=by
 have g:=ht.2.1;have c:=XD ht v v (Ba0 _) b;obtain⟨e,e1,_,j⟩:=Hk f a
 have:e=0:=by
  rcases j with⟨h,_⟩ | ⟨_,h⟩
  .exact h
  exact Lq ht h
 subst this;have hc:Cq N t (Sl.of [(v:Int)]:Sl Int)=some 0:=by
  unfold Cq;rw[e1,AZ6,Ke (by decide)];refine eqR ?_;refine Av (fun i x=>x=(i:Int)) 1 _ (by omega) rfl ?_;rintro d i x a rfl hs;by_cases hl:i<1
  .obtain rfl:i=0:=by omega
   exact Ap (Ap (Df (hs hl _ (Gx))))
  exact Df ⟨_,rfl,rfl⟩
 have l:BQ N (v:Int) t=some ((GM t v).map (fun (x:Nat)=>(x:Int))).reverse:=by unfold BQ;exact AB5 ht N v (by omega) b
 obtain⟨z,z1,z2⟩:=XE ((GM t v).map (fun (x:Nat)=>(x:Int))).reverse Oc (by simp;omega);have zn:z.n=(GM t v).length:=by
  have:=congrArg List.length z2
  rw[EN]at this;simpa[Sl.toList]using this
 obtain⟨s,s1,s2,s3⟩:=AM9 (N:=N) (x:=z) (by omega) (by omega);refine⟨s,?_,?_,by omega⟩
 .unfold Ds;rw[hc,AZ6,Ke (by decide),Jx,AZ6];show (BQ N (v:Int) t).bind _=_;rw[l,AZ6];unfold R9 H9;rw[z1,AZ6,AZ6,s1];rfl
 rw[AX0 s2 s3,z2];simp[Sl.toList]
end Go.AM
namespace Go.AM
open Go.Proofs
def Zk (h:A3)(l:Sl Int)(x:Int):List Law:=(l.toList.filter fun i=>i != x).map fun i=>h.Laws.g i.toNat
def GN (h:A3)(L:List Nat)(x:Int):List Law:=L.flatMap fun v=>Zk h (h.On.g v) x
def RA (h:A3)(s:Sl Int)(x:Int):List Law:=s.toList.flatMap fun v=>Zk h (h.On.g v.toNat) x
def FF {α : Type}(s:Sl α)(q:Nat):(s.take (q+1)).toList=(s.take q).toList++[s.g q]:=by show (List.range (q+1)).map s.g=(List.range q).map s.g++[s.g q];rw[Bh1,Be6];rfl
def AB6 (h:A3)(l:Sl Int)(x:Int)(q:Nat):Zk h (l.take (q+1)) x=Zk h (l.take q) x++(if (l.g q != x) then [h.Laws.g (l.g q).toNat]else []):=by
 unfold Zk;rw[FF,Bk1,Be6];by_cases e:(l.g q != x)=true
 .rw[Kc e];simp[e]
 rw[Ke e];simp[e]
def Ai6 (h:A3)(s:Sl Int)(x:Int)(m:Nat):RA h (s.take (m+1)) x=RA h (s.take m) x++Zk h (h.On.g (s.g m).toNat) x:=by unfold RA;rw[FF,Bo3];simp
def Ai7 {h:A3}{s:Sl Int}{W:List Nat}{x:Int}(e:s.toList=W.map fun (v:Nat)=>(v:Int)):RA h s x=GN h W x:=by unfold RA GN;rw[e,List.flatMap_map];rfl
structure wayE (t:Sl I9) (v:Nat) (s:Sl Int):Prop where
 tl:s.toList=(GM t v).map fun (x:Nat)=>(x:Int)
 n:s.n<=64
 lt:∀m,m<s.n->∃u:Nat,u<t.n/\s.g m=(u:Int)
def Ai8 {t:Sl I9}(ht:T6 t){v:Nat}(b:v<t.n){s:Sl Int}(h1:s.toList=(GM t v).map fun (x:Nat)=>(x:Int))(c:s.n<=64):wayE t v s:=⟨h1,c,fun m hm=>by have a:s.g m∈s.toList:=Bd5.2 ⟨m,Bc3.2 hm,rfl⟩;rw[h1]at a;obtain⟨u,u1,u2⟩:=Bd5.1 a;exact⟨u,by have:=NK ht v v (Ba0 _) b u u1;omega,u2.symm⟩⟩
def Wc {N:Nat}(hN:3000000<=N){h:A3}(hi:Q2 h)(b:T2 N h)(x:Int) :∃X,I5 N h x=some X/\(X.n=(F1 h.Tree h.Tree.n).n/\∀k,k<X.n->(X.g k).toList=GN h (GM h.Tree ((F1 h.Tree h.Tree.n).g k).toNat) x/\(X.g k).n<=4096):=by
 have h63:=b.tree.2.1;have hon:=b.on;obtain⟨s,e,l1,_,l3⟩:=KA hN hi.tree;rcases l3 with⟨_,rfl,rfl⟩ | ⟨l3,_⟩
 case inr=>exact Lq b.tree l3
 have a6:=Rx h.Tree h.Tree.n;have r:∀k,k<(F1 h.Tree h.Tree.n).n->∃u:Nat,u<h.Tree.n/\(F1 h.Tree h.Tree.n).g k=(u:Int):=fun k hk=>Ix h.Tree h.Tree.n k hk;generalize F1 h.Tree h.Tree.n=s at l1 a6 r;unfold I5;refine B0 l1 (ifT (by dsimp only;omega) (ifT (by dsimp only;omega) ?_));dsimp only;refine Ro (fun i (K:Nat) (X:Sl (Sl Law)) y=>i=K/\y=(i:Int)/\X.n=s.n/\(∀k,k<i->(X.g k).toList=GN h (GM h.Tree (s.g k).toNat) x/\(X.g k).n<=4096)/\∀k,i<=k->(X.g k).n=0) s.n _ (by omega) ⟨rfl,rfl,rfl,fun k hk=>Lq hk (by omega),fun k _=>rfl⟩ ?_;rintro self i K X y hle ⟨rfl,rfl,hX,t,j⟩ hs;by_cases hl:i<s.n
 case neg=>
  obtain rfl:i=s.n:=by omega
  exact Dg (ifT ⟨rfl,hX⟩ ⟨_,rfl,hX,fun k hk=>t k (by omega)⟩)
 obtain⟨u,hu,a0⟩:=r i hl;obtain⟨w,w1,w2,w3⟩:=Ai5 hN hi.tree b.tree hu;have hw:=Ai8 b.tree hu w2 w3;refine Ao (Am ?_);rw[AZ2,a0];refine B0 w1 ?_;dsimp only;refine O8 (fun m (X' : Sl (Sl Law)) z=>z=(m:Int)/\X'.n=s.n/\(∀k,k≠i->X'.g k=X.g k)/\(X'.g i).toList=RA h (w.take m) x/\(X'.g i).n<=m*64) w.n _ (by omega) ⟨rfl,hX,fun _ _=>rfl,by
  have:=j i (Ba0 _)
  unfold Sl.toList;rw[this];rfl,by rw[j i (Ba0 _)];omega⟩ ?_
 rintro self2 m X' z hm ⟨rfl,a1,l,a2,hlen⟩ hs2;by_cases a3:m<w.n
 case neg=>
  obtain rfl:m=w.n:=by omega
  refine Dg (ifT ⟨rfl,hl⟩ (hs hl _ _ _ ⟨rfl,Gx,a1,fun k hk=>?_,fun k hk=>by rw[l k (by omega)];exact j k (by omega)⟩));by_cases e:k=i
  .subst e;refine⟨?_,by omega⟩;rw[a2,a0,AZ2,<- Ai7 hw.tl]
  rw[l k e];exact t k (by omega)
 obtain⟨v,hv,a4⟩:=hw.lt m a3;obtain⟨o1,o2⟩:=Ai2 b hv;refine Ao ?_;rw[AZ2,a4,AZ2];refine Am ?_;refine O8 (fun q (X'' : Sl (Sl Law)) z=>z=(q:Int)/\X''.n=s.n/\(∀k,k≠i->X''.g k=X.g k)/\(X''.g i).toList=RA h (w.take m) x++Zk h ((h.On.g v).take q) x/\(X''.g i).n<=m*64+q) (h.On.g v).n _ (by omega) ⟨rfl,a1,l,by rw[a2];simp[Zk,Sl.toList],by omega⟩ ?_;rintro self3 q X'' z hq ⟨rfl,c,d,f,hlen'⟩ a5;by_cases o:q<(h.On.g v).n
 case neg=>
  obtain rfl:q=(h.On.g v).n:=by omega
  refine Dg (hs2 a3 _ _ ⟨Gx,c,d, ?_,by omega⟩);rw[f,Ai6,a4,AZ2]
 have hvq:=o2 q o;refine Ao (Am ?_);rw[AZ2];have a:=AB6 h (h.On.g v) x q;by_cases e:((h.On.g v).g q != x)=true
 .rw[Kc e]at a;refine ifT e (Am (Am (Am (a5 o _ _ ⟨Gx,c,fun k hk=>?_,?_,?_⟩))))
  .show (if k=i then _ else X''.g k)=_;rw[Ke hk];exact d k hk
  .show (if i=i then _ else X''.g i).toList=_;rw[Kc rfl,Eg,f,a,Bf5]
  show (if i=i then _ else X''.g i).n<=_;rw[Kc rfl];show (X''.g i).n+1<=_;omega
 rw[Ke e,Be8]at a;exact ifF e (a5 o _ _ ⟨Gx,c,d,by rw[f,a],by omega⟩)
def Ai9 {N:Nat}(hN:3000000<=N){h:A3}(hi:Q2 h)(b:T2 N h){u:Nat}(hu:u<h.Tree.n)(x:Int) :∃s,Kn N h (u:Int) x=some s/\(s.toList=GN h (GM h.Tree u) x/\s.n<=4096):=by
 have h63:=b.tree.2.1;have hon:=b.on;obtain⟨w,w1,w2,w3⟩:=Ai4 hN hi.tree b.tree hu;have hw:=Ai8 b.tree hu w2 w3;unfold Kn;refine B0 w1 ?_;dsimp only;refine O8 (fun m (s:Sl Law) z=>z=(m:Int)/\s.toList=RA h (w.take m) x/\s.n<=m*64) w.n _ (by omega) ⟨rfl,rfl,by show 0<=_;omega⟩ ?_;rintro o m s z hm ⟨rfl,f,hlen⟩ r;by_cases i:m<w.n
 case neg=>
  obtain rfl:m=w.n:=by omega
  exact Dg ⟨_,rfl,by rw[f,<- Ai7 hw.tl];first|done|rfl,by omega⟩
 obtain⟨v,hv,j⟩:=hw.lt m i;obtain⟨o1,o2⟩:=Ai2 b hv;refine Ao ?_;rw[AZ2,j,AZ2];refine Am ?_;refine O8 (fun q (s:Sl Law) z=>z=(q:Int)/\s.toList=RA h (w.take m) x++Zk h ((h.On.g v).take q) x/\s.n<=m*64+q) (h.On.g v).n _ (by omega) ⟨rfl,by rw[f];simp[Zk,Sl.toList],by omega⟩ ?_;rintro t q s' z hq ⟨rfl,c,y⟩ l;by_cases d:q<(h.On.g v).n
 case neg=>
  obtain rfl:q=(h.On.g v).n:=by omega
  refine Dg (r i _ _ ⟨Gx,?_,by omega⟩);rw[c,Ai6,j,AZ2]
 have hvq:=o2 q d;refine Ao (Am ?_);rw[AZ2];have a:=AB6 h (h.On.g v) x q;by_cases e:((h.On.g v).g q != x)=true
 .rw[Kc e]at a;refine ifT e (Am (ifT (by show (s'.n+1)*200<=_/\s'.n+1<=_;omega) (l d _ _ ⟨Gx,?_,by show s'.n+1<=_;omega⟩)));rw[Eg,c,a,Bf5]
 rw[Ke e,Be8]at a;exact ifF e (l d _ _ ⟨Gx,by rw[c,a],by omega⟩)
end Go.AM
namespace Go.AM
open IntKind (wrap)
open Go.Proofs
def Aj0 (n:Nat):IntKind.u8.wrap (n:Int)=((n % 256:Nat):Int):=by
 have h1:((n:Int) % (2 ^ 8:Int))=((n % 256:Nat):Int):=by omega
 unfold wrap;simp only[IntKind.bits,IntKind.signed,h1,Bi8,Ba2,Ls]
def Wd (p k:Nat):UInt8:=UInt8.ofNat (p / 2 ^ k % 256)
def Zl (p:Int):List UInt8:=[Wd p.toNat 0,Wd p.toNat 8,Wd p.toNat 16]
def Al6 (s:Oh):List UInt8:=Zl s.Plus++Zl s.Minus
def AP4 (w:Sl Oh):Str:=w.toList.flatMap Al6
def RB {p q k:Nat}(h:Wd p k=Wd q k):p / 2 ^ k % 256=q / 2 ^ k % 256:=by
 have:=congrArg UInt8.toNat h
 unfold Wd at this;rw[Bt2,Bt2]at this;omega
def XF {p q:Nat}(hp:p<16777216)(c:q<16777216)(h:Zl (p:Int)=Zl (q:Int)):p=q:=by simp only[Zl,Bh0,and_true,AZ2]at h;obtain⟨a,h1,b⟩:=h;have a:=RB a;have h1:=RB h1;have b:=RB b;simp only[Nat.reducePow]at a h1 b;omega
def Av6 {s t:Oh}(hs:vS s)(ht:vS t)(h:Al6 s=Al6 t):s=t:=by obtain⟨p,m,rfl,b⟩:=hs;obtain⟨p',m',rfl,a⟩:=ht;obtain⟨_,a1,a2⟩:=(Ae4 p m).1 b;obtain⟨_,b1,b2⟩:=(Ae4 p' m').1 a;have hl:(Zl (sOf p m).Plus).length=(Zl (sOf p' m').Plus).length:=rfl;obtain⟨h1,c⟩:=List.append_inj h hl;have e1:=XF a1 b1 h1;have e2:=XF a2 b2 c;rw[Bd0 e1,Bd0 e2]
def XG:∀(L M:List Oh),(∀s∈L,vS s)->(∀s∈M,vS s)->L.flatMap Al6=M.flatMap Al6->L=M
 |[],[],_,_,_=>rfl
 |[],b::M,_,_,h=>by
  have:=congrArg List.length h
  simp[Bg2,Al6,Zl]at this
 |a::L,[],_,_,h=>by
  have:=congrArg List.length h
  simp[Bg2,Al6,Zl]at this
 |a::L,b::M,hL,hM,h=>by rw[Bg2,Bg2]at h;obtain⟨h1,c⟩:=List.append_inj h rfl;rw[Av6 (hL a (by simp)) (hM b (by simp)) h1,XG L M (fun s hs=>hL s (by simp[hs])) (fun s hs=>hM s (by simp[hs])) c]
def AN0 {w w' : Sl Oh}(hw:wOk w)(a : wOk w')(h:AP4 w=AP4 w'):SE w w':=by
 have hm:∀{w:Sl Oh},wOk w->∀s∈w.toList,vS s:=fun hw s hs=>by obtain⟨i,b,rfl⟩:=Bd5.1 hs;exact hw.2 i (Bc3.1 b)
 exact tl_eq.1 (XG _ _ (hm hw) (hm a) h)
def Aj1 (p:BitVec 32)(k:Nat)(hk:k<=32):wrap .u8 (shI .shr .u32 (p.toNat:Int) (k:Int))=((p.toNat / 2 ^ k % 256:Nat):Int):=by rw[Ab3,Aj0,Bj5,Bi9]
def RC (s:Sl Int):US s=s.toList.map fun i=>UInt8.ofNat i.toNat:=by show _=((List.range s.n).map s.g).map _;rw[Bg7];rfl
def Ua (s t:Sl Int):US (s.app t)=US s++US t:=by rw[RC,RC,RC,Ai1,Be6]
def str3 (p:BitVec 32):US (Sl.of [wrap .u8 (p.toNat:Int),wrap .u8 (shI .shr .u32 (p.toNat:Int) 8),wrap .u8 (shI .shr .u32 (p.toNat:Int) 16)]:Sl Int)=Zl (p.toNat:Int):=by have e8:=Aj1 p 8 (by omega);have e16:=Aj1 p 16 (by omega);have e0:=Aj0 p.toNat;show [UInt8.ofNat (wrap .u8 (p.toNat:Int)).toNat,UInt8.ofNat (wrap .u8 (shI .shr .u32 (p.toNat:Int) 8)).toNat,UInt8.ofNat (wrap .u8 (shI .shr .u32 (p.toNat:Int) 16)).toNat]=_;rw[e0,show wrap .u8 (shI .shr .u32 (p.toNat:Int) 8)=_ from e8,show wrap .u8 (shI .shr .u32 (p.toNat:Int) 16)=_ from e16];simp only[AZ2,Zl,Wd,Nat.pow_zero,Br9]
def AN1 {N:Nat}(c:3000000<=N){w:Sl Oh}(hw:wOk w):Cs N w=some (AP4 w):=by
 have b:=hw.1;refine eqR ?_;unfold Cs;refine O8 (fun m (x1:Sl Int) x2=>x2=(m:Int)/\US x1=(w.take m).toList.flatMap Al6/\x1.n=6*m) w.n _ (by omega) ⟨rfl,rfl,rfl⟩ ?_;rintro a m x1 x2 hm ⟨rfl,h1,d⟩ hs;by_cases hl:m<w.n
 .refine Ao (Am ?_);rw[AZ2];obtain⟨p,q,e,_⟩:=hw.2 m hl;have e1:(w.g m).Plus=(p.toNat:Int):=congrArg Oh.Plus e;have e2:(w.g m).Minus=(q.toNat:Int):=congrArg Oh.Minus e;rw[e1,e2];refine ifT (by show (x1.n+3)*1<=_/\x1.n+3<=_;omega) (ifT (by show (x1.n+3+3)*1<=_/\x1.n+3+3<=_;omega) (hs hl _ _ ⟨Gx,?_,by show x1.n+3+3=_;omega⟩));rw[Ua,Ua,str3,str3,h1,FF,Bo3,Bf5];congr 1;show Zl _++Zl _=[w.g m].flatMap Al6;rw[Bg2,List.flatMap_nil,Be8,Al6,e1,e2]
 obtain rfl:m=w.n:=by omega
 exact Dg ⟨_,rfl,h1⟩
end Go.AM
namespace Go.AM
variable {N:Nat}
open Go.Proofs
def DX (N:Nat)(h:A3)(u:Nat)(x:Int)(w:Sl Oh):Option (Sl Oh):=CB N (GN h (GM h.Tree u) x) w
def Ub {h:A3}{N:Nat}(a:T2 N h){u:Nat}(d:u<h.Tree.n){x:Int}{l:Law}(hl:l∈GN h (GM h.Tree u) x):∃i,i<h.Laws.n/\l=h.Laws.g i:=by
 obtain⟨v,f,b⟩:=Bn1.1 hl;obtain⟨i,c,rfl⟩:=Bd5.1 b;have c:=(Bj4.1 c).1;obtain⟨j,m,rfl⟩:=Bd5.1 c;have o:=NK a.tree u u (Ba0 _) d v f
 have:=(Ai2 a (x:=v) (by omega)).2 j (Bc3.1 m)
 exact⟨((h.On.g v).g j).toNat,by omega,rfl⟩
def XH (h:A3)(x:Int):∀L:List Nat,(GN h L x).length<=(Kz h L).length
 |[]=>Ba0 _
 |v::L=>by
  have ih:=XH h x L;have h1:(Zk h (h.On.g v) x).length<=(Ru h (h.On.g v)).toList.length:=by unfold Zk;rw[Bc9,EN];exact Bd7 (Bk7 _ _) (by rw[EN];exact Ba0 _)
  unfold GN Kz at ih⊢;rw[Bg2,Bg2,Ba7,Ba7];omega
def Aj2 {h:A3}{N:Nat}(a:T2 N h){u:Nat}(b:u<h.Tree.n){x:Int}:(GN h (GM h.Tree u) x).length<=64:=by have h1:=XH h x (GM h.Tree u);rw[TY a.tree u u (Ba0 _) b,EN]at h1;have c:(Eh h u).n<=64:=Bn0 fun f=>a.long ⟨u,by rw[a.on];exact b,f⟩;exact Bd7 h1 c
def PM {h:A3}{N:Nat}(c:Q2 h)(a:T2 N h){u:Nat}(f:u<h.Tree.n){x:Int}{s:Sl Law}(hs:s.toList=GN h (GM h.Tree u) x):EL s/\EM N s:=by
 have hn:s.n<=64:=by
  have:=Aj2 (N:=N) a f (x:=x)
  rw[<- hs,EN]at this;exact this
 have key:∀i,i<s.n->∃j,j<h.Laws.n/\s.g i=h.Laws.g j:=fun i c=>by refine Ub (N:=N) a f (x:=x) ?_;rw[<- hs];exact Bd5.2 ⟨i,Bc3.2 c,rfl⟩
 refine⟨fun i b=>?_,hn,fun i b=>?_⟩
 .obtain⟨j,d,e⟩:=key i b;rw[e];exact c.laws j d
 obtain⟨j,d,e⟩:=key i b;rw[e];exact a.laws.2 j d
def XJ:∀L:List Law,LEs L L
 |[]=>trivial
 |l::L=>⟨LE.refl l,XJ L⟩
def DX_S (d:3000000<=N){h:A3}(f:Q2 h)(a:T2 N h){u:Nat}(g:u<h.Tree.n){x:Int}{w w' : Sl Oh}(hw:wOk w)(b:SE w w'):OR (DX N h u x w) (DX N h u x w'):=by refine Ai0 d _ _ w w' (fun l hl=>?_) (XJ _) hw b;obtain⟨j,c,e⟩:=Ub (N:=N) a g hl;rw[e];exact⟨f.laws j c,a.laws.2 j c⟩
def AB7 (b:3000000<=N){h:A3}(c:Q2 h)(a:T2 N h){u:Nat}(d:u<h.Tree.n){x:Int}{s:Sl Law}(hs:s.toList=GN h (GM h.Tree u) x){w:Sl Oh}(hw:wOk w) :∃r,G8 N s w=some r/\outR (DX N h u x w) r.1 r.2:=by
 obtain⟨g1,g2⟩:=PM c a d hs;rcases NL b g1 g2 hw with⟨v,d1,d2,d3⟩ | ⟨d1,d2⟩
 .rw[hs]at d1;exact⟨_,d2,.inl ⟨v,d1,rfl,SE.refl _,d3⟩⟩
 rw[hs]at d1;exact⟨_,d2,.inr ⟨d1,rfl,rfl⟩⟩
def AN2 (c:3000000<=N){h:A3}(b:Q2 h)(a:T2 N h){u:Nat}(d:u<h.Tree.n){x:Int}{s:Sl Law}(hs:s.toList=GN h (GM h.Tree u) x){w:Sl Oh}(hw:wOk w) :∃r,DN N s w=some r/\outR (DX N h u x w) r.1 r.2:=by
 obtain⟨g1,g2⟩:=PM b a d hs;obtain⟨r,r1,r2⟩:=AB7 c b a d hs hw;obtain⟨q,q',a1,a2,a3,a4,_⟩:=Zf c g1 (LS.refl s) (SE.refl w) fun i b=>(hw.2 i b).ok;obtain rfl:=Bb9 (r1.symm.trans a1);refine⟨q',a2,?_⟩;rcases r2 with⟨y,b1,b2,b3,b4⟩ | ⟨b1,b2,b3⟩
 .exact .inl ⟨y,b1,a4.symm.trans b2,a3.symm.trans b3,a3.wOk b4⟩
 exact .inr ⟨b1,a4.symm.trans b2,by rw[<- a3.1];exact b3⟩
def outF (o:Option (Sl Oh))(f:C9):Prop:=(∃y,o=some y/\f.Has=true/\SE f.W y/\wOk f.W) \/ (o=none/\f.Has=false)
def AX1 {o o' : Option (Sl Oh)}(h:OR o o'){f:C9}(b:outF o f):outF o' f:=by
 rcases b with⟨y,h1,a,c,d⟩ | ⟨h1,a⟩
 .rcases h with⟨g1,_⟩ | ⟨v,v',g1,g2,g3,_⟩
  .rw[g1]at h1;cases h1
  rw[g1]at h1;obtain rfl:=Bb9 h1;exact .inl ⟨v',g2,a,c.trans g3,d⟩
 rcases h with⟨_,g1⟩ | ⟨v,v',g1,_⟩
 .exact .inr ⟨g1,a⟩
 rw[g1]at h1;cases h1
def DF (N:Nat)(h:A3)(u:Nat)(x:Int)(p:C9):Option (Sl Oh):=if p.Has then DX N h u x p.W else none
structure Ll (N:Nat) (h:A3) (x:Int) (s:Sl Int) (M:Sl (List (Str×C9))):Prop where
 n:M.n=s.n
 ok:∀k,k<s.n->∀a f,(a,f)∈M.g k->∃w,wOk w/\AP4 w=a/\outF (DX N h (s.g k).toNat x w) f
def AX2 (N:Nat)(h:A3)(x:Int)(s:Sl Int):Ll N h x s ⟨s.n,fun _=>[]⟩:=⟨rfl,fun k _ a f hm=>by cases hm⟩
def Uc {k:Str}{v:C9}:∀{es:List (Str×C9)},W7 eqS k es=some v->(k,v)∈es
 |[],h=>by cases h
 |(a,x)::es,h=>by
  unfold W7 at h;by_cases e:eqS k a=true
  .rw[Kc e]at h;obtain rfl:=Bb9 h
   have:k=a:=by simpa[eqS]using e
   subst this;simp
  rw[Ke e]at h;exact Bb1 _ (Uc h)
def XK {k a:Str}{v f:C9}:∀{es:List (Str×C9)},(a,f)∈Hq eqS k v es->(a,f)∈es \/ (a=k/\f=v)
 |[],h=>by simp only[Hq,Bh8,Ba5]at h;exact .inr h
 |(b,x)::es,h=>by
  unfold Hq at h;by_cases e:eqS k b=true
  .rw[Kc e]at h;rcases Bd1.1 h with h|h
   .simp only[Ba5]at h;exact .inr h
   exact .inl (Bb1 _ h)
  rw[Ke e]at h;rcases Bd1.1 h with h|h
  .exact .inl (by rw[h];simp)
  rcases XK h with h|h
  .exact .inl (Bb1 _ h)
  exact .inr h
structure derX (N:Nat) (h:A3) (x:Int) (s:Sl Int) (X:Sl (Sl Law)):Prop where
 leaf:s=F1 h.Tree h.Tree.n
 n:X.n=s.n
 g:∀k,k<s.n->(X.g k).toList=GN h (GM h.Tree (s.g k).toNat) x
def AN3 {h:A3}{k:Nat}(hk:k<(F1 h.Tree h.Tree.n).n):((F1 h.Tree h.Tree.n).g k).toNat<h.Tree.n:=by obtain⟨u,u1,u2⟩:=Ix h.Tree h.Tree.n k hk;rw[u2,AZ2];exact u1
def XL (i:3000000<=N){h:A3}(o:Q2 h)(c:T2 N h){x:Int}{s:Sl Int}{X:Sl (Sl Law)}(j:derX N h x s X){p:C9}(hp:p.Has=true->wOk p.W){k:Nat}(hk:k<s.n){M:Sl (List (Str×C9))}(b:Ll N h x s M) :∃r,F0 N p (k:Int) M X=some r/\Ll N h x s r.2.2/\outF (DF N h (s.g k).toNat x p) ⟨r.2.1,r.1⟩:=by
 have z:=j.n;have l:=b.n;have t:(s.g k).toNat<h.Tree.n:=by
  have:=j.leaf;subst this;exact AN3 hk
 unfold F0;by_cases d:p.Has=true
 case neg=>refine ifT (by simpa using d) ⟨_,rfl,b,.inr ⟨by unfold DF;rw[Ke d],rfl⟩⟩
 have hw:=hp d;have m:DF N h (s.g k).toNat x p=DX N h (s.g k).toNat x p.W:=by unfold DF;rw[Kc d]
 rw[m];refine ifF (by simp[d]) ?_;rw[AZ2];refine Am (Am (B0 (AN1 i hw) ?_));cases ha:W7 eqS (AP4 p.W) (M.g k)with
 |some v=>refine⟨_,rfl,b,?_⟩;obtain⟨w0,b1,b2,b3⟩:=b.ok k hk _ _ (Uc ha);exact AX1 (DX_S i o c t b1 (AN0 b1 hw b2)) b3
 |none=>
  obtain⟨r,r1,r2⟩:=AB7 i o c t (j.g k hk) hw;rw[MC];refine Am (B0 r1 ⟨_,rfl,?_⟩);have u:outF (DX N h (s.g k).toNat x p.W) ⟨r.2==0,r.1⟩:=by
   rcases r2 with⟨y,b1,b2,b3,b4⟩ | ⟨b1,b2,b3⟩
   .exact .inl ⟨y,b1,by simp[b2],b3,b4⟩
   exact .inr ⟨b1,by simp[b2]⟩
  refine⟨⟨l,fun q w a f hm=>?_⟩,u⟩;replace hm:(a,f)∈(if q=k then Hq eqS (AP4 p.W) (⟨r.2==0,r.1⟩:C9) (M.g k)else M.g q):=hm;by_cases e:q=k
  .subst e;rw[Kc rfl]at hm;rcases XK hm with hm|⟨rfl,rfl⟩
   .exact b.ok q w a f hm
   exact⟨p.W,hw,rfl,u⟩
  rw[Ke e]at hm;exact b.ok q w a f hm
def Lm (d:3000000<=N){h:A3}(i:Q2 h)(a:T2 N h){x:Int}{p:C9}(hp:p.Has=true->wOk p.W){k:Nat}(hk:k<(F1 h.Tree h.Tree.n).n) :∃f,CM N h p (k:Int) x=some f/\outF (DF N h ((F1 h.Tree h.Tree.n).g k).toNat x p) f:=by
 obtain⟨u,l,b⟩:=Ix h.Tree h.Tree.n k hk;obtain⟨s,e,_,l2,l3⟩:=KA d i.tree;rcases l3 with⟨_,rfl,rfl⟩ | ⟨l3,_⟩
 case inr=>exact Lq a.tree l3
 unfold CM;by_cases c:p.Has=true
 case neg=>exact ifT (by simpa using c) ⟨_,rfl,.inr ⟨by unfold DF;rw[Ke c],rfl⟩⟩
 have hw:=hp c;have j:DF N h ((F1 h.Tree h.Tree.n).g k).toNat x p=DX N h u x p.W:=by unfold DF;rw[Kc c,b,AZ2]
 rw[j];obtain⟨z,z1,z2,_⟩:=Ai9 d i a l x;obtain⟨r,r1,r2⟩:=AN2 d i a l z2 hw;refine ifF (by simp[c]) (B0 l2 (ifT (by dsimp only;omega) ?_));dsimp only;rw[AZ2,b];refine B0 z1 (B0 r1 ?_);rcases r2 with⟨y,b1,b2,b3,b4⟩ | ⟨b1,b2,b3⟩
 .exact ifF (by simp[b2]) ⟨_,rfl,.inl ⟨y,b1,rfl,b3,b4⟩⟩
 exact ifT (by simp[b2]) ⟨_,rfl,.inr ⟨b1,rfl⟩⟩
def AN4 (N:Nat)(h:A3)(u:Nat)(x:Int)(p f:C9):Prop:=∃y,DF N h u x p=some y/\SE y f.W
def Ud (i:3000000<=N){h:A3}(j:Q2 h)(a:T2 N h){x:Int}{p f:C9}(hp:p.Has=true->wOk p.W){k:Nat}(hk:k<(F1 h.Tree h.Tree.n).n) :∃b,Fx N h p (k:Int) f x=some b/\(b=true↔AN4 N h ((F1 h.Tree h.Tree.n).g k).toNat x p f):=by
 obtain⟨d,d1,d2⟩:=Lm i j a (x:=x) hp hk;unfold Fx;refine B0 d1 (ltX ?_);rcases d2 with⟨y,b1,b2,b3,b4⟩ | ⟨b1,b2⟩
 .obtain⟨e,e1,e2⟩:=AM3 (N:=N) (x:=d.W) (y:=f.W) (by have:=b4.1;omega) (by have:=b4.1;omega);refine ifT b2 (B0 e1 ⟨_,rfl,e2.trans ⟨fun c=>⟨y,b1,b3.symm.trans c⟩,?_⟩⟩);rintro⟨z,z1,z2⟩;rw[b1]at z1;obtain rfl:=Bb9 z1;exact b3.trans z2
 refine ifF (by simp[b2]) ⟨_,rfl,fun h=>(by cases h),?_⟩;rintro⟨z,z1,_⟩;rw[b1]at z1;cases z1
end Go.AM
namespace Go.AM
variable {N:Nat}
open IntKind (wrap)
open Go.Proofs
def Ge (f:Nat->Int):Nat->Int
 |0=>0
 |k+1=>if Ge f k≠0 then Ge f k else f k
def GO {f:Nat->Int}{k:Nat}(h:Ge f k=0):Ge f (k+1)=f k:=Ke (fun g=>g h)
def GP {f:Nat->Int}{i:Nat}(h:Ge f i≠0):∀n,i<=n->Ge f n=Ge f i
 |0,hn=>by rw[show i=0 by omega]
 |n+1,hn=>by
  by_cases e:i=n+1
  .rw[e]
  have hp:=GP h n (by omega);show (if Ge f n≠0 then Ge f n else f n)=_;rw[hp,Kc h]
def AL {f:Nat->Int}:∀{n:Nat},Ge f n=0->∀i,i<n->f i=0
 |0,_,i,hi=>Lq hi (Bb5 i)
 |n+1,h,i,hi=>by
  have hp:Ge f n=0:=Ba9 fun g=>g (by rw[<- GP g (n+1) (by omega)];exact h);by_cases e:i=n
  .subst e;rw[<- GO hp];exact h
  exact AL hp i (by omega)
def orE (a b:Int):Int:=if a≠0 then a else b
def JH {a b:Int}(h:a≠0):orE a b=a:=Kc h
def Ei {a b:Int}(h:a=0):orE a b=b:=Ke (fun g=>g h)
def FG {a b:Int}(h:orE a b=0):a=0/\b=0:=by
 by_cases g:a=0
 .exact⟨g,by rw[<- h,Ei g]⟩
 rw[JH g]at h;exact Lq h g
def AX3 {N n:Nat}{f:Nat->Int}{body:(Int->Option Int)->Int->Option Int}{re:Int}(m:n<N)(b:∀a i,i<n->f i≠0->body a (i:Int)=some (f i))
 (l:∀a i,i<n->f i=0->body a (i:Int)=a ((i+1:Nat):Int)) (c:∀a,Ge f n=0->body a (n:Int)=some re):Q5 N body 0=some (orE (Ge f n) re):=by
 refine eqR (Av (fun i x=>x=(i:Int)/\Ge f i=0) n _ m ⟨rfl,rfl⟩ ?_);rintro a i x hle ⟨rfl,g⟩ hs;by_cases hl:i<n
 .by_cases j:f i=0
  .rw[l a i hl j];exact hs hl _ ⟨rfl,by rw[GO g];exact j⟩
  rw[b a i hl j];have e:Ge f (i+1)=f i:=GO g;have d:Ge f (i+1)≠0:=by rw[e];exact j
  exact⟨_,rfl,by rw[GP d n hl,JH d,e]⟩
 obtain rfl:i=n:=by omega
 exact⟨_,c a g,(Ei g).symm⟩
def Aj3 {N n:Nat}{f:Nat->Int}{body:(Int->Option Int)->Int->Option Int}{re:Int}(g:n<N)(b:∀a i,i<n->f i≠0->body a (i:Int)=some (f i))
 (d:∀a i,i<n->f i=0->body a (i:Int)=a ((i+1:Nat):Int)) (c:∀a,body a (n:Int)=some re):Q5 N body 0=some (orE (Ge f n) re):=AX3 g b d fun a _=>c a
def BS (s:Sl C9):Prop:=∀i,i<s.n->okA (s.g i).W
def Gb (l:Sl Entry):Prop:=∀i,i<l.n->BS (l.g i).Forms/\(l.g i).Gloss.length<1100000
def emp (s:Sl C9):Prop:=∃i,i<s.n/\(s.g i).Has=false/\0<(s.g i).W.n
noncomputable def AN5 (s:Sl C9):Bool:=@decide (¬emp s) (Classical.propDecidable _)
def Ue {s:Sl C9}(h:¬emp s):AN5 s=true:=@decide_eq_true _ (Classical.propDecidable _) h
def Uf {s:Sl C9}(h:emp s):AN5 s=false:=@decide_eq_false _ (Classical.propDecidable _) (fun g=>g h)
def Av7 (f:C9):((!f.Has)&&(decide (0<(f.W.n:Int))))=true↔f.Has=false/\0<f.W.n:=by simp
def Ug (f:1000<=N){s:Sl C9}(hs:s.n<900):W4 N s=some (AN5 s):=by
 have h1:∃r,D1 N s (fun (u1:C9)=>AO N u1)=some r/\(0<=r↔emp s):=by
  unfold D1;refine Av (fun i x=>x=(i:Int)/\∀j,j<i->¬((s.g j).Has=false/\0<(s.g j).W.n)) s.n _ (by omega) ⟨rfl,fun j a=>Lq a (Bb5 j)⟩ ?_;rintro c i x hle ⟨rfl,h⟩ b;by_cases hl:i<s.n
  .refine ifT (by simpa using hl) (Am (B0 rfl ?_));rw[AZ2,Gx];by_cases hb:(s.g i).Has=false/\0<(s.g i).W.n
   .exact ifT ((Av7 _).2 hb) ⟨_,rfl,fun _=>⟨i,hl,hb⟩,fun _=>by omega⟩
   refine ifF (fun g=>hb ((Av7 _).1 g)) (b hl _ ⟨rfl,fun j a=>?_⟩);by_cases e:j=i
   .subst e;exact hb
   exact h j (by omega)
  exact ifF (by simpa using hl) ⟨_,rfl,fun g=>Lq g (by decide),fun⟨j,a,hb⟩=>Lq hb (h j (by omega))⟩
 obtain⟨r,e,d⟩:=h1;unfold W4 D8;rw[e,AZ6,AZ6];congr 1;by_cases h:emp s
 .rw[Uf h];simp[d.2 h]
 rw[Ue h];simp;exact Int.not_le.1 fun g=>h (d.1 g)
def PN (d:1000<=N){s:Sl C9}(hs:s.n<900):Dt N s=some (AN5 s):=by
 unfold Dt;refine eqR (Av (fun i x=>x=(i:Int)/\∀j,j<i->¬((s.g j).Has=false/\0<(s.g j).W.n)) s.n _ (by omega) ⟨rfl,fun j a=>Lq a (Bb5 j)⟩ ?_);rintro c i x hle ⟨rfl,h⟩ b;by_cases hl:i<s.n
 .refine ifT (by simpa using hl) (Am (ifT (fun _=>by omega) ?_));rw[AZ2,Gx];by_cases hb:(s.g i).Has=false/\0<(s.g i).W.n
  .exact ifT ((Av7 _).2 hb) ⟨_,rfl,(Uf ⟨i,hl,hb⟩).symm⟩
  refine ifF (fun g=>hb ((Av7 _).1 g)) (b hl _ ⟨rfl,fun j a=>?_⟩);by_cases e:j=i
  .subst e;exact hb
  exact h j (by omega)
 exact ifF (by simpa using hl) ⟨_,rfl,(Ue (fun⟨j,a,hb⟩=>h j (by omega) hb)).symm⟩
def wE (N:Nat)(w:Sl Oh):Int:=(J6 N w).getD 0
def PO (a:1000<=N){w:Sl Oh}(hw:okA w):J6 N w=some (wE N w)/\BL N w=some (wE N w):=by
 obtain⟨e,h1,b⟩:=GI a hw;obtain⟨e',g1,g2⟩:=Hi a hw;obtain rfl:=NG b g2
 have:wE N w=e:=by unfold wE;rw[h1];rfl
 rw[this];exact⟨h1,g1⟩
def wsE (N:Nat)(s:Sl C9):Int:=Ge (fun i=>wE N (s.g i).W) s.n
def ES (c:1000<=N){s:Sl C9}(hs:s.n<900)(d:BS s):M8 N s=some (wsE N s)/\BR N s=some (wsE N s):=by
 have e0:wsE N s=orE (wsE N s) 0:=by
  by_cases h:wsE N s=0
  .rw[Ei h,h]
  rw[JH h]
 rw[e0];unfold M8 BR;constructor<;>refine Aj3 (f:=fun i=>wE N (s.g i).W) (by omega) ?_ ?_ ?_
 .intro a i hl b;rw[Kc (by simpa using hl),Ig,AZ2,(PO c (d i hl)).1,AZ6,Kc (by simpa using b)]
 .intro a i hl b;rw[Kc (by simpa using hl),Ig,AZ2,(PO c (d i hl)).1,AZ6,Ke (by simpa using b),Gx]
 .intro a;rw[Kb]
 .intro a i hl b;rw[Kc (by simpa using hl),Ig,AZ2,(PO c (d i hl)).2,AZ6,Kc (by simpa using b)]
 .intro a i hl b;rw[Kc (by simpa using hl),Ig,AZ2,(PO c (d i hl)).2,AZ6,Ke (by simpa using b),Gx]
 intro a;rw[Kb]
def PP (b:3000000<=N){s:Str}(hs:s.length<1100000):AK N s=some (EO s):=by
 obtain⟨e,e1,_,c⟩:=Hk (t:=(Sl.of [(⟨-1,s⟩:I9)]:Sl I9)) b (fun v a=>by
  have a:v<1:=a;obtain rfl:v=0:=by omega
  exact hs)
 unfold AK;rw[e1,AZ6];have key:T6 (Sl.of [(⟨-1,s⟩:I9)]:Sl I9)↔EO s=true:=by
  constructor
  .intro h;exact (h.2.2 0 (by show 0<1;omega)).2.2.1
  intro h;refine⟨by show 1<=1;omega,by show 1<=63;omega,fun v a=>?_⟩;have a:v<1:=a;obtain rfl:v=0:=by omega
  exact⟨fun _=>rfl,fun h=>Lq h (Nat.lt_irrefl 0),h,fun u d=>Lq d (Bb5 u)⟩
 congr 1;rcases c with⟨rfl,h⟩ | ⟨rfl,h⟩
 .rw[key.1 h];rfl
 cases hb:EO s
 .rfl
 exact Lq (key.2 hb) h
open Classical in
noncomputable def e2 (l:Sl Entry) (k:Nat) (i:Nat):Int:=if (l.g i).Forms.n≠k \/ emp (l.g i).Forms then 2 else 0
def e15 (l:Sl Entry)(i:Nat):Int:=if EO (l.g i).Gloss then 0 else 15
def We {l:Sl Entry}{k i:Nat}(h:e2 l k i=0):(l.g i).Forms.n=k/\¬emp (l.g i).Forms:=by
 unfold e2 at h;split at h
 .cases h
 rename_i g;exact⟨Ba9 fun e=>g (.inl e),fun e=>g (.inr e)⟩
def AB8 {l:Sl Entry}{k i:Nat}(h:(l.g i).Forms.n≠k \/ emp (l.g i).Forms):e2 l k i=2:=Kc h
def AB9 {l:Sl Entry}{k i:Nat}(h:¬((l.g i).Forms.n≠k \/ emp (l.g i).Forms)):e2 l k i=0:=Ke h
def XM {l:Sl Entry}{k i:Nat}{E:Option Bool}(hk:k<900)(b:(l.g i).Forms.n=k->E=some (AN5 (l.g i).Forms))(a:Option Int) :(lt (fun (z3:Bool)=>if z3 then some 2 else a) fun k3=>
  if (((l.g i).Forms.n:Int) != (k:Int)) then
   k3 true
  else
   E.bind fun y6=>
   k3 (!y6))=if e2 l k i≠0 then some (e2 l k i)else a:=by
 by_cases h:(l.g i).Forms.n=k
 .rw[b h];have hc:¬(((l.g i).Forms.n:Int) != (k:Int))=true:=by simp[h]
  by_cases hp:emp (l.g i).Forms
  .rw[AB8 (.inr hp)];show (if (((l.g i).Forms.n:Int) != (k:Int)) then _ else if (!(AN5 (l.g i).Forms)) then some (2:Int)else a)=some 2;rw[Ke hc,Kc (by rw[Uf hp];rfl)]
  rw[AB9 (fun g=>g.elim (fun e=>e h) hp)];show (if (((l.g i).Forms.n:Int) != (k:Int)) then _ else if (!(AN5 (l.g i).Forms)) then some (2:Int)else a)=a;rw[Ke hc,Ke (by rw[Ue hp];decide)]
 rw[AB8 (.inl h)];exact Ih
def NN (c:3000000<=N){l:Sl Entry}{k:Nat}(hk:k<900)(hn:l.n<900)(d:Gb l):J7 N l (k:Int)=some (orE (Ge (e2 l k) l.n) (orE (Ge (e15 l) l.n) 0)):=by
 unfold J7;have step:=fun (a:Option Int) (i:Nat)=>XM (l:=l) (i:=i) hk (fun h=>Ug (N:=N) (s:=(l.g i).Forms) (by omega) (by omega)) a;refine Aj3 (by omega) ?_ ?_ ?_
 .intro a i hl b;rw[Kc (by simpa using hl),Ig,AZ2,step,Kc b]
 .intro a i hl b;rw[Kc (by simpa using hl),Ig,AZ2,step,Ke (fun g=>g b),Gx]
 intro a;rw[Kb];refine Aj3 (by omega) ?_ ?_ ?_
 .intro a i hl b;rw[Kc (by simpa using hl),Ig,AZ2,PP c (d i hl).2,AZ6];unfold e15 at b⊢;by_cases h:EO (l.g i).Gloss=true
  .exact Lq (Kc h) b
  rw[Kc (by simpa using h),Ke h]
 .intro a i hl b;rw[Kc (by simpa using hl),Ig,AZ2,PP c (d i hl).2,AZ6];unfold e15 at b;by_cases h:EO (l.g i).Gloss=true
  .rw[Ke (by simp[h]),Gx]
  rw[Ke h]at b;cases b
 intro a;rw[Kb]
noncomputable def AP5 (N:Nat) (p:Sl C9) (l:Sl Entry) (k:Nat):Int:= orE (Ge (e2 l k) l.n) (orE (Ge (e15 l) l.n) (orE (wsE N p) (Ge (fun i=>wsE N (l.g i).Forms) l.n)))
def Av8 (m:3000000<=N){l:Sl Entry}(hn:l.n<900)(W:Nat->Int)(j:∀i,i<l.n->BR N (l.g i).Forms=some (W i))(w0:Int) :Q3 N (fun (a:Int->Int->Option Int) (x7:Int) (x8:Int)=>
  if ((decide (x8<(l.n:Int)))&&(x7==0)) then
   if ((0:Int)<=x8/\x8<(l.n:Int))then
    (BR N (l.g x8.toNat).Forms).bind fun d=>
    a d (wrap .i64 (x8+1))
   else none
  else
   some x7
  ) w0 0=some (orE w0 (Ge W l.n)):=by
 refine eqR (O8 (fun i x7 x8=>x8=(i:Int)/\((x7=0/\w0=0/\Ge W i=0) \/ (x7≠0/\x7=orE w0 (Ge W l.n)))) l.n _ (by omega) ⟨rfl,?_⟩ ?_)
 .by_cases h:w0=0
  .exact .inl ⟨h,h,rfl⟩
  exact .inr ⟨h,(JH h).symm⟩
 rintro f i x7 x8 hle ⟨rfl,h⟩ hs;rcases h with⟨rfl,b,h1⟩ | ⟨b,h1⟩
 .by_cases hl:i<l.n
  .refine ifT (by simpa using hl) (Am ?_);rw[AZ2,Gx];refine B0 (j i hl) (hs hl _ _ ⟨rfl,?_⟩);have e:=GO h1;by_cases c:W i=0
   .exact .inl ⟨c,b,by rw[e];exact c⟩
   exact .inr ⟨c,by rw[Ei b,GP (i:=i+1) (by rw[e];exact c) l.n hl,e]⟩
  obtain rfl:i=l.n:=by omega
  exact Dg ⟨_,rfl,by rw[Ei b,h1]⟩
 exact ifF (by simp[b]) ⟨_,rfl,h1⟩
end Go.AM
namespace Go.AM
variable {N:Nat}
open IntKind (wrap)
open Go.Proofs
def FH {t:Sl I9}(ht:T6 t):(F1 t t.n).n<=63:=by have:=Rx t t.n;have:=ht.2.1;omega
def GQ (a:3000000<=N){t:Sl I9}(b:GL t)(ht:T6 t):M0 N t=some (F1 t t.n,0)/\Bb N t=some (F1 t t.n,0):=by
 obtain⟨s,e,h1,c,d⟩:=KA a b;rcases d with⟨_,rfl,rfl⟩ | ⟨g,_⟩
 .exact⟨h1,c⟩
 exact Lq ht g
open Classical in
noncomputable def Zm (N:Nat) (h:A3) (p:Sl C9) (l:Sl Entry):Int:= if hres N h≠0 then hres N h else if 256<l.n then 12 else if p.n≠l.n \/ emp p then 2 else AP5 N p l (F1 h.Tree h.Tree.n).n
def KB (r:3000000<=N){h:A3}(t:Q2 h){p:Sl C9}{l:Sl Entry}(hp:BS p)(hl:Gb l):W5 N h p l=some (Zm N h p l):=by
 unfold W5 Zm;rw[Hl r t,AZ6];by_cases m:hres N h=0
 case neg=>rw[Kc (show (hres N h != 0)=true by simpa using m),Kc m]
 rw[Ke (show ¬(hres N h != 0)=true by simp[m]),Ke (show ¬hres N h≠0 from fun g=>g m)];have o:=hres_zero.1 m;have u:=FH o.tree;rw[(GQ r t.tree o.tree).1,AZ6];by_cases d:256<l.n
 .rw[Kc (show (decide (256<(l.n:Int)))=true by simp;omega),Kc d]
 rw[Ke (show ¬(decide (256<(l.n:Int)))=true by simp;omega),Ke d];have rest:(lt (fun (z1:Bool)=>
  if z1 then
   some (2:Int)
  else
   (J7 N l (((F1 h.Tree h.Tree.n).n:Nat):Int)).bind fun y5=>
   if (y5 != 0) then
    some y5
   else
    (M8 N p).bind fun y6=>
    if (y6 != 0) then
     some y6
    else
     Q5 N (fun j (x2:Int)=>
      if (decide (x2<(l.n:Int))) then
       if ((0:Int)<=x2/\x2<(l.n:Int))then
        (M8 N (l.g x2.toNat).Forms).bind fun y9=>
        if (y9 != 0) then
         some y9
        else
         j (wrap .i64 (x2+1))
       else none
      else
       some 0
      ) 0
  ) fun k1=>k1 false)=(if p.n=l.n then some (AP5 N p l (F1 h.Tree h.Tree.n).n)else some 0) \/ p.n≠l.n:=by
  by_cases c:p.n=l.n
  case neg=>exact .inr c
  refine .inl ?_;rw[Kc c];show (J7 N l (((F1 h.Tree h.Tree.n).n:Nat):Int)).bind _=_;rw[NN r (by omega) (by omega) hl,AZ6];unfold AP5;by_cases g1:Ge (e2 l (F1 h.Tree h.Tree.n).n) l.n=0
  case neg=>rw[JH g1,JH g1,Kc (by simpa using g1)]
  rw[Ei g1,Ei g1];by_cases g2:Ge (e15 l) l.n=0
  case neg=>rw[JH g2,JH g2,Kc (by simpa using g2)]
  rw[Ei g2,Ei g2,Ke (by decide),(ES (by omega) (by omega) hp).1,AZ6];by_cases g3:wsE N p=0
  case neg=>rw[JH g3,Kc (by simpa using g3)]
  rw[Ei g3,Ke (by simp[g3])];have e0:∀a:Int,a=orE a 0:=fun a=>by
   by_cases h:a=0
   .rw[Ei h,h]
   rw[JH h]
  rw[e0 (Ge (fun i=>wsE N (l.g i).Forms) l.n)];have hk:∀i,i<l.n->(l.g i).Forms.n<900:=fun i b=>by
   have:=(We (AL g1 i b)).1;omega
  refine Aj3 (by omega) ?_ ?_ ?_
  .intro f i b s;rw[Kc (by simpa using b),Ig,AZ2,(ES (by omega) (hk i b) (hl i b).1).1,AZ6,Kc (by simpa using s)]
  .intro f i b s;rw[Kc (by simpa using b),Ig,AZ2,(ES (by omega) (hk i b) (hl i b).1).1,AZ6,Ke (by simpa using s),Gx]
  intro f;rw[Kb]
 by_cases c:p.n=l.n
 case neg=>rw[Kc (.inl c)];exact Ih
 have hc:¬((p.n:Int) != (l.n:Int))=true:=by simp[c]
 rw[Ug (by omega) (by omega)];by_cases q:emp p
 .rw[Kc (.inr q),Uf q];exact Ke hc
 rw[Ke (fun g=>g.elim (fun e=>e c) q),Ue q];rcases rest with g|g
 .rw[Kc c]at g;exact (Ke hc).trans g
 exact Lq c g
def Iy (q:3000000<=N){h:A3}(t:Q2 h){p:Sl C9}{l:Sl Entry}(hp:BS p)(hl:Gb l):Im N h p l=some (Zm N h p l):=by
 unfold Im Zm;rw[Ah9 q t,AZ6];by_cases j:hres N h=0
 case neg=>rw[Kc (show (hres N h != 0)=true by simpa using j),Kc j]
 rw[Ke (show ¬(hres N h != 0)=true by simp[j]),Ke (show ¬hres N h≠0 from fun g=>g j)];have m:=hres_zero.1 j;have u:=FH m.tree;by_cases d:256<l.n
 .rw[Kc (show (decide (256<(l.n:Int)))=true by simp;omega),Kc d]
 rw[Ke (show ¬(decide (256<(l.n:Int)))=true by simp;omega),Ke d,(GQ q t.tree m.tree).2,AZ6];by_cases f:p.n=l.n
 case neg=>rw[Kc (.inl f)];exact Ih
 have hc:¬((p.n:Int) != (l.n:Int))=true:=by simp[f]
 rw[PN (by omega) (by omega)];by_cases o:emp p
 .rw[Kc (.inr o),Uf o];exact Ke hc
 rw[Ke (fun g=>g.elim (fun e=>e f) o),Ue o];refine (Ke hc).trans ?_;rw[AZ6];refine (Ke (by decide)).trans ?_;unfold AP5;have step:=fun (a:Option Int) (i:Nat)=>XM (l:=l) (i:=i) (show (F1 h.Tree h.Tree.n).n<900 by omega) (fun h=>PN (N:=N) (s:=(l.g i).Forms) (by omega) (by omega)) a;have ent:∀(i:Nat) (a:Int->Option Int),i<l.n->(lt (fun (z4:Bool)=>
  if z4 then
   some (2:Int)
  else
   a (wrap .i64 ((i:Int)+1))
  ) fun k4=>
  if (((l.g i).Forms.n:Int) != (((F1 h.Tree h.Tree.n).n:Nat):Int)) then
   k4 true
  else
   if ((0:Int)<=(i:Int)/\(i:Int)<(l.n:Int))then
    (Dt N (l.g i).Forms).bind fun r=>
    k4 (!r)
   else none)=if e2 l (F1 h.Tree h.Tree.n).n i≠0 then some (e2 l (F1 h.Tree h.Tree.n).n i)else a (wrap .i64 ((i:Int)+1)):=fun i a b=>by
  rw[<- step];unfold lt;dsimp only;rw[Kc (show (0:Int)<=(i:Int)/\(i:Int)<(l.n:Int) by omega)]
 refine AX3 (by omega) ?_ ?_ ?_
 .intro a i b c;rw[Kc (by simpa using b),Ig,AZ2,ent i a b,Kc c]
 .intro a i b c;rw[Kc (by simpa using b),Ig,AZ2,ent i a b,Ke (fun g=>g c),Gx]
 intro a g1;rw[Kb];refine Aj3 (by omega) ?_ ?_ ?_
 .intro a i b c;rw[Kc (by simpa using b),Ig,AZ2,Rt (by have:=(hl i b).2;omega) (by have:=(hl i b).2;omega),AZ6];unfold e15 at c⊢;by_cases h:EO (l.g i).Gloss=true
  .exact Lq (Kc h) c
  rw[Kc (by simpa using h),Ke h]
 .intro a i b c;rw[Kc (by simpa using b),Ig,AZ2,Rt (by have:=(hl i b).2;omega) (by have:=(hl i b).2;omega),AZ6];unfold e15 at c;by_cases h:EO (l.g i).Gloss=true
  .rw[Ke (by simp[h]),Gx]
  rw[Ke h]at c;cases c
 intro a;rw[Kb,(ES (by omega) (by omega) hp).2,AZ6];exact Av8 q (by omega) (fun i=>wsE N (l.g i).Forms) (fun i b=>(ES (by omega) (by have:=(We (AL g1 i b)).1;omega) (hl i b).1).2) (wsE N p)
def AX4 {h:A3}{p:Sl C9}{l:Sl Entry}(g:Zm N h p l=0):T2 N h/\l.n<=256/\p.n=l.n/\∀i,i<l.n->(l.g i).Forms.n=(F1 h.Tree h.Tree.n).n:=by
 unfold Zm at g;by_cases a:hres N h≠0
 .rw[Kc a]at g;exact Lq g a
 rw[Ke a]at g;by_cases h1:256<l.n
 .rw[Kc h1]at g;cases g
 rw[Ke h1]at g;by_cases b:p.n≠l.n \/ emp p
 .rw[Kc b]at g;cases g
 rw[Ke b]at g;exact⟨hres_zero.1 (Bp4.1 a),by omega,Ba9 fun e=>b (.inl e),fun i c=>(We (AL (FG g).1 i c)).1⟩
structure attOk (N:Nat) (h:A3) (p:Sl C9) (l:Sl Entry):Prop where
 hist:T2 N h
 n:l.n<=256
 pn:p.n=l.n
 pe:¬emp p
 fn:∀i,i<l.n->(l.g i).Forms.n=(F1 h.Tree h.Tree.n).n
 fe:∀i,i<l.n->¬emp (l.g i).Forms
 nm:∀i,i<l.n->EO (l.g i).Gloss=true
 pw:∀i,i<p.n->wOk (p.g i).W
 fw:∀i,i<l.n->∀k,k<(l.g i).Forms.n->wOk ((l.g i).Forms.g k).W
def GR (a:1000<=N){w:Sl Oh}(hw:okA w):wE N w=0↔wOk w:=by
 obtain⟨e,h1,b⟩:=GI a hw
 have:wE N w=e:=by unfold wE;rw[h1];rfl
 rw[this];exact Bz b
def Hm {f:Nat->Int}:∀{n:Nat},(∀i,i<n->f i=0)->Ge f n=0
 |0,_=>rfl
 |n+1,h=>by rw[GO (Hm fun i a=>h i (by omega))];exact h n (by omega)
def KC (b:1000<=N){h:A3}{p:Sl C9}{l:Sl Entry}(hp:BS p)(hl:Gb l):Zm N h p l=0↔attOk N h p l:=by
 unfold Zm;constructor
 .intro g;split at g
  .rename_i g1;exact Lq g g1
  rename_i g1;split at g
  .cases g
  rename_i g2;split at g
  .cases g
  rename_i g3;obtain⟨d1,g⟩:=FG g;obtain⟨d2,g⟩:=FG g;obtain⟨d3,d4⟩:=FG g;have d1:=AL d1;have d2:=AL d2;have d3:=AL d3;have d4:=AL d4;refine⟨hres_zero.1 (Ba9 g1),by omega,Ba9 fun e=>g3 (.inl e),fun e=>g3 (.inr e),fun i a=>(We (d1 i a)).1,fun i a=>(We (d1 i a)).2,fun i a=>?_,fun i a=>(GR b (hp i a)).1 (d3 i a),fun i a k hk=>(GR b ((hl i a).1 k hk)).1 (AL (d4 i a) k hk)⟩
  have:=d2 i a
  unfold e15 at this;by_cases e:EO (l.g i).Gloss=true
  .exact e
  rw[Ke e]at this;cases this
 rintro⟨a1,a2,a3,a4,a5,a6,a7,a8,a9⟩;rw[Ke (fun g=>g (hres_zero.2 a1)),Jo,Ke (fun g=>g.elim (fun e=>e a3) a4)];unfold AP5;have b1:Ge (e2 l (F1 h.Tree h.Tree.n).n) l.n=0:=Hm fun i a=>AB9 fun g=>g.elim (fun e=>e (a5 i a)) (a6 i a);have b2:Ge (e15 l) l.n=0:=Hm fun i a=>Kc (a7 i a);have b3:wsE N p=0:=Hm fun i a=>(GR b (hp i a)).2 (a8 i a);rw[Ei b1,Ei b2,Ei b3];exact Hm fun i a=>Hm fun k hk=>(GR b ((hl i a).1 k hk)).2 (a9 i a k hk)
end Go.AM
namespace Go.AM
open IntKind (wrap)
open Go.Proofs
def attR (l:Sl Entry)(i k:Nat):List (Nat×Nat):=((List.range k).filter fun k=>((l.g i).Forms.g k).Has).map fun k=>(i,k)
def Uh (l:Sl Entry)(i:Nat):List (Nat×Nat):=(List.range i).flatMap fun i=>attR l i (l.g i).Forms.n
def IC (l:Sl Entry):List (Nat×Nat):=Uh l l.n
def AC0 (l:Sl Entry)(i k:Nat):attR l i (k+1)=attR l i k++(if ((l.g i).Forms.g k).Has then [(i,k)]else []):=by
 unfold attR;rw[Bh1,Bk1,Be6];by_cases h:((l.g i).Forms.g k).Has=true
 .rw[Kc h];simp[h]
 rw[Ke h];simp[h]
def Ui (l:Sl Entry)(i:Nat):Uh l (i+1)=Uh l i++attR l i (l.g i).Forms.n:=by unfold Uh;rw[Bh1,Bo3];simp
def LU (l:Sl Entry)(i k:Nat):(attR l i k).length<=k:=by unfold attR;rw[Bc9];exact Bd7 (Bk7 _ _) (by rw[Bp1];exact Ba0 _)
def LW {l:Sl Entry}{m:Nat}:∀i,(∀j,j<i->(l.g j).Forms.n<=m)->(Uh l i).length<=i*m
 |0,_=>Bi0 _
 |i+1,h=>by
  have:=LW i (fun j a=>h j (by omega))
  have h1:=LU l i (l.g i).Forms.n;have b:=h i (by omega);rw[Ui,Ba7,Bl5];omega
def LX {l:Sl Entry}{q:Nat×Nat}(a:q∈IC l):q.1<l.n/\q.2<(l.g q.1).Forms.n/\((l.g q.1).Forms.g q.2).Has=true:=by obtain⟨i,b,c⟩:=Bn1.1 a;obtain⟨k,hk,rfl⟩:=Bd5.1 c;obtain⟨h1,d⟩:=Bj4.1 hk;exact⟨Bc3.1 b,Bc3.1 h1,d⟩
def Av9 (l:Sl Entry)(q:Nat×Nat):I3×Sl Oh:=(⟨(q.1:Int),(q.2:Int)⟩,((l.g q.1).Forms.g q.2).W)
def AX5 (l:Sl Entry)(i k m:Nat):List (Nat×Nat):=((List.range' k m).filter fun k=>((l.g i).Forms.g k).Has).map fun k=>(i,k)
def AZ1 (l:Sl Entry)(i m:Nat):List (Nat×Nat):=(List.range' i m).flatMap fun i=>AX5 l i 0 (l.g i).Forms.n
def AN6 (l:Sl Entry)(i m:Nat):AX5 l i 0 m=attR l i m:=by unfold AX5 attR;rw[Bn6]
def AN7 (l:Sl Entry):AZ1 l 0 l.n=IC l:=by unfold AZ1 IC Uh;rw[Bn6];congr 1;funext i;exact AN6 l i _
def AC1 {l:Sl Entry}{i:Nat}{R:List (I3×Sl Oh)}{rest:Option (List (I3×Sl Oh))}(b:rest=some R)(hn:(l.g i).Forms.n<100000):∀(m M k:Nat),k+m=(l.g i).Forms.n->m<M->Q5 M (fun (a:Int->Option (List (I3×Sl Oh))) (x4:Int)=>
 if (decide (x4<((l.g i).Forms.n:Int))) then
  if ((0:Int)<=x4/\x4<((l.g i).Forms.n:Int))then
   if ((l.g i).Forms.g x4.toNat).Has then
    X1 ((⟨(i:Int),x4⟩:I3),((l.g i).Forms.g x4.toNat).W) (
     a (wrap .i64 (x4+1))
     )
   else
    a (wrap .i64 (x4+1))
  else none
 else
  rest) (k:Int)=some ((AX5 l i k m).map (Av9 l)++R)
 |0,M,k,hk,hM=>by obtain⟨M,rfl⟩:∃K,M=K+1:=⟨M-1,by omega⟩;rw[P6,Ka,b];rfl
 |m+1,M,k,hk,hM=>by
  obtain⟨M,rfl⟩:∃K,M=K+1:=⟨M-1,by omega⟩;have ih:=AC1 b hn m M (k+1) (by omega) (by omega);rw[P6,Ih,Ig,AZ2,Gx,ih];unfold AX5;rw[Bi6];by_cases h:((l.g i).Forms.g k).Has=true
  .rw[Kc h];simp only[Bq0,h,Lr];rfl
  rw[Ke h];simp only[Bq0,h,Ls,Ba2]
def Aj4 {N:Nat}{l:Sl Entry}(o:1000000<=N)(hn:l.n<100000)(d:∀i,i<l.n->(l.g i).Forms.n<100000):D5 N l=some ((IC l).map (Av9 l)):=by
 have key:∀(m M i:Nat),i+m=l.n->m<M->Q5 M (fun (b:Int->Option (List (I3×Sl Oh))) (x2:Int)=>
  if (decide (x2<(l.n:Int))) then
   if ((0:Int)<=x2/\x2<(l.n:Int))then
    Q5 N (fun a (x4:Int)=>
     if (decide (x4<((l.g x2.toNat).Forms.n:Int))) then
      if ((0:Int)<=x4/\x4<((l.g x2.toNat).Forms.n:Int))then
       if ((l.g x2.toNat).Forms.g x4.toNat).Has then
        X1 ((⟨x2,x4⟩:I3),((l.g x2.toNat).Forms.g x4.toNat).W) (
         a (wrap .i64 (x4+1))
         )
       else
        a (wrap .i64 (x4+1))
      else none
     else
      b (wrap .i64 (x2+1))
     ) 0
   else none
  else
   some []) (i:Int)=some ((AZ1 l i m).map (Av9 l)):=by
  intro m
  induction m with
  |zero=>intro M i f j;obtain⟨M,rfl⟩:∃K,M=K+1:=⟨M-1,by omega⟩;rw[P6,Ka];rfl
  |succ m ih=>
   intro M i f j;obtain⟨M,rfl⟩:∃K,M=K+1:=⟨M-1,by omega⟩;have c:=d i (by omega);rw[P6,Ih,Ig,AZ2,Gx]
   have:=AC1 (l:=l) (i:=i) (ih M (i+1) (by omega) (by omega)) c (l.g i).Forms.n N 0 (by omega) (by omega)
   refine this.trans ?_;unfold AZ1;rw[Bi6,Bg2,Be6]
 unfold D5;rw[<- AN7];exact key l.n N 0 (by omega) (by omega)
def Aw0 {N:Nat}{l:Sl Entry}(o:1000000<=N)(hn:l.n<1000)(d:∀i,i<l.n->(l.g i).Forms.n<1000):Ed N l=some ((IC l).length:Int):=by
 refine eqR ?_;unfold Ed;refine O8 (fun i x3 x4=>x4=(i:Int)/\x3=((Uh l i).length:Int)) l.n _ (by omega) ⟨rfl,rfl⟩ ?_;rintro f i x3 x4 q ⟨rfl,rfl⟩ hs;by_cases hl:i<l.n
 .refine Ao ?_;have m:=d i hl;have r:(Uh l i).length<=i*1000:=LW i fun j s=>by have:=d j (by omega);omega
  refine O8 (fun k x7 x8=>x8=(k:Int)/\x7=(((Uh l i).length+(attR l i k).length:Nat):Int)) (l.g i).Forms.n _ (by omega) ⟨rfl,rfl⟩ ?_;rintro c k x7 x8 hk ⟨rfl,rfl⟩ a;have hR:=LU l i k;refine Am ?_;rw[AZ2];by_cases b:k<(l.g i).Forms.n
  .refine Ao (Am ?_);rw[AZ2];have e:=AC0 l i k;by_cases h:((l.g i).Forms.g k).Has=true
   .rw[Kc h]at e;refine ifT h (a b _ _ ⟨Gx,?_⟩);rw[Gx,e,Ba7];rfl
   rw[Ke h,Be8]at e;exact ifF h (a b _ _ ⟨Gx,by rw[e]⟩)
  obtain rfl:k=(l.g i).Forms.n:=by omega
  refine Dg (hs hl _ _ ⟨Gx,?_⟩);rw[Ui,Ba7]
 obtain rfl:i=l.n:=by omega
 exact Dg ⟨_,rfl,rfl⟩
end Go.AM
namespace Go.AM
variable {N:Nat}
open IntKind (wrap)
open Go.Proofs
noncomputable def FI (h:A3) (k:Nat):Nat:=((F1 h.Tree h.Tree.n).g k).toNat
open Classical in
noncomputable def exc (N:Nat) (h:A3) (p:Sl C9) (l:Sl Entry) (c:Int) (q:Nat×Nat):Option A2:= if AN4 N h (FI h q.2) (-1) (p.g q.1) ((l.g q.1).Forms.g q.2)then none else some ⟨(q.1:Int),(q.2:Int),if DF N h (FI h q.2) (-1) (p.g q.1)=none then 2 else 1,c⟩
def Wf {h:A3}{p:Sl C9}{l:Sl Entry}{c:Int}{q:Nat×Nat}(a:AN4 N h (FI h q.2) (-1) (p.g q.1) ((l.g q.1).Forms.g q.2)):exc N h p l c q=none:=Kc a
def AC2 {h:A3}{p:Sl C9}{l:Sl Entry}{c:Int}{q:Nat×Nat}(a:¬AN4 N h (FI h q.2) (-1) (p.g q.1) ((l.g q.1).Forms.g q.2))(b:DF N h (FI h q.2) (-1) (p.g q.1)≠none):exc N h p l c q=some ⟨(q.1:Int),(q.2:Int),1,c⟩:=by unfold exc;rw[Ke a,Ke b]
def XN {h:A3}{p:Sl C9}{l:Sl Entry}{c:Int}{q:Nat×Nat}(a:DF N h (FI h q.2) (-1) (p.g q.1)=none):exc N h p l c q=some ⟨(q.1:Int),(q.2:Int),2,c⟩:=by
 have b:¬AN4 N h (FI h q.2) (-1) (p.g q.1) ((l.g q.1).Forms.g q.2):=by rintro⟨y,y1,_⟩;rw[a]at y1;cases y1
 unfold exc;rw[Ke b,Kc a]
noncomputable def RD (N:Nat) (h:A3) (p:Sl C9) (l:Sl Entry) (c:Int):List A2:=(IC l).filterMap (exc N h p l c)
def attOk.len {N:Nat}{h:A3}{p:Sl C9}{l:Sl Entry}(ha:attOk N h p l):(IC l).length<=16128:=by
 have a:=FH ha.hist.tree
 have:=LW (l:=l) (m:=63) l.n fun j b=>by rw[ha.fn j b];exact a
 have:=ha.n
 show (Uh l l.n).length<=_;omega
def AC3 (b:3000000<=N){h:A3}(c:Q2 h)(a:T2 N h)(x:Int):∃X,I5 N h x=some X/\derX N h x (F1 h.Tree h.Tree.n) X:=by obtain⟨X,x1,x2,x3⟩:=Wc b c a x;exact⟨X,x1,rfl,x2,fun k hk=>(x3 k (by omega)).1⟩
def AC4 (c:3000000<=N){h:A3}{p:Sl C9}{l:Sl Entry}(ha:attOk N h p l):D5 N l=some ((IC l).map (Av9 l)):=by have a:=FH ha.hist.tree;exact Aj4 (by omega) (by have:=ha.n;omega) fun i b=>by rw[ha.fn i b];omega
def cmpF (d:3000000<=N){o:Option (Sl Oh)}{w:Sl Oh}{b:Bool}(c:outF o ⟨b,w⟩)(W:Sl Oh)(hb:b=true):∃e,P1 N w W=some e/\(e=true ↔ ∃y,o=some y/\SE y W):=by
 rcases c with⟨y,b1,b2,b3,b4⟩ | ⟨b1,b2⟩
 .obtain⟨e,e1,e2⟩:=AM2 (N:=N) (x:=w) (y:=W) (by have:w.n<=32:=b4.1;omega) (by have:w.n<=32:=b4.1;omega);refine⟨e,e1,e2.trans ⟨fun a=>⟨y,b1,b3.symm.trans a⟩,?_⟩⟩;rintro⟨z,z1,z2⟩;rw[b1]at z1;obtain rfl:=Bb9 z1;exact b3.trans z2
 rw[hb]at b2;cases b2
def outF.yes {o:Option (Sl Oh)}{w:Sl Oh}(a:outF o ⟨true,w⟩):o≠none:=by
 rcases a with⟨y,b1,_⟩ | ⟨_,b2⟩
 .rw[b1];exact fun e=>by cases e
 cases b2
def outF.no {o:Option (Sl Oh)}{w:Sl Oh}(a:outF o ⟨false,w⟩):o=none:=by
 rcases a with⟨y,_,b2,_⟩ | ⟨b1,_⟩
 .cases b2
 exact b1
def Wg {h:A3}{p:Sl C9}{l:Sl Entry}{c:Int}{done:List (Nat×Nat)}{q:Nat×Nat}{z:Sl A2}{e:A2}(a:z.toList=done.filterMap (exc N h p l c))(b:exc N h p l c q=some e):(z.push e).toList=(done++[q]).filterMap (exc N h p l c):=by rw[Eg,a,Br1];simp[b]
def Aj5 {h:A3}{p:Sl C9}{l:Sl Entry}{c:Int}{done:List (Nat×Nat)}{q:Nat×Nat}{z:Sl A2}(a:z.toList=done.filterMap (exc N h p l c))(b:exc N h p l c q=none):z.toList=(done++[q]).filterMap (exc N h p l c):=by rw[a,Br1];simp[b]
def XO (f:3000000<=N){h:A3}(u:Q2 h){p:Sl C9}{l:Sl Entry}(hp:BS p)(hl:Gb l)(ha:attOk N h p l){c:Int}(hc:0<=c/\c<=1073741824) :∃b,I8 N h p l c=some (b,0)/\b.toList=RD N h p l c:=by
 suffices ∃r,I8 N h p l c=some r/\(r.2=0/\r.1.toList=RD N h p l c) by obtain⟨⟨b,e⟩,r1,r2,r3⟩:=this;obtain rfl:e=0:=r2;exact⟨b,r1,r3⟩
 have w:=ha.len;obtain⟨X,x1,x2⟩:=AC3 f u ha.hist (-1);unfold I8;refine B0 (KB f u hp hl) ?_;rw[(KC (by omega) hp hl).2 ha];refine Gv (Df (B0 x1 (B0 rfl (B0 (AC4 f ha) ?_))));have v:Ll N h (-1) (F1 h.Tree h.Tree.n) (⟨X.n,fun _=>[]⟩:Sl (List (Str×C9))):=by rw[x2.n];exact AX2 N h (-1) _
 refine YU (fun L a=>∃done todo,IC l=done++todo/\L=todo.map (Av9 l)/\Ll N h (-1) (F1 h.Tree h.Tree.n) a.1/\a.2.toList=done.filterMap (exc N h p l c)/\a.2.n<=done.length) ?_ ?_ _ _ ⟨[],IC l,rfl,rfl,v,rfl,Ba0 _⟩
 .rintro a ⟨done,todo,h1,o,x,i,s⟩
  have:todo=[]:=by simpa using o.symm
  subst this;rw[Be8]at h1;exact⟨_,rfl,rfl,by rw[i,RD,h1]⟩
 rintro t L ⟨M,z⟩ j ⟨done,todo,h1,o,x,i,s⟩ hs;cases todo with
 |nil=>cases o
 |cons q todo=>
  obtain⟨rfl,rfl⟩:=Bt1 o;have m:q∈IC l:=by rw[h1];simp
  obtain⟨q1,q2,q3⟩:=LX m;have a0:=ha.pn;have hk:q.2<(F1 h.Tree h.Tree.n).n:=by rw[<- ha.fn q.1 q1];exact q2
  have hd:done.length<=16128:=by
   have:=congrArg List.length h1
   rw[Ba7]at this;omega
  obtain⟨r,r1,r2,r3⟩:=XL f u ha.hist x2 (p:=p.g q.1) (fun _=>ha.pw q.1 (by omega)) hk x;replace s:z.n<=done.length:=s;have hz:z.n<=16128:=Bd7 s hd;have d:∀z' : Sl A2,z'.toList=(done++[q]).filterMap (exc N h p l c)->z'.n<=(done++[q]).length->∃y,j (r.2.2,z')=some y/\(y.2=0/\y.1.toList=RD N h p l c):=fun z' e1 e2=>
   hs _ ⟨done++[q],todo,by rw[h1,Bf5];rfl,rfl,r2,e1,e2⟩
  have hl1:(done++[q]).length=done.length+1:=by simp
  refine ifT (by show (0:Int)<=(q.1:Int)/\(q.1:Int)<(p.n:Int);omega) ?_;show ∃y,(F0 N (p.g (q.1:Int).toNat) (q.2:Int) M X).bind _=some y/\_;rw[AZ2];refine B0 r1 ?_;cases hb:r.2.1 with
  |false=>rw[hb]at r3;refine Az (ifT (by show (z.n+1)*32<=_/\z.n+1<=_;omega) (d _ (Wg i (XN r3.no)) (by show z.n+1<=_;omega)))
  |true=>
   obtain⟨e,e1,e2⟩:=cmpF f r3 ((l.g q.1).Forms.g q.2).W hb;rw[hb]at r3;refine Gv (B0 e1 ?_);cases e with
   |false=>exact ifT rfl (ifT (by show (z.n+1)*32<=_/\z.n+1<=_;omega) (d _ (Wg i (AC2 (fun hr=>by have:=e2.2 hr;cases this) r3.yes)) (by show z.n+1<=_;omega)))
   |true=>exact Gv (d _ (Aj5 i (Wf (e2.1 rfl))) (by show z.n<=_;omega))
def Aj6 (hN:3000000<=N){h:A3}(hi:Q2 h){p:Sl C9}{l:Sl Entry}(hp:BS p)(hl:Gb l)(ha:attOk N h p l){c:Int}(hc:0<=c/\c<=1073741824) :∃b,Ct N h p l c=some (b,0)/\b.toList=RD N h p l c:=by
 suffices ∃r,Ct N h p l c=some r/\(r.2=0/\r.1.toList=RD N h p l c) by obtain⟨⟨b,e⟩,r1,r2,r3⟩:=this;obtain rfl:e=0:=r2;exact⟨b,r1,r3⟩
 have hlen:=ha.len;have h63:=FH ha.hist.tree;have hln:=ha.n;have hpn:=ha.pn;unfold Ct;refine B0 (Iy hN hi hp hl) ?_;rw[(KC (by omega) hp hl).2 ha];refine Gv (Df ?_);refine O8 (fun i (z:Sl A2) x=>x=(i:Int)/\z.toList=(Uh l i).filterMap (exc N h p l c)/\z.n<=(Uh l i).length) l.n _ (by omega) ⟨rfl,rfl,Ba0 _⟩ ?_;rintro self i z x hii ⟨rfl,o,q⟩ hs;by_cases v:i<l.n
 case neg=>
  obtain rfl:i=l.n:=by omega
  exact Dg ⟨_,rfl,rfl,o⟩
 have hfi:=ha.fn i v;have hU:(Uh l i).length<=i*63:=LW i fun j hj=>by rw[ha.fn j (by omega)];exact h63
 refine Ao ?_;refine O8 (fun k (z:Sl A2) x=>x=(k:Int)/\z.toList=(Uh l i++attR l i k).filterMap (exc N h p l c)/\z.n<=(Uh l i).length+(attR l i k).length) (l.g i).Forms.n _ (by omega) ⟨rfl,by rw[o];simp[attR],by show z.n<=_+0;omega⟩ ?_;rintro a k z x hk ⟨rfl,o,q⟩ s;have hR:=LU l i k;refine Am ?_;rw[AZ2];by_cases t:k<(l.g i).Forms.n
 case neg=>
  obtain rfl:k=(l.g i).Forms.n:=by omega
  refine Dg (hs v _ _ ⟨Gx,by rw[Ui];exact o,by rw[Ui,Ba7];exact q⟩)
 refine Ao (Am ?_);rw[AZ2];have e:=AC0 l i k;by_cases hh:((l.g i).Forms.g k).Has=true
 case neg=>rw[Ke hh,Be8]at e;exact ifT (by simpa using hh) (s t _ _ ⟨Gx,by rw[e];exact o,by rw[e];exact q⟩)
 rw[Kc hh]at e;have w:k<(F1 h.Tree h.Tree.n).n:=by omega
 obtain⟨b,b1,b2⟩:=Ud hN hi ha.hist (x:=-1) (p:=p.g i) (f:=(l.g i).Forms.g k) (fun _=>ha.pw i (by omega)) w;have u:exc N h p l c (i,k)=none->∃y,a z (wrap .i64 ((k:Int)+1))=some y/\(y.2=0/\y.1.toList=RD N h p l c):=fun he=>
  s t _ _ ⟨Gx,by rw[e,<- Bf5];exact Aj5 o he,by rw[e,Ba7];omega⟩
 have m:∀x,exc N h p l c (i,k)=some x->∃y,a (z.push x) (wrap .i64 ((k:Int)+1))=some y/\(y.2=0/\y.1.toList=RD N h p l c):=fun x he=>
  s t _ _ ⟨Gx,by rw[e,<- Bf5];exact Wg o he,by rw[e,Ba7];show z.n+1<=_+(_+1);omega⟩
 refine ifF (by simp[hh]) (Am (B0 b1 ?_));cases b with
 |true=>exact ifT rfl (u (Wf (b2.1 rfl)))
 |false=>
  obtain⟨d,d1,d2⟩:=Lm hN hi ha.hist (x:=-1) (p:=p.g i) (fun _=>ha.pw i (by omega)) w;refine Gv (Am (B0 d1 ?_));have hb:(z.n+1)*32<=140737488355328/\z.n+1<=140737488355328:=by omega
  rcases d2 with⟨y,g1,g2,_⟩ | ⟨g1,g2⟩
  .refine ifF (by simp[g2]) (ifT hb (m _ (AC2 (fun hr=>by have:=b2.2 hr;cases this) ?_)));show DF N h (FI h k) (-1) (p.g i)≠none;unfold FI;rw[g1];exact fun e=>by cases e
  exact ifT (by simp[g2]) (ifT hb (m _ (XN g1)))
def Aj7 (a:3000000<=N){h:A3}(d:Q2 h){p:Sl C9}{l:Sl Entry}(hp:BS p)(hl:Gb l)(c:Int) :∃r r',I8 N h p l c=some r/\Ct N h p l c=some r' /\ r.2=r'.2/\r.1.toList=r'.1.toList/\(r.2=0↔(attOk N h p l/\0<=c/\c<=1073741824))/\(r.2=0->r.1.toList=RD N h p l c)/\(r.2≠0->r.1.n=0):=by
 by_cases ha:attOk N h p l
 .by_cases hc:0<=c/\c<=1073741824
  .obtain⟨b,b1,b2⟩:=XO a d hp hl ha hc;obtain⟨b',b1',b2'⟩:=Aj6 a d hp hl ha hc;exact⟨_,_,b1,b1',rfl,b2.trans b2'.symm,⟨fun _=>⟨ha,hc⟩,fun _=>rfl⟩,fun _=>b2,fun f=>Lq rfl f⟩
  have hb:((decide (c<0))||(decide (1073741824<c)))=true:=by simp;omega
  refine⟨((Sl.nil:Sl A2),2),((Sl.nil:Sl A2),2),?_,?_,rfl,rfl,⟨fun f=>(by cases f),fun f=>Lq f.2 hc⟩,fun f=>(by cases f),fun _=>rfl⟩
  .unfold I8;rw[KB a d hp hl,(KC (by omega) hp hl).2 ha,AZ6,Ke (by decide),Kc hb]
  unfold Ct;rw[Iy a d hp hl,(KC (by omega) hp hl).2 ha,AZ6,Ke (by decide),Kc hb]
 have i:Zm N h p l≠0:=fun e=>ha ((KC (by omega) hp hl).1 e);have g:(Zm N h p l != 0)=true:=by simpa using i
 refine⟨((Sl.nil:Sl A2),Zm N h p l),((Sl.nil:Sl A2),Zm N h p l),?_,?_,rfl,rfl,⟨fun f=>Lq f i,fun f=>Lq f.1 ha⟩,fun f=>Lq f i,fun _=>rfl⟩
 .unfold I8;rw[KB a d hp hl,AZ6,Kc g]
 unfold Ct;rw[Iy a d hp hl,AZ6,Kc g]
end Go.AM
namespace Go.AM
open IntKind (wrap)
open Go.Proofs
def tm (a b:Nat):(a:Int).tmod (b:Int)=((a % b:Nat):Int):=rfl
def td (a b:Nat):(a:Int).tdiv (b:Int)=((a / b:Nat):Int):=rfl
def Aw1 {n:Nat}(h:n<1000000000000000000):IntKind.i64.wrap (n:Int)=(n:Int):=E4 (by omega) (by omega)
def Aj8 {R:Type}{K:Int->Option R}:∀(m a b M:Nat),b<=m->m+1<M->Q3 M (fun (c:Int->Int->Option R) (x3:Int) (x4:Int)=>
 if (x4 != 0) then
  if x4≠0 then
   c x4 (x3.tmod x4)
  else none
 else K x3) (a:Int) (b:Int)=K ((Nat.gcd a b:Nat):Int)
 |0,a,b,M,hb,hM=>by
  obtain⟨M,rfl⟩:∃K,M=K+1:=⟨M-1,by omega⟩;obtain rfl:b=0:=by omega
  rw[E1,Kb,Bt3]
 |m+1,a,b,M,hb,hM=>by
  obtain⟨M,rfl⟩:∃K,M=K+1:=⟨M-1,by omega⟩;by_cases d:b=0
  .subst d;rw[E1,Kb,Bt3]
  have f:=Nat.mod_lt a (show 0<b by omega);rw[E1,Ih,Ig,tm,Aj8 m b (a % b) M (by omega) (by omega),Nat.gcd_comm a b,Nat.gcd_rec b a,Nat.gcd_comm]
def Aw2 (x n:Nat):(((n:Int).tmod (x:Int))==0)=true↔x ∣ n:=by
 rw[tm,beq_iff_eq];constructor
 .intro h;exact Nat.dvd_of_mod_eq_zero (by omega)
 intro h;rw[Nat.mod_eq_zero_of_dvd h];rfl
def AN8 {N a b:Nat}(ha:1<=a)(hb:b<=a)(v:a<N)(hs:a<100000):YA N (fun (f:Int->Int->Int->Option (Xf×Int)) (x1:Int) (x2:Int) (x3:Int)=>
 if (decide (1<x3)) then
  if x3≠0 then
   if (((x2.tmod x3)==0)=true->x3≠0)then
    if (((x2.tmod x3)==0)&&((x1.tmod x3)==0)) then
     if (x3≠0/\x3≠0)then
      f (wrap .i64 (x1.tdiv x3)) (wrap .i64 (x2.tdiv x3)) (wrap .i64 (x3-1))
     else none
    else
     f x1 x2 (wrap .i64 (x3-1))
   else none
  else none
 else
  some ((⟨x2,x1⟩:Xf),0)
 ) (a:Int) (b:Int) (a:Int)=some (⟨((b / Nat.gcd a b:Nat):Int),((a / Nat.gcd a b:Nat):Int)⟩,0):=by
 have l:0<Nat.gcd a b:=Bp8 b (by omega);have j:=Nat.gcd_dvd_left a b;have m:=Nat.gcd_dvd_right a b;have o:Nat.gcd a b<=a:=Bt4 (by omega) j;generalize s:Nat.gcd a b=g at *;refine eqR (Ro (fun i x1 x2 x3=>∃n d x:Nat,x1=(d:Int)/\x2=(n:Int)/\x3=(x:Int)/\x+i=a/\n<=a/\d<=a/\((n=b/\d=a/\g<=x) \/ (n=b / g/\d=a / g))) a _ v ⟨b,a,a,rfl,rfl,rfl,by omega,hb,Ba0 _,.inl ⟨rfl,rfl,o⟩⟩ ?_);rintro t i x1 x2 x3 hi ⟨n,d,x,rfl,rfl,rfl,hx,hn,w,hc⟩ q;by_cases h1:1<x
 case neg=>
  refine Df ⟨_,rfl,?_⟩;rcases hc with⟨rfl,rfl,r⟩ | ⟨rfl,rfl⟩
  .obtain rfl:g=1:=by omega
   rw[Br9,Br9]
  rfl
 refine Ao (Am (ifT (fun _=>by omega) ?_));have e1:IntKind.i64.wrap ((x:Int)-1)=((x-1:Nat):Int):=AW0 (by omega) (by omega);rw[e1];by_cases c:x ∣ n/\x ∣ d
 .refine ifT (by rw[AZ9];exact⟨(Aw2 x n).2 c.1,(Aw2 x d).2 c.2⟩) (Am ?_);have y:=Bm3 n x;have z:=Bm3 d x;rw[td,td,Aw1 (by omega),Aw1 (by omega)];refine q (by omega) _ _ _ ⟨n / x,d / x,x-1,rfl,rfl,rfl,by omega,by omega,by omega,.inr ?_⟩;rcases hc with⟨rfl,rfl,r⟩ | ⟨rfl,rfl⟩
  .have:x ∣ g:=by rw[<- s];exact Nat.dvd_gcd c.2 c.1
   have:=Bt4 l this
   obtain rfl:x=g:=by omega
   exact⟨rfl,rfl⟩
  exfalso;have u:x ∣ Nat.gcd (a / g) (b / g):=Nat.dvd_gcd c.2 c.1;rw[Nat.gcd_div j m,s,Nat.div_self l]at u
  have:=Bt4 (by omega) u
  omega
 refine ifF (fun h=>c ?_) (q (by omega) _ _ _ ⟨n,d,x-1,rfl,rfl,rfl,by omega,hn,w,?_⟩)
 .rw[AZ9]at h;exact⟨(Aw2 x n).1 h.1,(Aw2 x d).1 h.2⟩
 rcases hc with⟨rfl,rfl,r⟩ | h
 .refine .inl ⟨rfl,rfl,?_⟩;by_cases e:g=x
  .subst e;exact Lq ⟨m,j⟩ c
  omega
 exact .inr h
def Uj (A B:Nat):Xf:=if A=0 then ⟨0,1⟩else ⟨(((A-B) / Nat.gcd A (A-B):Nat):Int),((A / Nat.gcd A (A-B):Nat):Int)⟩
def RE {N:Nat}{h:A3}{p:Sl C9}{l:Sl Entry}{c:Int}:(RD N h p l c).length<=(IC l).length:=List.length_filterMap_le _ _
def XP {R:Type}{K:Int->Option R}:∀(L:List (I3×Sl Oh)) (z:Nat),z+L.length<1000000->N8 L (fun (a:Int->Option R) (x1:I3×(Sl Oh)) (z1:Int)=>a (wrap .i64 (z1+1))) K (z:Int)=K ((z+L.length:Nat):Int)
 |[],z,_=>rfl
 |t::L,z,h=>by have e:(t::L).length=L.length+1:=rfl;show N8 L _ K (wrap .i64 ((z:Int)+1))=_;rw[Gx,XP L (z+1) (by omega)];congr 2;omega
def Aw3 {N:Nat}(v:3000000<=N){h:A3}(o:Q2 h){p:Sl C9}{l:Sl Entry}(hp:BS p)(hl:Gb l) :∃r,U1 N h p l=some r/\Ko N h p l=some r/\(r.2=0↔attOk N h p l)/\(r.2=0->r.1=Uj (IC l).length (RD N h p l 0).length):=by
 obtain⟨b,b',b1,b1',b2,b3,b4,b5,b6⟩:=Aj7 v o hp hl 0;by_cases a:b.2=0
 case neg=>
  have g:(b.2 != 0)=true:=by simpa using a
  have j : (b'.2 != 0)=true:=by rw[<- b2];exact g
  refine⟨((⟨0,0⟩:Xf),b.2),?_,?_,⟨fun f=>Lq f a,fun f=>Lq (b4.2 ⟨f,by omega,by omega⟩) a⟩,fun f=>Lq f a⟩
  .unfold U1;rw[b1,AZ6,Kc g]
  unfold Ko;rw[b1',AZ6,Kc j,b2]
 have ha:=(b4.1 a).1;have w:=ha.len;have x:¬(b.2 != 0)=true:=by simp[a]
 have q : ¬(b'.2 != 0)=true:=by simp[<- b2,a]
 have s:b.1.n=(RD N h p l 0).length:=by rw[<- b5 a,EN]
 have m : b'.1.n=(RD N h p l 0).length:=by rw[<- b5 a,b3,EN]
 have hle:=RE (N:=N) (h:=h) (p:=p) (l:=l) (c:=0);have y:=FH ha.hist.tree;have t:=Aw0 (N:=N) (l:=l) (by omega) (by have:=ha.n;omega) fun i o=>by rw[ha.fn i o];omega
 have u:=AC4 v ha;refine⟨(Uj (IC l).length (RD N h p l 0).length,0),?_,?_,⟨fun _=>ha,fun _=>rfl⟩,fun _=>rfl⟩
 .unfold U1;rw[b1,AZ6,Ke x];show ((D5 N l).bind fun L1=>_)=_;rw[u,AZ6];refine (XP ((IC l).map (Av9 l)) 0 (by rw[Bc9];omega)).trans ?_;rw[Bc9,Bd4];generalize (IC l).length=A at *;unfold Uj;by_cases d:A=0
  .rw[Kc (by simp[d]),Kc d]
  rw[Ka,Ke d,s];generalize (RD N h p l 0).length=B at *;have e1:IntKind.i64.wrap ((A:Int)-(B:Int))=((A-B:Nat):Int):=by rw[E4 (by omega) (by omega)];omega
  rw[e1,Aj8 A A (A-B) N (by omega) (by omega)];have z:0<Nat.gcd A (A-B):=Bp8 _ (by omega);have d1:=Bm3 (A-B) (Nat.gcd A (A-B));have d2:=Bm3 A (Nat.gcd A (A-B));rw[Ig,td,td,Aw1 (by omega),Aw1 (by omega)]
 unfold Ko;rw[b1',AZ6,Ke q,t,AZ6];generalize (IC l).length=A at *;unfold Uj;by_cases d:A=0
 .rw[Kc (by simp[d]),Kc d]
 rw[Ka,Ke d,m];generalize (RD N h p l 0).length=B at *;have e1:IntKind.i64.wrap ((A:Int)-(B:Int))=((A-B:Nat):Int):=by rw[E4 (by omega) (by omega)];omega
 rw[e1];exact AN8 (by omega) (by omega) (by omega) (by omega)
end Go.AM
namespace Go.AM
open Go.Proofs
def Aj9 {N:Nat}(o:3000000<=N)(h:A3):∃b,Du N h=some b/\True:=by
 unfold Du;by_cases hb:((decide (63<(h.Tree.n:Int)))||(decide (64<(h.Laws.n:Int))))=true
 .exact ifT hb ⟨_,rfl,trivial⟩
 refine ifF hb ?_;have hl:h.Laws.n<=64:=by simp at hb;omega
 refine O8 (fun i x1 x2=>x2=(i:Int)) h.Laws.n _ (by omega) rfl ?_;rintro l i x1 x2 q rfl hs;by_cases c:i<h.Laws.n/\i<=6
 .refine Ao (Am ?_);rw[AZ2];obtain⟨a,ha,_⟩:=Xz (N:=N) (by omega) (h.Laws.g i).Left;obtain⟨b,d,_⟩:=Xz (N:=N) (by omega) (h.Laws.g i).Right;exact B0 ha (Am (B0 d (hs c.1 _ _ (Gx))))
 refine Df ?_;refine O8 (fun i x3 x4=>x4=(i:Int)) 201 _ (by omega) rfl ?_;rintro f k x3 x4 hk rfl j;by_cases m:k<h.On.n/\k<=200
 .exact Ao (Am (j (by omega) _ _ (Gx)))
 exact Df ⟨_,rfl,trivial⟩
end Go.AM
namespace Go.AM
open Go.Proofs
open Classical in
noncomputable def Ak0 (P:Nat×Nat->Prop) (L:List (Nat×Nat)):Nat:=(L.filter fun q=>decide (P q)).length
open Classical in
theorem Aw4 {P:Nat×Nat->Prop}{L:List (Nat×Nat)}{q:Nat×Nat}(h:P q):Ak0 P (L++[q])=Ak0 P L+1:=by unfold Ak0;rw[Bk1,Ba7];congr 1;simp[h]
open Classical in
theorem AN9 {P:Nat×Nat->Prop}{L:List (Nat×Nat)}{q:Nat×Nat}(h:¬P q):Ak0 P (L++[q])=Ak0 P L:=by unfold Ak0;rw[Bk1,Ba7];simp[h]
open Classical in
theorem Ak1 (P:Nat×Nat->Prop)(L:List (Nat×Nat)):Ak0 P L<=L.length:=Bk7 _ _
end Go.AM
