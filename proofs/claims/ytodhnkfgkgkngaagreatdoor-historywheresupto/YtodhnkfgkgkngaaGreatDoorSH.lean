/- What a law's walk and its plain proof need, part 8: no condition of its own. -/
import Derived.Test.YtodhnkfgkgkngaaGreatDoorSG
import Derived.Test.YtodhnkfgkgkngaaGreatDoorSF
set_option linter.defProp false
set_option linter.unusedSimpArgs false
set_option linter.unusedVariables false
set_option linter.unusedSectionVars false
namespace Go.AM
open IntKind (wrap)
def AR5:=@UInt8.toNat_ofNat'
def AS2:=@Classical.not_not
open Go.Proofs
abbrev AllS:=Sl Sound×Int×Int
def JI (N:Nat)(l:Law)(q0:Sl Sound)(a:AllS->Option Rq)(x1:Int)(z1:AllS):Option Rq:=
 if (decide (x1<z1.2.1)) then
  a (z1.1,z1.2.1,z1.2.2)
 else
  if (((0:Int)<=(wrap .i64 (x1+z1.2.2))/\(wrap .i64 (x1+z1.2.2))<=(z1.1.n:Int))/\((0:Int)<=x1/\x1<=(wrap .i64 (x1+(l.If.n:Int)))/\(wrap .i64 (x1+(l.If.n:Int)))<=(q0.n:Int)))then
   (N1 N l (q0.sub x1.toNat (wrap .i64 (x1+(l.If.n:Int))).toNat)).bind fun y6=>
   if ((0:Int)<=(wrap .i64 (x1+(l.If.n:Int)))/\(wrap .i64 (x1+(l.If.n:Int)))<=(q0.n:Int))then
    (A9 N (Sl.of [z1.1.take (wrap .i64 (x1+z1.2.2)).toNat,y6,q0.drop (wrap .i64 (x1+(l.If.n:Int))).toNat]:Sl (Sl Sound))).bind fun y7=>
    Bb (x1,y7) (
     a (y7,wrap .i64 (x1+(if (l.If.n:Int)<1 then 1 else (l.If.n:Int))),wrap .i64 ((wrap .i64 (z1.2.2+(l.Out.n:Int)))-(l.If.n:Int)))
     )
   else none
  else none
def Au1 (N:Nat)(a:Law)(b:Sl Sound)(c:Sl Int->Sl (Sl Sound)->Sl Sound->Int->Option Ad7)(x2:Sl Int)(x3:Sl (Sl Sound))(x4:Sl Sound)(x5:Int):Option Ad7:=
 if (decide (x5<=(b.n:Int))) then
  (By N a b x5).bind fun y5=>
  if (!y5) then
   lt (fun (z3:Sl Sound)=>
    c x2 x3 z3 (wrap .i64 (x5+1))
    ) fun k3=>
    if (decide (x5<(b.n:Int))) then
     if (((0:Int)<=x5/\x5<(b.n:Int))/\((x4.n+(Sl.of [b.g x5.toNat]:Sl Sound).n)*8<=140737488355328/\x4.n+(Sl.of [b.g x5.toNat]:Sl Sound).n<=140737488355328))then
      k3 (x4.push (b.g x5.toNat))
     else none
    else
     k3 x4
  else
   if ((0:Int)<=x5/\x5<=(wrap .i64 (x5+(a.If.n:Int)))/\(wrap .i64 (x5+(a.If.n:Int)))<=(b.n:Int))then
    (Cw N a (b.sub x5.toNat (wrap .i64 (x5+(a.If.n:Int))).toNat)).bind fun y6=>
    if ((x4.n+y6.n)*8<=140737488355328/\x4.n+y6.n<=140737488355328)then
     if ((x2.n+(Sl.of [x5]:Sl Int).n)*8<=140737488355328/\x2.n+(Sl.of [x5]:Sl Int).n<=140737488355328)then
      if (((((Sl.of []:Sl Sound).n+(x4.app y6).n)*8<=140737488355328/\(Sl.of []:Sl Sound).n+(x4.app y6).n<=140737488355328)/\((0:Int)<=(wrap .i64 (x5+(a.If.n:Int)))/\(wrap .i64 (x5+(a.If.n:Int)))<=(b.n:Int)))/\((((Sl.of []:Sl Sound).app (x4.app y6)).n+(b.drop (wrap .i64 (x5+(a.If.n:Int))).toNat).n)*8<=140737488355328/\((Sl.of []:Sl Sound).app (x4.app y6)).n+(b.drop (wrap .i64 (x5+(a.If.n:Int))).toNat).n<=140737488355328))then
       if (decide (32<((((Sl.of []:Sl Sound).app (x4.app y6)).app (b.drop (wrap .i64 (x5+(a.If.n:Int))).toNat)).n:Int))) then
        some ((Sl.nil:Sl Int),(Sl.nil:Sl (Sl Sound)),11)
       else
        if ((x3.n+(Sl.of [((Sl.of []:Sl Sound).app (x4.app y6)).app (b.drop (wrap .i64 (x5+(a.If.n:Int))).toNat)]:Sl (Sl Sound)).n)*24<=140737488355328/\x3.n+(Sl.of [((Sl.of []:Sl Sound).app (x4.app y6)).app (b.drop (wrap .i64 (x5+(a.If.n:Int))).toNat)]:Sl (Sl Sound)).n<=140737488355328)then
         if ((a.If.n:Int)==0) then
          if (decide ((wrap .i64 (x5+(a.If.n:Int)))<(b.n:Int))) then
           if (((0:Int)<=(wrap .i64 (x5+(a.If.n:Int)))/\(wrap .i64 (x5+(a.If.n:Int)))<(b.n:Int))/\(((x4.app y6).n+(Sl.of [b.g (wrap .i64 (x5+(a.If.n:Int))).toNat]:Sl Sound).n)*8<=140737488355328/\(x4.app y6).n+(Sl.of [b.g (wrap .i64 (x5+(a.If.n:Int))).toNat]:Sl Sound).n<=140737488355328))then
            c (x2.push x5) (x3.push (((Sl.of []:Sl Sound).app (x4.app y6)).app (b.drop (wrap .i64 (x5+(a.If.n:Int))).toNat))) ((x4.app y6).push (b.g (wrap .i64 (x5+(a.If.n:Int))).toNat)) (wrap .i64 ((wrap .i64 (x5+(a.If.n:Int)))+1))
           else none
          else
           c (x2.push x5) (x3.push (((Sl.of []:Sl Sound).app (x4.app y6)).app (b.drop (wrap .i64 (x5+(a.If.n:Int))).toNat))) (x4.app y6) (wrap .i64 ((wrap .i64 (x5+(a.If.n:Int)))+1))
         else
          c (x2.push x5) (x3.push (((Sl.of []:Sl Sound).app (x4.app y6)).app (b.drop (wrap .i64 (x5+(a.If.n:Int))).toNat))) (x4.app y6) (wrap .i64 (x5+(a.If.n:Int)))
        else none
      else none
     else none
    else none
   else none
 else
  some (x2,x3,0)
abbrev vW (s:Sl Sound):Prop:=∀j,j<s.n->vS (s.g j)
theorem Ai8 {s t:Sl Sound}(h:vW s)(h' : vW t):vW (s.app t):=fun j a=>by
 have a:j<s.n+t.n:=a;show vS (if j<s.n then s.g j else t.g (j-s.n));split
 ·exact h j (by assumption)
 ·exact h' _ (by omega)
theorem Ar7 {s:Sl Sound}(h:vW s)(k:Nat):vW (s.drop k):=fun j a=>h _ (by have a:j<s.n-k:=a;omega)
theorem Ar8 {s:Sl Sound}(h:vW s){k:Nat}(hk:k<=s.n):vW (s.take k):=fun j a=>h _ (by have a:j<k:=a;omega)
theorem Ru {x s:Sl Sound}{i:Nat}(b:i<s.n):SE (x.app (s.drop i)) ((x.push (s.g i)).app (s.drop (i+1))):=⟨by show x.n+(s.n-i)=x.n+1+(s.n-(i+1));omega,fun j _=>by
 show (if j<x.n then x.g j else s.g (i+(j-x.n)))=if j<x.n+1 then (if j<x.n then x.g j else s.g i)else s.g (i+1+(j-(x.n+1)))
 by_cases h1:j<x.n
 ·rw[if_pos h1,if_pos (by omega),if_pos h1]
 ·rw[if_neg h1];by_cases a:j=x.n
  ·rw[if_pos (by omega),if_neg h1,a];simp
  ·rw[if_neg (by omega)];congr 1;omega⟩
theorem Ad9 {a x t:Sl Sound}(h:SE a (x.app t)):SE (a.take x.n) x:=⟨rfl,fun j b=>by
 have b:j<x.n:=b;have hn:a.n=x.n+t.n:=h.1;have e:a.g j=if j<x.n then x.g j else t.g (j-x.n):=h.2 j (by omega)
 rw[if_pos b]at e;exact e⟩
theorem UP {N:Nat}{l:Law}{w:Sl Sound}{K:AllS->Option Rq}{acc:Sl Sound}{next sh:Int}:∀(d i:Nat),((i+d:Nat):Int)<=next->P4 (Ds l w i) (JI N l w) K (acc,next,sh)=P4 (Ds l w (i+d)) (JI N l w) K (acc,next,sh)
 |0,i,_=>rfl
 |d+1,i,h=>by
  have ih:=UP (N:=N) (l:=l) (w:=w) (K:=K) (acc:=acc) (next:=next) (sh:=sh) d (i+1) (by omega);rw[show i+(d+1)=i+1+d by omega,<- ih];by_cases a:ND l w i
  ·rw[HV (by have:=a.1;omega) a];show JI N l w (P4 (Ds l w (i+1)) (JI N l w) K) (i:Int) (acc,next,sh)=_;unfold JI;rw[if_pos (by simp;omega)]
  ·rw[HW a]
theorem Ar9 {N:Nat}(hN:3000<=N){l l' : Law}(hf:At8 l)(he:LE l l'){w w' : Sl Sound}(b:SE w w')(hn:w.n<=32)(hv:vW w):∀(m i:Nat) (x4 acc:Sl Sound) (sh next:Int),i<=w.n+1->w.n+1<=i+m ->
 (i<=w.n->SE acc (x4.app (w'.drop i))/\(x4.n:Int)=i+sh)->next<=i->x4.n<=7*i->vW acc -> -1000<=sh->sh<=1000 ->
 ∃L L',P4 (Ds l w i) (JI N l w) (fun _=>some []) (acc,next,sh)=some L/\vL L/\L.length<=m/\RL L L' /\ ∀M x2 x3,m<M->x2.n+m<=1000->x3.n+m<=1000->ZT M (Au1 N l' w') x2 x3 x4 i=some (IM x2 x3 L'):=by
 obtain⟨hl,_,_,hk,ho,hko,_,_⟩:=hf;have h6:=ho.1;obtain⟨hl',_,_,hk',ho',_,_,_⟩:=Tt he ⟨hl,‹_›, ‹_›,hk,ho,hko,‹_›, ‹_›⟩;have d:l'.If.n=l.If.n:=he.cond.1.symm;have hn':=b.1;have hw:okW w:=⟨by omega,fun j hj=>(hv j hj).ok⟩;have r : vW w':=b.v hv;have hw' : okW w':=⟨by omega,fun j hj=>(r j hj).ok⟩;have fin:∀(m i:Nat) (x4 acc:Sl Sound) (sh next:Int),w.n<i->∃L L',P4 (Ds l w i) (JI N l w) (fun _=>some []) (acc,next,sh)=some L/\vL L/\L.length<=m/\RL L L' /\ ∀M x2 x3,m<M->x2.n+m<=1000->x3.n+m<=1000->ZT M (Au1 N l' w') x2 x3 x4 i=some (IM x2 x3 L'):=by
  intro m i x4 acc sh next hi
  refine⟨[],[],by rw[IK (by omega)];rfl,Rr,by simp,trivial,fun M x2 x3 hM _ _=>?_⟩;obtain⟨M,rfl⟩:∃K,M=K+1:=⟨M-1,by omega⟩;rw[S6,Au1,if_neg (by simp;omega),IM]
 intro m
 induction m with
 |zero=>exact fun i x4 acc sh next h1 t _ _ _ _ _ _=>fin 0 i x4 acc sh next (by omega)
 |succ m ih=>
  intro i x4 acc sh next hi hm hx hnx h7 f u x
  by_cases hle:i<=w.n
  case neg=>exact fin _ i x4 acc sh next (by omega)
  obtain⟨o,hnn⟩:=hx hle;have han:acc.n=x4.n+(w.n-i):=by rw[o.1];show x4.n+(w'.n-i)=_;omega
  obtain⟨b',e2,t⟩:=Pj hN hl' hk' hw' i (by omega);have t:=t.trans (GT he b).symm;cases b'
  ·have hno:¬ND l w i:=fun h=>by have:=t.2 h;cases this
   rw[HW hno];by_cases y:i<w.n
   ·obtain⟨L,L',g1,g2,g3,g5,g4⟩:=ih (i+1) (x4.push (w'.g i)) acc sh next (by omega) (by omega) (fun _=>⟨o.trans (Ru (by omega)),by show ((x4.n+1:Nat):Int)=_;omega⟩) (by omega) (by show x4.n+1<=_;omega) f u x
    refine⟨L,L',g1,g2,by omega,g5,fun M x2 x3 hM hx hy=>?_⟩;obtain⟨M,rfl⟩:∃K,M=K+1:=⟨M-1,by omega⟩;rw[S6,Au1,d,if_pos (by simp;omega),e2,AD1,if_pos nf,lt,if_pos (by simp;omega),if_pos ⟨by omega,by show (x4.n+1)*8<=_/\x4.n+1<=_;omega⟩,B4 (by omega),AC6];exact g4 M x2 x3 (by omega) (by omega) (by omega)
   ·obtain⟨L,L',g1,g2,g3,g5,g4⟩:=ih (i+1) x4 acc sh next (by omega) (by omega) (fun h=>by omega) (by omega) (by omega) f u x
    refine⟨L,L',g1,g2,by omega,g5,fun M x2 x3 hM hx hy=>?_⟩;obtain⟨M,rfl⟩:∃K,M=K+1:=⟨M-1,by omega⟩;rw[S6,Au1,d,if_pos (by simp;omega),e2,AD1,if_pos nf,lt,if_neg (by simp;omega),B4 (by omega)];exact g4 M x2 x3 (by omega) (by omega) (by omega)
  ·have z:=t.1 rfl;have a0:=z.1;rw[HV hle z];obtain⟨p1,_,p3,p4⟩:=FF (N:=N) (by omega) ho hv a0;obtain⟨_,p2,_,_⟩:=FF (N:=N) (l:=l') (i:=i) (by omega) ho' r (by omega);rw[<- LG he b a0,d]at p2;generalize hY:Gd N l w i=Y at p1 p2 p3 p4;have c:SE (((acc.take x4.n).app Y).app (w.drop (i+l.If.n))) ((x4.app Y).app (w'.drop (i+l.If.n))):=((Ad9 o).app (SE.refl _)).app (b.drop _);have q:vW (((acc.take x4.n).app Y).app (w.drop (i+l.If.n))):=Ai8 (Ai8 (Ar8 f (by omega)) p4) (Ar7 hv _);generalize hZ:(((acc.take x4.n).app Y).app (w.drop (i+l.If.n)))=Z at c q;have hZn:Z.n=x4.n+Y.n+(w.n-(i+l.If.n)):=by rw[<- hZ]
   obtain⟨L,L',g1,g2,g3,g5,g4⟩:=ih (if l.If.n=0 then i+1 else i+l.If.n) (if l.If.n=0/\i<w.n then (x4.app Y).push (w'.g i)else x4.app Y) Z (sh+l.Out.n-l.If.n) (if l.If.n=0 then i+1 else i+l.If.n:Nat)
    (by split<;>omega) (by split<;>omega)
    (fun h=>by
     by_cases a:l.If.n=0
     ·rw[if_pos a]at h;rw[if_pos a,if_pos ⟨a,by omega⟩];rw[a]at c;exact⟨c.trans (Ru (by omega)),by show ((x4.n+Y.n+1:Nat):Int)=_;omega⟩
     ·rw[if_neg a,if_neg (by omega)];exact⟨c,by show ((x4.n+Y.n:Nat):Int)=_;omega⟩)
    (by omega)
    (by
     by_cases a:l.If.n=0
     ·rw[if_pos a];split
      ·show x4.n+Y.n+1<=_;omega
      ·show x4.n+Y.n<=_;omega
     ·rw[if_neg a,if_neg (by omega)];show x4.n+Y.n<=_;omega)
    q (by omega) (by omega)
   refine⟨((i:Int),Z)::L,((i:Int),(x4.app Y).app (w'.drop (i+l.If.n)))::L', ?_,Tu q g2,by simp;omega,⟨rfl,c,g5⟩,fun M x2 x3 hM hx hy=>?_⟩
   ·show JI N l w (P4 (Ds l w (i+1)) (JI N l w) fun _=>some []) (i:Int) (acc,next,sh)=_;unfold JI;have es:wrap .i64 ((i:Int)+sh)=((x4.n:Nat):Int):=by rw[D7 (by omega) (by omega),hnn]
    simp only[es];rw[CG (by omega),if_neg (by simp;omega),if_pos (by omega)];simp only[AC6];rw[p1,AD1,if_pos (by omega),Yu (by omega) (by show x4.n<=_;omega) (by omega) (by show w.n-(i+l.If.n)<=_;omega),AD1,hZ];have en:wrap .i64 ((i:Int)+(if (l.If.n:Int)<1 then 1 else (l.If.n:Int)))=((if l.If.n=0 then i+1 else i+l.If.n:Nat):Int):=by
     by_cases a:l.If.n=0
     ·rw[if_pos (by omega),if_pos a,D7 (by omega) (by omega)];omega
     ·rw[if_neg (by omega),if_neg a,D7 (by omega) (by omega)];omega
    have eh:wrap .i64 ((wrap .i64 (sh+(l.Out.n:Int)))-(l.If.n:Int))=sh+l.Out.n-l.If.n:=by rw[D7 (n:=sh+(l.Out.n:Int)) (by omega) (by omega),D7 (by omega) (by omega)]
    rw[en,eh];have sk:=UP (N:=N) (l:=l) (w:=w) (K:=fun _=>some []) (acc:=Z) (next:=((if l.If.n=0 then i+1 else i+l.If.n:Nat):Int)) (sh:=sh+l.Out.n-l.If.n) (if l.If.n=0 then 0 else l.If.n-1) (i+1) (by split<;>omega);rw[show i+1+(if l.If.n=0 then 0 else l.If.n-1)=(if l.If.n=0 then i+1 else i+l.If.n) by split<;>omega]at sk;show Bb _ (P4 (Ds l w (i+1)) (JI N l w) (fun _=>some []) (Z,_,_))=_;rw[sk,g1];rfl
   ·obtain⟨M,rfl⟩:∃K,M=K+1:=⟨M-1,by omega⟩;have hdn:((x4.app Y).app (w'.drop (i+l.If.n))).n=x4.n+Y.n+(w'.n-(i+l.If.n)):=rfl;rw[S6,Au1,d,if_pos (by simp;omega),e2,AD1,if_neg (by simp),CG (by omega),if_pos (by omega)];simp only[AC6];rw[p2,AD1,if_pos (by omega),if_pos (by show (x2.n+1)*8<=_/\x2.n+1<=_;omega)];rw[if_pos ⟨⟨by show (0+(x4.n+Y.n))*8<=_/\0+(x4.n+Y.n)<=_;omega,by omega⟩,by simp only[AN4];omega⟩,IM];by_cases a1:32<((x4.app Y).app (w'.drop (i+l.If.n))).n
    ·rw[if_pos (by simp only[decide_eq_true_eq,AN4];omega),if_pos a1]
    rw[if_neg (by simp only[decide_eq_true_eq,AN4];omega),if_neg a1,At9 (s:=(Sl.of []:Sl Sound)) rfl,if_pos (by show (x3.n+1)*24<=_/\x3.n+1<=_;omega)];have g4:=g4 M (x2.push (i:Int)) (x3.push ((x4.app Y).app (w'.drop (i+l.If.n)))) (by omega) (by show x2.n+1+m<=_;omega) (by show x3.n+1+m<=_;omega);by_cases a:l.If.n=0
    ·rw[if_pos (by simp[a])];rw[if_pos a]at g4;by_cases y:i<w.n
     ·rw[if_pos ⟨a,y⟩]at g4;rw[if_pos (by simp only[decide_eq_true_eq];omega),if_pos ⟨by omega,by show (x4.n+Y.n+1)*8<=_/\x4.n+Y.n+1<=_;omega⟩,B4 (by omega),show w'.g (i+l.If.n)=w'.g i by rw[a];rfl,show i+l.If.n+1=i+1 by omega];exact g4
     ·rw[if_neg (by omega)]at g4;rw[if_neg (by simp only[decide_eq_true_eq];omega),B4 (by omega),show i+l.If.n+1=i+1 by omega];exact g4
    ·rw[if_neg (by simp[a])];rw[if_neg a,if_neg (by omega)]at g4;exact g4
def trS (r r' : Ad7):Prop:=r.1=r'.1/\r.2.1.n=r'.2.1.n/\(∀i,i<r.2.1.n->SE (r.2.1.g i) (r'.2.1.g i))/\r.2.2=r'.2.2
theorem Ai9:∀(L L' : Rq) (x:Sl Int) (y y' : Sl (Sl Sound)),RL L L' -> y.n=y'.n->(∀i,i<y.n->SE (y.g i) (y'.g i))->trS (IM x y L) (IM x y' L')
 |[],[],x,y,y',_,h1,h2=>⟨rfl,h1,h2,rfl⟩
 |(p,v)::L,(q,u)::M,x,y,y',⟨h3,h4,h5⟩,h1,h2=>by
  subst h3;unfold IM;rw[<- h4.1];split
  ·exact⟨rfl,rfl,fun i a=>absurd a (AF7 i),rfl⟩
  ·refine Ai9 L M _ _ _ h5 (by show y.n+1=y'.n+1;omega) fun i a=>?_;have a:i<y.n+1:=a;show SE (if i<y.n then y.g i else v) (if i<y'.n then y'.g i else u);rw[<- h1];split
   ·exact h2 i (by assumption)
   ·exact h4
 |[],_::_,_,_,_,h,_,_=>h.elim
 |_::_,[],_,_,_,h,_,_=>h.elim
theorem Yz:∀(L:Rq) (x:Sl Int) (y:Sl (Sl Sound)),vL L->(∀i,i<y.n->wOk (y.g i))->(IM x y L).2.2=11 \/ ((IM x y L).2.2=0/\(IM x y L).2.1.n<=y.n+L.length/\∀i,i<(IM x y L).2.1.n->wOk ((IM x y L).2.1.g i))
 |[],x,y,_,h=>.inr ⟨rfl,AD3 _,h⟩
 |(p,v)::L,x,y,hv,h=>by
  unfold IM;split
  ·exact .inl rfl
  ·have:=Yz L (x.push p) (y.push v) (fun z b=>hv z (AF4 _ b)) fun i d=>by
    show wOk (if i<y.n then y.g i else v);split
    ·exact h i (by assumption)
    ·exact⟨by omega,hv (p,v) (by simp)⟩
   rcases this with h|⟨h1,a,c⟩
   ·exact .inl h
   ·refine .inr ⟨h1,?_,c⟩;have a:_<=y.n+1+L.length:=a;simp only[AF8];omega
theorem Rv:∀(L:Rq) (x:Sl Int) (y:Sl (Sl Sound)),x.n+L.length<=100000->y.n+L.length<=100000 ->
 P4 L (fun (a:Sl Int×Sl (Sl Sound)->Option Ad7) (x1:Int×(Sl Sound)) (z1:(Sl Int)×(Sl (Sl Sound)))=>
  if (decide (32<(x1.2.n:Int))) then
   some ((Sl.nil:Sl Int),(Sl.nil:Sl (Sl Sound)),11)
  else
   if ((z1.1.n+(Sl.of [x1.1]:Sl Int).n)*8<=140737488355328/\z1.1.n+(Sl.of [x1.1]:Sl Int).n<=140737488355328)then
    if ((z1.2.n+(Sl.of [x1.2]:Sl (Sl Sound)).n)*24<=140737488355328/\z1.2.n+(Sl.of [x1.2]:Sl (Sl Sound)).n<=140737488355328)then
     a (z1.1.push x1.1,z1.2.push x1.2)
    else none
   else none
  ) (fun (z1:(Sl Int)×(Sl (Sl Sound)))=>
   some (z1.1,z1.2,0)
  ) (x,y)=some (IM x y L)
 |[],x,y,_,_=>rfl
 |(p,v)::L,x,y,hx,hy=>by
  simp only[AF8]at hx hy;have ih:=Rv L (x.push p) (y.push v) (by show x.n+1+_<=_;omega) (by show y.n+1+_<=_;omega);rw[P4,IM];by_cases h:32<v.n
  ·rw[if_pos (by simp;omega),if_pos h]
  ·rw[if_neg (by simp;omega),if_neg h,if_pos (by show (x.n+1)*8<=_/\x.n+1<=_;omega),if_pos (by show (y.n+1)*24<=_/\y.n+1<=_;omega)];exact ih
def trE (N:Nat)(l:Law)(w:Sl Sound)(r:Ad7):Prop:=(r.2.2=17/\¬chkAll N l) \/ (chkAll N l/\Wd w r.2.2/\r.2.2≠0) \/ (chkAll N l/\wOk w/\(r.2.2=11 \/ (r.2.2=0/\r.2.1.n<=1000/\∀i,i<r.2.1.n->wOk (r.2.1.g i))))
theorem YA (e:Int):trS ((Sl.nil:Sl Int),(Sl.nil:Sl (Sl Sound)),e) ((Sl.nil:Sl Int),(Sl.nil:Sl (Sl Sound)),e):=⟨rfl,rfl,fun i a=>absurd a (AF7 i),rfl⟩
theorem Aj0 {w w' : Sl Sound}(h:SE w w'){e:Int}(hw:Wd w e):Wd w' e:=by
 rcases hw with⟨h1,a⟩ | ⟨h1,⟨i,b,a⟩,c⟩ | ⟨h1,a⟩
 ·exact .inl ⟨by rw[<- h.1];exact h1,a⟩
 ·exact .inr (.inl ⟨by rw[<- h.1];exact h1,⟨i,by rw[<- h.1];exact b,by rw[<- h.2 i b];exact a⟩,c⟩)
 ·exact .inr (.inr ⟨h.wOk h1,a⟩)
theorem AA9 {w w' : Sl Sound}(h:SE w w')(hw:∀i,i<w.n->okS (w.g i)):∀i,i<w'.n->okS (w'.g i):=fun i a=>by rw[<- h.2 i (by rw[h.1];exact a)];exact hw i (by rw[h.1];exact a)
theorem YB {N:Nat}(u:3000000<=N){l l' : Law}(hl:HX l)(hle:LE l l'){w w' : Sl Sound}(a:SE w w')(hw:∀i,i<w.n->okS (w.g i)) :∃r r',Cy N l w=some r/\GP N l' w' = some r' /\ trS r r' /\ trE N l w r:=by
 obtain⟨e,e1,_,v⟩:=DS u hl;obtain⟨e0,_,e2,q⟩:=DS u (JS hle hl);obtain rfl:=Ro (Ar6 hle v) q;unfold Cy GP Ev Lo;rw[e1,e2,AD1,AD1];rcases v with⟨rfl,hc⟩ | ⟨rfl,hc⟩
 case inr=>rw[if_pos (by decide),if_pos (by decide)];exact⟨_,_,rfl,rfl,YA 17,.inl ⟨rfl,hc⟩⟩
 rw[if_neg (by decide),if_neg (by decide)];obtain⟨e',e3,c⟩:=HU (N:=N) (by omega) hw;obtain⟨e'',e4,j⟩:=IJ (N:=N) (by omega) (AA9 a hw);obtain rfl:=Rk (Aj0 a c) j;rw[e3,e4];simp only[AD1];by_cases d:e' = 0
 case neg=>rw[if_pos (by simpa using d),if_pos (by simpa using d)];exact⟨_,_,rfl,rfl,YA e', .inr (.inl ⟨hc,c,d⟩)⟩
 rw[if_neg (by simp[d]),if_neg (by simp[d])];have b:wOk w:=(BG c).1 d;have o:=hc.f hl;obtain⟨s,_,_,hk,ho,y,z,a0⟩:=id o;have hn:=b.1;have t:=a.1;have key:∃L L',Bj N w l (l.If.n:Int) (l.Out.n:Int)=some L/\vL L/\L.length<=100/\RL L L' /\
  (if (l'.Mode==1) then (Lp N l' w').bind fun y2=>some (y2.1,y2.2.1,y2.2.2)
   else if (l'.Mode==2) then (GO N l' w').bind fun y3=>some (y3.1,y3.2.1,y3.2.2)
   else (FT N l' w').bind fun y4=>some (y4.1,y4.2.1,y4.2.2))=some (IM (Sl.nil:Sl Int) (Sl.nil:Sl (Sl Sound)) L'):=by
  unfold Bj;rw[hle.mode];by_cases c1:l.Mode=1
  ·rw[if_pos (show (l.Mode==1)=true by simp[c1]),if_pos (show (l.Mode==1)=true by simp[c1])];obtain⟨L,L',g1,g2,g3,g5,g4⟩:=Ar9 (N:=N) (by omega) o hle a hn b.2 (w.n+1) 0 (Sl.nil:Sl Sound) w 0 0 (by omega) (by omega) (fun _=>⟨by rw[At9 rfl];exact⟨a.1,fun i m=>by rw[a.2 i m];show _=w'.g (0+i);rw[AF9]⟩,rfl⟩) (by omega) (by show 0<=_;omega) b.2 (by omega) (by omega);have hh:=UN (N:=N) (by omega) s hk (w:=w) (vOk b) 0 (by omega);refine⟨L,L', ?_,g2,by omega,g5,?_⟩
   ·show ((V8 N l w ((0:Nat):Int)).bind fun L1=>P4 L1 (JI N l w) (fun _=>some []) (w,0,0))=_;rw[hh,AD1];exact g1
   ·have:Lp N l' w' = some _:=g4 N (Sl.nil:Sl Int) (Sl.nil:Sl (Sl Sound)) (by omega) (by show 0+_<=_;omega) (by show 0+_<=_;omega)
    rw[this];rfl
  rw[if_neg (show ¬(l.Mode==1)=true by simp[c1]),if_neg (show ¬(l.Mode==1)=true by simp[c1])];by_cases c2:l.Mode=2
  ·rw[if_pos (show (l.Mode==2)=true by simp[c2]),if_pos (show (l.Mode==2)=true by simp[c2])];obtain⟨L,L',g1,g2,g3,g5,g4⟩:=Yw (N:=N) (by omega) o hle (w.n+1) w w' 0 a (by omega) b.2 (by omega) (by omega);refine⟨L,L',g1 N (by omega),g2,by omega,g5,?_⟩
   have:GO N l' w' = some _:=g4 N (Sl.nil:Sl Int) (Sl.nil:Sl (Sl Sound)) (by omega) (by show 0+_<=_;omega) (by show 0+_<=_;omega)
   rw[this];rfl
  ·have c3:l.Mode=3:=by omega
   rw[if_neg (show ¬(l.Mode==2)=true by simp[c2]),if_neg (show ¬(l.Mode==2)=true by simp[c2]),if_pos (show (l.Mode==3)=true by simp[c3])];obtain⟨L,L',g1,g2,g3,g5,g4⟩:=Ad8 (N:=N) (by omega) o hle (w.n+1) w w' ((w.n:Int)-(l.If.n:Int)) a (by omega) b.2 (by omega) (by omega) (by omega);refine⟨L,L', ?_,g2,by omega,g5,?_⟩
   ·rw[D7 (by omega) (by omega)];exact g1 N (by omega)
   ·have g4:=g4 N (Sl.nil:Sl Int) (Sl.nil:Sl (Sl Sound)) (by omega) (by show 0+_<=_;omega) (by show 0+_<=_;omega)
    have:FT N l' w' = some (IM (Sl.nil:Sl Int) (Sl.nil:Sl (Sl Sound)) L'):=by unfold FT;rw[show wrap .i64 ((w'.n:Int)-(l'.If.n:Int))=(w.n:Int)-(l.If.n:Int) by rw[<- t, <- hle.cond.1,D7 (by omega) (by omega)]];exact g4
    rw[this];rfl
 obtain⟨L,L',g1,g2,g3,g5,g4⟩:=key;refine⟨IM (Sl.nil:Sl Int) (Sl.nil:Sl (Sl Sound)) L,_,?_,g4,Ai9 L L' _ _ _ g5 rfl fun i m=>absurd m (AF7 i),.inr (.inr ⟨hc,b,?_⟩)⟩
 ·rw[HQ,AD1];show ((Bj N w l (l.If.n:Int) (l.Out.n:Int)).bind _)=_;rw[g1,AD1];exact Rv L _ _ (by show 0+_<=_;omega) (by show 0+_<=_;omega)
 ·rcases Yz L (Sl.nil:Sl Int) (Sl.nil:Sl (Sl Sound)) g2 fun i m=>absurd m (AF7 i)with h|⟨h1,x,h3⟩
  ·exact .inl h
  ·exact .inr ⟨h1,by have x:_<=0+L.length:=x;omega,h3⟩
end Go.AM
namespace Go.AM
open IntKind (wrap)
open Go.Proofs
def apE (N:Nat)(l:Law)(w:Sl Sound)(r:Sl Sound×Int):Prop:=(r.2=17/\¬chkAll N l) \/ (chkAll N l/\Wd w r.2/\r.2≠0) \/ (chkAll N l/\wOk w/\(r.2=11 \/ (r.2=0/\wOk r.1)))
theorem LH {N:Nat}(o:3000000<=N){l l' : Law}(hl:HX l)(hle:LE l l'){w w' : Sl Sound}(b:SE w w')(hw:∀i,i<w.n->okS (w.g i)) :∃r r',Q1 N l w=some r/\Lq N l' w' = some r' /\ SE r.1 r'.1/\r.2=r'.2/\apE N l w r:=by
 obtain⟨⟨x,y,e⟩,⟨x',y',e'⟩,h1,q,⟨_,hn,hs,m⟩,ht⟩:=YB o hl hle b hw;dsimp only at hn hs m;subst m;have t:=b.1;unfold trE at ht;dsimp only at ht;unfold Q1 Lq;rw[h1,q,AD1,AD1];dsimp only;by_cases a:e=0
 case neg=>
  rw[if_pos (show (e != 0)=true by simpa using a),if_pos (show (e != 0)=true by simpa using a)];refine⟨_,_,rfl,rfl,SE.refl _,rfl,?_⟩;rcases ht with h|h|⟨j,c,d⟩
  ·exact .inl h
  ·exact .inr (.inl h)
  ·exact .inr (.inr ⟨j,c,.inl (d.resolve_right fun h=>a h.1)⟩)
 rw[if_neg (show ¬(e != 0)=true by simp[a]),if_neg (show ¬(e != 0)=true by simp[a])];rcases ht with h|h|⟨j,c,d⟩
 ·exact absurd (h.1.symm.trans a) (by decide)
 ·exact absurd a h.2.2
 rcases d with d|⟨_,h6,u⟩
 ·exact absurd (d.symm.trans a) (by decide)
 have v:=c.1;by_cases hy:y.n=0
 ·rw[if_neg (show ¬decide ((0:Int)<(y.n:Int))=true by simp[hy]),if_pos (show ((y'.n:Int)==0)=true by simp[<- hn,hy]),if_pos (by show (0+w'.n)*8<=_/\0+w'.n<=_;omega),At9 (s:=(Sl.of []:Sl Sound)) rfl];unfold A3;rw[if_pos (by omega)];exact⟨_,_,rfl,rfl,b,rfl,.inr (.inr ⟨j,c,.inr ⟨rfl,c⟩⟩)⟩
 ·have hk:=u (y.n-1) (by omega);have f:=hs (y.n-1) (by omega);have hb:=hk.1;have z:=f.1;have e1:wrap .i64 ((y.n:Int)-1)=((y.n-1:Nat):Int):=Ap9 (by omega) (by omega);have e2:wrap .i64 ((y'.n:Int)-1)=((y.n-1:Nat):Int):=by rw[<- hn];exact e1
  rw[e1,e2,AC6,if_pos (show decide ((0:Int)<(y.n:Int))=true by simp;omega),if_pos (by omega),if_neg (show ¬((y'.n:Int)==0)=true by simp;omega),if_pos ⟨by omega,by show (0+(y'.g (y.n-1)).n)*8<=_/\0+(y'.g (y.n-1)).n<=_;omega⟩,At9 (s:=(Sl.of []:Sl Sound)) rfl];exact⟨_,_,rfl,rfl,f,rfl,.inr (.inr ⟨j,c,.inr ⟨rfl,hk⟩⟩)⟩
theorem Rw {N:Nat}{s:Sl Law}(m:s.n<N)(hs:s.n<1000000){f:Law->Option Bool}{b:Nat->Bool}(o:∀i,i<s.n->f (s.g i)=some (b i)) :∃r,B9 N s f=some r/\(r=true ↔ ∃i,i<s.n/\b i=true):=by
 unfold B9 E2
 have:∃y,R9 N (fun (a:Int->Option Int) (x1:Int)=>
  if (decide (x1<(s.n:Int))) then
   if ((0:Int)<=x1/\x1<(s.n:Int))then
    (f (s.g x1.toNat)).bind fun y3=>
    if y3 then
     some x1
    else
     a (wrap .i64 (x1+1))
   else none
  else
   some (-1)) 0=some y/\(0<=y ↔ ∃i,i<s.n/\b i=true):=by
  refine AA (fun i x1=>x1=(i:Int)/\∀j,j<i->b j=false) s.n _ m ⟨rfl,fun j c=>absurd c (by omega)⟩ ?_;rintro l i x1 q ⟨rfl,h⟩ d;by_cases hl:i<s.n
  ·refine ifT (by simp;omega) (ifT (by omega) (B0 (by rw[AC6];exact o i hl) ?_));cases hb:b i
   ·refine ifF (by simp) (d hl _ ⟨B4 (by omega),fun j c=>?_⟩);by_cases e:j=i
    ·subst e;exact hb
    ·exact h j (by omega)
   ·exact ifT rfl ⟨i,rfl,fun _=>⟨i,hl,hb⟩,fun _=>by omega⟩
  ·refine ifF (by simp;omega) ⟨-1,rfl,fun h=>absurd h (by decide),?_⟩;rintro⟨j,c,hb⟩;rw[h j (by omega)]at hb;cases hb
 obtain⟨y,e,hy⟩:=this;exact B0 e ⟨_,rfl,by rw[decide_eq_true_eq];exact hy⟩
def Rx (N:Nat)(laws:Sl Law)(e:Int):Prop:=(64<laws.n/\e=12) \/ (laws.n<=64/\(∃i,i<laws.n/\¬chkAll N (laws.g i))/\e=17) \/ ((laws.n<=64/\∀i,i<laws.n->chkAll N (laws.g i))/\e=0)
theorem NG {N:Nat}{laws:Sl Law}{e e' : Int}(h:Rx N laws e)(h' : Rx N laws e'):e=e':=by rcases h with⟨h,rfl⟩ | ⟨h,⟨i,b,a⟩,rfl⟩ | ⟨⟨h,a⟩,rfl⟩<;>rcases h' with⟨g,rfl⟩ | ⟨g,⟨j,c,g2⟩,rfl⟩ | ⟨⟨g,g2⟩,rfl⟩<;>first|rfl|(exfalso;omega)|exact absurd (g2 i b) a|exact absurd (a j c) g2
def LS (s t:Sl Law):Prop:=s.n=t.n/\∀i,i<s.n->LE (s.g i) (t.g i)
theorem SE.ls {s t:Sl Law}(h:SE s t):LS s t:=⟨h.1,fun i a=>by rw[h.2 i a];exact LE.refl _⟩
def FG (laws:Sl Law):Prop:=∀i,i<laws.n->HX (laws.g i)
theorem Pm {laws laws' : Sl Law}(h:LS laws laws')(hl:FG laws):FG laws':=fun i a=>by exact JS (h.2 i (by rw[h.1];exact a)) (hl i (by rw[h.1];exact a))
theorem Wk {N:Nat}(o:3000000<=N){laws:Sl Law}(hl:FG laws):∃e,T2 N laws=some e/\GN N laws=some e/\Rx N laws e:=by
 have h1:∃e,T2 N laws=some e/\Rx N laws e:=by
  unfold T2;by_cases hn:64<laws.n
  ·exact ifT (by simp;omega) ⟨12,rfl,.inl ⟨hn,rfl⟩⟩
  refine ifF (by simp;omega) ?_;have u:∀i,∃b,i<laws.n->P1 N (laws.g i)=some b/\(b=true ↔ ¬chkAll N (laws.g i)):=by
   intro i;by_cases a:i<laws.n
   ·obtain⟨e,e1,_,d⟩:=DS o (hl i a);refine⟨e != 0,fun _=>⟨by unfold P1;rw[e1];rfl,?_⟩⟩;rcases d with⟨rfl,h⟩ | ⟨rfl,h⟩
    ·exact⟨fun h=>absurd h (by decide),fun g=>absurd h g⟩
    ·exact⟨fun _=>h,fun _=>by decide⟩
   ·exact⟨false,fun h=>absurd h a⟩
  obtain⟨f,l⟩:=AK6 u;obtain⟨r,e1,h1⟩:=Rw (N:=N) (s:=laws) (by omega) (by omega) (f:=fun u1=>P1 N u1) (fun i a=>(l i a).1);refine B0 e1 ?_;cases q:r
  ·refine ifF (by simp) ⟨0,rfl,.inr (.inr ⟨⟨by omega,fun i a=>AG5 fun hn=>?_⟩,rfl⟩)⟩
   have:=h1.2 ⟨i,a,(l i a).2.2 hn⟩
   rw[q]at this;cases this
  ·obtain⟨i,a,hb⟩:=h1.1 q;exact ifT rfl ⟨17,rfl,.inr (.inl ⟨by omega,⟨i,a,(l i a).2.1 hb⟩,rfl⟩)⟩
 have v:∃e,GN N laws=some e/\Rx N laws e:=by
  unfold GN;by_cases hn:64<laws.n
  ·exact ifT (by simp;omega) ⟨12,rfl,.inl ⟨hn,rfl⟩⟩
  refine ifF (by simp;omega) ?_;refine AA (fun i x1=>x1=(i:Int)/\∀j,j<i->chkAll N (laws.g j)) laws.n _ (by omega) ⟨rfl,fun j m=>absurd m (by omega)⟩ ?_;rintro t i x1 a ⟨rfl,h⟩ hs;by_cases c:i<laws.n
  ·obtain⟨e,_,e1,d⟩:=DS o (hl i c);refine ifT (by simp;omega) (ifT (by omega) (B0 (by rw[AC6];exact e1) ?_));rcases d with⟨rfl,hc⟩ | ⟨rfl,hc⟩
   ·refine ifF (by decide) (hs c _ ⟨B4 (by omega),fun j m=>?_⟩);by_cases e:j=i
    ·subst e;exact hc
    ·exact h j (by omega)
   ·exact ifT (by decide) ⟨17,rfl,.inr (.inl ⟨by omega,⟨i,c,hc⟩,rfl⟩)⟩
  ·exact ifF (by simp;omega) ⟨0,rfl,.inr (.inr ⟨⟨by omega,fun j m=>h j (by omega)⟩,rfl⟩)⟩
 obtain⟨e,e1,g1⟩:=h1;obtain⟨e',e2,g2⟩:=v;obtain rfl:=NG g1 g2;exact⟨_,e1,e2,g1⟩
def Aj1 (l:Sl (Sl Sound))(e:Int):Prop:=(e=0/\∀i,i<l.n->wOk (l.g i)) \/ (∃i,i<l.n/\(∀j,j<i->wOk (l.g j))/\Wd (l.g i) e/\e≠0)
theorem Wl {N:Nat}(o:3000000<=N){l:Sl (Sl Sound)}(hn:l.n<2000000)(hw:∀i,i<l.n->∀j,j<(l.g i).n->okS ((l.g i).g j)) :∃e,R9 N (fun (a:Int->Option Int) (x1:Int)=>
  if (decide (x1<(l.n:Int))) then
   if ((0:Int)<=x1/\x1<(l.n:Int))then
    (J9 N (l.g x1.toNat)).bind fun y4=>
    if (y4 != 0) then
     some y4
    else
     a (wrap .i64 (x1+1))
   else none
  else
   some 0
  ) 0=some e/\Aj1 l e:=by
 refine AA (fun i x1=>x1=(i:Int)/\∀j,j<i->wOk (l.g j)) l.n _ (by omega) ⟨rfl,fun j d=>absurd d (by omega)⟩ ?_;rintro f i x1 q ⟨rfl,h⟩ hs;by_cases b:i<l.n
 ·obtain⟨e,e1,m⟩:=HU (N:=N) (by omega) (hw i b);refine ifT (by simp;omega) (ifT (by omega) (B0 (by rw[AC6];exact e1) ?_));by_cases c:e=0
  ·refine ifF (by simp[c]) (hs b _ ⟨B4 (by omega),fun j d=>?_⟩);by_cases e:j=i
   ·subst e;exact (BG m).1 c
   ·exact h j (by omega)
  ·exact ifT (by simpa using c) ⟨e,rfl,.inr ⟨i,b,h,m,c⟩⟩
 ·exact ifF (by simp;omega) ⟨0,rfl,.inl ⟨rfl,fun j d=>h j (by omega)⟩⟩
theorem As0 {w:Sl Sound}{e:Int}(h:Aj1 (Sl.of [w]:Sl (Sl Sound)) e):Wd w e:=by
 rcases h with⟨rfl,h⟩ | ⟨i,a,_,h,_⟩
 ·exact .inr (.inr ⟨h 0 (by show 0<1;omega),rfl⟩)
 ·match i,a with
  |0,_=>exact h
theorem Tv {N:Nat}(b:3000000<=N){laws:Sl Law}(hl:FG laws){w:Sl Sound}(hw:∀i,i<w.n->okS (w.g i)) :∃e,Ad N laws (Sl.of [w]:Sl (Sl Sound))=some e/\((Rx N laws e/\e≠0) \/ (Rx N laws 0/\Wd w e)):=by
 unfold Ad;obtain⟨e,e1,_,h1⟩:=Wk b hl;refine B0 e1 ?_;by_cases a:e=0
 case neg=>exact ifT (by simpa using a) ⟨e,rfl,.inl ⟨h1,a⟩⟩
 refine ifF (by simp[a]) (ifF (by show ¬decide ((256:Int)<((1:Nat):Int))=true;decide) ?_);obtain⟨e2,e3,c⟩:=Wl (N:=N) b (l:=(Sl.of [w]:Sl (Sl Sound))) (by show 1<_;omega) fun i d=>by
  match i,d with
  |0,_=>exact hw
 exact⟨e2,e3,.inr ⟨a ▸ h1,As0 c⟩⟩
def CY (N:Nat)(c:Int)(q1:Sl Law)(a:Sl Sound->Int->Option Rq)(x1:Sl Sound)(x2:Int):Option Rq:=
 if (decide (x2<(q1.n:Int))) then
  if ((0:Int)<=x2/\x2<(q1.n:Int))then
   (Q1 N (q1.g x2.toNat) x1).bind fun y4=>
   if (y4.2 != 0) then
    if y4.2=c then some []else none
   else
    Bb (wrap .i64 (x2+1),y4.1) (
     a y4.1 (wrap .i64 (x2+1))
     )
  else none
 else
  if c=0 then some []else none
theorem CF {N:Nat}{c:Int}{laws:Sl Law}{a:Sl Sound->Int->Option Rq}{w:Sl Sound}{i:Nat}(d:i<laws.n)(b:laws.n<=64){y:Sl Sound×Int}(h:Q1 N (laws.g i) w=some y) :CY N c laws a w (i:Int)=if (y.2 != 0) then (if y.2=c then some []else none)else Bb (((i+1:Nat):Int),y.1) (a y.1 ((i+1:Nat):Int)):=by unfold CY;rw[if_pos (show decide ((i:Int)<(laws.n:Int))=true by simp;omega),if_pos (by omega),AC6,h,AD1,B4 (by omega)]
def Pn:Sl Sound->Rq->Sl Sound
 |w,[]=>w
 |_,(_,v)::L=>Pn v L
theorem Po:∀(L:Rq) (w:Sl Sound),P4 L (fun (a:Sl Sound->Option (Sl Sound)) (x1:Int×(Sl Sound)) (z1:Sl Sound)=>a x1.2) (fun (z1:Sl Sound)=>some z1) w=some (Pn w L)
 |[],w=>rfl
 |(p,v)::L,w=>Po L v
def EU (N:Nat)(laws:Sl Law):Prop:=laws.n<=64/\∀i,i<laws.n->chkAll N (laws.g i)
theorem lawsE_zero {N:Nat}{laws:Sl Law}:Rx N laws 0↔EU N laws:=by
 constructor
 ·rintro (⟨_,h⟩ | ⟨_,_,h⟩ | ⟨h,_⟩)
  ·cases h
  ·cases h
  ·exact h
 ·exact fun h=>.inr (.inr ⟨h,rfl⟩)
end Go.AM
namespace Go.AM
open IntKind (wrap)
open Go.Proofs
theorem YC {α : Type}(s:Sl α)(a : α):(s.push a).toList=s.toList++[a]:=by
 show (List.range (s.n+1)).map (fun i=>if i<s.n then s.g i else a)=_;rw[AM4,AP1];congr 1
 ·exact AG3 fun i b=>if_pos (AJ1.1 b)
 ·simp
theorem sEq (x y:Sound):((x.Plus==y.Plus)&&(x.Minus==y.Minus))=decide (x=y):=by cases x;cases y;rw[AG1];simp
theorem As1 {N:Nat}{x y:Sl Sound}(l:x.n<N)(hs:x.n<10000000) :∃b,(if ((x.n:Int) != (y.n:Int)) then
 some false
 else
  R9 N (fun (a:Int->Option Bool) (x1:Int)=>
   if (decide (x1<(x.n:Int))) then
    if (((0:Int)<=x1/\x1<(x.n:Int))/\((0:Int)<=x1/\x1<(y.n:Int)))then
     if ((((x.g x1.toNat).Plus==(y.g x1.toNat).Plus)&&((x.g x1.toNat).Minus==(y.g x1.toNat).Minus)) != true) then
      some false
     else
      a (wrap .i64 (x1+1))
    else none
   else
    some true
   ) 0)=some b/\(b=true↔SE x y):=by
 by_cases hn:x.n=y.n
 case neg=>exact ifT (by simp;omega) ⟨false,rfl,by simp,fun h=>absurd h.1 hn⟩
 refine ifF (by simp[hn]) ?_;refine AA (fun i x1=>x1=(i:Int)/\∀j,j<i->x.g j=y.g j) x.n _ l ⟨rfl,fun j c=>absurd c (by omega)⟩ ?_;rintro f i x1 m ⟨rfl,h⟩ d;by_cases hl:i<x.n
 ·refine ifT (by simp;omega) (ifT (by omega) ?_);rw[AC6,sEq];by_cases e:x.g i=y.g i
  ·refine ifF (by simp[e]) (d hl _ ⟨B4 (by omega),fun j c=>?_⟩);by_cases e2:j=i
   ·subst e2;exact e
   ·exact h j (by omega)
  ·exact ifT (by simp[e]) ⟨false,rfl,by simp,fun h=>absurd (h.2 i hl) e⟩
 ·exact ifF (by simp;omega) ⟨true,rfl,fun _=>⟨hn,fun j c=>h j (by omega)⟩,fun _=>rfl⟩
theorem Pp {N:Nat}{x y:Sl Sound}(a:x.n<N)(hs:x.n<10000000):∃b,Q0 N x y=some b/\(b=true↔SE x y):=As1 a hs
abbrev okA (w:Sl Sound):Prop:=∀i,i<w.n->okS (w.g i)
end Go.AM
namespace Go.AM
open Go.Proofs
def dep:Nat->Pat->Prop
 |0,_=>False
 |d+1,p=>p.L.n<=40/\∀i,i<p.L.n->dep d (p.L.g i)
theorem Aj2:∀(d:Nat) (p:Pat),dep d p->∀e,d<=e->dep e p
 |0,_,h,_,_=>h.elim
 |d+1,p,h,0,he=>by omega
 |d+1,p,h,e+1,he=>⟨h.1,fun i a=>Aj2 d _ (h.2 i a) e (by omega)⟩
theorem RA {N:Nat}(o:1000<=N):∀(d:Nat),d<=40->∀(p:Pat) (M:Nat),N+d+2<=M->∃r:Nat,Am M p ((40-d:Nat):Int)=some (r:Int)/\40-d<r/\r<=41/\(r<=40->dep (d+1) p)
 |d,hd,p,0,hM=>by omega
 |d,hd,p,M+1,hM=>by
  have:∃x,Am (M+1) p ((40-d:Nat):Int)=some x/\∃r:Nat,x=(r:Int)/\40-d<r/\r<=41/\(r<=40->dep (d+1) p):=by
   show ∃x,AO (Am M) M p _=some x/\_;unfold AO;rw[B4 (by omega)];refine N2 (fun i x1 x2=>x2=(i:Int)/\∃k:Nat,x1=(k:Int)/\40-d+1+i<=k/\k<=41/\i<=p.L.n/\(k<=40->∀j,j<i->dep d (p.L.g j))) 41 _ (by omega) ⟨rfl,40-d+1,rfl,by omega,by omega,by omega,fun _ j b=>absurd b (by omega)⟩ ?_;rintro f i x1 x2 q ⟨rfl,k,rfl,h1,c,s,l⟩ hs;by_cases hc:i<p.L.n/\k<=40
   ·refine ifT (by simp only[AD2,decide_eq_true_eq];omega) (ifT (by omega) ?_);obtain⟨r,m,r1,r2,r3⟩:=RA o (40-k) (by omega) (p.L.g i) M (by omega);rw[show ((40-(40-k):Nat):Int)=(k:Int) by omega]at m;refine B0 (by rw[AC6];exact m) (hs (by omega) _ _ ⟨B4 (by omega),r,rfl,by omega,r2,by omega,fun a j b=>?_⟩);by_cases e:j=i
    ·subst e;exact Aj2 _ _ (r3 a) d (by omega)
    ·exact l hc.2 j (by omega)
   ·refine ifF (by simp only[AD2,decide_eq_true_eq];omega) ⟨_,rfl,k,rfl,by omega,c,fun hk=>⟨by omega,fun j b=>l hk j (by omega)⟩⟩
  obtain⟨x,h1,r,rfl,c⟩:=this;exact⟨r,h1,c⟩
theorem LI:∀(d:Nat) (p:Pat),dep d p->∀M,100+d<=M->∃r,X0 M p=some r
 |0,p,h,M,_=>h.elim
 |d+1,p,h,0,hM=>by omega
 |d+1,p,h,M+1,hM=>by
  suffices ∃r,X0 (M+1) p=some r/\True by obtain⟨r,h,_⟩:=this;exact⟨r,h⟩
  show ∃x,V4 (X0 M) M p=some x/\_;unfold V4;have hn:=h.1;refine N2 (fun i x1 x2=>x2=(i:Int)) p.L.n _ (by omega) rfl ?_;rintro a i x1 x2 c rfl hs;by_cases hl:i<p.L.n
  ·obtain⟨r,b⟩:=LI d (p.L.g i) (h.2 i hl) M (by omega);exact ifT (by simp;omega) (ifT (by omega) (B0 (by rw[AC6];exact b) (hs hl _ _ (B4 (by omega)))))
  ·exact ifF (by simp;omega) ⟨_,rfl,trivial⟩
theorem Pq {N:Nat}(b:2000<=N)(p:Pat):∃r:Nat,Bg N p=some (r:Int)/\(r<=40->dep 41 p):=by obtain⟨r,h1,_,_,a⟩:=RA (N:=1000) (by omega) 40 (by omega) p N (by omega);exact⟨r,by unfold Bg;rw[show Am N p 0=some (r:Int) from h1];rfl,a⟩
theorem Ae0 {N:Nat}(f:2000<=N)(laws:Sl Law):∃r,Ca N laws=some r:=by
 suffices ∃r,Ca N laws=some r/\True by obtain⟨r,h,_⟩:=this;exact⟨r,h⟩
 unfold Ca;refine N2 (fun i x1 x2=>x2=(i:Int)) 301 _ (by omega) rfl ?_;rintro d i x1 x2 s rfl hs;by_cases hc:i<laws.n/\i<=300
 ·refine ifT (by simp only[AD2,decide_eq_true_eq];omega) (ifT (by omega) ?_);refine N2 (fun j x7 x8=>x8=(j:Int)) 2 _ (by omega) rfl ?_;rintro b j x7 x8 t rfl a;by_cases hl:j<2
  ·refine ifT (by show decide ((j:Int)<((2:Nat):Int))=true;simp;omega) (ifT (by show (0:Int)<=(j:Int)/\(j:Int)<((2:Nat):Int);omega) ?_);obtain⟨r,l,m⟩:=Pq f ((Sl.of [(laws.g (i:Int).toNat).Left,(laws.g (i:Int).toNat).Right]:Sl Pat).g (j:Int).toNat);refine B0 l ?_;by_cases c:r<=40
   ·obtain⟨q,o⟩:=LI 41 _ (m c) N (by omega);exact ifT (by simp;omega) (B0 o (a hl _ _ (B4 (by omega))))
   ·exact ifF (by simp;omega) (a hl _ _ (B4 (by omega)))
  ·exact ifF (by show ¬decide ((j:Int)<((2:Nat):Int))=true;simp;omega) (hs (by omega) _ _ (B4 (by omega)))
 ·exact ifF (by simp only[AD2,decide_eq_true_eq];omega) ⟨_,rfl,trivial⟩
end Go.AM
namespace Go.AM
open IntKind (wrap)
open Go.Proofs
def JJ (s:Str):Bool:=(decide (1<=s.length)&&decide (s.length<=24))&&s.all fun c=>Pk ((c.toNat:Nat):Int)
theorem RB {N:Nat}{s:Str}(m:s.length<N)(hs:s.length<1000000000){let_:Int->Option Bool}(hl:∀y,let_ y=some (Pk y)){fin:Bool}(n:fin=(decide (1<=s.length)&&decide (s.length<=24))) :R9 N (fun (a:Int->Option Bool) (x1:Int)=>
  if (decide (x1<(s.length:Int))) then
   if ((0:Int)<=x1/\x1<(s.length:Int))then
    (let_ (Cm s x1)).bind fun y3=>
    if (!y3) then
     some false
    else
     a (wrap .i64 (x1+1))
   else none
  else
   some fin
 ) 0=some (JJ s):=by
 suffices h:∃b,R9 N (fun (a:Int->Option Bool) (x1:Int)=>
  if (decide (x1<(s.length:Int))) then
   if ((0:Int)<=x1/\x1<(s.length:Int))then
    (let_ (Cm s x1)).bind fun y3=>
    if (!y3) then
     some false
    else
     a (wrap .i64 (x1+1))
   else none
  else
   some fin
  ) 0=some b/\b=JJ s by obtain⟨b,h,rfl⟩:=h;exact h
 refine AA (fun i x1=>x1=(i:Int)/\∀j (h:j<s.length),j<i->Pk ((s[j].toNat:Nat):Int)=true) s.length _ m ⟨rfl,fun j _ f=>absurd f (by omega)⟩ ?_;rintro l i x1 q ⟨rfl,h⟩ g;by_cases d:i<s.length
 ·have eb:Cm s (i:Int)=((s[i].toNat:Nat):Int):=by simp[Cm,d]
  refine ifT (by simp;omega) (ifT (by omega) (B0 (hl _) ?_));rw[eb];cases hb:Pk ((s[i].toNat:Nat):Int)
  ·refine ifT rfl ⟨false,rfl,?_⟩;symm;unfold JJ;rw[AU3]
   right
   rw[List.all_eq_false];exact⟨s[i],AT4 d,by rw[hb];simp⟩
  ·refine ifF (by simp) (g d _ ⟨B4 (by omega),fun j f o=>?_⟩);by_cases e:j=i
   ·subst e;exact hb
   ·exact h j f (by omega)
 ·refine ifF (by simp;omega) ⟨_,rfl,?_⟩;unfold JJ;rw[n]
  have:(s.all fun c=>Pk ((c.toNat:Nat):Int))=true:=AE6.2 fun c hc=>by obtain⟨j,f,rfl⟩:=AQ5 hc;exact h j f (by omega)
  rw[this,AQ4]
theorem YD {N:Nat}{s:Str}(a:s.length<N)(hs:s.length<1000000000):BD N s=some (JJ s):=by unfold BD;exact RB a hs (fun y=>rfl) (by rw[AG1];simp;omega)
theorem Ae1 {N:Nat}{s:Str}(a:s.length<N)(hs:s.length<1000000000):FV N s=some (JJ s):=by unfold FV;exact RB a hs (fun y=>rfl) (by rw[AG1];simp;omega)
def Ae2 (t:Sl F0)(v:Nat):Prop:=(v=0->(t.g 0).Parent = -1)/\(0<v->0<=(t.g v).Parent/\(t.g v).Parent<v)/\JJ (t.g v).Name=true/\∀u,u<v->(t.g u).Name≠(t.g v).Name
def X9 (t:Sl F0):Prop:=1<=t.n/\t.n<=63/\∀v,v<t.n->Ae2 t v
def Wm (t:Sl F0)(e:Int):Prop:=(e=0/\X9 t) \/ (e=16/\¬X9 t)
theorem Wn {t:Sl F0}{e e' : Int}(h:Wm t e)(h' : Wm t e'):e=e':=by
 rcases h with⟨rfl,h⟩ | ⟨rfl,h⟩<;>rcases h' with⟨rfl,h'⟩ | ⟨rfl,h'⟩
 ·rfl
 ·exact absurd h h'
 ·exact absurd h' h
 ·rfl
def LJ (t:Sl F0):Prop:=∀v,v<t.n->(t.g v).Name.length<1100000
theorem YE {N:Nat}(y:3000000<=N){t:Sl F0}(ht:LJ t):∃e,CA N t=some e/\Wm t e:=by
 unfold CA;by_cases z:t.n<1
 ·exact ifT (fun h=>absurd h (by simp;omega)) (ifT (by simp;omega) ⟨16,rfl,.inr ⟨rfl,fun h=>by have:=h.1;omega⟩⟩)
 refine ifT (fun _ _=>by omega) ?_;by_cases h1:63<t.n
 ·exact ifT (by simp;omega) ⟨16,rfl,.inr ⟨rfl,fun h=>by have:=h.2.1;omega⟩⟩
 by_cases m:(t.g 0).Parent = -1
 case neg=>exact ifT (by simp[m]) ⟨16,rfl,.inr ⟨rfl,fun h=>m ((h.2.2 0 (by omega)).1 rfl)⟩⟩
 refine ifF (by simp[m];omega) ?_;refine AA (fun i x1=>x1=(i:Int)/\∀j,j<i->Ae2 t j) t.n _ (by omega) ⟨rfl,fun j x=>absurd x (by omega)⟩ ?_;rintro f i x1 hi ⟨rfl,h⟩ hs;by_cases a:i<t.n
 case neg=>exact ifF (by simp;omega) ⟨0,rfl,.inl ⟨rfl,by omega,by omega,fun v hv=>h v (by omega)⟩⟩
 refine ifT (by simp;omega) (ltX ?_);have b:=Ae1 (N:=N) (s:=(t.g i).Name) (by have:=ht i a;omega) (by have:=ht i a;omega);have rest:(0<i->0<=(t.g i).Parent/\(t.g i).Parent<i)->∃r,(if (!JJ (t.g i).Name) then some 16 else
  R9 N (fun (d:Int->Option Int) (x7:Int)=>
   if (decide (x7<(i:Int))) then
    if (((0:Int)<=x7/\x7<(t.n:Int))/\((0:Int)<=(i:Int)/\(i:Int)<(t.n:Int)))then
     if (((t.g x7.toNat).Name==(t.g (i:Int).toNat).Name) != false) then
      some 16
     else
      d (wrap .i64 (x7+1))
    else none
   else
    f (wrap .i64 ((i:Int)+1))
   ) 0)=some r/\Wm t r:=by
  intro hp;cases hb:JJ (t.g i).Name
  ·exact ifT rfl ⟨16,rfl,.inr ⟨rfl,fun h=>by have:=(h.2.2 i a).2.2.1;rw[hb]at this;cases this⟩⟩
  refine ifF (by simp) ?_;refine AA (fun k x7=>x7=(k:Int)/\∀u,u<k->(t.g u).Name≠(t.g i).Name) i _ (by omega) ⟨rfl,fun u o=>absurd o (by omega)⟩ ?_;rintro q k x7 hk ⟨rfl,h'⟩ w;by_cases l:k<i
  ·refine ifT (by simp;omega) (ifT (by omega) ?_);rw[AC6,AC6];by_cases e:(t.g k).Name=(t.g i).Name
   ·exact ifT (by simp[e]) ⟨16,rfl,.inr ⟨rfl,fun h=>(h.2.2 i a).2.2.2 k l e⟩⟩
   ·refine ifF (by simp[e]) (w l _ ⟨B4 (by omega),fun u o=>?_⟩);by_cases e2:u=k
    ·subst e2;exact e
    ·exact h' u (by omega)
  ·refine ifF (by simp;omega) (hs a _ ⟨B4 (by omega),fun j x=>?_⟩);by_cases e:j=i
   ·subst e;exact⟨fun e=>by subst e;exact m,hp,hb,fun u o=>h' u (by omega)⟩
   ·exact h j (by omega)
 by_cases c:0<i
 ·refine ifT (by simp;omega) (ifT (by omega) ?_);rw[AC6];by_cases g1:(t.g i).Parent<0
  ·exact ifT (by simpa using g1) (ifT rfl ⟨16,rfl,.inr ⟨rfl,fun h=>by have:=((h.2.2 i a).2.1 c).1;omega⟩⟩)
  refine ifF (by simpa using g1) (ifT (by omega) ?_);by_cases g2:(i:Int)<=(t.g i).Parent
  ·exact ifT (by simpa using g2) (ifT rfl ⟨16,rfl,.inr ⟨rfl,fun h=>by have:=((h.2.2 i a).2.1 c).2;omega⟩⟩)
  exact ifF (by simpa using g2) (ifT (by omega) (B0 b (rest fun _=>⟨by omega,by omega⟩)))
 ·exact ifF (by simp;omega) (ifT (by omega) (B0 (by rw[AC6];exact b) (rest fun h=>absurd h c)))
theorem IN {ν : Type}{k s:Str}{v : ν}:∀es:List (Str × ν),Cn eqS s (Ol eqS k v es)=if s=k then some v else Cn eqS s es
 |[]=>by simp only[Ol,Cn];by_cases h:s=k<;>simp[eqS,h]
 |(a,x)::es=>by
  simp only[Ol];by_cases h:k=a
  ·subst h;rw[if_pos (by simp[eqS])];simp only[Cn];by_cases b:s=k<;>simp[eqS,b]
  ·rw[if_neg (by simp[eqS,h])];simp only[Cn];rw[IN es];by_cases b:s=k
   ·subst b;simp[eqS,h]
   ·simp[b]
theorem UQ {ν : Type}{k:Str}{v : ν}:∀{es:List (Str × ν)},Cn eqS k es=none->(Ol eqS k v es).length=es.length+1
 |[],_=>rfl
 |(a,x)::es,h=>by
  simp only[Cn]at h;simp only[Ol];by_cases e:eqS k a=true
  ·rw[if_pos e]at h;cases h
  ·rw[if_neg e]at h;rw[if_neg e,AF8,UQ h];rfl
theorem UR {ν : Type}{k:Str}{v x : ν}:∀{es:List (Str × ν)},Cn eqS k es=some x->(Ol eqS k v es).length=es.length
 |[],h=>by cases h
 |(a,y)::es,h=>by
  simp only[Cn]at h;simp only[Ol];by_cases e:eqS k a=true
  ·rw[if_pos e];rfl
  ·rw[if_neg e]at h;rw[if_neg e,AF8,UR h];rfl
theorem YF {N:Nat}(m:3000000<=N){t:Sl F0}(ht:LJ t):∃e,V9 N t=some e/\Wm t e:=by
 unfold V9;by_cases o:t.n=0 \/ 63<t.n
 ·exact ifT (by simp;omega) ⟨16,rfl,.inr ⟨rfl,fun h=>by have g1:=h.1;have g2:=h.2.1;omega⟩⟩
 refine ifF (by simp;omega) ?_;refine N2 (fun i (x2:List (Str×Bool)) x3=>x3=(i:Int)/\(∀j,j<i->Ae2 t j)/\∀s,(Cn eqS s x2=some true/\∃u,u<i/\(t.g u).Name=s) \/ (Cn eqS s x2=none/\∀u,u<i->(t.g u).Name≠s)) t.n _ (by omega) ⟨rfl,fun j f=>absurd f (by omega),fun s=>.inr ⟨rfl,fun u c=>absurd c (by omega)⟩⟩ ?_;rintro l i x2 x3 q ⟨rfl,h,hm⟩ hs;by_cases a:i<t.n
 case neg=>exact ifF (by simp;omega) ⟨0,rfl,.inl ⟨rfl,by omega,by omega,fun v r=>h v (by omega)⟩⟩
 refine ifT (by simp;omega) (ifT (by omega) (ltX ?_));rw[AC6];have b:=YD (N:=N) (s:=(t.g i).Name) (by have:=ht i a;omega) (by have:=ht i a;omega);have e1:(if 0<wrap .i64 ((i:Int)-1)then (0:Int)else wrap .i64 ((i:Int)-1))=if i=0 then -1 else 0:=by rw[D7 (by omega) (by omega)];split<;>split<;>omega
 rw[e1];by_cases g1:(i:Int)<=(t.g i).Parent
 ·refine ifT (by simpa using g1) (ifT rfl ⟨16,rfl,.inr ⟨rfl,fun h=>?_⟩⟩);have hk:=h.2.2 i a;by_cases d:i=0
  ·subst d;have:=hk.1 rfl;omega
  ·have:=(hk.2.1 (by omega)).2;omega
 refine ifF (by simpa using g1) ?_;by_cases g2:(t.g i).Parent<if i=0 then -1 else 0
 ·refine ifT (by simpa using g2) (ifT rfl ⟨16,rfl,.inr ⟨rfl,fun h=>?_⟩⟩);have hk:=h.2.2 i a;by_cases d:i=0
  ·subst d;have:=hk.1 rfl;simp at g2;omega
  ·have:=(hk.2.1 (by omega)).1;simp[d]at g2;omega
 refine ifF (by simpa using g2) (B0 b ?_);cases hb:JJ (t.g i).Name
 ·exact ifT rfl (ifT rfl ⟨16,rfl,.inr ⟨rfl,fun h=>by have:=(h.2.2 i a).2.2.1;rw[hb]at this;cases this⟩⟩)
 refine ifF (by simp) ?_;rcases hm (t.g i).Name with⟨e,u,c,hn⟩ | ⟨e,hn⟩
 ·rw[e];exact⟨16,rfl,.inr ⟨rfl,fun h=>(h.2.2 i a).2.2.2 u c hn⟩⟩
 rw[e,Qq];refine ifF (show ¬false=true by simp) (hs a _ _ ⟨B4 (by omega),fun j f=>?_,fun s=>?_⟩)
 ·by_cases e:j=i
  ·subst e;refine⟨fun e=>?_,fun hp=>?_,hb,hn⟩
   ·subst e;simp at g2;omega
   ·have:¬j=0:=by omega
    simp[this]at g2;omega
  ·exact h j (by omega)
 ·rw[IN];by_cases e:s=(t.g i).Name
  ·exact .inl ⟨by rw[if_pos e],i,by omega,e.symm⟩
  ·rw[if_neg e];rcases hm s with⟨g,u,c,hn⟩ | ⟨g,hn⟩
   ·exact .inl ⟨g,u,by omega,hn⟩
   ·refine .inr ⟨g,fun u c=>?_⟩;by_cases e2:u=i
    ·subst e2;exact fun h=>e h.symm
    ·exact hn u (by omega)
theorem Pr {N:Nat}(a:3000000<=N){t:Sl F0}(ht:LJ t):∃e,V9 N t=some e/\CA N t=some e/\Wm t e:=by obtain⟨e,h1,b⟩:=YF a ht;obtain⟨e',c,d⟩:=YE a ht;obtain rfl:=Wn b d;exact⟨_,h1,c,b⟩
end Go.AM
namespace Go.AM
open IntKind (wrap)
open Go.Proofs
structure U0 (h:A5):Prop where
 laws:FG h.Laws
 tree:LJ h.Tree
 on:h.On.n<1100000
 len:∀v,v<h.On.n->(h.On.g v).n<1100000
def E7 (h:A5)(v:Nat):Sl Int:=
 if hp:0<=(h.Tree.g v).Parent/\(h.Tree.g v).Parent<v then (E7 h (h.Tree.g v).Parent.toNat).app (h.On.g v)else (Sl.nil:Sl Int).app (h.On.g v)
termination_by v
decreasing_by omega
theorem X8 {h:A5}{v:Nat}(a:(h.Tree.g v).Parent<0):E7 h v=(Sl.nil:Sl Int).app (h.On.g v):=by rw[E7,dif_neg (by omega)]
theorem AW {h:A5}{v p:Nat}(a:(h.Tree.g v).Parent=(p:Int))(hp:p<v):E7 h v=(E7 h p).app (h.On.g v):=by rw[E7,dif_pos (by omega),a,AC6]
theorem I8 {t:Sl F0}(ht:X9 t){v:Nat}(a:v<t.n):(v=0/\(t.g v).Parent = -1) \/ ∃p:Nat,p<v/\(t.g v).Parent=(p:Int):=by
 have hk:=ht.2.2 v a;by_cases b:v=0
 ·subst b;exact .inl ⟨rfl,hk.1 rfl⟩
 ·obtain⟨g1,g2⟩:=hk.2.1 (by omega);exact .inr ⟨(t.g v).Parent.toNat,by omega,by omega⟩
theorem Tw {h:A5}(a:U0 h)(ht:X9 h.Tree)(hn:h.On.n=h.Tree.n):∀(m v:Nat),v<=m->v<h.Tree.n->(E7 h v).n<=(v+1)*1100000
 |m,v,hm,hv=>by
  have hl:=a.len v (by omega);rcases I8 ht hv with⟨_,e⟩ | ⟨p,hp,e⟩
  ·rw[X8 (by omega)];show 0+(h.On.g v).n<=_;omega
  ·rw[AW e hp]
   match m with
   |0=>omega
   |m+1=>
    have:=Tw a ht hn m p (by omega) (by omega)
    show (E7 h p).n+(h.On.g v).n<=_;have b:(p+1)*1100000+1100000<=(v+1)*1100000:=by omega
    omega
theorem FH {h:A5}(a:U0 h)(ht:X9 h.Tree)(hn:h.On.n=h.Tree.n):∀(M v:Nat),v+2<=M->v<h.Tree.n->Ax M h (v:Int)=some (E7 h v)
 |0,v,hM,_=>by omega
 |M+1,v,hM,hv=>by
  have b:=ht.2.1;show BC (Ax M) M h (v:Int)=_;unfold BC;rw[if_neg (by simp),if_pos (by omega),AC6];have hl:=a.len v (by omega);rcases I8 ht hv with⟨c,e⟩ | ⟨p,hp,e⟩
  ·rw[e,X8 (by omega)]
   have:Ax M h (-1)=some (Sl.nil:Sl Int):=by obtain⟨K,rfl⟩:∃K,M=K+1:=⟨M-1,by omega⟩;show BC (Ax K) K h (-1)=_;unfold BC;rw[if_pos (by decide)]
   rw[this,AD1,if_pos ⟨by omega,by show (0+(h.On.g v).n)*8<=_/\0+(h.On.g v).n<=_;omega⟩]
  ·have hb:=Tw a ht hn p p (AD3 _) (by omega);rw[e,FH a ht hn M p (by omega) (by omega),AD1,AW e hp,if_pos ⟨by omega,by omega⟩]
def Tx (h:A5):Prop:=∃v,v<h.On.n/\64<(E7 h v).n
def As2 (h:A5)(v:Nat):Prop:=∃k,k<(h.On.g v).n/\((h.On.g v).g k<0 \/ (h.Laws.n:Int)<=(h.On.g v).g k)
def YG (h:A5)(e:Int):Prop:=(Tx h/\e=2) \/ (¬Tx h/\(∃v,v<h.On.n/\As2 h v)/\e=3) \/ (¬Tx h/\(∀v,v<h.On.n->¬As2 h v)/\e=0)
theorem YH {N:Nat}(hN:3000000<=N){h:A5}(hi:U0 h)(ht:X9 h.Tree)(hn:h.On.n=h.Tree.n):∃e,W0 N h=some e/\YG h e:=by
 have h63:=ht.2.1;unfold W0;refine ifT (by omega) ?_;refine XY (fun i (x4:Sl Int) (x5:Bool) x6=>x6=(i:Int)/\x4.n=h.On.n/\(∀v,v<i->x4.g v=((E7 h v).n:Int)/\(E7 h v).n<=64)/\(x5=true ↔ ∃v,v<i/\As2 h v)) h.On.n _ (by omega) ⟨rfl,by show ((h.On.n:Nat):Int).toNat=_;omega,fun v b=>absurd b (by omega),⟨fun g=>(by cases g),fun⟨v,b,_⟩=>absurd b (by omega)⟩⟩ ?_;rintro m i x4 x5 x6 hle ⟨rfl,hx,hp,hb⟩ hs;by_cases o:i<h.On.n
 case neg=>
  refine ifF (by simp;omega) ?_;have hl:¬Tx h:=fun⟨v,b,hl⟩=>by have:=(hp v (by omega)).2;omega
  cases x5
  ·exact ifF (by simp) ⟨0,rfl,.inr (.inr ⟨hl,fun v b g=>(by have:=hb.2 ⟨v,by omega,g⟩;cases this),rfl⟩)⟩
  ·obtain⟨v,b,g⟩:=hb.1 rfl;exact ifT rfl ⟨3,rfl,.inr (.inl ⟨hl,⟨v,by omega,g⟩,rfl⟩)⟩
 refine ifT (by simp;omega) (ifT (by rw[AC6];omega) (ifT (by omega) (ltX ?_)));rw[AC6];have hl:=hi.len i (by omega);have hlb:=Tw hi ht hn i i (AD3 _) (by omega);have rest:∀z:Sl Int,z.n=h.On.n->(∀v,v<i->z.g v=x4.g v)->z.g i=((E7 h i).n:Int)->∃r,(if (((0:Int)<=(i:Int)/\(i:Int)<(z.n:Int))/\i<z.n)then
  if (decide (64<(z.g i))) then
   some 2
  else
   S5 N (fun (d:Bool->Int->Option Int) (c:Bool) (a:Int)=>
    if (decide (a<((h.On.g i).n:Int))) then
     if ((0:Int)<=a/\a<((h.On.g i).n:Int))then
      d ((c||(decide (((h.On.g i).g a.toNat)<0)))||(decide ((h.Laws.n:Int)<=((h.On.g i).g a.toNat)))) (wrap .i64 (a+1))
     else none
    else
     m z c (wrap .i64 ((i:Int)+1))
    ) x5 0
  else none)=some r/\YG h r:=by
  intro z hz u q;refine ifT (by omega) ?_;rw[q];by_cases w:64<(E7 h i).n
  ·exact ifT (by simp;omega) ⟨2,rfl,.inl ⟨⟨i,o,w⟩,rfl⟩⟩
  refine ifF (by simp;omega) ?_;refine N2 (fun k (c:Bool) a=>a=(k:Int)/\(c=true↔(∃v,v<i/\As2 h v) \/ ∃j,j<k/\j<(h.On.g i).n/\((h.On.g i).g j<0 \/ (h.Laws.n:Int)<=(h.On.g i).g j))) (h.On.g i).n _ (by omega) ⟨rfl,hb.trans ⟨fun g=>.inl g,fun g=>g.resolve_right fun⟨j,f,_⟩=>absurd f (by omega)⟩⟩ ?_;rintro x k c a hk ⟨rfl,s⟩ y;by_cases l:k<(h.On.g i).n
  ·refine ifT (by simp;omega) (ifT (by omega) (y l _ _ ⟨B4 (by omega),?_⟩));rw[AC6,AE2,AE2,s,decide_eq_true_eq,decide_eq_true_eq];constructor
   ·rintro (((g|⟨j,f,g⟩)|g)|g)
    ·exact .inl g
    ·exact .inr ⟨j,by omega,g⟩
    ·exact .inr ⟨k,by omega,l,.inl g⟩
    ·exact .inr ⟨k,by omega,l,.inr g⟩
   ·rintro (g|⟨j,f,a0,g⟩)
    ·exact .inl (.inl (.inl g))
    ·by_cases e:j=k
     ·subst e;rcases g with g|g
      ·exact .inl (.inr g)
      ·exact .inr g
     ·exact .inl (.inl (.inr ⟨j,by omega,a0,g⟩))
  ·refine ifF (by simp;omega) (hs o _ _ _ ⟨B4 (by omega),hz,fun v b=>?_,s.trans ?_⟩)
   ·by_cases e:v=i
    ·subst e;exact⟨q,by omega⟩
    ·rw[u v (by omega)];exact hp v (by omega)
   ·constructor
    ·rintro (⟨v,b,g⟩ | ⟨j,_,f,g⟩)
     ·exact⟨v,by omega,g⟩
     ·exact⟨i,by omega,j,f,g⟩
    ·rintro⟨v,b,g⟩;by_cases e:v=i
     ·subst e;obtain⟨j,f,g⟩:=g;exact .inr ⟨j,by omega,f,g⟩
     ·exact .inl ⟨v,by omega,g⟩
 rcases I8 ht (v:=i) (by omega)with⟨_,e⟩ | ⟨p,t,e⟩
 ·rw[e];refine ifF (by decide) (rest _ hx (fun v b=>?_) ?_)
  ·show (if v=i then _ else x4.g v)=_;rw[if_neg (by omega)]
  ·show (if i=i then ((h.On.g i).n:Int)else _)=_;rw[if_pos rfl,X8 (by omega)];show _=((0+(h.On.g i).n:Nat):Int);omega
 ·have a1:=hp p t;rw[e];refine ifT (by simp) (ifT ?_ ?_)
  ·show ((((((0:Int)<=(i:Int)/\(i:Int)<(x4.n:Int))/\i<x4.n)/\(0:Int)<=(p:Int)/\(p:Int)<(x4.n:Int))/\(p:Int).toNat<x4.n)/\(0:Int)<=(i:Int)/\(i:Int)<(x4.n:Int))/\i<x4.n;omega
  ·rw[AC6];refine rest _ hx (fun v b=>?_) ?_
   ·show (if v=i then _ else if v=i then _ else x4.g v)=_;rw[if_neg (by omega),if_neg (by omega)]
   ·show (if i=i then wrap .i64 ((if i=i then ((h.On.g i).n:Int)else _)+(if p=i then _ else x4.g p))else _)=_;rw[if_pos rfl,if_pos rfl,if_neg (by omega),a1.1,AW e t,D7 (by omega) (by omega)];show _=(((E7 h p).n+(h.On.g i).n:Nat):Int);omega
end Go.AM
namespace Go.AM
open Go.Proofs
def Au2 (h:A5)(i:Nat):Prop:=∃u v,u<v/\v<i/\(h.Laws.g u).Name=(h.Laws.g v).Name
open Classical in
noncomputable def hres (N:Nat) (h:A5):Int:=
 if ¬X9 h.Tree then 16 else if 64<h.Laws.n then 12 else if ∃i,i<h.Laws.n/\¬chkAll N (h.Laws.g i)then 17 else if Au2 h h.Laws.n then 6 else if h.On.n≠h.Tree.n then 2
 else if Tx h then 2 else if ∃v,v<h.On.n/\As2 h v then 3 else 0
structure Ay (N:Nat) (h:A5):Prop where
 tree:X9 h.Tree
 laws:EU N h.Laws
 dup:¬Au2 h h.Laws.n
 on:h.On.n=h.Tree.n
 long:¬Tx h
 bad:∀v,v<h.On.n->¬As2 h v
theorem hres_zero {N:Nat}{h:A5}:hres N h=0↔Ay N h:=by
 unfold hres;constructor
 ·intro g;split at g
  ·cases g
  split at g
  ·cases g
  split at g
  ·cases g
  split at g
  ·cases g
  split at g
  ·cases g
  split at g
  ·cases g
  split at g
  ·cases g
  rename_i h1 n c d f j l;exact⟨AS2.1 h1,⟨by omega,fun i a=>AG5 fun hn=>c ⟨i,a,hn⟩⟩,d,AS2.1 f,j,fun v b hb=>l ⟨v,b,hb⟩⟩
 ·intro g;have m:=g.laws.1;rw[if_neg (fun k=>k g.tree),if_neg (by omega),if_neg (fun⟨i,a,hn⟩=>hn (g.laws.2 i a)),if_neg g.dup,if_neg (fun k=>k g.on),if_neg g.long,if_neg (fun⟨v,b,hb⟩=>g.bad v b hb)]
theorem DU {N:Nat}{h:A5}(h1:X9 h.Tree)(a:EU N h.Laws)(b:¬Au2 h h.Laws.n)(c:h.On.n=h.Tree.n){e:Int}(d:YG h e):e=hres N h:=by
 have f:=a.1;unfold hres;rw[if_neg (fun k=>k h1),if_neg (by omega),if_neg (fun⟨i,j,hn⟩=>hn (a.2 i j)),if_neg b,if_neg (fun k=>k c)];rcases d with⟨g,rfl⟩ | ⟨g,g2,rfl⟩ | ⟨g,g2,rfl⟩
 ·rw[if_pos g]
 ·rw[if_neg g,if_pos g2]
 ·rw[if_neg g,if_neg (fun⟨v,l,hb⟩=>g2 v l hb)]
theorem DW {N:Nat}(z:3000000<=N){h:A5}(o:U0 h):D0 N h=some (hres N h):=by
 suffices g:∃r,D0 N h=some r/\r=hres N h by obtain⟨r,g,rfl⟩:=g;exact g
 obtain⟨e,e1,_,he⟩:=Pr z o.tree;unfold D0;refine B0 e1 ?_;rcases he with⟨rfl,ht⟩ | ⟨rfl,ht⟩
 case inr=>exact ifT (by decide) ⟨16,rfl,by unfold hres;rw[if_pos ht]⟩
 refine ifF (by decide) ?_;by_cases c:64<h.Laws.n
 ·exact ifT (by simp;omega) ⟨12,rfl,by unfold hres;rw[if_neg (fun k=>k ht),if_pos c]⟩
 refine ifF (by simp;omega) ?_;refine N2 (fun i (x1:List (Str×Int)) x2=>x2=(i:Int)/\(∀j,j<i->chkAll N (h.Laws.g j))/\(∀s,(Cn eqS s x1=none/\∀u,u<i->(h.Laws.g u).Name≠s) \/ (∃v,Cn eqS s x1=some v)/\∃u,u<i/\(h.Laws.g u).Name=s)/\((Au2 h i/\x1.length<i) \/ (¬Au2 h i/\x1.length=i))) h.Laws.n _ (by omega)
  ⟨rfl,fun j hj=>absurd hj (by omega),fun s=>.inl ⟨rfl,fun u q=>absurd q (by omega)⟩,.inr ⟨fun⟨u,v,_,hv,_⟩=>absurd hv (by omega),rfl⟩⟩ ?_
 rintro self i x1 x2 hle ⟨rfl,hc,hm,hl⟩ hs;by_cases d:i<h.Laws.n
 ·obtain⟨y,y1,_,hy⟩:=DS z (o.laws i d);refine ifT (by simp;omega) (ifT (by omega) (B0 (by rw[AC6];exact y1) ?_));rcases hy with⟨rfl,hy⟩ | ⟨rfl,hy⟩
  case inr=>exact ifT (by decide) ⟨17,rfl,by unfold hres;rw[if_neg (fun k=>k ht),if_neg c,if_pos ⟨i,d,hy⟩]⟩
  refine ifF (by decide) ?_;rw[AC6];have t : ∀j,j<i+1->chkAll N (h.Laws.g j):=fun j hj=>by
   by_cases e:j=i
   ·subst e;exact hy
   ·exact hc j (by omega)
  have look:∀(v:Int) (s:Str),(Cn eqS s (Ol eqS (h.Laws.g i).Name v x1)=none/\∀u,u<i+1->(h.Laws.g u).Name≠s) \/ (∃w,Cn eqS s (Ol eqS (h.Laws.g i).Name v x1)=some w)/\∃u,u<i+1/\(h.Laws.g u).Name=s:=by
   intro v s;rw[IN];by_cases e:s=(h.Laws.g i).Name
   ·exact .inr ⟨⟨v,by rw[if_pos e]⟩,i,by omega,e.symm⟩
   ·rw[if_neg e];rcases hm s with⟨g,g2⟩ | ⟨g,u,q,g2⟩
    ·refine .inl ⟨g,fun u q=>?_⟩;by_cases e2:u=i
     ·subst e2;exact fun k=>e k.symm
     ·exact g2 u (by omega)
    ·exact .inr ⟨g,u,by omega,g2⟩
  rcases hm (h.Laws.g i).Name with⟨g,g2⟩ | ⟨⟨v,g⟩,u,q,g2⟩
  ·rw[g,Qq];refine hs d _ _ ⟨B4 (by omega),t,look _,?_⟩;rw[UQ g];rcases hl with⟨⟨a,b,f,hb,hn⟩,hl⟩ | ⟨m,hl⟩
   ·exact .inl ⟨⟨a,b,f,by omega,hn⟩,by omega⟩
   ·refine .inr ⟨fun⟨a,b,f,hb,hn⟩=>?_,by omega⟩;by_cases e:b=i
    ·subst e;exact g2 a f hn
    ·exact m ⟨a,b,f,by omega,hn⟩
  ·rw[g,XB];refine hs d _ _ ⟨B4 (by omega),t,look _,?_⟩;rw[UR g];refine .inl ⟨⟨u,i,q,by omega,g2⟩,?_⟩;rcases hl with⟨_,hl⟩ | ⟨_,hl⟩<;>omega
 ·obtain rfl:i=h.Laws.n:=by omega
  have hok:EU N h.Laws:=⟨by omega,hc⟩;have x:¬ ∃i,i<h.Laws.n/\¬chkAll N (h.Laws.g i):=fun⟨i,o,hn⟩=>hn (hc i o);refine ifF (by simp) ?_;rw[Sr];rcases hl with⟨m,hl⟩ | ⟨m,hl⟩
  ·exact ifT (by simp;omega) ⟨6,rfl,by unfold hres;rw[if_neg (fun k=>k ht),if_neg c,if_neg x,if_pos m]⟩
  refine ifF (by simp;omega) ?_;by_cases l:h.On.n=h.Tree.n
  case neg=>exact ifT (by simp;omega) ⟨2,rfl,by unfold hres;rw[if_neg (fun k=>k ht),if_neg c,if_neg x,if_neg m,if_pos l]⟩
  refine ifF (by simp[l]) ?_;obtain⟨e,e1,he⟩:=YH z o ht l;exact B0 e1 ⟨e,rfl,DU ht hok m l he⟩
theorem HY {N:Nat}(hN:3000000<=N){h:A5}(q:U0 h):Bk N h=some (hres N h):=by
 suffices g:∃r,Bk N h=some r/\r=hres N h by obtain⟨r,g,rfl⟩:=g;exact g
 obtain⟨e,_,e1,he⟩:=Pr hN q.tree;unfold Bk;refine B0 e1 ?_;rcases he with⟨rfl,ht⟩ | ⟨rfl,ht⟩
 case inr=>exact ifT (by decide) ⟨16,rfl,by unfold hres;rw[if_pos ht]⟩
 refine ifF (by decide) ?_;by_cases f:64<h.Laws.n
 ·exact ifT (by simp;omega) ⟨12,rfl,by unfold hres;rw[if_neg (fun k=>k ht),if_pos f]⟩
 refine ifF (by simp;omega) ?_;refine AA (fun i x1=>x1=(i:Int)/\∀j,j<i->chkAll N (h.Laws.g j)) h.Laws.n _ (by omega) ⟨rfl,fun j s=>absurd s (by omega)⟩ ?_;rintro self i x1 hle ⟨rfl,hc⟩ hs;by_cases a:i<h.Laws.n
 ·obtain⟨y,_,y1,hy⟩:=DS hN (q.laws i a);refine ifT (by simp;omega) (ifT (by omega) (B0 (by rw[AC6];exact y1) ?_));rcases hy with⟨rfl,hy⟩ | ⟨rfl,hy⟩
  case inr=>exact ifT (by decide) ⟨17,rfl,by unfold hres;rw[if_neg (fun k=>k ht),if_neg f,if_pos ⟨i,a,hy⟩]⟩
  refine ifF (by decide) (hs a _ ⟨B4 (by omega),fun j s=>?_⟩);by_cases e:j=i
  ·subst e;exact hy
  ·exact hc j (by omega)
 obtain rfl:i=h.Laws.n:=by omega
 have l:EU N h.Laws:=⟨by omega,hc⟩;have w:¬ ∃i,i<h.Laws.n/\¬chkAll N (h.Laws.g i):=fun⟨i,q,hn⟩=>hn (hc i q);refine ifF (by simp) ?_;refine AA (fun i x1=>x1=(i:Int)/\¬Au2 h i) h.Laws.n _ (by omega) ⟨rfl,fun⟨u,v,_,d,_⟩=>absurd d (by omega)⟩ ?_;rintro a3 i x1 hle2 ⟨rfl,t⟩ a4;by_cases a:i<h.Laws.n
 ·refine ifT (by simp;omega) ?_;refine AA (fun k x5=>x5=(k:Int)/\∀u,u<k->(h.Laws.g u).Name≠(h.Laws.g i).Name) i _ (by omega) ⟨rfl,fun u hu=>absurd hu (by omega)⟩ ?_;rintro a5 k x5 hk ⟨rfl,x⟩ a6;by_cases z:k<i
  ·refine ifT (by simp;omega) (ifT (by omega) ?_);rw[AC6,AC6];by_cases e:(h.Laws.g k).Name=(h.Laws.g i).Name
   ·exact ifT (by simp[e]) ⟨6,rfl,by unfold hres;rw[if_neg (fun k=>k ht),if_neg f,if_neg w,if_pos ⟨k,i,z,a,e⟩]⟩
   ·refine ifF (by simp;exact fun g=>e g.symm) (a6 z _ ⟨B4 (by omega),fun u hu=>?_⟩);by_cases e2:u=k
    ·subst e2;exact e
    ·exact x u (by omega)
  ·refine ifF (by simp;omega) (a4 a _ ⟨B4 (by omega),fun⟨u,v,a7,d,hn⟩=>?_⟩);by_cases e:v=i
   ·subst e;exact x u (by omega) hn
   ·exact t ⟨u,v,a7,by omega,hn⟩
 obtain rfl:i=h.Laws.n:=by omega
 refine ifF (by simp) ?_;by_cases b:h.On.n=h.Tree.n
 case neg=>exact ifT (by simp;omega) ⟨2,rfl,by unfold hres;rw[if_neg (fun k=>k ht),if_neg f,if_neg w,if_neg t,if_pos b]⟩
 refine ifF (by simp[b]) ?_;have h63:=ht.2.1;refine AA (fun i x1=>x1=(i:Int)/\∀v,v<i->¬ 64<(E7 h v).n) h.On.n _ (by omega) ⟨rfl,fun v d=>absurd d (by omega)⟩ ?_;rintro a8 i x1 hle3 ⟨rfl,a0⟩ a9;by_cases a:i<h.On.n
 ·refine ifT (by simp;omega) (B0 (FH q ht b N i (by omega) (by omega)) ?_);by_cases hg:64<(E7 h i).n
  ·exact ifT (by simp;omega) ⟨2,rfl,DU ht l t b (.inl ⟨⟨i,a,hg⟩,rfl⟩)⟩
  ·refine ifF (by simp;omega) (a9 a _ ⟨B4 (by omega),fun v d=>?_⟩);by_cases e:v=i
   ·subst e;exact hg
   ·exact a0 v (by omega)
 refine ifF (by simp;omega) ?_;have m:¬Tx h:=fun⟨v,d,g⟩=>a0 v (by omega) g;refine AA (fun i x1=>x1=(i:Int)/\∀v,v<i->¬As2 h v) h.On.n _ (by omega) ⟨rfl,fun v d=>absurd d (by omega)⟩ ?_;rintro b0 i x1 hle4 ⟨rfl,a1⟩ b1;by_cases c:i<h.On.n
 ·have hl:=q.len i c;refine ifT (by simp;omega) ?_;refine AA (fun k x1=>x1=(k:Int)/\∀j,j<k->¬((h.On.g i).g j<0 \/ (h.Laws.n:Int)<=(h.On.g i).g j)) (h.On.g i).n _ (by omega) ⟨rfl,fun j s=>absurd s (by omega)⟩ ?_;rintro b2 k x1 hk ⟨rfl,a2⟩ b3;refine ifT (by omega) ?_;rw[AC6,AC6];by_cases o:k<(h.On.g i).n
  ·refine ifT (by simp;omega) (ifT (by omega) ?_);by_cases g1:(h.On.g i).g k<0
   ·exact ifT (by simpa using g1) ⟨3,rfl,DU ht l t b (.inr (.inl ⟨m,⟨i,c,k,o,.inl g1⟩,rfl⟩))⟩
   refine ifF (by simpa using g1) (ifT (by omega) ?_);by_cases g2:(h.Laws.n:Int)<=(h.On.g i).g k
   ·exact ifT (by simpa using g2) ⟨3,rfl,DU ht l t b (.inr (.inl ⟨m,⟨i,c,k,o,.inr g2⟩,rfl⟩))⟩
   refine ifF (by simpa using g2) (b3 o _ ⟨B4 (by omega),fun j s=>?_⟩);by_cases e:j=k
   ·subst e;exact fun g=>g.elim g1 g2
   ·exact a2 j (by omega)
  ·refine ifF (by simp;omega) (b1 c _ ⟨B4 (by omega),fun v d=>?_⟩);by_cases e:v=i
   ·subst e;exact fun⟨j,s,g⟩=>a2 j (by omega) g
   ·exact a1 v (by omega)
 ·exact ifF (by simp;omega) ⟨0,rfl,DU ht l t b (.inr (.inr ⟨m,fun v d=>a1 v (by omega),rfl⟩))⟩
end Go.AM
namespace Go.AM
open IntKind (wrap)
open Go.Proofs
def US (t:Sl F0)(v:Nat):List Nat:=
 if hp:0<=(t.g v).Parent/\(t.g v).Parent<v then US t (t.g v).Parent.toNat++[v]else [v]
termination_by v
decreasing_by omega
theorem FI {t:Sl F0}{v:Nat}(a:(t.g v).Parent<0):US t v=[v]:=by rw[US,dif_neg (by omega)]
theorem LK {t:Sl F0}{v p:Nat}(a:(t.g v).Parent=(p:Int))(hp:p<v):US t v=US t p++[v]:=by rw[US,dif_pos (by omega),a,AC6]
theorem Ty {t:Sl F0}(ht:X9 t):∀(m v:Nat),v<=m->v<t.n->∀x∈US t v,x<=v
 |m,v,hm,hv,x,hx=>by
  rcases I8 ht hv with⟨_,e⟩ | ⟨p,hp,e⟩
  ·rw[FI (by omega)]at hx;simp at hx;omega
  ·rw[LK e hp]at hx;rcases List.mem_append.1 hx with hx|hx
   ·match m with
    |0=>omega
    |m+1=>have:=Ty ht m p (by omega) (by omega) x hx;omega
   ·simp at hx;omega
theorem Ae3 {α : Type}{x:Sl α}{m:Nat}(h:x.n=m+1):x.toList.reverse=x.g m::(x.take m).toList.reverse:=by unfold Sl.toList;rw[h,AM4,AP1,AL0];rfl
theorem UT {x2:Sl Int}(hx:x2.n<100000):∀(k M:Nat),k<=x2.n->k<M->R9 M (fun (a:Int->Option (List Int)) (x3:Int)=>
 if (decide (0<=x3)) then
  if (((0:Int)<=x3/\x3<(x2.n:Int))/\x3.toNat<x2.n)then
   Bb (x2.g x3.toNat) (
    a (wrap .i64 (x3-1))
    )
  else none
 else
  some []
 ) ((k:Int)-1)=some (x2.take k).toList.reverse
 |0,M,hk,hM=>by obtain⟨M,rfl⟩:∃K,M=K+1:=⟨M-1,by omega⟩;rw[AI,if_neg (by simp)];rfl
 |k+1,M,hk,hM=>by obtain⟨M,rfl⟩:∃K,M=K+1:=⟨M-1,by omega⟩;rw[show ((k+1:Nat):Int)-1=(k:Int) by omega,AI,if_pos (by simp),if_pos ⟨by omega,by omega⟩,D7 (by omega) (by omega),UT hx k M (by omega) (by omega),AC6,Ae3 (x:=x2.take (k+1)) (m:=k) rfl];rfl
theorem YI {N:Nat}(j:3000000<=N){t:Sl F0}(ht:X9 t){v:Nat}(f:v<t.n):K3 N (v:Int) t=some ((US t v).map fun (x:Nat)=>(x:Int)):=by
 have i:=ht.2.1;have key:∀(m c:Nat) (x2:Sl Int) (M:Nat),c<m->c<t.n->m+1<M->x2.n+c<=1000->∃y:Sl Int,y.n<=1001/\y.toList.reverse=((US t c).map fun (x:Nat)=>(x:Int))++x2.toList.reverse /\
  S5 M (fun (a:Int->Sl Int->Option (List Int)) (x1:Int) (x2:Sl Int)=>
  if (decide (0<=x1)) then
   if (((x2.n+(Sl.of [x1]:Sl Int).n)*8<=140737488355328/\x2.n+(Sl.of [x1]:Sl Int).n<=140737488355328)/\((0:Int)<=x1/\x1<(t.n:Int)))then
    a (t.g x1.toNat).Parent (x2.push x1)
   else none
  else
   R9 N (fun b (x3:Int)=>
    if (decide (0<=x3)) then
     if (((0:Int)<=x3/\x3<(x2.n:Int))/\x3.toNat<x2.n)then
      Bb (x2.g x3.toNat) (
       b (wrap .i64 (x3-1))
       )
     else none
    else
     some []
    ) (wrap .i64 ((x2.n:Int)-1))
  ) (c:Int) x2=some y.toList.reverse:=by
  intro m
  induction m with
  |zero=>exact fun c _ _ h=>absurd h (by omega)
  |succ m ih=>
   intro c x2 M hc d l hx;obtain⟨M,rfl⟩:∃K,M=K+1:=⟨M-1,by omega⟩;rw[J8,if_pos (by simp),if_pos ⟨by show (x2.n+1)*8<=_/\x2.n+1<=_;omega,by omega⟩,AC6];rcases I8 ht d with⟨_,e⟩ | ⟨p,hp,e⟩
   ·obtain⟨M,rfl⟩:∃K,M=K+1:=⟨M-1,by omega⟩;refine⟨x2.push (c:Int),by show x2.n+1<=_;omega,by rw[YC,AL0,FI (by omega)];rfl,?_⟩;rw[e,J8,if_neg (by decide)];have hb:=UT (x2:=x2.push (c:Int)) (by show x2.n+1<_;omega) (x2.n+1) N (AD3 _) (by omega);rw[D7 (by show _<=((x2.n+1:Nat):Int)-1;omega) (by show ((x2.n+1:Nat):Int)-1<=_;omega)];exact hb
   ·obtain⟨y,y1,y2,y3⟩:=ih p (x2.push (c:Int)) M (by omega) (by omega) (by omega) (by show x2.n+1+p<=_;omega);refine⟨y,y1,?_,by rw[e];exact y3⟩;rw[y2,YC,AL0,LK e hp,AP1,AP4];rfl
 obtain⟨y,_,y2,y3⟩:=key (v+1) v (Sl.nil:Sl Int) N (by omega) f (by omega) (by show 0+v<=_;omega);unfold K3;rw[y3,y2];show some (_++[])=_;rw[AK8]
def As3 (h:A5)(L:List Nat)(z:Sl Int):Sl Int:=L.foldl (fun z x=>z.app (h.On.g x)) z
theorem RC {h:A5}(ht:X9 h.Tree):∀(m v:Nat),v<=m->v<h.Tree.n->As3 h (US h.Tree v) (Sl.nil:Sl Int)=E7 h v
 |m,v,hm,hv=>by
  rcases I8 ht hv with⟨_,e⟩ | ⟨p,hp,e⟩
  ·rw[FI (by omega),X8 (by omega)];rfl
  ·rw[LK e hp,AW e hp]
   match m with
   |0=>omega
   |m+1=>
    have:=RC ht m p (by omega) (by omega)
    unfold As3 at this⊢;rw[List.foldl_append,this];rfl
theorem RD {h:A5}(c:U0 h):∀(L:List Nat) (z:Sl Int),(∀x∈L,x<h.On.n)->z.n+L.length*1100000<=10000000000 ->
 P4 (L.map fun (x:Nat)=>(x:Int)) (fun (a:Sl Int->Option ((Sl Int)×Int)) (x1:Int) (z1:Sl Int)=>
  if (((0:Int)<=x1/\x1<(h.On.n:Int))/\((z1.n+(h.On.g x1.toNat).n)*8<=140737488355328/\z1.n+(h.On.g x1.toNat).n<=140737488355328))then
   a (z1.app (h.On.g x1.toNat))
  else none
  ) (fun (z1:Sl Int)=>
   some (z1,0)
  ) z=some (As3 h L z,0)
 |[],z,_,_=>rfl
 |x::L,z,hx,hz=>by have b:=hx x (by simp);have hl:=c.len x b;simp only[AF8,AO3]at hz;rw[AF6,P4,AC6,if_pos ⟨by omega,by omega⟩];exact RD c L _ (fun y hy=>hx y (by simp[hy])) (by show z.n+(h.On.g x).n+_<=_;omega)
theorem UU {t:Sl F0}(ht:X9 t):∀(m v:Nat),v<=m->v<t.n->(US t v).length<=v+1
 |m,v,hm,hv=>by
  rcases I8 ht hv with⟨_,e⟩ | ⟨p,hp,e⟩
  ·rw[FI (by omega)];simp
  ·rw[LK e hp]
   match m with
   |0=>omega
   |m+1=>have:=UU ht m p (by omega) (by omega);simp;omega
theorem UV {N:Nat}(g:3000000<=N){h:A5}(d:U0 h)(v:Int) :∃s e,J5 N h v=some (s,e)/\FX N h v=some (s,e)/\((e=0/\Ay N h/\0<=v/\v<h.Tree.n/\s=E7 h v.toNat) \/ (e≠0/\s=(Sl.nil:Sl Int))):=by
 unfold J5 FX;rw[DW g d,HY g d,AD1,AD1];by_cases f:hres N h=0
 case neg=>
  have b:(hres N h != 0)=true:=by simpa using f
  rw[if_pos b,if_pos b];exact⟨_,_,rfl,rfl,.inr ⟨f,rfl⟩⟩
 have a:=hres_zero.1 f;have c:¬(hres N h != 0)=true:=by simp[f]
 rw[if_neg c,if_neg c,Q2,IG,AD1,AD1];by_cases m:0<=v/\v<(h.Tree.n:Int)
 case neg=>
  have hb:(!((decide (0<=v))&&(decide (v<(h.Tree.n:Int)))))=true:=by simp;omega
  rw[if_pos hb,if_pos hb];exact⟨_,_,rfl,rfl,.inr ⟨by decide,rfl⟩⟩
 have hb:¬(!((decide (0<=v))&&(decide (v<(h.Tree.n:Int)))))=true:=by simp;omega
 rw[if_neg hb,if_neg hb,X6,AD1];obtain⟨u,rfl⟩:∃u:Nat,v=(u:Int):=⟨v.toNat,by omega⟩;have l:=a.tree.2.1;have hw:=YI g a.tree (v:=u) (by omega);have j:=UU a.tree u u (AD3 _) (by omega);have i:=RD d (US h.Tree u) (Sl.nil:Sl Int) (fun x hx=>by have:=Ty a.tree u u (AD3 _) (by omega) x hx;have:=a.on;omega) (by show 0+_<=_;omega);rw[FH d a.tree a.on N u (by omega) (by omega),AD1];refine⟨E7 h u,0,?_,rfl,.inl ⟨rfl,a,by omega,by omega,by rw[AC6]⟩⟩;show (K3 N (u:Int) h.Tree).bind _=_;rw[hw,AD1,i,RC a.tree u u (AD3 _) (by omega)]
theorem Ps {N:Nat}{h:A5}(a:Ay N h):∀(m v:Nat),v<=m->v<h.Tree.n->∀i,i<(E7 h v).n->0<=(E7 h v).g i/\(E7 h v).g i<h.Laws.n
 |m,v,hm,hv,i,b=>by
  have Aj5:∀j,j<(h.On.g v).n->0<=(h.On.g v).g j/\(h.On.g v).g j<h.Laws.n:=fun j c=>by
   have:=a.bad v (by have:=a.on;omega)
   constructor
   ·exact Int.not_lt.1 fun g=>this ⟨j,c,.inl g⟩
   ·exact Int.not_le.1 fun g=>this ⟨j,c,.inr g⟩
  rcases I8 a.tree hv with⟨_,e⟩ | ⟨p,hp,e⟩
  ·rw[X8 (by omega)]at b⊢;have b:i<0+(h.On.g v).n:=b
   have:((Sl.nil:Sl Int).app (h.On.g v)).g i=(h.On.g v).g i:=by show (if i<0 then (default:Int)else (h.On.g v).g (i-0))=_;rw[if_neg (by omega)];rfl
   rw[this];exact Aj5 i (by omega)
  ·rw[AW e hp]at b⊢;have b:i<(E7 h p).n+(h.On.g v).n:=b;show 0<=(if i<(E7 h p).n then (E7 h p).g i else (h.On.g v).g (i-(E7 h p).n))/\(if i<(E7 h p).n then (E7 h p).g i else (h.On.g v).g (i-(E7 h p).n))<_;split
   ·match m with
    |0=>omega
    |m+1=>exact Ps a m p (by omega) (by omega) i (by assumption)
   ·exact Aj5 _ (by omega)
theorem GU:∀(d:Nat) (p:Pat),okP d p->∀M,100+d<=M->∃q,O0 M p=some q/\PE p q
 |0,p,h,M,_=>h.elim
 |d+1,p,h,0,hM=>by omega
 |d+1,p,h,M+1,hM=>by
  show ∃q,O6 (O0 M) M p=some q/\_;unfold O6;have hn:=h.1;refine N2 (fun i (x1:Sl Pat) x2=>x2=(i:Int)/\x1.n=i/\∀j,j<i->PE (p.L.g j) (x1.g j)) p.L.n _ (by omega) ⟨rfl,rfl,fun j a=>absurd a (by omega)⟩ ?_;rintro c i x1 x2 f ⟨rfl,hx,a⟩ hs;by_cases hl:i<p.L.n
  ·obtain⟨q,q1,q2⟩:=GU d (p.L.g i) (h.2.2 i hl) M (by omega);refine ifT (by simp;omega) (ifT (by omega) (B0 (by rw[AC6];exact q1) (ifT (by show (x1.n+1)*64<=_/\x1.n+1<=_;omega) (hs hl _ _ ⟨B4 (by omega),by show x1.n+1=_;omega,fun j b=>?_⟩))));show PE _ (if j<x1.n then x1.g j else q);by_cases e:j=i
   ·subst e;rw[if_neg (by omega)];exact q2
   ·rw[if_pos (by omega)];exact a j (by omega)
  ·exact ifF (by simp;omega) ⟨_,rfl,PE_of.2 ⟨rfl,rfl,rfl,rfl,rfl,by show x1.n=_;omega,fun j b=>a j (by omega)⟩⟩
theorem Wo {N:Nat}(d:3000000<=N){l:Law}(hl:HX l)(hc:chkAll N l):∃l',P2 N l=some l' /\ LE l l':=by have a:=hc.f hl;obtain⟨_,h1,b,g,c,_⟩:=a;have i:=c.1;obtain⟨q1,e1,g1⟩:=GU 40 l.Left (LA 40 _ (by omega) h1 _ (by simp)) N (by omega);obtain⟨q2,e2,g2⟩:=GU 40 l.Right (LA 40 _ (by omega) b _ (by simp)) N (by omega);unfold P2 A3 F3;rw[e1,e2,AD1,AD1,if_pos (by omega),AD1,if_pos (by omega)];exact⟨_,rfl,rfl,g1,g2,SE.refl _,SE.refl _,rfl⟩
theorem JT {N:Nat}(m:3000000<=N){h:A5}(o:U0 h)(c:Ay N h){l:Sl Int}(hn:l.n<1000000)(hl:∀i,i<l.n->0<=l.g i/\l.g i<h.Laws.n) :∃s,F8 N h l=some s/\s.n=l.n/\∀i,i<l.n->LE (h.Laws.g (l.g i).toNat) (s.g i):=by
 unfold F8;refine N2 (fun i (x1:Sl Law) x2=>x2=(i:Int)/\x1.n=i/\∀j,j<i->LE (h.Laws.g (l.g j).toNat) (x1.g j)) l.n _ (by omega) ⟨rfl,rfl,fun j b=>absurd b (by omega)⟩ ?_;rintro f i x1 x2 hle ⟨rfl,hx,b⟩ hs;by_cases a:i<l.n
 ·have r:=hl i a;obtain⟨q,q1,q2⟩:=Wo m (o.laws (l.g i).toNat (by omega)) (c.laws.2 (l.g i).toNat (by omega));refine ifT (by simp;omega) ?_;rw[AC6];refine ifT ⟨by omega,r⟩ (B0 q1 (ifT (by show (x1.n+1)*200<=_/\x1.n+1<=_;omega) (hs a _ _ ⟨B4 (by omega),by show x1.n+1=_;omega,fun j d=>?_⟩)));show LE _ (if j<x1.n then x1.g j else q);by_cases e:j=i
  ·subst e;rw[if_neg (by omega)];exact q2
  ·rw[if_pos (by omega)];exact b j (by omega)
 ·exact ifF (by simp;omega) ⟨_,rfl,by omega,fun j d=>b j (by omega)⟩
def FJ (h:A5)(l:Sl Int):Sl Law:=⟨l.n,fun i=>h.Laws.g (l.g i).toNat⟩
theorem Ae4 {N:Nat}(q:3000000<=N){h:A5}(b:U0 h)(v:Int) :∃s s' e,T3 N h v=some (s,e)/\Nw N h v=some (s',e)/\LS s' s/\((e=0/\Ay N h/\0<=v/\v<h.Tree.n/\SE s' (FJ h (E7 h v.toNat))) \/ (e≠0/\s.n=0)):=by
 obtain⟨l,e,h1,w,t⟩:=UV q b v;unfold T3 Nw;rw[h1,w,AD1,AD1];have hl:l.n<1000000/\(∀i,i<l.n->0<=l.g i/\l.g i<h.Laws.n)/\∃s,F8 N h l=some s/\s.n=l.n/\∀i,i<l.n->LE (h.Laws.g (l.g i).toNat) (s.g i):=by
  rcases t with⟨_,a,g1,g2,rfl⟩ | ⟨_,rfl⟩
  ·have x:(E7 h v.toNat).n<=64:=AL3 fun g=>a.long ⟨v.toNat,by have:=a.on;omega,g⟩;have f:=Ps a v.toNat v.toNat (AD3 _) (by omega);exact⟨by omega,f,JT q b a (by omega) f⟩
  ·refine⟨by show 0<_;omega,fun i b=>absurd b (AF7 i),(Sl.nil:Sl Law),?_,rfl,fun i b=>absurd b (AF7 i)⟩;unfold F8;obtain⟨M,rfl⟩:∃K,N=K+1:=⟨N-1,by omega⟩;rw[J8,if_neg (by show ¬decide ((0:Int)<((0:Nat):Int))=true;decide)]
 obtain⟨hn,y,s,s1,s2,s3⟩:=hl;have z:∃r,(S5 N (fun (c:Sl Law->Int->Option ((Sl Law)×Int)) (x1:Sl Law) (x2:Int)=>
  if (decide (x2<(l.n:Int))) then
   if ((((0:Int)<=x2/\x2<(l.n:Int))/\x2.toNat<l.n)/\((0:Int)<=(l.g x2.toNat)/\(l.g x2.toNat)<(h.Laws.n:Int)))then
    if ((x1.n+(Sl.of [h.Laws.g (l.g x2.toNat).toNat]:Sl Law).n)*200<=140737488355328/\x1.n+(Sl.of [h.Laws.g (l.g x2.toNat).toNat]:Sl Law).n<=140737488355328)then
     c (x1.push (h.Laws.g (l.g x2.toNat).toNat)) (wrap .i64 (x2+1))
    else none
   else none
  else
   some (x1,e)
  ) (Sl.nil:Sl Law) 0)=some r/\r.2=e/\r.1.n=l.n/\∀i,i<l.n->r.1.g i=h.Laws.g (l.g i).toNat:=by
  refine N2 (fun i (x1:Sl Law) x2=>x2=(i:Int)/\x1.n=i/\∀j,j<i->x1.g j=h.Laws.g (l.g j).toNat) l.n _ (by omega) ⟨rfl,rfl,fun j m=>absurd m (by omega)⟩ ?_;rintro u i x1 x2 hle ⟨rfl,hx,m⟩ hs;by_cases d:i<l.n
  ·refine ifT (by simp;omega) ?_;rw[AC6];refine ifT ⟨⟨by omega,d⟩,y i d⟩ (ifT (by show (x1.n+1)*200<=_/\x1.n+1<=_;omega) (hs d _ _ ⟨B4 (by omega),by show x1.n+1=_;omega,fun j o=>?_⟩));show (if j<x1.n then x1.g j else _)=_;by_cases e:j=i
   ·subst e;rw[if_neg (by omega)]
   ·rw[if_pos (by omega)];exact m j (by omega)
  ·exact ifF (by simp;omega) ⟨_,rfl,rfl,by show x1.n=_;omega,fun j o=>m j (by omega)⟩
 obtain⟨⟨s',e'⟩,d1,d2,d3,d4⟩:=z;dsimp only at d2 d3 d4;subst d2;rw[s1,AD1];refine⟨s,s',_,rfl,d1,⟨by omega,fun i b=>by rw[d4 i (by omega)];exact s3 i (by omega)⟩,?_⟩;rcases t with⟨g0,a,g1,g2,rfl⟩ | ⟨g0,rfl⟩
 ·exact .inl ⟨g0,a,g1,g2,d3,fun i b=>d4 i (by omega)⟩
 ·exact .inr ⟨g0,s2⟩
end Go.AM
namespace Go.AM
open Go.Proofs
def ME (N:Nat)(l:Law)(w:Sl Sound):Option (Sl Sound):=(Q1 N l w).bind fun y=>if y.2=0 then some y.1 else none
def AX (N:Nat):List Law->Sl Sound->Option (Sl Sound)
 |[],w=>some w
 |l::L,w=>(ME N l w).bind (AX N L)
theorem LL {N:Nat}:∀(A B:List Law) (w:Sl Sound),AX N (A++B) w=(AX N A w).bind (AX N B)
 |[],B,w=>rfl
 |l::A,B,w=>by
  show (ME N l w).bind (AX N (A++B))=((ME N l w).bind (AX N A)).bind (AX N B);cases ME N l w with
  |none=>rfl
  |some v=>exact LL A B v
def Wp (N:Nat)(l:Law):Prop:=HX l/\chkAll N l
theorem Ae5 {N:Nat}{l l' : Law}(h:LE l l')(g:Wp N l):Wp N l':=⟨JS h g.1,(DT h).1 g.2⟩
def OR (o o' : Option (Sl Sound)):Prop:=(o=none/\o' = none) \/ ∃v v',o=some v/\o' = some v' /\ SE v v' /\ wOk v
theorem Tz {N:Nat}(a:3000000<=N){l:Law}(hl:Wp N l){w:Sl Sound}(hw:wOk w):(∃v,Q1 N l w=some (v,0)/\ME N l w=some v/\wOk v) \/ (∃v,Q1 N l w=some (v,11)/\ME N l w=none):=by
 obtain⟨⟨v,e⟩,_,h1,_,_,_,b⟩:=LH a hl.1 (LE.refl l) (SE.refl w) fun i c=>(hw.2 i c).ok;rcases b with⟨_,h⟩ | ⟨_,h,h'⟩ | ⟨_,_,h|⟨h,h'⟩⟩
 ·exact absurd hl.2 h
 ·exact absurd ((BG h).2 hw) h'
 ·dsimp only at h;subst h;exact .inr ⟨v,h1,by unfold ME;rw[h1];rfl⟩
 ·dsimp only at h h';subst h;exact .inl ⟨v,h1,by unfold ME;rw[h1];rfl,h'⟩
theorem AB0 {N:Nat}(c:3000000<=N){l l' : Law}(hl:Wp N l)(hle:LE l l'){w w' : Sl Sound}(hw:wOk w)(a:SE w w'):OR (ME N l w) (ME N l' w'):=by
 have b:=a.wOk hw;obtain⟨r,r',h1,g,j,f,_⟩:=LH c hl.1 hle a fun i d=>(hw.2 i d).ok;obtain⟨q,q',k1,k2,k3,k4,_⟩:=LH c (JS hle hl.1) (LE.refl l') (SE.refl w') fun i d=>(b.2 i d).ok;obtain rfl:=AE1 (g.symm.trans k2);rcases Tz c hl hw with⟨v,g1,g2,g3⟩ | ⟨v,g1,g2⟩<;>rcases Tz c (Ae5 hle hl) b with⟨u,p1,p2,p3⟩ | ⟨u,p1,p2⟩
 ·obtain rfl:=AE1 (g1.symm.trans h1);obtain rfl:=AE1 (p1.symm.trans k1);exact .inr ⟨v,u,g2,p2,j.trans k3.symm,g3⟩
 ·obtain rfl:=AE1 (g1.symm.trans h1);obtain rfl:=AE1 (p1.symm.trans k1);exact absurd (f.trans k4.symm) (by show ¬((0:Int)=11);decide)
 ·obtain rfl:=AE1 (g1.symm.trans h1);obtain rfl:=AE1 (p1.symm.trans k1);exact absurd (f.trans k4.symm) (by show ¬((11:Int)=0);decide)
 ·exact .inl ⟨g2,p2⟩
def LEs:List Law->List Law->Prop
 |[],[]=>True
 |p::l,q::m=>LE p q/\LEs l m
 |_,_=>False
theorem UW {N:Nat}(a:3000000<=N):∀(L L' : List Law) (w w' : Sl Sound),(∀l∈L,Wp N l)->LEs L L' -> wOk w->SE w w' -> OR (AX N L w) (AX N L' w')
 |[],[],w,w',_,_,hw,hse=>.inr ⟨w,w',rfl,rfl,hse,hw⟩
 |l::L,l' :: L',w,w',hg,⟨h1,h2⟩,hw,hse=>by
  unfold AX;rcases AB0 a (hg l (by simp)) h1 hw hse with⟨e1,e2⟩ | ⟨v,v',e1,e2,e3,e4⟩
  ·rw[e1,e2];exact .inl ⟨rfl,rfl⟩
  ·rw[e1,e2];exact UW a L L' v v' (fun x hx=>hg x (by simp[hx])) h2 e4 e3
 |[],_::_,_,_,_,h,_,_=>h.elim
 |_::_,[],_,_,_,h,_,_=>h.elim
theorem RE {f g:Nat->Law}:∀(l:List Nat),(∀i∈l,LE (f i) (g i))->LEs (l.map f) (l.map g)
 |[],_=>trivial
 |i::l,h=>⟨h i (by simp),RE l fun j a=>h j (by simp[a])⟩
theorem LS.s {s t:Sl Law}(h:LS s t):LEs s.toList t.toList:=by unfold Sl.toList;rw[<- h.1];exact RE _ fun i a=>h.2 i (AJ1.1 a)
theorem TA {N:Nat}{laws:Sl Law}(hl:FG laws)(b:EU N laws):∀l∈laws.toList,Wp N l:=by intro l h;obtain⟨i,a,rfl⟩:=AK1.1 h;have a:=AJ1.1 a;exact⟨hl i a,b.2 i a⟩
theorem TB {N:Nat}(f:3000000<=N){laws:Sl Law}(hl:FG laws)(c:EU N laws):∀(m i:Nat) (w:Sl Sound),wOk w->i<=laws.n->laws.n<=i+m ->
 (∃L,(∀M,m<M->S5 M (CY N 0 laws) w i=some L)/\AX N (laws.toList.drop i) w=some (Pn w L)/\wOk (Pn w L)) \/
 ((∃L,∀M,m<M->S5 M (CY N 0 laws) w i=none/\S5 M (CY N 11 laws) w i=some L)/\AX N (laws.toList.drop i) w=none):=by
 have b:=c.1;have fin:∀(m i:Nat) (w:Sl Sound),wOk w->i=laws.n->∃L,(∀M,m<M->S5 M (CY N 0 laws) w i=some L)/\AX N (laws.toList.drop i) w=some (Pn w L)/\wOk (Pn w L):=by rintro m i w hw rfl;refine⟨[],fun M d=>?_,by rw[CE];rfl,hw⟩;obtain⟨M,rfl⟩:∃K,M=K+1:=⟨M-1,by omega⟩;rw[J8,CY,if_neg (by simp),if_pos rfl]
 intro m
 induction m with
 |zero=>exact fun i w hw g hm=>.inl (fin 0 i w hw (by omega))
 |succ m ih=>
  intro i w hw g hm;by_cases a:i<laws.n
  case neg=>exact .inl (fin _ i w hw (by omega))
  rw[Ez _ a];rcases Tz f ⟨hl i a,c.2 i a⟩ hw with⟨v,g1,g2,g3⟩ | ⟨v,g1,g2⟩
  ·rcases ih (i+1) v g3 (by omega) (by omega)with⟨L,a1,a2,a3⟩ | ⟨⟨L,a1⟩,a2⟩
   ·refine .inl ⟨((i+1:Nat),v)::L,fun M d=>?_,by unfold AX;rw[g2];exact a2,a3⟩;obtain⟨M,rfl⟩:∃K,M=K+1:=⟨M-1,by omega⟩;rw[J8,CF a b g1,if_neg (by simp)];show Bb _ (S5 M (CY N 0 laws) v _)=_;rw[a1 M (by omega)];rfl
   ·refine .inr ⟨⟨((i+1:Nat),v)::L,fun M d=>?_⟩,by unfold AX;rw[g2];exact a2⟩;obtain⟨M,rfl⟩:∃K,M=K+1:=⟨M-1,by omega⟩;obtain⟨b1,b2⟩:=a1 M (by omega);rw[J8,J8,CF a b g1,CF a b g1,if_neg (by simp),if_neg (by simp)];refine⟨?_,?_⟩
    ·show Bb _ (S5 M (CY N 0 laws) v _)=_;rw[b1];rfl
    ·show Bb _ (S5 M (CY N 11 laws) v _)=_;rw[b2];rfl
  ·refine .inr ⟨⟨[],fun M d=>?_⟩,by unfold AX;rw[g2];rfl⟩;obtain⟨M,rfl⟩:∃K,M=K+1:=⟨M-1,by omega⟩;rw[J8,J8,CF a b g1,CF a b g1];exact⟨rfl,rfl⟩
theorem GV {N:Nat}(g:3000000<=N){laws:Sl Law}(hl:FG laws)(d:EU N laws){w:Sl Sound}(hw:wOk w) :(∃v,AX N laws.toList w=some v/\F7 N laws w=some (v,0)/\wOk v) \/ (AX N laws.toList w=none/\F7 N laws w=some ((Sl.nil:Sl Sound),11)):=by
 have j:=d.1;have l:=hw.1;obtain⟨e,e1,m⟩:=Tv g hl (w:=w) fun i o=>(hw.2 i o).ok
 have:e=0:=by
  rcases m with⟨h,h'⟩ | ⟨_,h⟩
  ·exact NG h (lawsE_zero.2 d)
  ·exact (BG h).2 hw
 subst this;have b:A3 N w=some w:=by unfold A3;rw[if_pos (by omega)]
 have a:∀c,E3 N c laws w=(Bb (0,w) (S5 N (CY N c laws) w 0)).bind fun L1=>P4 L1 (fun (f:Sl Sound->Option (Sl Sound)) (x1:Int×(Sl Sound)) (z1:Sl Sound)=>f x1.2) (fun (z1:Sl Sound)=>some z1) (Sl.nil:Sl Sound):=by intro c;unfold E3 Bp Ag;rw[AD1,b,AD1];rfl
 unfold F7;rw[e1,AD1,if_neg (by decide)];rcases TB g hl d laws.n 0 w hw (by omega) (by omega)with⟨L,g1,g2,g3⟩ | ⟨⟨L,g1⟩,g2⟩
 ·have g1:S5 N (CY N 0 laws) w 0=some L:=g1 N (by omega)
  have:K9 N laws w=some (Pn w L,true):=by
   have e0:E3 N 0 laws w=some (Pn w L):=by rw[a,g1];exact Po _ _
   unfold K9;rw[e0]
  rw[this];exact .inl ⟨_,g2,rfl,g3⟩
 ·obtain⟨g3,g4⟩:=g1 N (by omega);have g3:S5 N (CY N 0 laws) w 0=none:=g3;have g4:S5 N (CY N 11 laws) w 0=some L:=g4
  have:K9 N laws w=some ((Sl.nil:Sl Sound),false):=by
   have e0:E3 N 0 laws w=none:=by rw[a,g3];rfl
   have e11:E3 N 11 laws w=some (Pn w L):=by rw[a,g4];exact Po _ _
   unfold K9;rw[e0,e11];rfl
  rw[this];exact .inr ⟨g2,rfl⟩
def TC (h:A5)(L:List Nat):List Law:=L.flatMap fun x=>(FJ h (h.On.g x)).toList
theorem Pt {h:A5}(b:U0 h){l:Sl Int}(hl:∀i,i<l.n->0<=l.g i/\l.g i<h.Laws.n):FG (FJ h l):=fun i a=>b.laws _ (by have:=hl i a;omega)
theorem Pu {N:Nat}{h:A5}(a:Ay N h){l:Sl Int}(hn:l.n<=64)(hl:∀i,i<l.n->0<=l.g i/\l.g i<h.Laws.n):EU N (FJ h l):=⟨hn,fun i b=>a.laws.2 _ (by have:=hl i b;omega)⟩
theorem Wq {N:Nat}{h:A5}(a:Ay N h){x:Nat}(hx:x<h.Tree.n):(h.On.g x).n<=64/\∀i,i<(h.On.g x).n->0<=(h.On.g x).g i/\(h.On.g x).g i<h.Laws.n:=by
 have c:=a.on;refine⟨?_,fun j b=>?_⟩
 ·have hl:(E7 h x).n<=64:=AL3 fun g=>a.long ⟨x,by omega,g⟩;rcases I8 a.tree hx with⟨_,e⟩ | ⟨p,hp,e⟩
  ·rw[X8 (by omega)]at hl;have hl:0+(h.On.g x).n<=64:=hl;omega
  ·rw[AW e hp]at hl;have hl:(E7 h p).n+(h.On.g x).n<=64:=hl;omega
 ·have:=a.bad x (by omega)
  constructor
  ·exact Int.not_lt.1 fun g=>this ⟨j,b,.inl g⟩
  ·exact Int.not_le.1 fun g=>this ⟨j,b,.inr g⟩
theorem YJ {N:Nat}(t:3000000<=N){h:A5}(c:U0 h)(a:Ay N h):∀(L:List Nat) (z z' : Sl Sound),(∀x∈L,x<h.Tree.n)->wOk z->SE z z' ->
 ∃r,P4 (L.map fun (x:Nat)=>(x:Int)) (fun (d:Sl Sound->Option ((Sl Sound)×Int)) (x1:Int) (z1:Sl Sound)=>
  if ((0:Int)<=x1/\x1<(h.On.n:Int))then
   (F8 N h (h.On.g x1.toNat)).bind fun y8=>
   (F7 N y8 z1).bind fun y9=>
   if (y9.2 != 0) then
    some ((Sl.nil:Sl Sound),y9.2)
   else
    d y9.1
  else none
  ) (fun (z1:Sl Sound)=>
   some (z1,0)
  ) z=some r/\((∃v,AX N (TC h L) z' = some v/\r.2=0/\SE r.1 v/\wOk r.1) \/ (AX N (TC h L) z' = none/\r=((Sl.nil:Sl Sound),11)))
 |[],z,z',_,hz,hse=>⟨(z,0),rfl,.inl ⟨z',rfl,rfl,hse,hz⟩⟩
 |x::L,z,z',hx,hz,hse=>by
  have w:=hx x (by simp);have hon:=a.on;obtain⟨o1,o2⟩:=Wq a w;obtain⟨s,s1,s2,s3⟩:=JT t c a (l:=h.On.g x) (by omega) o2;have b:LS (FJ h (h.On.g x)) s:=⟨s2.symm,fun i c=>s3 i c⟩;have j:=Pt c o2;have m:=Pu a o1 o2;have o:=Pm b j;have q : EU N s:=⟨by omega,fun i c=>(DT (b.2 i (by rw[b.1];exact c))).1 (m.2 i (by rw[b.1];exact c))⟩;have hf:=UW t _ _ z' z (TA j m) b.s (hse.wOk hz) hse.symm;have f:AX N (TC h (x::L)) z' = (AX N (FJ h (h.On.g x)).toList z').bind (AX N (TC h L)):=by rw[<- LL];rfl
  rw[f,AF6,P4,if_pos (by omega),AC6,s1,AD1];rcases GV t o q hz with⟨v,d1,d2,d3⟩ | ⟨d1,d2⟩
  ·rw[d2,AD1,if_neg (by simp)];rcases hf with⟨_,f2⟩ | ⟨u,u',f1,f2,f3,f4⟩
   ·rw[d1]at f2;cases f2
   ·rw[d1]at f2;obtain rfl:=AE1 f2;rw[f1,AD1];exact YJ t c a L v u (fun y hy=>hx y (by simp[hy])) d3 f3.symm
  ·rw[d2,AD1,if_pos (by simp)];rcases hf with⟨f1,_⟩ | ⟨u,u',_,f2,_⟩
   ·rw[f1];exact⟨_,rfl,.inr ⟨rfl,rfl⟩⟩
   ·rw[d1]at f2;cases f2
end Go.AM
namespace Go.AM
open IntKind (wrap)
open Go.Proofs
theorem eqR {R:Type}{x:Option R}{y:R}(h:∃r,x=some r/\r=y):x=some y:=by obtain⟨r,h,rfl⟩:=h;exact h
def HZ (t:Sl F0)(v:Nat):Prop:=∀u,0<u->u<t.n->(t.g u).Parent≠(v:Int)
open Classical in
noncomputable def Y8 (t:Sl F0):Nat->Sl Int
 |0=>(Sl.nil:Sl Int)
 |i+1=>if HZ t i then (Y8 t i).push (i:Int)else Y8 t i
theorem FK {t:Sl F0}{i:Nat}(h:HZ t i):Y8 t (i+1)=(Y8 t i).push (i:Int):=if_pos h
theorem JU {t:Sl F0}{i:Nat}(h:¬HZ t i):Y8 t (i+1)=Y8 t i:=if_neg h
theorem Pv (t:Sl F0):∀i,(Y8 t i).n<=i
 |0=>AD3 0
 |i+1=>by
  have:=Pv t i
  by_cases h:HZ t i
  ·rw[FK h];show (Y8 t i).n+1<=i+1;omega
  ·rw[JU h];omega
theorem Pw (t:Sl F0):∀i k,k<(Y8 t i).n->∃v:Nat,v<i/\(Y8 t i).g k=(v:Int)
 |0,k,hk=>absurd hk (AF7 k)
 |i+1,k,hk=>by
  by_cases h:HZ t i
  ·rw[FK h]at hk⊢;have hk:k<(Y8 t i).n+1:=hk;show ∃v:Nat,v<i+1/\(if k<(Y8 t i).n then (Y8 t i).g k else (i:Int))=(v:Int);by_cases a:k<(Y8 t i).n
   ·rw[if_pos a];obtain⟨v,h1,b⟩:=Pw t i k a;exact⟨v,by omega,b⟩
   ·rw[if_neg a];exact⟨i,by omega,rfl⟩
  ·rw[JU h]at hk⊢;obtain⟨v,h1,b⟩:=Pw t i k hk;exact⟨v,by omega,b⟩
theorem Ae6 {N:Nat}(s:3000000<=N){t:Sl F0}(ht:X9 t):∃X,W1 N t=some X/\(X.n=t.n/\∀v,v<t.n->((X.g v).n=0↔HZ t v)):=by
 have o:=ht.2.1;unfold W1;refine ifT (by omega) (N2 (fun i x (X:Sl (Sl Int))=>x=(i:Int)/\X.n=t.n/\∀v,v<t.n->(((X.g v).n=0 ↔ ∀u,0<u->u<i->(t.g u).Parent≠(v:Int))/\(X.g v).n<=i)) t.n _ (by omega)
  ⟨rfl,rfl,fun v b=>⟨⟨fun _ u h1 a=>absurd a (AF7 u),fun _=>rfl⟩,AD3 0⟩⟩ ?_)
 rintro l i x X hle ⟨rfl,c,f⟩ hs;by_cases hl:i<t.n
 case neg=>
  obtain rfl:i=t.n:=by omega
  exact ifF (by simp) ⟨X,rfl,c,fun v b=>(f v b).1⟩
 refine ifT (by simpa using hl) (ifT (by omega) ?_);rw[AC6,B4 (by omega)];rcases I8 ht hl with⟨q,h1⟩ | ⟨p,hp,e⟩
 ·subst q;rw[h1];refine ifT (by show Int.toNat (-1)<X.n;rw[c];exact hl) (ltX (ifF (by simp) (hs hl _ _ ⟨rfl,c,fun v b=>?_⟩)));have e:(X.upd (Int.toNat (-1)) (X.g (Int.toNat (-1)))).g v=X.g v:=by
   show (if v=_ then X.g (Int.toNat (-1))else X.g v)=X.g v;split
   ·rename_i e;rw[e]
   ·rfl
  rw[e];obtain⟨g1,g2⟩:=f v b;exact⟨g1.trans ⟨fun _ u h1 a=>absurd a (by omega),fun _ u h1 a=>absurd a (by omega)⟩,by omega⟩
 ·rw[e,AC6];have j:p<t.n:=by omega
  have m:=(f p j).2;refine ifT (by omega) (ltX (ifT (by simp;omega) (ifT ⟨⟨by omega,by rw[c];omega⟩,by omega,by omega⟩ (hs hl _ _ ⟨rfl,c,fun v b=>?_⟩))));show ((if v=p then (X.g p).push (i:Int)else X.g v).n=0↔_)/\(if v=p then (X.g p).push (i:Int)else X.g v).n<=i+1;by_cases d:v=p
  ·subst d;rw[if_pos rfl];refine⟨⟨fun h=>absurd h (Nat.succ_ne_zero _),fun h=>absurd e (h i (by omega) (by omega))⟩,?_⟩;show (X.g v).n+1<=i+1;omega
  ·rw[if_neg d];obtain⟨g1,g2⟩:=f v b;refine⟨g1.trans ⟨fun h u h1 a=>?_,fun h u h1 a=>h u h1 (by omega)⟩,by omega⟩;by_cases r:u=i
   ·subst r;rw[e];omega
   ·exact h u h1 (by omega)
theorem AB1 {R:Type}{Q:R->Prop}{a:Sl Int->Int->Option R}{t:Sl F0}{i:Nat}(c:i<1000){b:Bool}(hb:b=true↔HZ t i)(h:∃r,a (Y8 t (i+1)) ((i+1:Nat):Int)=some r/\Q r) :∃r,(if b then
  if (((Y8 t i).n+(Sl.of [(i:Int)]:Sl Int).n)*8<=140737488355328/\(Y8 t i).n+(Sl.of [(i:Int)]:Sl Int).n<=140737488355328)then
   a ((Y8 t i).push (i:Int)) (wrap .i64 ((i:Int)+1))
  else none
  else a (Y8 t i) (wrap .i64 ((i:Int)+1)))=some r/\Q r:=by
 have hn:=Pv t i;rw[B4 (by omega)];by_cases hk:HZ t i
 ·rw[FK hk]at h;exact ifT (hb.2 hk) (ifT ⟨by show ((Y8 t i).n+1)*8<=_;omega,by show (Y8 t i).n+1<=_;omega⟩ h)
 ·rw[JU hk]at h;exact ifF (fun g=>hk (hb.1 g)) h
theorem TD {N:Nat}(c:3000000<=N){t:Sl F0}(ht:X9 t):∃r,AT N t=some r/\r=Y8 t t.n:=by
 have d:=ht.2.1;unfold AT;obtain⟨X,e,a,hk⟩:=Ae6 c ht;refine B0 e (N2 (fun i x1 x2=>x2=(i:Int)/\x1=Y8 t i) t.n _ (by omega) ⟨rfl,rfl⟩ ?_);rintro b i x1 x2 hle ⟨rfl,rfl⟩ hs;by_cases hl:i<t.n
 ·refine ifT (by rw[a];simpa using hl) (ifT (by omega) ?_);rw[AC6];exact AB1 (by omega) (by rw[<- hk i hl];simp) (hs hl _ _ ⟨rfl,rfl⟩)
 ·obtain rfl:i=t.n:=by omega
  exact ifF (by rw[a];simp) ⟨_,rfl,rfl⟩
theorem Ae7 {N:Nat}(l:3000000<=N){t:Sl F0}(ht:X9 t){v:Nat}(m:v<t.n):∃r,Dl N t (v:Int)=some r/\(r.n=0↔HZ t v):=by
 have f:=ht.2.1;unfold Dl;refine N2 (fun i (x1:Sl Int) x2=>x2=(i:Int)/\x1.n<=i/\(x1.n=0 ↔ ∀u,0<u->u<i->(t.g u).Parent≠(v:Int))) t.n _ (by omega) ⟨rfl,AD3 0,fun _ u h1 a=>absurd a (AF7 u),fun _=>rfl⟩ ?_;rintro b i x1 x2 hle ⟨rfl,hn,c⟩ hs;by_cases hl:i<t.n
 ·refine ifT (by simpa using hl) (ifT (by omega) ?_);rw[AC6,B4 (by omega)];by_cases hp:(t.g i).Parent=(v:Int)
  ·have d:0<i:=by
    rcases I8 ht hl with⟨d,h1⟩ | ⟨p,hp,e⟩
    ·rw[h1]at hp;omega
    ·omega
   refine ifT (by simpa using hp) (ifT ⟨by show (x1.n+1)*8<=_;omega,by show x1.n+1<=_;omega⟩ (hs hl _ _ ⟨rfl,by show x1.n+1<=i+1;omega,fun h=>absurd h (Nat.succ_ne_zero _),fun h=>absurd hp (h i d (by omega))⟩))
  ·refine ifF (by simpa using hp) (hs hl _ _ ⟨rfl,by omega,c.trans ⟨fun h u h1 a=>?_,fun h u h1 a=>h u h1 (by omega)⟩⟩);by_cases j:u=i
   ·subst j;exact hp
   ·exact h u h1 (by omega)
 ·obtain rfl:i=t.n:=by omega
  exact ifF (by simp) ⟨_,rfl,c⟩
theorem NH {N:Nat}(a:3000000<=N){t:Sl F0}(c:LJ t):∃s e,F4 N t=some (s,e)/\Jq N t=some (s,e)/\((X9 t/\e=0/\s=Y8 t t.n) \/ (¬X9 t/\e=16/\s=(Sl.nil:Sl Int))):=by
 obtain⟨e,e1,e2,d⟩:=Pr a c;unfold F4 Jq;rw[e1,e2,AD1,AD1];rcases d with⟨rfl,ht⟩ | ⟨rfl,ht⟩
 ·have f:=ht.2.1;rw[if_neg (by decide),if_neg (by decide)];obtain⟨r,g1,rfl⟩:=TD a ht;refine⟨_,0,by rw[g1];rfl,eqR (N2 (fun i x1 x2=>x2=(i:Int)/\x1=Y8 t i) t.n _ (by omega) ⟨rfl,rfl⟩ ?_),.inl ⟨ht,rfl,rfl⟩⟩;rintro b i x1 x2 hle ⟨rfl,rfl⟩ hs;by_cases hl:i<t.n
  ·refine ifT (by simpa using hl) ?_;obtain⟨r,k1,k2⟩:=Ae7 a ht hl;exact B0 k1 (AB1 (by omega) (by rw[<- k2];simp) (hs hl _ _ ⟨rfl,rfl⟩))
  ·obtain rfl:i=t.n:=by omega
   exact ifF (by simp) ⟨_,rfl,rfl⟩
 ·exact⟨_,16,if_pos (by decide),if_pos (by decide),.inr ⟨ht,rfl,rfl⟩⟩
end Go.AM
namespace Go.AM
open IntKind (wrap)
open Go.Proofs
def outR (o:Option (Sl Sound))(y:Sl Sound)(e:Int):Prop:=(∃x,o=some x/\e=0/\SE y x/\wOk y) \/ (o=none/\e=11/\y.n=0)
theorem YK {N:Nat}(q:3000000<=N){h:A5}(c:U0 h)(b:Ay N h){x:Nat}(r:x<h.Tree.n){z z' : Sl Sound}(t:wOk z)(d:SE z z') :∃s y,F8 N h (h.On.g x)=some s/\F7 N s z=some y/\outR (AX N (FJ h (h.On.g x)).toList z') y.1 y.2:=by
 have a0:=b.on;obtain⟨o1,o2⟩:=Wq b r;obtain⟨s,s1,s2,s3⟩:=JT q c b (l:=h.On.g x) (by omega) o2;have a:LS (FJ h (h.On.g x)) s:=⟨s2.symm,fun i c=>s3 i c⟩;have f:=Pt c o2;have j:=Pu b o1 o2;have m:=Pm a f;have o : EU N s:=⟨by omega,fun i c=>(DT (a.2 i (by rw[a.1];exact c))).1 (j.2 i (by rw[a.1];exact c))⟩;have w:=UW q _ _ z' z (TA f j) a.s (d.wOk t) d.symm;rcases GV q m o t with⟨v,d1,d2,d3⟩ | ⟨d1,d2⟩
 ·rcases w with⟨_,f2⟩ | ⟨u,u',f1,f2,f3,f4⟩
  ·rw[d1]at f2;cases f2
  ·rw[d1]at f2;obtain rfl:=AE1 f2;exact⟨s,_,s1,d2,.inl ⟨u,f1,rfl,f3.symm,d3⟩⟩
 ·rcases w with⟨f1,_⟩ | ⟨u,u',_,f2,_⟩
  ·exact⟨s,_,s1,d2,.inr ⟨f1,rfl,rfl⟩⟩
  ·rw[d1]at f2;cases f2
def DV (N:Nat)(h:A5)(w:Sl Sound)(v:Nat):Option (Sl Sound):=AX N (TC h (US h.Tree v)) w
theorem TE {N:Nat}{h:A5}{w:Sl Sound}{v:Nat}(a:(h.Tree.g v).Parent<0):DV N h w v=AX N (FJ h (h.On.g v)).toList w:=by unfold DV TC;rw[FI a];simp
theorem YL {N:Nat}{h:A5}{w:Sl Sound}{v p:Nat}(a:(h.Tree.g v).Parent=(p:Int))(hp:p<v):DV N h w v=(DV N h w p).bind (AX N (FJ h (h.On.g v)).toList):=by unfold DV;rw[LK a hp,<- LL];congr 1;unfold TC;simp
theorem Ae8 {N:Nat}(m:3000000<=N){h:A5}(q:U0 h)(a:Ay N h){w w' : Sl Sound}(hw:wOk w)(d:SE w w') :∃X,G2 N h w=some X/\(X.n=h.Tree.n/\∀v,v<h.Tree.n->outR (DV N h w' v) (X.g v).w (X.g v).e):=by
 have t:=a.tree.2.1;have u:=a.on;unfold G2;refine ifT (by omega) ?_;refine N2 (fun i (x1:Sl R4) x2=>x2=(i:Int)/\x1.n=h.Tree.n/\∀v,v<i->outR (DV N h w' v) (x1.g v).w (x1.g v).e) h.Tree.n _ (by omega) ⟨rfl,by show (h.Tree.n:Int).toNat=_;omega,fun j b=>absurd b (by omega)⟩ ?_;rintro c i x1 x2 hle ⟨rfl,hx,b⟩ hs;by_cases hl:i<h.Tree.n
 case neg=>exact ifF (by simp;omega) ⟨_,rfl,hx,fun v z=>b v (by omega)⟩
 refine ifT (by simp;omega) (ifT (by omega) ?_);have put:∀o:R4,outR (DV N h w' i) o.w o.e->∃r,c (x1.upd i o) (wrap .i64 ((i:Int)+1))=some r/\(r.n=h.Tree.n/\∀v,v<h.Tree.n->outR (DV N h w' v) (r.g v).w (r.g v).e):=fun o ho=>
  hs hl _ _ ⟨B4 (by omega),hx,fun v z=>by
   show outR _ (if v=i then o else x1.g v).w (if v=i then o else x1.g v).e;by_cases e:v=i
   ·rw[if_pos e,e];exact ho
   ·rw[if_neg e];exact b v (by omega)⟩
 rw[AC6];rcases I8 a.tree hl with⟨e0,e⟩ | ⟨p,hp,e⟩
 ·have f:decide (0<=(h.Tree.g i).Parent)=false:=by rw[e];rfl
  rw[f];refine ifT (fun h=>by cases h) (ifT (by simp) (ifT (by omega) ?_));obtain⟨s,y,y1,y2,y3⟩:=YK m q a hl hw d;refine B0 y1 (B0 y2 (ifT (by omega) (put ⟨y.1,y.2⟩ ?_)));rw[TE (by omega)];exact y3
 ·have f:decide (0<=(h.Tree.g i).Parent)=true:=by rw[e];simp
  rw[f];simp only[if_true];have l:(h.Tree.g i).Parent.toNat=p:=by omega
  rw[l];refine ifT (fun _=>by omega) ?_;rcases b p hp with⟨x,g1,g2,g3,g4⟩ | ⟨g1,g2,g3⟩
  ·refine ifT (by rw[g2];rfl) (ifT (by omega) ?_);obtain⟨s,y,y1,y2,y3⟩:=YK m q a hl g4 g3;refine B0 y1 (B0 y2 (ifT (by omega) (put ⟨y.1,y.2⟩ ?_)));rw[YL e hp,g1];exact y3
  ·refine ifF (by rw[g2];decide) (ifT (by omega) (put ⟨(x1.g p).w,(x1.g p).e⟩ ?_));rw[YL e hp,g1];exact .inr ⟨rfl,g2,g3⟩
theorem YM {N:Nat}(b:3000000<=N){h:A5}(f:U0 h)(a:Ay N h){w:Sl Sound}(hw:wOk w)(c:okA w){u:Nat}(g:u<h.Tree.n) :∃q,N9 N h w (u:Int)=some q/\outR (DV N h w u) q.1 q.2/\q.1.n<=32:=by
 unfold N9 I1;rw[DW b f,hres_zero.2 a];obtain⟨e',e3,d⟩:=HU (N:=N) (by omega) c;obtain rfl:=(BG d).2 hw;simp only[AD1,e3];have hb:¬(!((decide (0<=(u:Int)))&&(decide ((u:Int)<(h.Tree.n:Int)))))=true:=by simp;omega
 rw[ite_self,AD1,if_neg (by simp),Q2,AD1,if_neg hb,X6,AD1];obtain⟨q,q1,q2⟩:=YJ b f a (US h.Tree u) w w (fun x hx=>by have:=Ty a.tree u u (AD3 _) g x hx;omega) hw (SE.refl w);refine⟨q,?_,?_⟩
 ·show (K3 N (u:Int) h.Tree).bind _=_;rw[YI b a.tree g];exact q1
 ·rcases q2 with⟨y,y1,y2,y3,y4⟩ | ⟨y1,rfl⟩
  ·exact⟨.inl ⟨y,y1,y2,y3,y4⟩,y4.1⟩
  ·exact⟨.inr ⟨y1,rfl,rfl⟩,AK9 _⟩
end Go.AM
namespace Go.AM
open Go.Proofs
def As4 (D:Nat->Option (Sl Sound))(n:Nat)(r:Sl (Sl Sound)×Int):Prop:=
 ((∃i,i<n/\D i=none)/\r.1.n=0/\r.2=11) \/ (r.1.n=n/\r.2=0/\∀i,i<n->∃x,D i=some x/\SE (r.1.g i) x/\wOk (r.1.g i))
theorem YN {N:Nat}(j:3000000<=N){h:A5}(l:U0 h){w w' : Sl Sound}(b:SE w w')(hw:okA w) :∃c,I1 N h w=some c/\Nx N h w' = some c/\(c=0->Ay N h/\wOk w/\wOk w'):=by
 unfold I1 Nx;rw[DW j l,HY j l,AD1,AD1];by_cases i:hres N h=0
 case neg=>
  have d:(hres N h != 0)=true:=by simpa using i
  rw[if_pos d,if_pos d];exact⟨_,rfl,rfl,fun e=>absurd e i⟩
 have f:¬(hres N h != 0)=true:=by simp[i]
 rw[if_neg f,if_neg f];obtain⟨e',e3,g⟩:=HU (N:=N) (by omega) hw;obtain⟨e'',e4,a⟩:=IJ (N:=N) (by omega) (AA9 b hw);obtain rfl:=Rk (Aj0 b g) a;rw[e3,e4];exact⟨e',rfl,rfl,fun e=>⟨hres_zero.1 i,(BG g).1 e,(BG a).1 e⟩⟩
theorem Wr {N:Nat}(t:3000000<=N){h:A5}(u:U0 h){w w' : Sl Sound}(d:SE w w')(hw:okA w){c:Int}(hc:I1 N h w=some c)(v:c=0->Ay N h/\wOk w) :∃r,O7 N h w=some r/\(if c=0 then As4 (DV N h w') h.Tree.n r else r=((Sl.nil:Sl (Sl Sound)),c)):=by
 unfold O7;refine B0 hc ?_;by_cases f:c=0
 case neg=>exact ifT (by simpa using f) ⟨_,rfl,by rw[if_neg f]⟩
 subst f;simp only[if_true];refine ifF (by decide) ?_;obtain⟨a,l⟩:=v rfl;obtain⟨X,x1,x2,x3⟩:=Ae8 t u a l d;refine B0 x1 ?_;have z:=a.tree.2.1;refine N2 (fun i (x1:Sl (Sl Sound)) x2=>x2=(i:Int)/\x1.n=i/\∀j,j<i->∃x,DV N h w' j=some x/\SE (x1.g j) x/\wOk (x1.g j)) X.n _ (by omega) ⟨rfl,rfl,fun j b=>absurd b (by omega)⟩ ?_;rintro q i x1 x4 hle ⟨rfl,hx,b⟩ hs;by_cases m:i<X.n
 case neg=>exact ifF (by simp;omega) ⟨_,rfl,.inr ⟨by show x1.n=_;omega,rfl,fun j o=>b j (by omega)⟩⟩
 refine ifT (by simp;omega) (ifT (by omega) ?_);rw[AC6];rcases x3 i (by omega)with⟨x,g1,g2,g3,g4⟩ | ⟨g1,g2,_⟩
 ·refine ifF (by rw[g2];decide) ?_;have s:=g4.1;unfold A3;rw[if_pos (by omega)];refine B0 rfl (ifT (by show (x1.n+1)*24<=_/\x1.n+1<=_;omega) (hs m _ _ ⟨B4 (by omega),by show x1.n+1=_;omega,fun j o=>?_⟩));show ∃y,_/\SE (if j<x1.n then x1.g j else (X.g i).w) y/\wOk (if j<x1.n then x1.g j else (X.g i).w);by_cases e:j=i
  ·subst e;rw[if_neg (by omega)];exact⟨x,g1,g3,g4⟩
  ·rw[if_pos (by omega)];exact b j (by omega)
 ·exact ifT (by rw[g2];decide) ⟨_,rfl,.inl ⟨⟨i,by omega,g1⟩,rfl,g2⟩⟩
theorem LM (t:Sl F0):∀i v,v<i->HZ t v->∃k,k<(Y8 t i).n/\(Y8 t i).g k=(v:Int)
 |0,v,h,_=>by omega
 |i+1,v,h,hv=>by
  by_cases e:v=i
  ·subst e;rw[FK hv];exact⟨(Y8 t v).n,AQ0 _,by show (if (Y8 t v).n<(Y8 t v).n then _ else _)=_;rw[if_neg (by omega)]⟩
  ·obtain⟨k,k1,k2⟩:=LM t i v (by omega) hv;by_cases hn:HZ t i
   ·rw[FK hn];exact⟨k,Nat.lt_succ_of_lt k1,by show (if k<(Y8 t i).n then _ else _)=_;rw[if_pos k1];exact k2⟩
   ·rw[JU hn];exact⟨k,k1,k2⟩
theorem TF {N:Nat}{h:A5}{w:Sl Sound}(ht:X9 h.Tree):∀(m v:Nat),h.Tree.n<=v+m->v<h.Tree.n->DV N h w v=none->∃u,u<h.Tree.n/\HZ h.Tree u/\DV N h w u=none
 |0,v,hm,hv,hd=>by omega
 |m+1,v,hm,hv,hd=>by
  by_cases hk:HZ h.Tree v
  ·exact⟨v,hv,hk,hd⟩
  ·simp only[HZ,AU7,not_imp,AS2]at hk;obtain⟨u,u1,u2,u3⟩:=hk;have a:v<u:=by
    have:=((ht.2.2 u u2).2.1 u1).2
    rw[u3]at this;omega
   exact TF ht m u (by omega) u2 (by rw[YL u3 a,hd];rfl)
end Go.AM
namespace Go.AM
open Go.Proofs
theorem YO {N:Nat}(t:3000000<=N)(h:A5):∃b,CB N h=some b/\True:=by
 unfold CB;by_cases hb:(((decide (70<(h.Tree.n:Int)))||(decide (70<(h.Laws.n:Int))))||(decide (70<(h.On.n:Int))))=true
 ·exact ifT hb ⟨_,rfl,trivial⟩
 refine ifF hb ?_;have o : h.Laws.n<=70/\h.On.n<=70:=by simp at hb;omega
 refine AA (fun i x=>x=(i:Int)) h.On.n _ (by omega) rfl ?_;rintro l i x q rfl hs;by_cases d:i<h.On.n
 ·refine ifT (by simp;omega) (ifT (by omega) ?_);by_cases m:(decide (70<((h.On.g (i:Int).toNat).n:Int)))=true
  ·exact ifT m ⟨_,rfl,trivial⟩
  ·exact ifF m (hs d _ (B4 (by omega)))
 ·refine ifF (by simp;omega) ?_;refine AA (fun i x=>x=(i:Int)) h.Laws.n _ (by omega) rfl ?_;rintro f i x q rfl j;by_cases d:i<h.Laws.n
  ·rw[B4 (by omega)];refine ifT (by simp;omega) (ifT (by omega) ?_);obtain⟨r,s⟩:=Ae0 (N:=N) (by omega) (h.Laws.sub (i:Int).toNat ((i+1:Nat):Int).toNat);refine B0 s ?_;have last:∀z3:Bool,∃r,(if z3 then some false else f ((i+1:Nat):Int))=some r/\True:=fun z=>by
    cases z
    ·exact ifF (by simp) (j d _ rfl)
    ·exact ifT rfl ⟨_,rfl,trivial⟩
   refine ltX ?_;by_cases g1:(decide (4<r))=true
   ·exact ifT g1 (last _)
   refine ifF g1 ?_;by_cases g2:(decide (20<((h.Laws.g (i:Int).toNat).If.n:Int)))=true
   ·exact ifT g2 (last _)
   refine ifF g2 ?_;by_cases g3:(decide (20<((h.Laws.g (i:Int).toNat).Out.n:Int)))=true
   ·exact ifT g3 (last _)
   refine ifF g3 ?_;obtain⟨a,ha,_⟩:=Pq (N:=N) (by omega) (h.Laws.g (i:Int).toNat).Left;refine B0 ha ?_;by_cases g4:(decide (41<(a:Int)))=true
   ·exact ifT g4 (last _)
   refine ifF g4 ?_;obtain⟨c,hc,_⟩:=Pq (N:=N) (by omega) (h.Laws.g (i:Int).toNat).Right;exact B0 hc (last _)
  ·exact ifF (by simp;omega) ⟨_,rfl,trivial⟩
end Go.AM
namespace Go.AM
open Go.Proofs
def agree (o o' : Option (Sl Sound)):Prop:=(o=none/\o' = none) \/ ∃x x',o=some x/\o' = some x' /\ SE x x'
theorem Ae9 {o o' : Option (Sl Sound)}{y y' : Sl Sound}{e e' : Int}(h:outR o y e)(h' : outR o' y' e'):(e=e' /\ SE y y')↔agree o o':=by
 rcases h with⟨x,h1,j,g,m⟩ | ⟨h1,j,g⟩<;>rcases h' with⟨x',d,f,c,l⟩ | ⟨d,f,c⟩<;>subst h1<;>subst d<;>subst j<;>subst f
 ·refine⟨fun h=>.inr ⟨x,x',rfl,rfl,g.symm.trans (h.2.trans c)⟩,?_⟩;rintro (⟨h,_⟩ | ⟨a,b,ha,hb,hs⟩)
  ·cases h
  ·cases ha;cases hb;exact⟨rfl,g.trans (hs.trans c.symm)⟩
 ·refine⟨fun h=>absurd h.1 (by decide),?_⟩;rintro (⟨h,_⟩ | ⟨a,b,ha,hb,hs⟩)
  ·cases h
  ·cases hb
 ·refine⟨fun h=>absurd h.1 (by decide),?_⟩;rintro (⟨_,h⟩ | ⟨a,b,ha,hb,hs⟩)
  ·cases h
  ·cases ha
 ·exact⟨fun _=>.inl ⟨rfl,rfl⟩,fun _=>⟨rfl,by rw[g,c],fun i n=>by omega⟩⟩
theorem outR.le {o:Option (Sl Sound)}{y:Sl Sound}{e:Int}(h:outR o y e):y.n<=32:=by
 rcases h with⟨_,_,_,_,h⟩ | ⟨_,_,h⟩
 ·exact h.1
 ·omega
end Go.AM
namespace Go.AM
open Go.Proofs
end Go.AM
namespace Go.AM
open Go.Proofs
theorem Ws {N:Nat}{a b:Sl Int}(d:a.n<N)(hs:a.n<1000000000)(h:SE a b):An N a b=some true:=by
 obtain⟨h1,f⟩:=h;refine eqR ?_;unfold An;refine ifF (by simp[h1]) ?_;refine AA (fun i x=>x=(i:Int)) a.n _ d rfl ?_;rintro c i x g rfl hs;by_cases hl:i<a.n
 ·refine ifT (by simp;omega) (ifT (by omega) ?_);rw[AC6,f i hl];exact ifF (by simp) (hs hl _ (B4 (by omega)))
 ·exact ifF (by simp;omega) ⟨_,rfl,rfl⟩
end Go.AM
namespace Go.AM
open Go.Proofs
end Go.AM
namespace Go.AM
open IntKind (wrap)
open Go.Proofs
theorem UX {N:Nat}{s:Sl Int}(hn:s.n<N)(hs:s.n<1000000000)(v:Int):∃b,D9 N s v=some b/\(b=true ↔ ∃i,i<s.n/\s.g i=v):=by
 unfold D9
 suffices ∃r,H4 N s v=some r/\(0<=r ↔ ∃i,i<s.n/\s.g i=v) by obtain⟨r,r1,r2⟩:=this;exact B0 r1 ⟨_,rfl,by rw[decide_eq_true_eq];exact r2⟩
 unfold H4;refine AA (fun i x=>x=(i:Int)/\∀j,j<i->s.g j≠v) s.n _ hn ⟨rfl,fun j a=>absurd a (by omega)⟩ ?_;rintro d i x o ⟨rfl,a⟩ c;by_cases hl:i<s.n
 ·refine ifT (by simp;omega) (ifT (by omega) ?_);rw[AC6];by_cases e:v=s.g i
  ·exact ifT (by simp[e]) ⟨_,rfl,fun _=>⟨i,hl,e.symm⟩,fun _=>by omega⟩
  ·refine ifF (by simpa using e) (c hl _ ⟨B4 (by omega),fun j l=>?_⟩);by_cases e2:j=i
   ·subst e2;exact fun f=>e f.symm
   ·exact a j (by omega)
 ·refine ifF (by simp;omega) ⟨_,rfl,fun h=>absurd h (by decide),?_⟩;rintro⟨j,h1,m⟩;exact absurd m (a j (by omega))
def YP (h:A5)(law:Int)(v:Nat):Prop:=∃i,i<(E7 h v).n/\(E7 h v).g i=law
open Classical in
noncomputable def WS (h:A5) (law:Int):Nat->Sl Int
 |0=>(Sl.nil:Sl Int)
 |i+1=>if YP h law i then (WS h law i).push (i:Int)else WS h law i
theorem NI {h:A5}{law:Int}{i:Nat}(hm:YP h law i):WS h law (i+1)=(WS h law i).push (i:Int):=if_pos hm
theorem Wt {h:A5}{law:Int}{i:Nat}(hm:¬YP h law i):WS h law (i+1)=WS h law i:=if_neg hm
theorem AC4 (h:A5)(law:Int):∀i,(WS h law i).n<=i
 |0=>AK9 _
 |i+1=>by
  have:=AC4 h law i
  by_cases hm:YP h law i
  ·rw[NI hm];show (WS h law i).n+1<=_;omega
  ·rw[Wt hm];omega
theorem Aj3 (h:A5)(law:Int):∀i (p:Int),(∃k,k<(WS h law i).n/\(WS h law i).g k=p) ↔ ∃v:Nat,v<i/\YP h law v/\p=(v:Int)
 |0,p=>⟨fun⟨k,hk,_⟩=>absurd hk (AF7 k),fun⟨v,c,_⟩=>absurd c (AF7 v)⟩
 |i+1,p=>by
  have ih:=Aj3 h law i p;by_cases hm:YP h law i
  ·rw[NI hm];constructor
   ·rintro⟨k,hk,b⟩;have hk:k<(WS h law i).n+1:=hk;replace b:(if k<(WS h law i).n then (WS h law i).g k else (i:Int))=p:=b;by_cases a:k<(WS h law i).n
    ·rw[if_pos a]at b;obtain⟨v,v1,v2,v3⟩:=ih.1 ⟨k,a,b⟩;exact⟨v,by omega,v2,v3⟩
    ·rw[if_neg a]at b;exact⟨i,by omega,hm,b.symm⟩
   ·rintro⟨v,v1,v2,v3⟩;by_cases e:v=i
    ·subst e;exact⟨(WS h law v).n,AQ0 _,by show (if (WS h law v).n<(WS h law v).n then _ else _)=_;rw[if_neg (by omega)];exact v3.symm⟩
    ·obtain⟨k,k1,k2⟩:=ih.2 ⟨v,by omega,v2,v3⟩;exact⟨k,Nat.lt_succ_of_lt k1,by show (if k<(WS h law i).n then _ else _)=_;rw[if_pos k1];exact k2⟩
  ·rw[Wt hm,ih];constructor
   ·rintro⟨v,v1,v2,v3⟩;exact⟨v,by omega,v2,v3⟩
   ·rintro⟨v,v1,v2,v3⟩;by_cases e:v=i
    ·subst e;exact absurd v2 hm
    ·exact⟨v,by omega,v2,v3⟩
theorem YQ {s t:Sl Int}{p:Int}:(∃i,i<(s.app t).n/\(s.app t).g i=p)↔(∃i,i<s.n/\s.g i=p) \/ ∃i,i<t.n/\t.g i=p:=by
 constructor
 ·rintro⟨i,b,a⟩;replace b:i<s.n+t.n:=b;replace a:(if i<s.n then s.g i else t.g (i-s.n))=p:=a;by_cases hl:i<s.n
  ·rw[if_pos hl]at a;exact .inl ⟨i,hl,a⟩
  ·rw[if_neg hl]at a;exact .inr ⟨i-s.n,by omega,a⟩
 ·rintro (⟨i,b,a⟩ | ⟨i,b,a⟩)
  ·exact⟨i,by show i<s.n+t.n;omega,by show (if i<s.n then s.g i else t.g (i-s.n))=p;rw[if_pos b];exact a⟩
  ·exact⟨s.n+i,by show s.n+i<s.n+t.n;omega,by show (if s.n+i<s.n then s.g (s.n+i)else t.g (s.n+i-s.n))=p;rw[if_neg (by omega),Nat.add_sub_cancel_left];exact a⟩
theorem Au3 {N:Nat}(u:3000000<=N){h:A5}(s:U0 h)(a:Ay N h){law:Int}(hl:0<=law/\law<(h.Laws.n:Int)):∃r,Lx N h law=some r/\r=(WS h law h.Tree.n,0):=by
 have v:=a.tree.2.1;have c:=a.on;unfold Lx;rw[HY u s,hres_zero.2 a];refine B0 rfl (ifF (by decide) (ifF (by simp;omega) ?_));refine N2 (fun i (x:Sl Int) y=>y=(i:Int)/\x=WS h law i) h.Tree.n _ (by omega) ⟨rfl,rfl⟩ ?_;rintro t i x y hle ⟨rfl,rfl⟩ hs;by_cases b:i<h.Tree.n
 case neg=>
  obtain rfl:i=h.Tree.n:=by omega
  exact ifF (by simp) ⟨_,rfl,rfl⟩
 have w:=AC4 h law i;have z:(E7 h i).n<=64:=AL3 fun f=>a.long ⟨i,by omega,f⟩;refine ifT (by simp;omega) (B0 (FH s a.tree c N i (by omega) b) ?_);refine N2 (fun j (x7:Bool) x8=>x8=(j:Int)/\(x7=true ↔ ∃q,q<j/\(E7 h i).g q=law)) (E7 h i).n _ (by omega) ⟨rfl,by simp⟩ ?_;rintro d j x7 x8 hj ⟨rfl,l⟩ m;by_cases o:j<(E7 h i).n
 ·refine ifT (by simp;omega) (ifT (fun _=>by omega) (m o _ _ ⟨B4 (by omega),?_⟩));rw[AC6,AE2,l,beq_iff_eq];constructor
  ·rintro (⟨q,q1,q2⟩ | e)
   ·exact⟨q,by omega,q2⟩
   ·exact⟨j,by omega,e⟩
  ·rintro⟨q,q1,q2⟩;by_cases e:q=j
   ·subst e;exact .inr q2
   ·exact .inl ⟨q,by omega,q2⟩
 ·obtain rfl:j=(E7 h i).n:=by omega
  refine ifF (by simp) ?_;by_cases hx:x7=true
  ·exact ifT hx (ifT (by show ((WS h law i).n+1)*8<=_/\(WS h law i).n+1<=_;omega) (hs b _ _ ⟨B4 (by omega),(NI (l.1 hx)).symm⟩))
  ·exact ifF hx (hs b _ _ ⟨B4 (by omega),(Wt (fun f=>hx (l.2 f))).symm⟩)
theorem Wu {N:Nat}(u:3000000<=N){h:A5}(w:U0 h)(a:Ay N h){law:Int}(hl:0<=law/\law<(h.Laws.n:Int)):∃r,R8 N h law=some r/\r=(WS h law h.Tree.n,0):=by
 have a0:=a.tree.2.1;have a1:=a.on;unfold R8;rw[DW u w,hres_zero.2 a];refine B0 rfl (ifF (by decide) (ifF (by simp;omega) ?_));refine N2 (fun i (x:Sl Int) y=>y=(i:Int)/\x=WS h law i) h.Tree.n _ (by omega) ⟨rfl,rfl⟩ ?_;rintro m i x y hle ⟨rfl,rfl⟩ hs;by_cases j:i<h.Tree.n
 case neg=>
  obtain rfl:i=h.Tree.n:=by omega
  exact ifF (by simp) ⟨_,rfl,rfl⟩
 have a2:=AC4 h law i;have ho:=(Wq a j).1;refine ifT (by simp;omega) (ifT (by omega) ?_);rw[AC6];obtain⟨b,b1,b2⟩:=UX (N:=N) (s:=h.On.g i) (by omega) (by omega) law;obtain⟨c,c1,c2⟩:=UX (N:=N) (s:=WS h law i) (by omega) (by omega) (h.Tree.g i).Parent;have d:YP h law i↔(b=true \/ c=true):=by
  rw[b2,c2,Aj3];unfold YP;rcases I8 a.tree j with⟨_,e⟩ | ⟨p,hp,e⟩
  ·rw[X8 (by omega),YQ,e];constructor
   ·rintro (⟨q,hq,_⟩ | f)
    ·exact absurd hq (AF7 q)
    ·exact .inl f
   ·rintro (f|⟨v,_,_,o⟩)
    ·exact .inr f
    ·omega
  ·rw[AW e hp,YQ,e];constructor
   ·rintro (f|f)
    ·exact .inr ⟨p,hp,f,rfl⟩
    ·exact .inl f
   ·rintro (f|⟨v,_,o,hv2⟩)
    ·exact .inr f
    ·obtain rfl:p=v:=by omega
     exact .inl o
 have fin:∀z:Bool,(z=true↔YP h law i)->∃r,(if z then
  if (((WS h law i).n+(Sl.of [(i:Int)]:Sl Int).n)*8<=140737488355328/\(WS h law i).n+(Sl.of [(i:Int)]:Sl Int).n<=140737488355328)then
   m ((WS h law i).push (i:Int)) (wrap .i64 ((i:Int)+1))
  else none
  else
   m (WS h law i) (wrap .i64 ((i:Int)+1)))=some r/\r=(WS h law h.Tree.n,0):=by
  intro z t;by_cases l:z=true
  ·exact ifT l (ifT (by show ((WS h law i).n+1)*8<=_/\(WS h law i).n+1<=_;omega) (hs j _ _ ⟨B4 (by omega),(NI (t.1 l)).symm⟩))
  ·exact ifF l (hs j _ _ ⟨B4 (by omega),(Wt (fun f=>l (t.2 f))).symm⟩)
 refine B0 b1 (ltX ?_);by_cases hb:b=true
 ·exact ifT hb (fin true ⟨fun _=>d.2 (.inl hb),fun _=>rfl⟩)
 ·exact ifF hb (B0 c1 (fin c ⟨fun h=>d.2 (.inr h),fun h=>(d.1 h).resolve_left hb⟩))
end Go.AM
namespace Go.AM
open Go.Proofs
end Go.AM
namespace Go.AM
open IntKind (wrap)
open Go.Proofs
structure LN (x:Ek):Prop where
 par:∀i,i<x.Parents.n->∃k:Nat,x.Parents.g i=(k:Int)/\k<256
 laws:FG x.Laws
 on:∀i,i<x.On.n->∃k:Nat,x.On.g i=(k:Int)/\k<65536
theorem UY {n:Nat}(h:n<256):IntKind.u8.wrap (n:Int)=n:=by have h1:((n:Int) % (2 ^ 8:Int))=n:=AM3 (by omega) (by omega);unfold wrap;simp only[IntKind.bits,IntKind.signed,h1,AL7,AD5,if_false]
def YR (a j:Nat):Str:=[UInt8.ofNat (a+j)]
theorem YS {a j:Nat}(h:a+j<256):[UInt8.ofNat (wrap .u8 ((a:Int)+(wrap .u8 (j:Int)))).toNat]=YR a j:=by rw[UY (by omega),<- Int.natCast_add,UY h,AC6];rfl
theorem UZ {a i j:Nat}(b:a+i<256)(c:a+j<256)(h:YR a i=YR a j):i=j:=by
 have:=congrArg UInt8.toNat (AW3 h).1
 rw[AR5,AR5]at this;omega
theorem YT:∀j:Fin 10,JJ (YR 97 j.val)=true:=by decide +kernel
def Af0 (x:Ek):Nat->F0
 |0=>⟨-1,[114]⟩
 |j+1=>⟨(((x.Parents.g j).toNat % (j+1):Nat):Int),YR 97 (j+1)⟩
def As5 (x:Ek)(j:Nat):Law:=⟨YR 65 j,(x.Laws.g j).Left,(x.Laws.g j).Right,(x.Laws.g j).If,(x.Laws.g j).Out,(x.Laws.g j).Mode⟩
theorem YU {x:Ek}(hx:LN x){j:Nat}(d:j<x.Laws.n):HX (As5 x j):=by obtain⟨⟨a,b,c⟩,l,f,g,i⟩:=hx.laws j d;exact⟨⟨a,b,c⟩,by show 1<_;omega,f,g,i⟩
theorem Af1 {x:Ek}{t:Sl F0}(hn:t.n<=10)(ht:∀j,j<t.n->t.g j=Af0 x j){v:Nat}(c:v<t.n):Ae2 t v:=by
 have a:∀j,j<t.n->0<j->(Af0 x j).Name=YR 97 j:=fun j _ d=>by obtain⟨k,rfl⟩:∃k,j=k+1:=⟨j-1,by omega⟩;rfl
 have b:∀j,j<10->([114]:Str)≠YR 97 j:=fun j f h=>by
  have:=congrArg UInt8.toNat (AW3 h).1
  rw[AR5]at this;have e:(114:UInt8).toNat=114:=rfl;omega
 refine⟨fun h=>by rw[ht 0 (by omega)];rfl,fun d=>?_,?_,fun u i=>?_⟩
 ·obtain⟨k,rfl⟩:∃k,v=k+1:=⟨v-1,by omega⟩;rw[ht _ c];show 0<=(((x.Parents.g k).toNat % (k+1):Nat):Int)/\(((x.Parents.g k).toNat % (k+1):Nat):Int)<((k+1:Nat):Int)
  have:=AU5 (x.Parents.g k).toNat (show 0<k+1 by omega)
  omega
 ·rw[ht _ c];by_cases d:v=0
  ·subst d;show JJ [114]=true;decide +kernel
  ·rw[a v c (by omega)];exact YT ⟨v,by omega⟩
 ·rw[ht _ c,ht u (by omega),a v c (by omega)];by_cases d:u=0
  ·subst d;exact b v (by omega)
  ·rw[a u (by omega) (by omega)];exact fun h=>by have:=UZ (by omega) (by omega) h;omega
theorem NJ {h:A5}(ht:X9 h.Tree)(a:∀v,v<h.Tree.n->(h.On.g v).n<=5):∀(m v:Nat),v<=m->v<h.Tree.n->(E7 h v).n<=(v+1)*5
 |m,v,hm,hv=>by
  have:=a v hv
  rcases I8 ht hv with⟨_,e⟩ | ⟨p,hp,e⟩
  ·rw[X8 (by omega)];show 0+(h.On.g v).n<=_;omega
  ·rw[AW e hp];show (E7 h p).n+(h.On.g v).n<=_
   match m with
   |0=>omega
   |m+1=>
    have:=NJ ht a m p (by omega) (by omega)
    omega
structure As6 (N:Nat) (x:Ek) (h:A5):Prop where
 hist:Ay N h
 n:h.Tree.n<=10
 node:∀j,j<h.Tree.n->h.Tree.g j=Af0 x j
 laws:h.Laws.n<=6
 law:∀j,j<h.Laws.n->h.Laws.g j=As5 x j/\j<x.Laws.n
 five:∀v,v<h.Tree.n->(h.On.g v).n<=5
theorem Va {N:Nat}(hN:3000000<=N){x:Ek}(hx:LN x) :∃r:A5×Bool,P3 N x=some r/\U0 r.1/\(r.2=true->As6 N x r.1):=by
 have t:U0 (⟨(Sl.nil:Sl F0),(Sl.nil:Sl Law),(Sl.nil:Sl (Sl Int))⟩:A5):=
  ⟨fun i hi=>absurd hi (AF7 i),fun i hi=>absurd hi (AF7 i),by show 0<_;omega,fun i hi=>absurd hi (AF7 i)⟩
 unfold P3;refine N2 (fun i (x1:Sl F0) x2=>x2=((i+1:Nat):Int)/\x1.n=i+1/\∀j,j<i+1->x1.g j=Af0 x j) 9 _ (by omega) ⟨rfl,rfl,fun j s=>by obtain rfl:j=0:=(by omega);rfl⟩ ?_;rintro self i x1 x2 hi ⟨rfl,hn1,h1⟩ hs;by_cases hlt:i+1<=x.Parents.n/\i+1<10
 ·obtain⟨k,hk,hk2⟩:=hx.par i (by omega);have e1:wrap .i64 (((i+1:Nat):Int)-1)=(i:Int):=by rw[Ap9 (by omega) (by omega)];rfl
  refine ifT (by simp;omega) ?_;rw[e1,AC6,hk,D7 (n:=(k:Int)) (by omega) (by omega)];refine ifT ⟨⟨by omega,by omega⟩,by omega⟩ (ifT (by show (x1.n+1)*24<=_/\x1.n+1<=_;omega) (hs (by omega) _ _ ⟨B4 (by omega),by show x1.n+1=_;omega,fun j s=>?_⟩));show (if j<x1.n then x1.g j else _)=_;by_cases e:j<x1.n
  ·rw[if_pos e];exact h1 j (by omega)
  ·obtain rfl:j=i+1:=by omega
   rw[if_neg e];have e2:[UInt8.ofNat (wrap .u8 (97+(wrap .u8 ((i+1:Nat):Int)))).toNat]=YR 97 (i+1):=YS (a:=97) (by omega);rw[e2];show (⟨_,_⟩:F0)=⟨(((x.Parents.g i).toNat % (i+1):Nat):Int),YR 97 (i+1)⟩;rw[hk,AC6];rfl
 refine ifF (by simp;omega) ?_;clear hs;refine N2 (fun i (x4:Sl Law) x5=>x5=(i:Int)/\x4.n=i/\∀j,j<i->x4.g j=As5 x j/\j<x.Laws.n/\chkAll N (As5 x j)) 6 _ (by omega) ⟨rfl,rfl,fun j s=>absurd s (by omega)⟩ ?_;rintro self2 m x4 x5 hm ⟨rfl,hn4,h4⟩ hs2;by_cases hlt2:m<x.Laws.n/\m<6
 ·obtain⟨hml,hm6⟩:=hlt2;have e2:[UInt8.ofNat (wrap .u8 (65+(wrap .u8 (m:Int)))).toNat]=YR 65 m:=YS (a:=65) (by omega);have hin:=YU hx hml;refine ifT (by simp;omega) (ifT (by omega) ?_);rw[AC6,e2];obtain⟨b,hb,_⟩:=YO hN (⟨(Sl.nil:Sl F0),(Sl.of [As5 x m]:Sl Law),(Sl.nil:Sl (Sl Int))⟩:A5);have hl:CC N (As5 x m)=some b:=by unfold CC;rw[hb];rfl
  refine B0 hl (ltX ?_);cases b
  ·exact ifT rfl (ifT rfl ⟨_,rfl,t,fun h=>by cases h⟩)
  ·refine ifF (by decide) ?_;obtain⟨e,he,hE⟩:=NE hN hin;refine B0 he ?_;rcases hE with⟨rfl,hc⟩ | ⟨rfl,_⟩
   ·refine ifF (by decide) (ifT (by show (x4.n+1)*200<=_/\x4.n+1<=_;omega) (hs2 hm6 _ _ ⟨B4 (by omega),by show x4.n+1=_;omega,fun j s=>?_⟩));show (if j<x4.n then x4.g j else As5 x m)=_/\_;by_cases e:j<x4.n
    ·rw[if_pos e];exact h4 j (by omega)
    ·obtain rfl:j=m:=by omega
     rw[if_neg e];exact⟨rfl,hml,hc⟩
   ·exact ifT (by decide) ⟨_,rfl,t,fun h=>by cases h⟩
 refine ifF (by simp;omega) ?_;clear hs2;have hL1:wrap .i64 ((x4.n:Int)+1)=((x4.n+1:Nat):Int):=B4 (by omega);rw[hL1];refine N2 (fun v (f:Sl (Sl Int)) x11=>x11=(v:Int)/\f.n=v/\∀u,u<v->(f.g u).n<=5/\∀j,j<(f.g u).n->0<=(f.g u).g j/\(f.g u).g j<x4.n) x1.n _ (by omega) ⟨rfl,rfl,fun j s=>absurd s (by omega)⟩ ?_;rintro self5 v f x11 w ⟨rfl,hn10,a1⟩ hs5;by_cases hvl:v<x1.n
 ·obtain⟨c,hc,hc2⟩:∃c:Nat,BF N x.On (v:Int)=some (c:Int)/\c<65536:=by
   unfold BF;by_cases h:v<x.On.n
   ·obtain⟨k,hk,hk2⟩:=hx.on v h;exact⟨k,by rw[if_pos (by simp;omega),if_pos (by omega),AC6,hk,D7 (by omega) (by omega)],hk2⟩
   ·exact⟨0,by rw[if_neg (by simp;omega)];rfl,by omega⟩
  refine ifT (by simp;omega) (B0 hc ?_);refine N2 (fun q (l:Sl Int) x15=>l.n=q/\(∃d:Nat,x15=(d:Int)/\d<65536)/\∀j,j<l.n->0<=l.g j/\l.g j<x4.n) 5 _ (by omega) ⟨rfl,⟨c,rfl,hc2⟩,fun j s=>absurd s (AF7 j)⟩ ?_;rintro self6 q l x15 hq ⟨hn14,⟨d,rfl,hd⟩,h14⟩ hs6;refine ifT (by omega) ?_;have em:(d:Int).tmod ((x4.n+1:Nat):Int)=((d % (x4.n+1):Nat):Int):=rfl;have ed:(d:Int).tdiv ((x4.n+1:Nat):Int)=((d / (x4.n+1):Nat):Int):=rfl;rw[em,ed];have hlt3:=AU5 d (show 0<x4.n+1 by omega);have hle3:=Nat.div_le_self d (x4.n+1);generalize d / (x4.n+1)=d1 at hle3;generalize d % (x4.n+1)=m1 at hlt3;by_cases g:m1≠0/\q<5
  ·rw[Ap9 (by omega) (by omega),D7 (n:=(d1:Int)) (by omega) (by omega)];refine ifT (by simp;omega) (ifT ⟨⟨by omega,by show (l.n+1)*8<=_;omega,by show l.n+1<=_;omega⟩,by omega⟩ (hs6 (by omega) _ _ ⟨by show l.n+1=_;omega,⟨_,rfl,by omega⟩,fun j s=>?_⟩));show 0<=(if j<l.n then l.g j else _)/\(if j<l.n then l.g j else _)<_;by_cases e:j<l.n
   ·rw[if_pos e];exact h14 j e
   ·rw[if_neg e];omega
  ·refine ifF (by simp;omega) (ifT (by show (f.n+1)*24<=_/\f.n+1<=_;omega) (hs5 hvl _ _ ⟨B4 (by omega),by show f.n+1=_;omega,fun u hu=>?_⟩));show (if u<f.n then f.g u else l).n<=5/\∀j,j<(if u<f.n then f.g u else l).n->0<=(if u<f.n then f.g u else l).g j/\(if u<f.n then f.g u else l).g j<_;by_cases e:u<f.n
   ·rw[if_pos e];exact a1 u (by omega)
   ·rw[if_neg e];exact⟨by omega,h14⟩
 obtain rfl:v=x1.n:=by omega
 refine ifF (by simp) ⟨_,rfl,?_,fun _=>?_⟩
 ·refine⟨fun i o=>?_,fun i o=>?_,by show f.n<_;omega,fun i o=>?_⟩
  ·have o:i<x4.n:=o;show HX (x4.g i);obtain⟨e,hil,_⟩:=h4 i (by omega);rw[e];exact YU hx hil
  ·have o:i<x1.n:=o;show (x1.g i).Name.length<_;rw[h1 i (by omega)];cases i<;>(show 1<_;omega)
  ·have o:i<f.n:=o;show (f.g i).n<_
   have:=(a1 i (by omega)).1
   omega
 ·have y:X9 x1:=⟨by omega,by omega,fun v w=>Af1 (by omega) (fun j s=>h1 j (by omega)) w⟩;have z:∀v,v<x1.n->(f.g v).n<=5:=fun v w=>(a1 v (by omega)).1;refine⟨⟨y,⟨by show x4.n<=64;omega,fun i o=>?_⟩,?_,by show f.n=x1.n;omega,?_,fun v w=>?_⟩,by show x1.n<=10;omega,fun j s=>h1 j (by have s:j<x1.n:=s;omega),by show x4.n<=6;omega,fun j s=>?_,fun v w=>z v w⟩
  ·have o:i<x4.n:=o;show chkAll N (x4.g i);obtain⟨e,_,hc⟩:=h4 i (by omega);rw[e];exact hc
  ·rintro⟨u,v,h1',h2',a2⟩;have h2' : v<x4.n:=h2';have a2 : (x4.g u).Name=(x4.g v).Name:=a2;rw[(h4 u (by omega)).1,(h4 v (by omega)).1]at a2
   have:=UZ (a:=65) (by omega) (by omega) a2
   omega
  ·rintro⟨v,w,a0⟩;have w:v<f.n:=w;have a0:64<(E7 (⟨x1,x4,f⟩:A5) v).n:=a0
   have:=NJ (h:=(⟨x1,x4,f⟩:A5)) y z v v (AD3 _) (by show v<x1.n;omega)
   omega
  ·have w:v<f.n:=w;rintro⟨j,s,hb⟩;have s:j<(f.g v).n:=s;have hb:(f.g v).g j<0 \/ ((x4.n:Nat):Int)<=(f.g v).g j:=hb
   have:=(a1 v (by omega)).2 j s
   omega
  ·have s:j<x4.n:=s;exact⟨(h4 j (by omega)).1,(h4 j (by omega)).2.1⟩
end Go.AM
namespace Go.AM
open Go.Proofs
theorem TG {N:Nat}(z:3000000<=N){h:A5}(hi:U0 h)(a:Ay N h){w w' : Sl Sound}{f:Sl (Sl Sound)×Int}(f1:O7 N h w=some f)(f2:As4 (DV N h w') h.Tree.n f) :∃r,I3 N h w=some r/\As4 (fun i=>DV N h w' ((Y8 h.Tree h.Tree.n).g i).toNat) (Y8 h.Tree h.Tree.n).n r:=by
 have h63:=a.tree.2.1;obtain⟨s,e,l1,l2,l3⟩:=NH z hi.tree;rcases l3 with⟨_,rfl,hs⟩ | ⟨l3,_⟩
 case inr=>exact absurd a.tree l3
 have hsn:=Pv h.Tree h.Tree.n;have l:∀k,k<s.n->∃u:Nat,u<h.Tree.n/\s.g k=(u:Int):=fun k hk=>by rw[hs]at hk⊢;obtain⟨v,v1,v2⟩:=Pw h.Tree h.Tree.n k hk;exact⟨v,v1,v2⟩
 have q : s.n<=1000:=by rw[hs];omega
 rw[<- hs];unfold I3;refine B0 f1 ?_;rcases f2 with⟨⟨v,hv,hd⟩,g1,g2⟩ | ⟨g1,g2,g3⟩
 ·obtain⟨u,u1,u2,u3⟩:=TF a.tree h.Tree.n v (by omega) hv hd;obtain⟨k,k1,k2⟩:=LM h.Tree h.Tree.n u u1 u2;refine ifT (by rw[g2];decide) ⟨_,rfl,.inl ⟨⟨k,by rw[hs];exact k1,?_⟩,rfl,g2⟩⟩;show DV N h w' (s.g k).toNat=none;rw[hs,k2,AC6];exact u3
 ·refine ifF (by rw[g2];decide) (B0 l1 ?_);refine N2 (fun i (x1:Sl (Sl Sound)) x2=>x2=(i:Int)/\x1.n=i/\∀j,j<i->∃x,DV N h w' (s.g j).toNat=some x/\SE (x1.g j) x/\wOk (x1.g j)) s.n _ (by omega) ⟨rfl,rfl,fun j d=>absurd d (by omega)⟩ ?_;rintro t i x1 x2 hle ⟨rfl,hx,d⟩ m;by_cases b:i<s.n
  case neg=>exact ifF (by simp;omega) ⟨_,rfl,.inr ⟨by show x1.n=_;omega,rfl,fun j o=>d j (by omega)⟩⟩
  obtain⟨u,hu,c⟩:=l i b;refine ifT (by simp;omega) ?_;rw[AC6,c,AC6];refine ifT ⟨by show (((0<=(i:Int)/\(i:Int)<(s.n:Int))/\i<s.n)/\0<=(u:Int)/\(u:Int)<(f.1.n:Int))/\u<f.1.n;omega,by show (x1.n+1)*24<=_/\x1.n+1<=_;omega⟩ (m b _ _ ⟨B4 (by omega),by show x1.n+1=_;omega,fun j o=>?_⟩);obtain⟨x,b1,b2,b3⟩:=g3 u hu;show ∃y,_/\SE (if j<x1.n then x1.g j else f.1.g u) y/\wOk (if j<x1.n then x1.g j else f.1.g u);by_cases e:j=i
  ·subst e;rw[if_neg (by omega),c,AC6];exact⟨x,b1,b2,b3⟩
  ·rw[if_pos (by omega)];exact d j (by omega)
end Go.AM
namespace Go.AM
open Go.Proofs
theorem outR.se {o:Option (Sl Sound)}{y y' : Sl Sound}{e e' : Int}(h:outR o y e)(h' : outR o y' e'):e=e' /\ SE y y':=by
 refine (Ae9 h h').2 ?_;cases o with
 |none=>exact .inl ⟨rfl,rfl⟩
 |some x=>exact .inr ⟨x,x,rfl,rfl,SE.refl x⟩
theorem As7 {N:Nat}(q:3000000<=N){h:A5}(m:U0 h)(b:Ay N h){x:Nat}(o:x<h.Tree.n){z z' : Sl Sound}(r:wOk z)(c:SE z z'){s:Sl Law}(hs:SE (FJ h (h.On.g x)) s) :∃y,F7 N s z=some y/\outR (AX N (FJ h (h.On.g x)).toList z') y.1 y.2:=by
 obtain⟨o1,o2⟩:=Wq b o;have a:=hs.ls;have d:=Pt m o2;have f:=Pu b o1 o2;have j:=Pm a d;have hn:s.n=(h.On.g x).n:=hs.1.symm;have l : EU N s:=⟨by omega,fun i m=>(DT (a.2 i (by rw[a.1];exact m))).1 (f.2 i (by rw[a.1];exact m))⟩;have t:=UW q _ _ z' z (TA d f) a.s (c.wOk r) c.symm;rcases GV q j l r with⟨v,d1,d2,d3⟩ | ⟨d1,d2⟩
 ·rcases t with⟨_,f2⟩ | ⟨u,u',f1,f2,f3,f4⟩
  ·rw[d1]at f2;cases f2
  ·rw[d1]at f2;obtain rfl:=AE1 f2;exact⟨_,d2,.inl ⟨u,f1,rfl,f3.symm,d3⟩⟩
 ·rcases t with⟨f1,_⟩ | ⟨u,u',_,f2,_⟩
  ·exact⟨_,d2,.inr ⟨f1,rfl,rfl⟩⟩
  ·rw[d1]at f2;cases f2
theorem Jt {N:Nat}(t:3000000<=N)(hw:Q4 N=some true){x:Ek}(hx:LN x){w:Sl Sound}(a0:okA w):T9 N x w=some true:=by
 refine eqR ?_;unfold T9;obtain⟨⟨h,b⟩,h1,m,h2⟩:=Va t hx;refine B0 h1 ?_;by_cases hb:((!b)||(decide (50<(w.n:Int))))=true
 ·exact ifT hb (B0 hw ⟨_,rfl,rfl⟩)
 refine ifF hb ?_;simp only[AE2,AE8,decide_eq_true_eq,not_or,Bool.not_eq_false]at hb;obtain⟨rfl,h50⟩:=hb;replace m:U0 h:=m;have a:Ay N h:=(h2 rfl).hist;dsimp only;have h63:=a.tree.2.1;have hon:=a.on;refine B0 (DW t m) ?_;rw[hres_zero.2 a];refine ifF (by decide) ?_;obtain⟨c,c1,c2,c3⟩:=YN t m (SE.refl w) a0;obtain⟨f,f1,f2⟩:=Wr t m (SE.refl w) a0 c1 fun e=>⟨(c3 e).1,(c3 e).2.1⟩;obtain⟨s,e,l1,l2,l3⟩:=NH t m.tree;rcases l3 with⟨_,rfl,hs⟩ | ⟨l3,_⟩
 case inr=>exact absurd a.tree l3
 refine B0 f1 ?_;by_cases h0:c=0
 case neg=>
  rw[if_neg h0]at f2;subst f2;have a5:(c != 0)=true:=by simpa using h0
  have hl:I3 N h w=some ((Sl.nil:Sl (Sl Sound)),c):=by unfold I3;rw[f1,AD1,if_pos a5]
  refine B0 hl (B0 l1 (ifF (by simp) (ifT a5 (ltX (ifT rfl (B0 hw ⟨_,rfl,rfl⟩))))))
 subst h0;rw[if_pos rfl]at f2;obtain⟨_,a6,_⟩:=c3 rfl;obtain⟨g,g1,g2⟩:=TG t m a f1 f2;refine B0 g1 (B0 l1 ?_);dsimp only;have hsn:=Pv h.Tree h.Tree.n;have a7:∀k,k<s.n->∃u:Nat,u<h.Tree.n/\s.g k=(u:Int):=fun k hk=>by rw[hs]at hk⊢;obtain⟨v,v1,v2⟩:=Pw h.Tree h.Tree.n k hk;exact⟨v,v1,v2⟩
 rw[<- hs]at hsn g2;have l:f.2=g.2:=by
  rcases f2 with⟨⟨v,hv,hd⟩,_,a2⟩ | ⟨_,a2,a3⟩<;>rcases g2 with⟨⟨k,hk,o⟩,_,b2⟩ | ⟨b1,b2,b3⟩
  ·rw[a2,b2]
  ·obtain⟨u,u1,u2,u3⟩:=TF a.tree h.Tree.n v (by omega) hv hd;obtain⟨k,k1,k2⟩:=LM h.Tree h.Tree.n u u1 u2;obtain⟨y,y1,_⟩:=b3 k (by rw[hs];exact k1);replace y1:DV N h w (s.g k).toNat=some y:=y1;rw[hs,k2,AC6,u3]at y1;cases y1
  ·obtain⟨u,u1,u2⟩:=a7 k hk;replace o : DV N h w (s.g k).toNat=none:=o;rw[u2,AC6]at o;obtain⟨y,y1,_⟩:=a3 u u1;rw[o]at y1;cases y1
  ·rw[a2,b2]
 refine ifF (by simp[l]) ?_;rcases f2 with⟨_,a1,a2⟩ | ⟨a1,a2,a3⟩
 ·rcases g2 with⟨_,b1,b2⟩ | ⟨b1,b2,b3⟩
  ·refine ifT (by simp[a2]) (ltX (ifT (by rw[a1,b1];rfl) (B0 hw ⟨_,rfl,rfl⟩)))
  ·rw[a2,b2]at l;exact absurd l (by decide)
 refine ifF (by simp[a2]) ?_;rcases g2 with⟨_,b1,b2⟩ | ⟨b1,b2,b3⟩
 ·rw[a2,b2]at l;exact absurd l (by decide)
 refine ifF (by simp[a1,b1]) ?_;refine AA (fun i x=>x=(i:Int)) h.Tree.n _ (by omega) rfl ?_;rintro self i q hle rfl hs1;by_cases hl:i<h.Tree.n
 ·refine ifT (by simp;omega) (ifT (by omega) ?_);rw[AC6];obtain⟨o1,o2⟩:=Wq a hl;obtain⟨z,z',hf1,a8,hf3,hf4⟩:∃z z' : Sl Sound,wOk z/\SE z z' /\ (if (decide (0<=(h.Tree.g i).Parent)) then (f.1.g (h.Tree.g i).Parent.toNat)else w)=z/\DV N h w i=AX N (FJ h (h.On.g i)).toList z':=by
   rcases I8 a.tree hl with⟨e0,e⟩ | ⟨p,hp,e⟩
   ·exact⟨w,w,a6,SE.refl w,by rw[if_neg (by rw[e];decide)],TE (by omega)⟩
   ·obtain⟨y,y1,y2,y3⟩:=a3 p (by omega);exact⟨f.1.g p,y,y3,y2,by rw[if_pos (by simp;omega)];congr 1;omega,by rw[YL e hp,y1];rfl⟩
  refine ifT (fun hd=>?_) (ifT (by omega) ?_)
  ·have hd:=of_decide_eq_true hd;rcases I8 a.tree hl with⟨e0,e⟩ | ⟨p,hp,e⟩<;>omega
  refine N2 (fun j (x9:Sl Law) a9=>a9=(j:Int)/\x9.n=j/\∀k,k<j->x9.g k=(FJ h (h.On.g i)).g k) (h.On.g i).n _ (by omega) ⟨rfl,rfl,fun j hj=>absurd hj (by omega)⟩ ?_;rintro self4 j x9 a9 hj ⟨rfl,hn9,h9⟩ hs4;by_cases b0:j<(h.On.g i).n
  ·have:=o2 j b0
   refine ifT (by simp;omega) ?_;rw[AC6];refine ifT ⟨⟨by omega,by omega⟩,by show (x9.n+1)*200<=_/\x9.n+1<=_;omega⟩ (hs4 b0 _ _ ⟨B4 (by omega),by show x9.n+1=_;omega,fun k hk=>?_⟩);show (if k<x9.n then x9.g k else _)=_;by_cases e:k<x9.n
   ·rw[if_pos e];exact h9 k (by omega)
   ·obtain rfl:k=j:=by omega
    rw[if_neg e];rfl
  refine ifF (by simp;omega) ?_;have b4:SE (FJ h (h.On.g i)) x9:=⟨by show (h.On.g i).n=_;omega,fun k hk=>(h9 k (by have hk:k<(h.On.g i).n:=hk;omega)).symm⟩;rw[hf3];obtain⟨y,y1,y2⟩:=As7 t m a hl hf1 a8 b4;rw[<- hf4]at y2;obtain⟨r,r1,r2,r3⟩:=YM t m a a6 a0 hl;obtain⟨v,v1,v2,v3⟩:=a3 i hl;have hy:outR (DV N h w i) (f.1.g i) 0:=.inl ⟨v,v1,rfl,v2,v3⟩;obtain⟨q1,q2⟩:=hy.se y2;obtain⟨q3,q4⟩:=r2.se y2;obtain⟨d,d1,d2⟩:=Pp (N:=N) (x:=f.1.g i) (y:=y.1) (by have:=hy.le;omega) (by have:=hy.le;omega);obtain rfl:=d2.2 q2;obtain⟨d',d1',d2'⟩:=Pp (N:=N) (x:=r.1) (y:=y.1) (by omega) (by omega);obtain rfl:=d2'.2 q4;refine B0 y1 (B0 r1 (ltX (ifF (by simp[<- q1]) (ifF (by simp[q3,<- q1]) (ifT (by omega) (B0 d1 (ifF (by simp) (B0 d1' (ifF (by simp) (hs1 hl _ (B4 (by omega))))))))))))
 ·refine ifF (by simp;omega) ?_;refine AA (fun i x=>x=(i:Int)) s.n _ (by omega) rfl ?_;rintro self5 k q hk rfl hs5;by_cases a4:k<s.n
  ·obtain⟨u,u1,u2⟩:=a7 k a4;refine ifT (by simp;omega) ?_;rw[AC6,u2,AC6];refine ifT (by omega) (ifF (by simp) (ifT (by omega) (ifF (by simp;omega) (ifT (by omega) ?_))));obtain⟨y,y1,y2,y3⟩:=b3 k a4;replace y1:DV N h w (s.g k).toNat=some y:=y1;rw[u2,AC6]at y1;obtain⟨v,v1,v2,v3⟩:=a3 u u1;rw[v1]at y1;obtain rfl:=AE1 y1;obtain⟨d,d1,d2⟩:=Pp (N:=N) (x:=g.1.g k) (y:=f.1.g u) (by have:=y3.1;omega) (by have:=y3.1;omega);obtain rfl:=d2.2 (y2.trans v2.symm);exact B0 d1 (ifF (by simp) (hs5 a4 _ (B4 (by omega))))
  ·exact ifF (by simp;omega) (B0 hw ⟨_,rfl,rfl⟩)
end Go.AM
namespace Go.AM
open IntKind (wrap)
open Go.Proofs
theorem ltV {R A:Type}{Q:R->Prop}{k:A->Option R}{f:(A->Option R)->Option R}(u:A)(h1:∃r,k u=some r/\Q r)(a:∀k:A->Option R,(∃r,k u=some r/\Q r)->∃r,f k=some r/\Q r):∃r,lt k f=some r/\Q r:=a k h1
theorem Aj4 {h:A5}{law:Int}:∀(n i:Nat),i<=n->(WS h law i).n<=(WS h law n).n/\∀k,k<(WS h law i).n->(WS h law n).g k=(WS h law i).g k
 |0,i,hi=>by obtain rfl:i=0:=(by omega);exact⟨AD3 _,fun _ _=>rfl⟩
 |n+1,i,hi=>by
  by_cases e:i=n+1
  ·subst e;exact⟨AD3 _,fun _ _=>rfl⟩
  obtain⟨h1,a⟩:=Aj4 n i (by omega);by_cases hm:YP h law n
  ·rw[NI hm];refine⟨Nat.le_succ_of_le h1,fun k hk=>?_⟩;show (if k<(WS h law n).n then (WS h law n).g k else _)=_;rw[if_pos (by omega)];exact a k hk
  ·rw[Wt hm];exact⟨h1,a⟩
theorem YV {N:Nat}{h:A5}(ht:X9 h.Tree){w:Sl Sound}:∀(m v:Nat),v<=m->v<h.Tree.n->(E7 h v).n=0->DV N h w v=some w
 |m,v,hm,hv,h0=>by
  have a:(h.On.g v).n=0->(FJ h (h.On.g v)).toList=[]:=fun e=>by show (List.range (h.On.g v).n).map _=[];rw[e];rfl
  rcases I8 ht hv with⟨_,e⟩ | ⟨p,hp,e⟩
  ·rw[X8 (by omega)]at h0;replace h0:0+(h.On.g v).n=0:=h0;rw[TE (by omega),a (by omega)];rfl
  ·rw[AW e hp]at h0;replace h0:(E7 h p).n+(h.On.g v).n=0:=h0;rw[YL e hp,a (by omega)]
   match m with
   |0=>omega
   |m+1=>rw[YV ht m p (by omega) (by omega) (by omega)];rfl
theorem Ie {N:Nat}(hN:3000000<=N)(hw:Q4 N=some true){x:Ek}(hx:LN x){w:Sl Sound}(hwa:okA w){c:Nat}(hc:c<256):S4 N x w (c:Int)=some true:=by
 refine eqR ?_;unfold S4;obtain⟨⟨h,b⟩,h1,r,h2⟩:=Va hN hx;refine B0 h1 ?_;dsimp only;by_cases hb:(((!b)||(decide (50<(w.n:Int))))||((h.Laws.n:Int)==0))=true
 ·exact ifT hb (B0 hw ⟨_,rfl,rfl⟩)
 refine ifF hb ?_;simp only[AE2,AE8,decide_eq_true_eq,not_or,Bool.not_eq_false,beq_iff_eq]at hb;obtain⟨⟨rfl,h50⟩,hl0⟩:=hb;replace r:U0 h:=r;have a:Ay N h:=(h2 rfl).hist;have h63:=a.tree.2.1;have hl64:=a.laws.1;have hon:=a.on;refine ifT hl0 ?_;have e1:(wrap .i64 (c:Int)).tmod (h.Laws.n:Int)=((c % h.Laws.n:Nat):Int):=by rw[D7 (by omega) (by omega)];rfl
 rw[e1];have ho:=AU5 c (show 0<h.Laws.n by omega);generalize c % h.Laws.n=one at ho;obtain⟨l,l1,rfl⟩:=Wu hN r a (law:=(one:Int)) (by omega);refine B0 l1 (ifF (by simp) ?_);dsimp only;refine N2 (fun i (x:Int) y=>y=(i:Int)/\x=((WS h (one:Int) i).n:Int)) h.Tree.n _ (by omega) ⟨rfl,rfl⟩ ?_;rintro self i x5 x6 hle ⟨rfl,rfl⟩ hs;by_cases m:i<h.Tree.n
 case neg=>
  obtain rfl:i=h.Tree.n:=by omega
  exact ifF (by simp) (ltX (ifT (by simp) (B0 hw ⟨_,rfl,rfl⟩)))
 have hwn:=AC4 h (one:Int) i;have hln:(E7 h i).n<=64:=AL3 fun f=>a.long ⟨i,by omega,f⟩;have o:∀v:Nat,v<h.Tree.n->J5 N h (v:Int)=some (E7 h v,0):=fun v hv=>by
  obtain⟨s,e,s1,s2,s3⟩:=UV hN r (v:Int);rcases s3 with⟨rfl,_,_,_,rfl⟩ | ⟨s3,rfl⟩
  ·rw[s1,AC6]
  ·have:=FH r a.tree hon N v (by omega) hv
   unfold FX at s2;have hb:¬(!((decide (0<=(v:Int)))&&(decide ((v:Int)<(h.Tree.n:Int)))))=true:=by simp;omega
   rw[HY hN r,hres_zero.2 a,AD1,if_neg (by decide),IG,AD1,if_neg hb,this]at s2
   have:=AE1 s2
   exact absurd (Prod.mk.inj this).2.symm s3
 obtain⟨s,s',e,s1,s2,s3,s4⟩:=Ae4 hN r (i:Int);have s4:e=0/\SE s' (FJ h (E7 h i)):=by
  rcases s4 with⟨g1,_,_,_,g2⟩ | ⟨g1,g2⟩
  ·rw[AC6]at g2;exact⟨g1,g2⟩
  ·exfalso;unfold T3 at s1;rw[o i m,AD1]at s1;obtain⟨o1,o2⟩:(E7 h i).n<=64/\∀j,j<(E7 h i).n->0<=(E7 h i).g j/\(E7 h i).g j<h.Laws.n:=⟨hln,Ps a i i (AD3 _) m⟩;obtain⟨q,q1,_⟩:=JT hN r a (l:=E7 h i) (by omega) o2;replace s1:((F8 N h (E7 h i)).bind fun y2=>some (y2,(0:Int)))=some (s,e):=s1;rw[q1,AD1]at s1
   have:=AE1 s1
   exact absurd (Prod.mk.inj this).2.symm g1
 obtain⟨rfl,t⟩:=s4;have hsn:s.n=(E7 h i).n:=by rw[<- s3.1,t.1];rfl
 refine ifT (by simp;omega) (B0 (o i m) (B0 s1 (ifF (by simp[hsn]) ?_)));dsimp only;have hin:∀j,j<(E7 h i).n->0<=(E7 h i).g j/\(E7 h i).g j<h.Laws.n:=Ps a i i (AD3 _) m;refine N2 (fun j (x7:Bool) x8=>x8=(j:Int)/\(x7=true ↔ ∃q,q<j/\(E7 h i).g q=(one:Int))) (E7 h i).n _ (by omega) ⟨rfl,by simp⟩ ?_;rintro self2 j x7 x8 hj ⟨rfl,h7⟩ hs2;by_cases u:j<(E7 h i).n
 ·have hij:=hin j u;refine ifT (by simp;omega) (ifT (by omega) ?_);rw[AC6];have hname:(s.g j).Name=(h.Laws.g ((E7 h i).g j).toNat).Name:=by have h1:=(s3.2 j (by rw[t.1];exact u)).name;rw[h1,t.2 j (by rw[t.1];exact u)];rfl
  refine ifF (by simp;omega) (ifT (by omega) (ifF (by simp;omega) (ifT (by omega) (ifF (by rw[hname];simp) (ifT (fun _=>by omega) (hs2 u _ _ ⟨B4 (by omega),?_⟩))))));rw[AE2,h7,beq_iff_eq];constructor
  ·rintro (⟨q,q1,q2⟩ | e)
   ·exact⟨q,by omega,q2⟩
   ·exact⟨j,by omega,e⟩
  ·rintro⟨q,q1,q2⟩;by_cases e:q=j
   ·subst e;exact .inr q2
   ·exact .inl ⟨q,by omega,q2⟩
 obtain rfl:j=(E7 h i).n:=by omega
 refine ifF (by simp) (ifT (by omega) ?_);have h7' : x7=true↔YP h (one:Int) i:=h7;refine ltV () ?_ fun k7 hk7=>?_
 case refine_2=>
  rw[AC6];rcases I8 a.tree m with⟨_,e⟩ | ⟨p,hp,e⟩
  ·exact ifF (by simp;omega) hk7
  ·refine ifT (by simp;omega) ?_;rw[e];refine B0 (o p (by omega)) (ifF (by simp) ?_);dsimp only;have hpn:(E7 h p).n<=64:=AL3 fun f=>a.long ⟨p,by omega,f⟩;have ho1:=(Wq a m).1;refine ifT ⟨⟨by show (0+(E7 h p).n)*8<=_/\0+(E7 h p).n<=_;omega,by omega⟩,by show ((0+(E7 h p).n)+(h.On.g i).n)*8<=_/\(0+(E7 h p).n)+(h.On.g i).n<=_;omega⟩ ?_;refine B0 (Ws (by omega) (by omega) ⟨?_,fun k hk=>?_⟩) (ifF (by simp) hk7)
   ·rw[AW e hp];show (E7 h p).n+(h.On.g i).n=(0+(E7 h p).n)+(h.On.g i).n;omega
   ·rw[AW e hp];show (if k<(E7 h p).n then (E7 h p).g k else (h.On.g i).g (k-(E7 h p).n))=(if k<0+(E7 h p).n then (if k<0 then (Sl.of []:Sl Int).g k else (E7 h p).g (k-0))else (h.On.g i).g (k-(0+(E7 h p).n)));rw[AF9,if_neg (AF7 k),Nat.sub_zero]
 refine ltV ((WS h (one:Int) (i+1)).n:Int) ?_ fun k8 hk8=>?_
 case refine_2=>
  by_cases z:x7=true
  ·have hyes:=NI (h7'.1 z);obtain⟨g1,g2⟩:=Aj4 (h:=h) (law:=(one:Int)) h.Tree.n (i+1) (by omega);have hn1:(WS h (one:Int) (i+1)).n=(WS h (one:Int) i).n+1:=by rw[hyes];first|done|rfl
   have hg:=g2 (WS h (one:Int) i).n (by omega);rw[hyes]at hg;replace hg:_=(if (WS h (one:Int) i).n<(WS h (one:Int) i).n then _ else (i:Int)):=hg;rw[if_neg (by omega)]at hg;refine ifT z (ifT (fun _=>by omega) (ifF ?_ ?_))
   ·rw[AC6,hg];simp;try omega
   ·rw[B4 (by omega)]
    have:(((WS h (one:Int) i).n+1:Nat):Int)=((WS h (one:Int) (i+1)).n:Int):=by rw[hn1]
    rw[this];exact hk8
  ·refine ifF z ?_;rw[Wt (fun f=>z (h7'.2 f))]at hk8;exact hk8
 have hat:∃c,I1 N h w=some c/\(c=0->wOk w):=by obtain⟨c,c1,c2,c3⟩:=YN hN r (SE.refl w) hwa;exact⟨c,c1,fun e=>(c3 e).2.1⟩
 obtain⟨c,c1,c2⟩:=hat;obtain⟨y,y1,y2⟩:∃y,N9 N h w (i:Int)=some y/\(y.2=0->y.1.n<=32/\((E7 h i).n=0->SE y.1 w)):=by
  by_cases h0:c=0
  ·obtain⟨q,q1,q2,q3⟩:=YM hN r a (c2 h0) hwa m;refine⟨q,q1,fun hz=>⟨q3,fun hln0=>?_⟩⟩;rcases q2 with⟨y,y1,y2,y3,y4⟩ | ⟨y1,y2,y3⟩
   ·rw[YV a.tree i i (AD3 _) m hln0]at y1;obtain rfl:=AE1 y1;exact y3
   ·rw[hz]at y2;cases y2
  ·refine⟨((Sl.nil:Sl Sound),c),?_,fun h=>absurd h h0⟩;unfold N9;rw[c1,AD1,if_pos (by simpa using h0)]
 refine B0 y1 (ltV false (ifF (by simp) (hs m _ _ ⟨B4 (by omega),rfl⟩)) fun k9 a0=>?_);by_cases hy0:y.2=0
 ·refine ifT (by simp[hy0]) ?_;obtain⟨z1,z2⟩:=y2 hy0;obtain⟨d,d1,d2⟩:=Pp (N:=N) (x:=y.1) (y:=w) (by omega) (by omega);refine B0 d1 ?_;by_cases hz:(E7 h i).n=0
  ·obtain rfl:=d2.2 (z2 hz);exact ifF (by simp) a0
  ·have:(((E7 h i).n:Int)==0)=false:=by simp;omega
   rw[this];by_cases g:(!d)=true
   ·exact ifT g a0
   ·exact ifF g a0
 ·exact ifF (by simpa using hy0) a0
end Go.AM
