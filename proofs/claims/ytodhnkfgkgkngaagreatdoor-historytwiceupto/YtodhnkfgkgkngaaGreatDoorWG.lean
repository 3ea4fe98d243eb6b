/- What a law's walk and its plain proof need, part 7: no condition of its own. -/
import Derived.Test.YtodhnkfgkgkngaaGreatDoorWF
import Derived.Test.YtodhnkfgkgkngaaGreatDoorWE
set_option linter.defProp false
set_option linter.unusedSimpArgs false
set_option linter.unusedVariables false
set_option linter.unusedSectionVars false
namespace Go.AM
open IntKind (wrap)
def Al4:=@List.reverse_append
def Aq2:=@List.mem_reverse
def Ar1:=@UInt8.toNat_ofNat'
def Ar9:=@Classical.axiomOfChoice
def As5:=@List.reverse_singleton
def At1:=@List.singleton_append
def At2:=@List.sum_append
def Au3:=@List.cons.inj
open Go.Proofs
theorem Tb {N:Nat}{p:Pat}(hp:okS p.Is):∃e,V7 N p=some e/\(e=0↔Fv p):=by
 obtain⟨a,b,i⟩:=hp;have m:=WR i;have V:K3 N p.Is=some (vB a b):=by rw[i];exact UI a b
 have e0:((p.Is.Plus==0)&&(p.Is.Minus==0))=decide (p.Is.Plus=0/\p.Is.Minus=0):=by rw[Ak5];simp
 have fin:(Fv p↔vS p.Is)->∃e,((K3 N p.Is).bind fun y1=>if (!y1) then some (14:Int)else some 0)=some e/\(e=0↔Fv p):=by
  intro c;rw[V];refine E9 rfl ?_;rw[c,m];cases vB a b
  ·exact ifT rfl ⟨14,rfl,by simp⟩
  ·exact ifF (by simp) ⟨0,rfl,by simp⟩
 have bad:∀{x:Int},x≠0->¬Fv p->∃e,some x=some e/\(e=0↔Fv p):=fun hx h=>⟨_,rfl,fun d=>absurd d hx,fun d=>absurd d h⟩;unfold V7;by_cases hk:p.Kind=0 \/ p.Kind=2 \/ p.Kind=6
 ·refine ifT (by rcases hk with h|h|h<;>simp[h]) (ltX ?_);rw[e0];by_cases g1:p.Is.Plus=0/\p.Is.Minus=0
  case neg=>exact ifT (by simp[g1]) (ifT rfl (bad (by decide) fun h=>g1 (h.2.1 (by omega)).1))
  refine ifF (by simp[g1]) ?_;by_cases g2:p.Not=true
  ·exact ifT g2 (ifT rfl (bad (by decide) fun h=>by have:=(h.2.1 (by omega)).2;rw[g2]at this;cases this))
  refine ifF g2 ?_;by_cases g3:p.Min=0
  case neg=>exact ifT (by simp[g3]) (ifT rfl (bad (by decide) fun h=>g3 (h.2.2.2.1 (by omega)).1))
  refine ifF (by simp[g3]) ?_;by_cases g4:p.Max=0
  case neg=>exact ifT (by simp[g4]) (ifT rfl (bad (by decide) fun h=>g4 (h.2.2.2.1 (by omega)).2))
  refine ifF (by simp[g4]) ?_;by_cases g5:p.L.n=0
  case neg=>exact ifT (by simp;omega) (bad (by decide) fun h=>g5 (h.2.2.1 (by omega) (by omega) (by omega)))
  refine ifF (by simp;omega) (fin ?_);exact⟨fun h=>h.2.2.2.2.2,fun h=>⟨by omega,fun _=>⟨g1,by simpa using g2⟩,fun _ _ _=>g5,fun _=>⟨g3,g4⟩,fun f=>by omega,h⟩⟩
 refine ifF (by simp only[not_or]at hk;simp[hk]) ?_;by_cases k1:p.Kind=1
 ·refine ifT (by simp[k1]) (ltX ?_);refine ifF (by simp) ?_;by_cases g3:p.Min=0
  case neg=>exact ifT (by simp[g3]) (ifT rfl (bad (by decide) fun h=>g3 (h.2.2.2.1 (by omega)).1))
  refine ifF (by simp[g3]) ?_;by_cases g4:p.Max=0
  case neg=>exact ifT (by simp[g4]) (ifT rfl (bad (by decide) fun h=>g4 (h.2.2.2.1 (by omega)).2))
  refine ifF (by simp[g4]) ?_;by_cases g5:p.L.n=0
  case neg=>exact ifT (by simp;omega) (bad (by decide) fun h=>g5 (h.2.2.1 (by omega) (by omega) (by omega)))
  refine ifF (by simp;omega) (fin ?_);exact⟨fun h=>h.2.2.2.2.2,fun h=>⟨by omega,fun h1=>absurd k1 h1,fun _ _ _=>g5,fun _=>⟨g3,g4⟩,fun f=>by omega,h⟩⟩
 refine ifF (by simp[k1]) (ltX ?_);rw[e0];have tail:∀(x y:Int),(Fv p↔(p.Is.Plus=0/\p.Is.Minus=0)/\p.Not=false/\x=0/\y=0/\vS p.Is)->∃e,(if (((((decide (p.Is.Plus=0/\p.Is.Minus=0) != true)||p.Not)||(x != 0))||(y != 0))||(decide (0<0))) then some (2:Int)else
  (K3 N p.Is).bind fun y3=>if (!y3) then some 14 else some 0)=some e/\(e=0↔Fv p):=by
  intro x y c;by_cases g:(p.Is.Plus=0/\p.Is.Minus=0)/\p.Not=false/\x=0/\y=0
  ·obtain⟨g1,g2,g3,g4⟩:=g;exact ifF (by simp[g1,g2,g3,g4]) (fin (c.trans ⟨fun h=>h.2.2.2.2,fun h=>⟨g1,g2,g3,g4,h⟩⟩))
  ·refine ifT ?_ (bad (by decide) fun h=>g ⟨(c.1 h).1,(c.1 h).2.1,(c.1 h).2.2.1,(c.1 h).2.2.2.1⟩);simp only[Ag9,bne_iff_ne,ne_eq,decide_eq_true_eq];by_cases g1:p.Is.Plus=0/\p.Is.Minus=0
   ·by_cases g2:p.Not=true
    ·simp[g2]
    ·by_cases g3:x=0
     ·have:¬y=0:=fun g4=>g ⟨g1,by simpa using g2,g3,g4⟩
      simp[this]
     ·simp[g3]
   ·simp[g1]
 by_cases k34:p.Kind=3 \/ p.Kind=4
 ·refine ifT (by rcases k34 with h|h<;>simp[h]) (tail _ _ ?_);constructor
  ·exact fun h=>⟨(h.2.1 k1).1,(h.2.1 k1).2,(h.2.2.2.1 (by omega)).1,(h.2.2.2.1 (by omega)).2,h.2.2.2.2.2⟩
  ·rintro⟨h1,d,j,l,f⟩;exact⟨by omega,fun _=>⟨h1,d⟩,fun h h'=>by omega,fun _=>⟨j,l⟩,fun h=>by omega,f⟩
 refine ifF (by simp only[not_or]at k34;simp[k34]) ?_;by_cases k5:p.Kind=5
 ·refine ifT (by simp[k5]) ?_;by_cases g:p.L.n=1/\0<=p.Min/\p.Min<=32/\(p.Max = -1 \/ (p.Min<=p.Max/\p.Max<=32))
  ·refine ifF (by simp only[Ag9,Ae6,bne_iff_ne,ne_eq,decide_eq_true_eq];omega) (tail 0 0 ?_);constructor
   ·exact fun h=>⟨(h.2.1 k1).1,(h.2.1 k1).2,rfl,rfl,h.2.2.2.2.2⟩
   ·rintro⟨h1,d,j,l,f⟩;exact⟨by omega,fun _=>⟨h1,d⟩,fun _ _ h=>absurd k5 h,fun h=>absurd k5 h,fun _=>g,f⟩
  ·exact ifT (by simp only[Ag9,Ae6,bne_iff_ne,ne_eq,decide_eq_true_eq];omega) (bad (by decide) fun h=>g (h.2.2.2.2.1 k5))
 ·exact ifF (by simp[k5]) (bad (by decide) fun h=>by have:=h.1;omega)
theorem UM {x:Sl Pat}{m:Nat}(h:x.n=m+1):x.toList.reverse=x.g m::(x.take m).toList.reverse:=by unfold Sl.toList;rw[h,Ak4,Al3,Al4];rfl
theorem WT (z:Sl Pat)(q:Pat):((z.push Pat.nil).upd z.n q).toList.reverse=q::z.toList.reverse:=by
 rw[UM (m:=z.n) rfl];have e1:((z.push Pat.nil).upd z.n q).g z.n=q:=by simp
 have e2:(((z.push Pat.nil).upd z.n q).take z.n).toList=z.toList:=by
  unfold Sl.toList;refine Ag8 fun i a=>?_
  have:i<z.n:=Ak3.1 a
  show (if i=z.n then q else if i<z.n then z.g i else Pat.nil)=z.g i;rw[if_neg (by omega),if_pos this]
 rw[e1,e2]
theorem Qu {N:Nat}(q:Sl Pat)(c:q.n<N)(hs:q.n<1000000):B8 N q=some ((List.range q.n).reverse.map fun (i:Nat)=>((i:Int),q.g i)):=by
 unfold B8;have h:∀(m:Nat),m<=q.n->∀F,m<F->Q6 F (fun (a:Int->Option (List (Int×Pat))) (x1:Int)=>
  if (decide (0<=x1)) then
   if ((0:Int)<=x1/\x1<(q.n:Int))then
    FZ (x1,q.g x1.toNat) (
     a (wrap .i64 (x1-1))
     )
   else none
  else
   some []) ((m:Int)-1)=some ((List.range m).reverse.map fun (i:Nat)=>((i:Int),q.g i)):=by
  intro m
  induction m with
  |zero=>
   intro _ F b
   match F,b with
   |F+1,_=>rfl
  |succ m ih=>
   intro hm F b
   match F,b with
   |F+1,b=>rw[FU];rw[show ((m+1:Nat):Int)-1=(m:Int) by omega,if_pos (by simp),if_pos (by omega),H1 (by omega) (by omega),ih (by omega) F (by omega),Ae5,Ak4,Al4,As5,At1,Ag3];rfl
 rw[H1 (by omega) (by omega)];exact h q.n (Af0 _) N c
theorem Zc {k:Nat}(hk:k<=40){c:Sl Pat}{l:List Pat}:chk k ((c.take (min 41 c.n)).toList++l)↔chk k (c.toList++l):=by
 by_cases h:c.n<=41
 ·rw[Nat.min_eq_right h]
 ·constructor
  ·intro a
   have:=MT _ _ a
   rw[Ai4,CJ]at this
   have:(c.take (min 41 c.n)).n=41:=An5 (by omega)
   omega
  ·intro a
   have:=MT _ _ a
   rw[Ai4,CJ]at this;omega
theorem RB {N:Nat}(hN:2000<=N){p:Pat}(hp:okPS p):∃e,S1 N p=some e/\(e=0↔chk 40 [p]):=by
 unfold S1;refine DN (fun i x3 x4=>x4=(i:Int)/\x3.n<=1+41*i/\(∀q∈x3.toList.reverse,okPS q)/\(chk 40 [p]↔chk (40-i) x3.toList.reverse)) 40 _ (by omega)
  ⟨rfl,by show 1<=_;omega,fun q l=>by rw[show (Sl.of [p]:Sl Pat).toList.reverse=[p] from rfl]at l;rw[Al9.1 l];exact hp,An4⟩ ?_
 rintro x i x3 x4 hi ⟨rfl,h1,c,f⟩ hs;rcases hn:x3.n with _|m
 ·refine ifF (by simp) ⟨0,rfl,fun _=>f.2 ?_,fun _=>rfl⟩
  have:x3.toList.reverse=[]:=by unfold Sl.toList;rw[hn];rfl
  rw[this];exact UJ _
 ·rw[UM hn]at f c;refine ifT (decide_eq_true (by omega)) ?_;by_cases r:i=40
  ·subst r;refine ifT (by simp) ⟨12,rfl,fun h=>absurd h (by decide),fun h=>?_⟩
   have:(x3.g m::(x3.take m).toList.reverse)=[]:=f.1 h
   cases this
  refine ifF (by simp;omega) ?_;have hw:IntKind.i64.wrap (((m+1:Nat):Int)-1)=(m:Int):=by rw[H1 (by omega) (by omega)];omega
  simp only[hw,Ae5];refine ifT (by omega) (ifT (by omega) ?_);obtain⟨e,y,a⟩:=Tb (N:=N) (c (x3.g m) (by simp)).is;refine E9 y ?_;rw[show 40-i=(39-i)+1 by omega]at f;by_cases o:e=0
  case neg=>exact ifT (by simp[o]) ⟨e,rfl,fun h=>absurd h o,fun h=>absurd (a.2 (f.1 h).1) o⟩
  refine ifF (by simp[o]) ?_;have hc:(if (41:Int)<((x3.g m).L.n:Int)then (41:Int)else ((x3.g m).L.n:Int))=((min 41 (x3.g m).L.n:Nat):Int):=by split<;>omega
  simp only[hc,Ae5];refine ifT (by omega) (E9 rfl (E9 (Qu _ (by show min 41 _<N;omega) (by show min 41 _<1000000;omega)) ?_));generalize s:(x3.g m).L.take (min 41 (x3.g m).L.n)=C;have a0:C.n<=41:=by rw[<- s];exact Nat.min_le_left _ _
  refine Ac3 (fun L z=>∃j,j<=C.n/\L=((List.range j).reverse.map fun (i:Nat)=>((i:Int),C.g i))/\z.n=m+(C.n-j)/\z.toList.reverse=C.toList.drop j++(x3.take m).toList.reverse) ?_ ?_ _ _ ⟨C.n,Af0 _,rfl,by show m=_;omega,by rw[Ev];rfl⟩
  ·rintro z ⟨j,hj,hL,hz,b⟩;have u:j=0:=by
    cases j with
    |zero=>rfl
    |succ j=>simp[Ak4]at hL
   subst u;rw[Ar3]at b;refine hs (by omega) _ _ ⟨J1 (by omega),by omega,fun q l=>?_,?_⟩
   ·rw[b]at l;rcases List.mem_append.1 l with h|h
    ·obtain⟨i',d,rfl⟩:=Am7.1 h;have d:=Ak3.1 d;rw[<- s]at d⊢;exact (c (x3.g m) (by simp)).L (Ag4 d (Nat.min_le_right _ _))
    ·exact c q (by simp[h])
   ·rw[b,f,show 40-(i+1)=39-i by omega,<- s,Zc (by omega)];exact⟨fun h=>h.2,fun h=>⟨a.1 o,h⟩⟩
  ·rintro t L z v ⟨j,hj,hL,hz,b⟩ w;cases j with
   |zero=>simp at hL
   |succ j=>rw[Ak4,Al4,As5,At1,Ag3]at hL;obtain⟨rfl,rfl⟩:=Au3 hL;have e1:(z.n:Int).toNat=z.n:=Ae5 _;refine ifT ⟨⟨⟨by show (z.n+1)*64<=_;omega,by show z.n+1<=_;omega⟩,by show (0:Int)<=_/\(z.n:Int)<((z.n+1:Nat):Int);omega⟩,by show z.n<z.n+1;omega⟩ ?_;refine w _ ⟨j,by omega,rfl,by show z.n+1=_;omega,?_⟩;rw[WT,b,Fw C (i:=j) (by omega),Ah4]
end Go.AM
namespace Go.AM
open IntKind (wrap)
open Go.Proofs
theorem OJ {N:Nat}{w:Sl Sound}(m:w.n<N)(hs:w.n<1000000){f:Sound->Option Bool}{b:Nat->Bool}(o:∀i,i<w.n->f (w.g i)=some (b i)) :∃r,B0 N w f=some r/\(r=true ↔ ∃i,i<w.n/\b i=true):=by
 unfold B0 C7
 have:∃y,Q6 N (fun (a:Int->Option Int) (x1:Int)=>
  if (decide (x1<(w.n:Int))) then
   if ((0:Int)<=x1/\x1<(w.n:Int))then
    (f (w.g x1.toNat)).bind fun y3=>
    if y3 then
     some x1
    else
     a (wrap .i64 (x1+1))
   else none
  else
   some (-1)) 0=some y/\(0<=y ↔ ∃i,i<w.n/\b i=true):=by
  refine Ab (fun i x1=>x1=(i:Int)/\∀j,j<i->b j=false) w.n _ m ⟨rfl,fun j c=>absurd c (by omega)⟩ ?_;rintro l i x1 q ⟨rfl,h⟩ d;by_cases hl:i<w.n
  ·refine ifT (by simp;omega) (ifT (by omega) (E9 (by rw[Ae5];exact o i hl) ?_));cases hb:b i
   ·refine ifF (by simp) (d hl _ ⟨J1 (by omega),fun j c=>?_⟩);by_cases e:j=i
    ·subst e;exact hb
    ·exact h j (by omega)
   ·exact ifT rfl ⟨i,rfl,fun _=>⟨i,hl,hb⟩,fun _=>by omega⟩
  ·refine ifF (by simp;omega) ⟨-1,rfl,fun h=>absurd h (by decide),?_⟩;rintro⟨j,c,hb⟩;rw[h j (by omega)]at hb;cases hb
 obtain⟨y,e,hy⟩:=this;exact E9 e ⟨_,rfl,by rw[decide_eq_true_eq];exact hy⟩
end Go.AM
namespace Go.AM
open Go.Proofs
end Go.AM
namespace Go.AM
open Go.Proofs
end Go.AM
namespace Go.AM
open Go.Proofs
def okL (l:Law):Prop:=okPS l.Left/\okPS l.Right/\∀i,i<l.If.n->okS (l.If.g i)
end Go.AM
namespace Go.AM
open Go.Proofs
end Go.AM
namespace Go.AM
open Go.Proofs
def okO (x:Z4):Prop:=okS x.Set/\(∃c:BitVec 32,x.Clear=(c.toNat:Int))/\∃t:BitVec 32,x.Take=(t.toNat:Int)
def outP (l:Law):Prop:=l.Out.n<=6/\∀i,i<l.Out.n->okO (l.Out.g i)/\(l.Out.g i).From<l.If.n/\((l.Out.g i).Take≠0->0<=(l.Out.g i).Of/\(l.Out.g i).Of<l.If.n)
end Go.AM
namespace Go.AM
open Go.Proofs
theorem ne0 (x:BitVec 32):((x.toNat:Int) != 0)=decide (x≠0#32):=by rw[bne,eq0];simp
theorem or0 (x y:BitVec 32):x ||| y=0#32↔x=0#32/\y=0#32:=by
 constructor
 ·intro h;have h:=(z32 _).1 h;exact⟨(z32 _).2 fun i a=>by have:=h i a;rw[Am5,Ao4]at this;exact this.1,(z32 _).2 fun i a=>by have:=h i a;rw[Am5,Ao4]at this;exact this.2⟩
 ·rintro⟨rfl,rfl⟩;rfl
theorem Ac4 (x y z:BitVec 32):x &&& (y ||| z)=(x &&& y) ||| (x &&& z):=by apply An1;intro i a;simp only[Ap5,Am5];cases x.getLsbD i<;>simp
theorem Ac5 (x y z:BitVec 32):(x ||| y) &&& z=(x &&& z) ||| (y &&& z):=by apply An1;intro i a;simp only[Ap5,Am5];cases z.getLsbD i<;>simp
theorem RC {N:Nat}(j:1000<=N){x:Z4}(hx:okO x)(k:Int):∃b,P6 N x k=some b/\GZ N x k=some b:=by
 obtain⟨⟨a,b,d⟩,⟨c,hc⟩,t,ht⟩:=hx;have f:(16777215:Int)=((16777215#32).toNat:Int):=rfl;unfold P6 GZ;simp only[lt,d,hc,ht,JI,Lw a b j,Ag0];rw[f];simp only[IR,Uk,SD,ne0];by_cases h1:x.From < -1
 ·simp[h1]
 by_cases g:k<=x.From
 ·simp[h1,g]
 by_cases i:vB a b=true
 case neg=>simp[h1,g,i]
 simp only[h1,g,i,decide_false,Af1,if_false,Ap3];rw[Ac5,Ac4 t];generalize ~~~16777215#32=M;by_cases g1:c &&& M=0#32
 case neg=>simp[g1,or0]
 by_cases g2:t &&& M=0#32
 case neg=>simp[g1,g2,or0]
 by_cases g3:c &&& (a ||| b)=0#32
 case neg=>simp[g1,g2,g3,or0]
 by_cases g4:t &&& (a ||| b)=0#32
 case neg=>simp[g1,g2,g3,g4,or0]
 by_cases g5:t &&& c=0#32
 case neg=>simp[g1,g2,g3,g4,g5,or0]
 simp[g1,g2,g3,g4,g5,or0];by_cases g6:t.toNat=0
 ·simp only[g6,if_true];cases x.Of==0<;>simp
 ·simp only[g6,if_false];cases (decide (0<=x.Of)&&decide (x.Of<k))<;>simp
end Go.AM
namespace Go.AM
open Go.Proofs
abbrev nameC:Str:=[97,98,99,100,101,102,103,104,105,106,107,108,109,110,111,112,113,114,115,116,117,118,119,120,121,122,65,66,67,68,69,70,71,72,73,74,75,76,77,78,79,80,81,82,83,84,85,86,87,88,89,90,48,49,50,51,52,53,54,55,56,57,45]
theorem UN {p:UInt8->Bool}:∀{l:Str},l.dropWhile p=[] ↔ ∀x∈l,p x=true
 |[]=>by simp
 |a::l=>by
  rw[List.dropWhile_cons];by_cases h:p a=true
  ·rw[if_pos h,UN];simp[h]
  ·rw[if_neg h];simp[h]
theorem WU (l cs:Str):Lib.trimS l cs=[] ↔ ∀b∈l,cs.contains b=true:=by
 unfold Lib.trimS Lib.trimLeftS Lib.trimRightS;rw[UN];constructor
 ·intro h;have h:∀x∈l.reverse.dropWhile (cs.contains ·),cs.contains x=true:=fun x hx=>h x (Aq2.2 hx);have a:l.reverse.dropWhile (cs.contains ·)=[]:=by
   rcases e:l.reverse.dropWhile (cs.contains ·)with _|⟨y,r⟩
   ·rfl
   ·have c:=h y (by rw[e];simp);have d:¬cs.contains y=true:=by
     have:=List.head_dropWhile_not (cs.contains ·) (l:=l.reverse) (by rw[e];simp)
     simp only[e,List.head_cons]at this;rw[this];exact Bool.false_ne_true
    exact absurd c d
  rw[UN]at a;exact fun b hb=>a b (Aq2.2 hb)
 ·intro h x hx;have hx:=Aq2.1 hx;exact h x (Aq2.1 ((List.dropWhile_sublist _).mem hx))
abbrev MU (y:Int):Bool:=((((decide (97<=y))&&(decide (y<=122)))||((decide (65<=y))&&(decide (y<=90))))||((decide (48<=y))&&(decide (y<=57))))||(y==45)
theorem UO:∀k:Fin 256,nameC.contains (UInt8.ofNat k.val)=MU ((k.val:Nat):Int):=by decide +kernel
theorem UP (b:UInt8):nameC.contains b=MU ((b.toNat:Nat):Int):=by
 have:=UO ⟨b.toNat,b.toNat_lt⟩
 rw[show UInt8.ofNat b.toNat=b by simp]at this;exact this
theorem OK {N:Nat}{s:Str}(n:s.length<N)(hs:s.length<1000000000):∃b,Z9 N s=some b/\CE N s=some b:=by
 have o:∃b,CE N s=some b/\(b=true↔(∀c∈s,nameC.contains c=true)/\1<=s.length/\s.length<=24):=by
  unfold CE;refine Ab (fun i x1=>x1=(i:Int)/\∀j (h:j<s.length),j<i->nameC.contains s[j]=true) s.length _ n ⟨rfl,fun j _ a=>absurd a (by omega)⟩ ?_;rintro l i x1 v ⟨rfl,h⟩ f;by_cases hl:i<s.length
  ·refine ifT (by simp;omega) (ifT (by omega) ?_);have eb:Bg s (i:Int)=((s[i].toNat:Nat):Int):=by simp[Bg,hl]
   by_cases hb:nameC.contains s[i]=true
   ·refine ifF (by rw[eb];show ¬(!(MU ((s[i].toNat:Nat):Int)))=true;rw[<- UP,hb];simp) (f hl _ ⟨J1 (by omega),fun j a q=>?_⟩);by_cases e:j=i
    ·subst e;exact hb
    ·exact h j a (by omega)
   ·refine ifT ?_ ⟨false,rfl,by simp,fun t=>absurd (t.1 s[i] (As0 hl)) hb⟩;rw[eb];show (!(MU ((s[i].toNat:Nat):Int)))=true;rw[<- UP];simpa using hb
  ·refine ifF (by simp;omega) ⟨_,rfl,?_⟩;simp only[Ae6,decide_eq_true_eq];constructor
   ·rintro⟨g1,g2⟩;refine⟨fun c hc=>?_,by omega,by omega⟩;obtain⟨j,a,rfl⟩:=Aq6 hc;exact h j a (by omega)
   ·rintro⟨_,g1,g2⟩;exact⟨by omega,by omega⟩
 obtain⟨b,e,hb⟩:=o;refine⟨b,?_,e⟩
 suffices h:∃r,Z9 N s=some r/\(r=true↔(∀c∈s,nameC.contains c=true)/\1<=s.length/\s.length<=24) by obtain⟨r,u,g⟩:=h;rw[u,show r=b by rw[Ak5,g,hb]]
 unfold Z9;refine ltX ?_;by_cases d:s=[]
 ·exact ifF (by simp[d]) ⟨false,rfl,by simp[d]⟩
 refine ifT (by simp[d]) ?_;have m:0<s.length:=List.length_pos_iff.2 d;by_cases h1:s.length<=24
 ·refine ifT (by simp;omega) (E9 (x:=Lib.trimS s nameC) ?_ ⟨_,rfl,?_⟩)
  ·unfold BW;rw[if_pos ⟨by omega,by decide,by decide⟩]
  ·rw[<- WU];constructor
   ·intro h;exact⟨by simpa using h,by omega,h1⟩
   ·rintro⟨h,_⟩;simp[h]
 ·exact ifF (by simp;omega) ⟨false,rfl,by simp;intro _ _;omega⟩
end Go.AM
namespace Go.AM
open IntKind (wrap)
open Go.Proofs
theorem OL {N:Nat}{s:Sl Z4}(m:s.n<N)(hs:s.n<1000000){f:Z4->Option Bool}{b:Nat->Bool}(o:∀i,i<s.n->f (s.g i)=some (b i)) :∃r,B5 N s f=some r/\(r=true ↔ ∃i,i<s.n/\b i=true):=by
 unfold B5 D4
 have:∃y,Q6 N (fun (a:Int->Option Int) (x1:Int)=>
  if (decide (x1<(s.n:Int))) then
   if ((0:Int)<=x1/\x1<(s.n:Int))then
    (f (s.g x1.toNat)).bind fun y3=>
    if y3 then
     some x1
    else
     a (wrap .i64 (x1+1))
   else none
  else
   some (-1)) 0=some y/\(0<=y ↔ ∃i,i<s.n/\b i=true):=by
  refine Ab (fun i x1=>x1=(i:Int)/\∀j,j<i->b j=false) s.n _ m ⟨rfl,fun j c=>absurd c (by omega)⟩ ?_;rintro l i x1 q ⟨rfl,h⟩ d;by_cases hl:i<s.n
  ·refine ifT (by simp;omega) (ifT (by omega) (E9 (by rw[Ae5];exact o i hl) ?_));cases hb:b i
   ·refine ifF (by simp) (d hl _ ⟨J1 (by omega),fun j c=>?_⟩);by_cases e:j=i
    ·subst e;exact hb
    ·exact h j (by omega)
   ·exact ifT rfl ⟨i,rfl,fun _=>⟨i,hl,hb⟩,fun _=>by omega⟩
  ·refine ifF (by simp;omega) ⟨-1,rfl,fun h=>absurd h (by decide),?_⟩;rintro⟨j,c,hb⟩;rw[h j (by omega)]at hb;cases hb
 obtain⟨y,e,hy⟩:=this;exact E9 e ⟨_,rfl,by rw[decide_eq_true_eq];exact hy⟩
def JJ (l:Law):Prop:=okL l/\l.Name.length<1100000/\l.If.n<1100000/\l.Out.n<1100000/\∀i,i<l.Out.n->okO (l.Out.g i)
theorem Tc {N:Nat}{s:Sound}(hs:okS s):∃b,E8 N s=some b/\(b=true↔vS s):=by obtain⟨p,m,e⟩:=hs;exact⟨vB p m,by rw[e];exact JI p m,(WR e).symm⟩
theorem Td {N:Nat}(a:1000<=N){s:Sound}(hs:okS s):∃b,Z6 N s=some b/\(b=true↔vS s):=by obtain⟨p,m,e⟩:=hs;exact⟨vB p m,by rw[e];exact Lw p m a,(WR e).symm⟩
theorem WV {N:Nat}{x:Z4}(hx:okO x){k:Int}(h:P6 N x k=some true):x.From<k/\(x.Take≠0->0<=x.Of/\x.Of<k):=by
 obtain⟨⟨a,b,c⟩,_,_⟩:=hx;unfold P6 at h;simp only[lt,c,JI,Ag0]at h;by_cases h1:x.From < -1
 ·simp[h1]at h
 by_cases d:k<=x.From
 ·simp[h1,d]at h
 refine⟨by omega,fun ht=>?_⟩;simp only[h1,d,decide_false,Af1,if_false]at h;by_cases f:(!vB a b)=true
 ·rw[if_pos f]at h;cases h
 rw[if_neg f]at h;split at h
 ·cases h
 ·rw[if_neg (by simp[ht])]at h;simpa using h
def chkAll (N:Nat)(l:Law):Prop:=CE N l.Name=some true/\chk 40 [l.Left]/\chk 40 [l.Right]/\l.If.n<=4/\l.Out.n<=6/\l.If.n+l.Out.n≠0/\1<=l.Mode/\l.Mode<=3/\(∀i,i<l.If.n->vS (l.If.g i))/\∀i,i<l.Out.n->P6 N (l.Out.g i) l.If.n=some true
def Ac6 (N:Nat)(l:Law)(e:Int):Prop:=(e=0/\chkAll N l) \/ (e=17/\¬chkAll N l)
def lawF (l:Law):Prop:=okL l/\chk 40 [l.Left]/\chk 40 [l.Right]/\l.If.n<=4/\outP l/\l.If.n+l.Out.n≠0/\1<=l.Mode/\l.Mode<=3
theorem chkAll.f {N:Nat}{l:Law}(hl:JJ l)(h:chkAll N l):lawF l:=by obtain⟨_,h1,b,c,d,g,j,m,o,n⟩:=h;exact⟨hl.1,h1,b,c,⟨d,fun i a=>⟨hl.2.2.2.2 i a,WV (hl.2.2.2.2 i a) (n i a)⟩⟩,g,j,m⟩
theorem Lx {N:Nat}(hN:3000000<=N){l:Law}(hl:JJ l):∃e,O8 N l=some e/\Ac6 N l e:=by
 have u:=hl.2.1;have v:=hl.2.2.1;have x:=hl.2.2.2.1;unfold O8;obtain⟨b0,e0,e0'⟩:=OK (N:=N) (s:=l.Name) (by omega) (by omega);refine E9 e0 ?_;cases b0
 ·exact ifT rfl ⟨17,rfl,.inr ⟨rfl,fun h=>by have:=h.1;rw[e0']at this;cases this⟩⟩
 refine ifF (by simp) ?_;obtain⟨y2,e2,o⟩:=RB (N:=N) (by omega) hl.1.1;refine E9 e2 ?_;by_cases c2:y2=0
 case neg=>exact ifT (by simpa using c2) ⟨17,rfl,.inr ⟨rfl,fun h=>c2 (o.2 h.2.1)⟩⟩
 refine ifF (by simp[c2]) ?_;obtain⟨y3,e3,q⟩:=RB (N:=N) (by omega) hl.1.2.1;refine E9 e3 ?_;by_cases c3:y3=0
 case neg=>exact ifT (by simpa using c3) ⟨17,rfl,.inr ⟨rfl,fun h=>c3 (q.2 h.2.2.1)⟩⟩
 refine ifF (by simp[c3]) ?_;by_cases c4:4<l.If.n
 ·exact ifT (by simp;omega) ⟨17,rfl,.inr ⟨rfl,fun h=>by have:=h.2.2.2.1;omega⟩⟩
 refine ifF (by simp;omega) ?_;by_cases c5:6<l.Out.n
 ·exact ifT (by simp;omega) ⟨17,rfl,.inr ⟨rfl,fun h=>by have:=h.2.2.2.2.1;omega⟩⟩
 refine ifF (by simp;omega) ?_;rw[Ab9 (by omega)];by_cases c6:l.If.n+l.Out.n=0
 ·exact ifT (by rw[c6];rfl) ⟨17,rfl,.inr ⟨rfl,fun h=>h.2.2.2.2.2.1 c6⟩⟩
 refine ifF (by simp;omega) ?_;by_cases c7:l.Mode<1 \/ 3<l.Mode
 ·exact ifT (by simp;omega) ⟨17,rfl,.inr ⟨rfl,fun h=>by have g1:=h.2.2.2.2.2.2.1;have g2:=h.2.2.2.2.2.2.2.1;omega⟩⟩
 refine ifF (by simp;omega) ?_;have y:∀i,∃b,i<l.If.n->T6 N (l.If.g i)=some b/\(b=true ↔ ¬vS (l.If.g i)):=by
  intro i;by_cases a:i<l.If.n
  ·obtain⟨b,eb,hb⟩:=Tc (N:=N) (hl.1.2.2 i a);refine⟨!b,fun _=>⟨by unfold T6;rw[eb];rfl,?_⟩⟩;rw[<- hb];simp
  ·exact⟨false,fun h=>absurd h a⟩
 obtain⟨f,j⟩:=Ar9 y;obtain⟨y4,e4,r⟩:=OJ (N:=N) (w:=l.If) (by omega) (by omega) (f:=fun u1=>T6 N u1) (fun i a=>(j i a).1);refine E9 e4 ?_;cases c:y4
 case true=>obtain⟨i,a,hb⟩:=r.1 c;exact ifT rfl ⟨17,rfl,.inr ⟨rfl,fun h=>(j i a).2.1 hb (h.2.2.2.2.2.2.2.2.1 i a)⟩⟩
 refine ifF (by simp) ?_;have z:∀i,∃b,i<l.Out.n->T5 N (l.Out.g i) (l.If.n:Int)=some b/\(b=true ↔ ¬P6 N (l.Out.g i) l.If.n=some true):=by
  intro i;by_cases a:i<l.Out.n
  ·obtain⟨b,eb,_⟩:=RC (N:=N) (by omega) (hl.2.2.2.2 i a) (l.If.n:Int);refine⟨!b,fun _=>⟨by unfold T5;rw[eb];rfl,?_⟩⟩;rw[eb];simp
  ·exact⟨false,fun h=>absurd h a⟩
 obtain⟨g,m⟩:=Ar9 z;obtain⟨y5,e5,t⟩:=OL (N:=N) (s:=l.Out) (by omega) (by omega) (f:=fun u2=>T5 N u2 (l.If.n:Int)) (fun i a=>(m i a).1);refine E9 e5 ?_;cases d:y5
 case true=>obtain⟨i,a,hb⟩:=t.1 d;exact ifT rfl ⟨17,rfl,.inr ⟨rfl,fun h=>(m i a).2.1 hb (h.2.2.2.2.2.2.2.2.2 i a)⟩⟩
 refine ifF (by simp) ⟨0,rfl,.inl ⟨rfl,e0',o.1 c2,q.1 c3,by omega,by omega,c6,by omega,by omega,fun i a=>?_,fun i a=>?_⟩⟩
 ·refine Ai8 fun hn=>?_
  have:=r.2 ⟨i,a,(j i a).2.2 hn⟩
  rw[c]at this;cases this
 ·refine Ai8 fun hn=>?_
  have:=t.2 ⟨i,a,(m i a).2.2 hn⟩
  rw[d]at this;cases this
theorem Te {N:Nat}(y:3000000<=N){l:Law}(hl:JJ l):∃e,Dh N l=some e/\Ac6 N l e:=by
 have u:=hl.2.1;have v:=hl.2.2.1;have w:=hl.2.2.2.1;unfold Dh;obtain⟨b0,e0,e0'⟩:=OK (N:=N) (s:=l.Name) (by omega) (by omega);refine E9 e0' (ltX ?_);cases b0
 ·exact ifT rfl (ifT rfl ⟨17,rfl,.inr ⟨rfl,fun h=>by have:=h.1;rw[e0']at this;cases this⟩⟩)
 refine ifF (by simp) ?_;obtain⟨y2,e2,q⟩:=OI (N:=N) (by omega) hl.1.1;refine E9 e2 ?_;by_cases c2:y2=0
 case neg=>exact ifT (by simpa using c2) (ifT rfl ⟨17,rfl,.inr ⟨rfl,fun h=>c2 (q.2 h.2.1)⟩⟩)
 refine ifF (by simp[c2]) ?_;obtain⟨y3,e3,r⟩:=OI (N:=N) (by omega) hl.1.2.1;refine E9 e3 ?_;by_cases c3:y3=0
 case neg=>exact ifT (by simpa using c3) ⟨17,rfl,.inr ⟨rfl,fun h=>c3 (r.2 h.2.2.1)⟩⟩
 refine ifF (by simp[c3]) ?_;rw[Ab9 (by omega)];by_cases a:l.If.n<=4/\l.Out.n<=6/\l.If.n+l.Out.n≠0/\1<=l.Mode/\l.Mode<=3
 case neg=>refine ifT ?_ ⟨17,rfl,.inr ⟨rfl,fun h=>a ⟨h.2.2.2.1,h.2.2.2.2.1,h.2.2.2.2.2.1,h.2.2.2.2.2.2.1,h.2.2.2.2.2.2.2.1⟩⟩⟩;simp only[Ag9,decide_eq_true_eq,beq_iff_eq];omega
 refine ifF (by simp only[Ag9,decide_eq_true_eq,beq_iff_eq];omega) ?_;obtain⟨c4,c5,c6,c7,c8⟩:=a;refine Ab (fun i x1=>x1=(i:Int)/\∀j,j<i->vS (l.If.g j)) l.If.n _ (by omega) ⟨rfl,fun j c=>absurd c (by omega)⟩ ?_;rintro t i x1 z ⟨rfl,h⟩ hs;by_cases d:i<l.If.n
 ·obtain⟨b,eb,hb⟩:=Td (N:=N) (by omega) (hl.1.2.2 i d);refine ifT (by simp;omega) (ifT (by omega) (E9 (by rw[Ae5];exact eb) ?_));cases b
  ·exact ifT rfl ⟨17,rfl,.inr ⟨rfl,fun h=>by have:=hb.2 (h.2.2.2.2.2.2.2.2.1 i d);cases this⟩⟩
  ·refine ifF (by simp) (hs d _ ⟨J1 (by omega),fun j c=>?_⟩);by_cases e:j=i
   ·subst e;exact hb.1 rfl
   ·exact h j (by omega)
 refine ifF (by simp;omega) ?_;have x:∀j,j<l.If.n->vS (l.If.g j):=fun j c=>h j (by omega);refine Ab (fun i x1=>x1=(i:Int)/\∀j,j<i->P6 N (l.Out.g j) l.If.n=some true) l.Out.n _ (by omega) ⟨rfl,fun j c=>absurd c (by omega)⟩ ?_;rintro m k x2 hk ⟨rfl,h'⟩ o;by_cases f:k<l.Out.n
 ·obtain⟨b,eb,eb'⟩:=RC (N:=N) (by omega) (hl.2.2.2.2 k f) (l.If.n:Int);refine ifT (by simp;omega) (ifT (by omega) (E9 (by rw[Ae5];exact eb') ?_));cases b
  ·exact ifT rfl ⟨17,rfl,.inr ⟨rfl,fun h=>by have:=h.2.2.2.2.2.2.2.2.2 k f;rw[eb]at this;cases this⟩⟩
  ·refine ifF (by simp) (o f _ ⟨J1 (by omega),fun j c=>?_⟩);by_cases e:j=k
   ·subst e;exact eb
   ·exact h' j (by omega)
 ·exact ifF (by simp;omega) ⟨0,rfl,.inl ⟨rfl,e0',q.1 c2,r.1 c3,c4,c5,c6,c7,c8,x,fun j c=>h' j (by omega)⟩⟩
theorem UQ {N:Nat}{l:Law}{e e' : Int}(h:Ac6 N l e)(h' : Ac6 N l e'):e=e':=by
 rcases h with⟨rfl,h⟩ | ⟨rfl,h⟩<;>rcases h' with⟨rfl,h'⟩ | ⟨rfl,h'⟩
 ·rfl
 ·exact absurd h h'
 ·exact absurd h' h
 ·rfl
theorem OM {N:Nat}(a:3000000<=N){l:Law}(hl:JJ l):∃e,O8 N l=some e/\Dh N l=some e/\Ac6 N l e:=by obtain⟨e,h,c⟩:=Lx a hl;obtain⟨e',h',c'⟩:=Te a hl;obtain rfl:=UQ c c';exact⟨_,h,h',c⟩
end Go.AM
namespace Go.AM
open Go.Proofs
def PE:Pat->Pat->Prop
 |.nil,q=>q.Kind=0/\q.Is=default/\q.Not=false/\q.Min=0/\q.Max=0/\q.L.n=0
 |.mk k is no mn mx n g,q=>q.Kind=k/\q.Is=is/\q.Not=no/\q.Min=mn/\q.Max=mx/\q.L.n=n/\∀i,i<n->PE (g i) (q.L.g i)
theorem PE_of {p q:Pat}:PE p q↔q.Kind=p.Kind/\q.Is=p.Is/\q.Not=p.Not/\q.Min=p.Min/\q.Max=p.Max/\q.L.n=p.L.n/\∀i,i<p.L.n->PE (p.L.g i) (q.L.g i):=by
 cases p with
 |nil=>exact⟨fun h=>⟨h.1,h.2.1,h.2.2.1,h.2.2.2.1,h.2.2.2.2.1,h.2.2.2.2.2,fun i a=>absurd a (Ai3 i)⟩,fun h=>⟨h.1,h.2.1,h.2.2.1,h.2.2.2.1,h.2.2.2.2.1,h.2.2.2.2.2.1⟩⟩
 |mk k is no mn mx n g=>exact An4
theorem Qv:∀p:Pat,PE p p
 |.nil=>⟨rfl,rfl,rfl,rfl,rfl,rfl⟩
 |.mk k is no mn mx n g=>⟨rfl,rfl,rfl,rfl,rfl,rfl,fun i _=>Qv (g i)⟩
theorem Qw:∀{p q:Pat},PE p q->PE q p
 |.nil,q,h=>PE_of.2 ⟨h.1.symm,h.2.1.symm,h.2.2.1.symm,h.2.2.2.1.symm,h.2.2.2.2.1.symm,h.2.2.2.2.2.symm,fun i a=>absurd a (by rw[h.2.2.2.2.2];exact Ai3 i)⟩
 |.mk k is no mn mx n g,q,h=>PE_of.2 ⟨h.1.symm,h.2.1.symm,h.2.2.1.symm,h.2.2.2.1.symm,h.2.2.2.2.1.symm,h.2.2.2.2.2.1.symm,fun i a=>Qw (h.2.2.2.2.2.2 i (by rw[<- h.2.2.2.2.2.1];exact a))⟩
theorem WW {p q:Pat}(e:PE p q):Fv p↔Fv q:=by obtain⟨e1,e2,e3,e4,e5,e6,_⟩:=PE_of.1 e;unfold Fv;rw[e1,e2,e3,e4,e5,e6]
def PEs:List Pat->List Pat->Prop
 |[],[]=>True
 |p::l,q::m=>PE p q/\PEs l m
 |_,_=>False
theorem UR:∀{a b c d:List Pat},PEs a b->PEs c d->PEs (a++c) (b++d)
 |[],[],_,_,_,h=>h
 |_::_,_::_,_,_,⟨h1,h2⟩,h=>⟨h1,UR h2 h⟩
 |[],_::_,_,_,h,_=>h.elim
 |_::_,[],_,_,h,_=>h.elim
theorem ON {f g:Nat->Pat}:∀(l:List Nat),(∀i∈l,PE (f i) (g i))->PEs (l.map f) (l.map g)
 |[],_=>trivial
 |i::l,h=>⟨h i (by simp),ON l fun j a=>h j (by simp[a])⟩
theorem XM:∀(k:Nat) (l m:List Pat),PEs l m->(chk k l↔chk k m)
 |0,[],[],_=>An4
 |0,p::l,q::m,_=>⟨fun h=>(by cases h),fun h=>by cases h⟩
 |k+1,[],[],_=>An4
 |k+1,p::l,q::m,⟨h1,h2⟩=>by
  obtain⟨_,_,_,_,_,e6,e7⟩:=PE_of.1 h1;show Fv p/\chk k (p.L.toList++l)↔Fv q/\chk k (q.L.toList++m);rw[WW h1,XM k _ _ (UR (c:=l) (d:=m) (show PEs p.L.toList q.L.toList by unfold Sl.toList;rw[e6];exact ON _ fun i a=>e7 i (Ak3.1 a)) h2)]
 |_,[],_::_,h=>h.elim
 |_,_::_,[],h=>h.elim
theorem MV {p q:Pat}(h:PE p q):chk 40 [p]↔chk 40 [q]:=XM 40 [p] [q] ⟨h,trivial⟩
theorem okPS_of {p:Pat}:okPS p↔okS p.Is/\∀i,i<p.L.n->okPS (p.L.g i):=by
 cases p with
 |nil=>exact⟨fun _=>⟨⟨0#32,0#32,rfl⟩,fun i a=>absurd a (Ai3 i)⟩,fun _=>trivial⟩
 |mk k is no mn mx n g=>exact An4
theorem JK:∀{p q:Pat},PE p q->okPS p->okPS q
 |.nil,q,h,_=>okPS_of.2 ⟨by rw[h.2.1];exact⟨0#32,0#32,rfl⟩,fun i a=>absurd a (by rw[h.2.2.2.2.2];exact Ai3 i)⟩
 |.mk k is no mn mx n g,q,h,hp=>okPS_of.2 ⟨by rw[h.2.1];exact hp.1,fun i a=>by
  have a:i<n:=by rw[<- h.2.2.2.2.2.1];exact a
  exact JK (h.2.2.2.2.2.2 i a) (hp.2 i a)⟩
end Go.AM
namespace Go.AM
open Go.Proofs
def SE {α : Type}(s t:Sl α):Prop:=s.n=t.n/\∀i,i<s.n->s.g i=t.g i
theorem SE.refl {α : Type}(s:Sl α):SE s s:=⟨rfl,fun _ _=>rfl⟩
theorem SE.symm {α : Type}{s t:Sl α}(h:SE s t):SE t s:=⟨h.1.symm,fun i a=>(h.2 i (by rw[h.1];exact a)).symm⟩
theorem SE.trans {α : Type}{s t u:Sl α}(h:SE s t)(h' : SE t u):SE s u:=⟨h.1.trans h'.1,fun i a=>(h.2 i a).trans (h'.2 i (by rw[<- h.1];exact a))⟩
structure LE (l l' : Law):Prop where
 name:l'.Name=l.Name
 left:PE l.Left l'.Left
 right:PE l.Right l'.Right
 cond:SE l.If l'.If
 out:SE l.Out l'.Out
 mode:l'.Mode=l.Mode
theorem LE.refl (l:Law):LE l l:=⟨rfl,Qv _,Qv _,SE.refl _,SE.refl _,rfl⟩
theorem LE.symm {l l' : Law}(h:LE l l'):LE l' l:=⟨h.name.symm,Qw h.left,Qw h.right,h.cond.symm,h.out.symm,h.mode.symm⟩
theorem WX {l l' : Law}(h:LE l l')(hl:JJ l):JJ l':=by obtain⟨⟨h1,a,b⟩,c,g,j,d⟩:=hl;have m:=h.cond.1;have n:=h.out.1;exact⟨⟨JK h.left h1,JK h.right a,fun i f=>by rw[<- h.cond.2 i (by omega)];exact b i (by omega)⟩,by rw[h.name];exact c,by omega,by omega,fun i f=>by rw[<- h.out.2 i (by omega)];exact d i (by omega)⟩
theorem Zd {l l' : Law}(h:LE l l')(hl:outP l):outP l':=by have a:=h.cond.1;have b:=h.out.1;exact⟨by rw[<- b];exact hl.1,fun i c=>by rw[<- h.out.2 i (by omega),<- a];exact hl.2 i (by omega)⟩
theorem lawF_LE {l l' : Law}(h:LE l l')(hl:lawF l):lawF l':=by obtain⟨⟨h1,a,b⟩,c,d,j,f,m,n,g⟩:=hl;have o:=h.cond.1;have q:=h.out.1;have hm:=h.mode;exact⟨⟨JK h.left h1,JK h.right a,fun i r=>by rw[<- h.cond.2 i (by omega)];exact b i (by omega)⟩,(MV h.left).1 c,(MV h.right).1 d,by omega,Zd h f,by omega,by omega,by omega⟩
theorem US {N:Nat}{l l' : Law}(h:LE l l'):chkAll N l↔chkAll N l':=by
 suffices H:∀{l l' : Law},LE l l' -> chkAll N l->chkAll N l' by exact⟨H h,H h.symm⟩
 rintro l l' h ⟨h1,b,c,j,m,n,o,q,d,a⟩;have f:=h.cond.1;have r:=h.out.1;have hm:=h.mode;exact⟨by rw[h.name];exact h1,(MV h.left).1 b,(MV h.right).1 c,by omega,by omega,by omega,by omega,by omega,
  fun i g=>by rw[<- h.cond.2 i (by omega)];exact d i (by omega),fun i g=>by rw[<- h.out.2 i (by omega),<- f];exact a i (by omega)⟩
end Go.AM
namespace Go.AM
open Go.Proofs
end Go.AM
namespace Go.AM
open Go.Proofs
def LS (s t:Sl Law):Prop:=s.n=t.n/\∀i,i<s.n->LE (s.g i) (t.g i)
theorem LS.refl (s:Sl Law):LS s s:=⟨rfl,fun _ _=>LE.refl _⟩
def OO (laws:Sl Law):Prop:=∀i,i<laws.n->JJ (laws.g i)
theorem WY {laws laws' : Sl Law}(h:LS laws laws')(hl:OO laws):OO laws':=fun i a=>by exact WX (h.2 i (by rw[h.1];exact a)) (hl i (by rw[h.1];exact a))
def RD (N:Nat)(laws:Sl Law):Prop:=laws.n<=64/\∀i,i<laws.n->chkAll N (laws.g i)
end Go.AM
namespace Go.AM
open Go.Proofs
theorem UT {α : Type}(s:Sl α)(a : α):(s.push a).toList=s.toList++[a]:=by
 show (List.range (s.n+1)).map (fun i=>if i<s.n then s.g i else a)=_;rw[Ak4,Al3];congr 1
 ·exact Ag8 fun i b=>if_pos (Ak3.1 b)
 ·simp
end Go.AM
namespace Go.AM
open Go.Proofs
def dep:Nat->Pat->Prop
 |0,_=>False
 |d+1,p=>p.L.n<=40/\∀i,i<p.L.n->dep d (p.L.g i)
theorem XN:∀(d:Nat) (p:Pat),dep d p->∀e,d<=e->dep e p
 |0,_,h,_,_=>h.elim
 |d+1,p,h,0,he=>by omega
 |d+1,p,h,e+1,he=>⟨h.1,fun i a=>XN d _ (h.2 i a) e (by omega)⟩
theorem OP {N:Nat}(o:1000<=N):∀(d:Nat),d<=40->∀(p:Pat) (M:Nat),N+d+2<=M->∃r:Nat,W3 M p ((40-d:Nat):Int)=some (r:Int)/\40-d<r/\r<=41/\(r<=40->dep (d+1) p)
 |d,hd,p,0,hM=>by omega
 |d,hd,p,M+1,hM=>by
  have:∃x,W3 (M+1) p ((40-d:Nat):Int)=some x/\∃r:Nat,x=(r:Int)/\40-d<r/\r<=41/\(r<=40->dep (d+1) p):=by
   show ∃x,Y2 (W3 M) M p _=some x/\_;unfold Y2;rw[J1 (by omega)];refine DN (fun i x1 x2=>x2=(i:Int)/\∃k:Nat,x1=(k:Int)/\40-d+1+i<=k/\k<=41/\i<=p.L.n/\(k<=40->∀j,j<i->dep d (p.L.g j))) 41 _ (by omega) ⟨rfl,40-d+1,rfl,by omega,by omega,by omega,fun _ j b=>absurd b (by omega)⟩ ?_;rintro f i x1 x2 q ⟨rfl,k,rfl,h1,c,s,l⟩ hs;by_cases hc:i<p.L.n/\k<=40
   ·refine ifT (by simp only[Ae6,decide_eq_true_eq];omega) (ifT (by omega) ?_);obtain⟨r,m,r1,r2,r3⟩:=OP o (40-k) (by omega) (p.L.g i) M (by omega);rw[show ((40-(40-k):Nat):Int)=(k:Int) by omega]at m;refine E9 (by rw[Ae5];exact m) (hs (by omega) _ _ ⟨J1 (by omega),r,rfl,by omega,r2,by omega,fun a j b=>?_⟩);by_cases e:j=i
    ·subst e;exact XN _ _ (r3 a) d (by omega)
    ·exact l hc.2 j (by omega)
   ·refine ifF (by simp only[Ae6,decide_eq_true_eq];omega) ⟨_,rfl,k,rfl,by omega,c,fun hk=>⟨by omega,fun j b=>l hk j (by omega)⟩⟩
  obtain⟨x,h1,r,rfl,c⟩:=this;exact⟨r,h1,c⟩
theorem JL:∀(d:Nat) (p:Pat),dep d p->∀M,100+d<=M->∃r,T3 M p=some r
 |0,p,h,M,_=>h.elim
 |d+1,p,h,0,hM=>by omega
 |d+1,p,h,M+1,hM=>by
  suffices ∃r,T3 (M+1) p=some r/\True by obtain⟨r,h,_⟩:=this;exact⟨r,h⟩
  show ∃x,R9 (T3 M) M p=some x/\_;unfold R9;have hn:=h.1;refine DN (fun i x1 x2=>x2=(i:Int)) p.L.n _ (by omega) rfl ?_;rintro a i x1 x2 c rfl hs;by_cases hl:i<p.L.n
  ·obtain⟨r,b⟩:=JL d (p.L.g i) (h.2 i hl) M (by omega);exact ifT (by simp;omega) (ifT (by omega) (E9 (by rw[Ae5];exact b) (hs hl _ _ (J1 (by omega)))))
  ·exact ifF (by simp;omega) ⟨_,rfl,trivial⟩
theorem MW {N:Nat}(b:2000<=N)(p:Pat):∃r:Nat,Z8 N p=some (r:Int)/\(r<=40->dep 41 p):=by obtain⟨r,h1,_,_,a⟩:=OP (N:=1000) (by omega) 40 (by omega) p N (by omega);exact⟨r,by unfold Z8;rw[show W3 N p 0=some (r:Int) from h1];rfl,a⟩
theorem WZ {N:Nat}(f:2000<=N)(laws:Sl Law):∃r,AX N laws=some r:=by
 suffices ∃r,AX N laws=some r/\True by obtain⟨r,h,_⟩:=this;exact⟨r,h⟩
 unfold AX;refine DN (fun i x1 x2=>x2=(i:Int)) 301 _ (by omega) rfl ?_;rintro d i x1 x2 s rfl hs;by_cases hc:i<laws.n/\i<=300
 ·refine ifT (by simp only[Ae6,decide_eq_true_eq];omega) (ifT (by omega) ?_);refine DN (fun j x7 x8=>x8=(j:Int)) 2 _ (by omega) rfl ?_;rintro b j x7 x8 t rfl a;by_cases hl:j<2
  ·refine ifT (by show decide ((j:Int)<((2:Nat):Int))=true;simp;omega) (ifT (by show (0:Int)<=(j:Int)/\(j:Int)<((2:Nat):Int);omega) ?_);obtain⟨r,l,m⟩:=MW f ((Sl.of [(laws.g (i:Int).toNat).Left,(laws.g (i:Int).toNat).Right]:Sl Pat).g (j:Int).toNat);refine E9 l ?_;by_cases c:r<=40
   ·obtain⟨q,o⟩:=JL 41 _ (m c) N (by omega);exact ifT (by simp;omega) (E9 o (a hl _ _ (J1 (by omega))))
   ·exact ifF (by simp;omega) (a hl _ _ (J1 (by omega)))
  ·exact ifF (by show ¬decide ((j:Int)<((2:Nat):Int))=true;simp;omega) (hs (by omega) _ _ (J1 (by omega)))
 ·exact ifF (by simp only[Ae6,decide_eq_true_eq];omega) ⟨_,rfl,trivial⟩
end Go.AM
namespace Go.AM
open IntKind (wrap)
open Go.Proofs
def Ia (s:Str):Bool:=(decide (1<=s.length)&&decide (s.length<=24))&&s.all fun c=>MU ((c.toNat:Nat):Int)
theorem OQ {N:Nat}{s:Str}(m:s.length<N)(hs:s.length<1000000000){let_:Int->Option Bool}(hl:∀y,let_ y=some (MU y)){fin:Bool}(n:fin=(decide (1<=s.length)&&decide (s.length<=24))) :Q6 N (fun (a:Int->Option Bool) (x1:Int)=>
  if (decide (x1<(s.length:Int))) then
   if ((0:Int)<=x1/\x1<(s.length:Int))then
    (let_ (Bg s x1)).bind fun y3=>
    if (!y3) then
     some false
    else
     a (wrap .i64 (x1+1))
   else none
  else
   some fin
 ) 0=some (Ia s):=by
 suffices h:∃b,Q6 N (fun (a:Int->Option Bool) (x1:Int)=>
  if (decide (x1<(s.length:Int))) then
   if ((0:Int)<=x1/\x1<(s.length:Int))then
    (let_ (Bg s x1)).bind fun y3=>
    if (!y3) then
     some false
    else
     a (wrap .i64 (x1+1))
   else none
  else
   some fin
  ) 0=some b/\b=Ia s by obtain⟨b,h,rfl⟩:=h;exact h
 refine Ab (fun i x1=>x1=(i:Int)/\∀j (h:j<s.length),j<i->MU ((s[j].toNat:Nat):Int)=true) s.length _ m ⟨rfl,fun j _ f=>absurd f (by omega)⟩ ?_;rintro l i x1 q ⟨rfl,h⟩ g;by_cases d:i<s.length
 ·have eb:Bg s (i:Int)=((s[i].toNat:Nat):Int):=by simp[Bg,d]
  refine ifT (by simp;omega) (ifT (by omega) (E9 (hl _) ?_));rw[eb];cases hb:MU ((s[i].toNat:Nat):Int)
  ·refine ifT rfl ⟨false,rfl,?_⟩;symm;unfold Ia;rw[At0]
   right
   rw[List.all_eq_false];exact⟨s[i],As0 d,by rw[hb];simp⟩
  ·refine ifF (by simp) (g d _ ⟨J1 (by omega),fun j f o=>?_⟩);by_cases e:j=i
   ·subst e;exact hb
   ·exact h j f (by omega)
 ·refine ifF (by simp;omega) ⟨_,rfl,?_⟩;unfold Ia;rw[n]
  have:(s.all fun c=>MU ((c.toNat:Nat):Int))=true:=Af5.2 fun c hc=>by obtain⟨j,f,rfl⟩:=Aq6 hc;exact h j f (by omega)
  rw[this,Aq5]
theorem UU {N:Nat}{s:Str}(a:s.length<N)(hs:s.length<1000000000):Ar N s=some (Ia s):=by unfold Ar;exact OQ a hs (fun y=>rfl) (by rw[Ak5];simp;omega)
theorem Xa {N:Nat}{s:Str}(a:s.length<N)(hs:s.length<1000000000):EC N s=some (Ia s):=by unfold EC;exact OQ a hs (fun y=>rfl) (by rw[Ak5];simp;omega)
def Xb (t:Sl E2)(v:Nat):Prop:=(v=0->(t.g 0).Parent = -1)/\(0<v->0<=(t.g v).Parent/\(t.g v).Parent<v)/\Ia (t.g v).Name=true/\∀u,u<v->(t.g u).Name≠(t.g v).Name
def AI (t:Sl E2):Prop:=1<=t.n/\t.n<=63/\∀v,v<t.n->Xb t v
def Tf (t:Sl E2)(e:Int):Prop:=(e=0/\AI t) \/ (e=16/\¬AI t)
theorem Tg {t:Sl E2}{e e' : Int}(h:Tf t e)(h' : Tf t e'):e=e':=by
 rcases h with⟨rfl,h⟩ | ⟨rfl,h⟩<;>rcases h' with⟨rfl,h'⟩ | ⟨rfl,h'⟩
 ·rfl
 ·exact absurd h h'
 ·exact absurd h' h
 ·rfl
def MX (t:Sl E2):Prop:=∀v,v<t.n->(t.g v).Name.length<1100000
theorem UV {N:Nat}(y:3000000<=N){t:Sl E2}(ht:MX t):∃e,Dn N t=some e/\Tf t e:=by
 unfold Dn;by_cases z:t.n<1
 ·exact ifT (fun h=>absurd h (by simp;omega)) (ifT (by simp;omega) ⟨16,rfl,.inr ⟨rfl,fun h=>by have:=h.1;omega⟩⟩)
 refine ifT (fun _ _=>by omega) ?_;by_cases h1:63<t.n
 ·exact ifT (by simp;omega) ⟨16,rfl,.inr ⟨rfl,fun h=>by have:=h.2.1;omega⟩⟩
 by_cases m:(t.g 0).Parent = -1
 case neg=>exact ifT (by simp[m]) ⟨16,rfl,.inr ⟨rfl,fun h=>m ((h.2.2 0 (by omega)).1 rfl)⟩⟩
 refine ifF (by simp[m];omega) ?_;refine Ab (fun i x1=>x1=(i:Int)/\∀j,j<i->Xb t j) t.n _ (by omega) ⟨rfl,fun j x=>absurd x (by omega)⟩ ?_;rintro f i x1 hi ⟨rfl,h⟩ hs;by_cases a:i<t.n
 case neg=>exact ifF (by simp;omega) ⟨0,rfl,.inl ⟨rfl,by omega,by omega,fun v hv=>h v (by omega)⟩⟩
 refine ifT (by simp;omega) (ltX ?_);have b:=Xa (N:=N) (s:=(t.g i).Name) (by have:=ht i a;omega) (by have:=ht i a;omega);have rest:(0<i->0<=(t.g i).Parent/\(t.g i).Parent<i)->∃r,(if (!Ia (t.g i).Name) then some 16 else
  Q6 N (fun (d:Int->Option Int) (x7:Int)=>
   if (decide (x7<(i:Int))) then
    if (((0:Int)<=x7/\x7<(t.n:Int))/\((0:Int)<=(i:Int)/\(i:Int)<(t.n:Int)))then
     if (((t.g x7.toNat).Name==(t.g (i:Int).toNat).Name) != false) then
      some 16
     else
      d (wrap .i64 (x7+1))
    else none
   else
    f (wrap .i64 ((i:Int)+1))
   ) 0)=some r/\Tf t r:=by
  intro hp;cases hb:Ia (t.g i).Name
  ·exact ifT rfl ⟨16,rfl,.inr ⟨rfl,fun h=>by have:=(h.2.2 i a).2.2.1;rw[hb]at this;cases this⟩⟩
  refine ifF (by simp) ?_;refine Ab (fun k x7=>x7=(k:Int)/\∀u,u<k->(t.g u).Name≠(t.g i).Name) i _ (by omega) ⟨rfl,fun u o=>absurd o (by omega)⟩ ?_;rintro q k x7 hk ⟨rfl,h'⟩ w;by_cases l:k<i
  ·refine ifT (by simp;omega) (ifT (by omega) ?_);rw[Ae5,Ae5];by_cases e:(t.g k).Name=(t.g i).Name
   ·exact ifT (by simp[e]) ⟨16,rfl,.inr ⟨rfl,fun h=>(h.2.2 i a).2.2.2 k l e⟩⟩
   ·refine ifF (by simp[e]) (w l _ ⟨J1 (by omega),fun u o=>?_⟩);by_cases e2:u=k
    ·subst e2;exact e
    ·exact h' u (by omega)
  ·refine ifF (by simp;omega) (hs a _ ⟨J1 (by omega),fun j x=>?_⟩);by_cases e:j=i
   ·subst e;exact⟨fun e=>by subst e;exact m,hp,hb,fun u o=>h' u (by omega)⟩
   ·exact h j (by omega)
 by_cases c:0<i
 ·refine ifT (by simp;omega) (ifT (by omega) ?_);rw[Ae5];by_cases g1:(t.g i).Parent<0
  ·exact ifT (by simpa using g1) (ifT rfl ⟨16,rfl,.inr ⟨rfl,fun h=>by have:=((h.2.2 i a).2.1 c).1;omega⟩⟩)
  refine ifF (by simpa using g1) (ifT (by omega) ?_);by_cases g2:(i:Int)<=(t.g i).Parent
  ·exact ifT (by simpa using g2) (ifT rfl ⟨16,rfl,.inr ⟨rfl,fun h=>by have:=((h.2.2 i a).2.1 c).2;omega⟩⟩)
  exact ifF (by simpa using g2) (ifT (by omega) (E9 b (rest fun _=>⟨by omega,by omega⟩)))
 ·exact ifF (by simp;omega) (ifT (by omega) (E9 (by rw[Ae5];exact b) (rest fun h=>absurd h c)))
theorem Hf {ν : Type}{k s:Str}{v : ν}:∀es:List (Str × ν),Bh eqS s (Md eqS k v es)=if s=k then some v else Bh eqS s es
 |[]=>by simp only[Md,Bh];by_cases h:s=k<;>simp[eqS,h]
 |(a,x)::es=>by
  simp only[Md];by_cases h:k=a
  ·subst h;rw[if_pos (by simp[eqS])];simp only[Bh];by_cases b:s=k<;>simp[eqS,b]
  ·rw[if_neg (by simp[eqS,h])];simp only[Bh];rw[Hf es];by_cases b:s=k
   ·subst b;simp[eqS,h]
   ·simp[b]
theorem RE {ν : Type}{k:Str}{v : ν}:∀{es:List (Str × ν)},Bh eqS k es=none->(Md eqS k v es).length=es.length+1
 |[],_=>rfl
 |(a,x)::es,h=>by
  simp only[Bh]at h;simp only[Md];by_cases e:eqS k a=true
  ·rw[if_pos e]at h;cases h
  ·rw[if_neg e]at h;rw[if_neg e,Ah5,RE h];rfl
theorem RF {ν : Type}{k:Str}{v x : ν}:∀{es:List (Str × ν)},Bh eqS k es=some x->(Md eqS k v es).length=es.length
 |[],h=>by cases h
 |(a,y)::es,h=>by
  simp only[Bh]at h;simp only[Md];by_cases e:eqS k a=true
  ·rw[if_pos e];rfl
  ·rw[if_neg e]at h;rw[if_neg e,Ah5,RF h];rfl
theorem UW {N:Nat}(m:3000000<=N){t:Sl E2}(ht:MX t):∃e,S3 N t=some e/\Tf t e:=by
 unfold S3;by_cases o:t.n=0 \/ 63<t.n
 ·exact ifT (by simp;omega) ⟨16,rfl,.inr ⟨rfl,fun h=>by have g1:=h.1;have g2:=h.2.1;omega⟩⟩
 refine ifF (by simp;omega) ?_;refine DN (fun i (x2:List (Str×Bool)) x3=>x3=(i:Int)/\(∀j,j<i->Xb t j)/\∀s,(Bh eqS s x2=some true/\∃u,u<i/\(t.g u).Name=s) \/ (Bh eqS s x2=none/\∀u,u<i->(t.g u).Name≠s)) t.n _ (by omega) ⟨rfl,fun j f=>absurd f (by omega),fun s=>.inr ⟨rfl,fun u c=>absurd c (by omega)⟩⟩ ?_;rintro l i x2 x3 q ⟨rfl,h,hm⟩ hs;by_cases a:i<t.n
 case neg=>exact ifF (by simp;omega) ⟨0,rfl,.inl ⟨rfl,by omega,by omega,fun v r=>h v (by omega)⟩⟩
 refine ifT (by simp;omega) (ifT (by omega) (ltX ?_));rw[Ae5];have b:=UU (N:=N) (s:=(t.g i).Name) (by have:=ht i a;omega) (by have:=ht i a;omega);have e1:(if 0<wrap .i64 ((i:Int)-1)then (0:Int)else wrap .i64 ((i:Int)-1))=if i=0 then -1 else 0:=by rw[H1 (by omega) (by omega)];split<;>split<;>omega
 rw[e1];by_cases g1:(i:Int)<=(t.g i).Parent
 ·refine ifT (by simpa using g1) (ifT rfl ⟨16,rfl,.inr ⟨rfl,fun h=>?_⟩⟩);have hk:=h.2.2 i a;by_cases d:i=0
  ·subst d;have:=hk.1 rfl;omega
  ·have:=(hk.2.1 (by omega)).2;omega
 refine ifF (by simpa using g1) ?_;by_cases g2:(t.g i).Parent<if i=0 then -1 else 0
 ·refine ifT (by simpa using g2) (ifT rfl ⟨16,rfl,.inr ⟨rfl,fun h=>?_⟩⟩);have hk:=h.2.2 i a;by_cases d:i=0
  ·subst d;have:=hk.1 rfl;simp at g2;omega
  ·have:=(hk.2.1 (by omega)).1;simp[d]at g2;omega
 refine ifF (by simpa using g2) (E9 b ?_);cases hb:Ia (t.g i).Name
 ·exact ifT rfl (ifT rfl ⟨16,rfl,.inr ⟨rfl,fun h=>by have:=(h.2.2 i a).2.2.1;rw[hb]at this;cases this⟩⟩)
 refine ifF (by simp) ?_;rcases hm (t.g i).Name with⟨e,u,c,hn⟩ | ⟨e,hn⟩
 ·rw[e];exact⟨16,rfl,.inr ⟨rfl,fun h=>(h.2.2 i a).2.2.2 u c hn⟩⟩
 rw[e,NS];refine ifF (show ¬false=true by simp) (hs a _ _ ⟨J1 (by omega),fun j f=>?_,fun s=>?_⟩)
 ·by_cases e:j=i
  ·subst e;refine⟨fun e=>?_,fun hp=>?_,hb,hn⟩
   ·subst e;simp at g2;omega
   ·have:¬j=0:=by omega
    simp[this]at g2;omega
  ·exact h j (by omega)
 ·rw[Hf];by_cases e:s=(t.g i).Name
  ·exact .inl ⟨by rw[if_pos e],i,by omega,e.symm⟩
  ·rw[if_neg e];rcases hm s with⟨g,u,c,hn⟩ | ⟨g,hn⟩
   ·exact .inl ⟨g,u,by omega,hn⟩
   ·refine .inr ⟨g,fun u c=>?_⟩;by_cases e2:u=i
    ·subst e2;exact fun h=>e h.symm
    ·exact hn u (by omega)
theorem RG {N:Nat}(a:3000000<=N){t:Sl E2}(ht:MX t):∃e,S3 N t=some e/\Dn N t=some e/\Tf t e:=by obtain⟨e,h1,b⟩:=UW a ht;obtain⟨e',c,d⟩:=UV a ht;obtain rfl:=Tg b d;exact⟨_,h1,c,b⟩
end Go.AM
namespace Go.AM
open IntKind (wrap)
open Go.Proofs
structure Z0 (h:A5):Prop where
 laws:OO h.Laws
 tree:MX h.Tree
 on:h.On.n<1100000
 len:∀v,v<h.On.n->(h.On.g v).n<1100000
def F9 (h:A5)(v:Nat):Sl Int:=
 if hp:0<=(h.Tree.g v).Parent/\(h.Tree.g v).Parent<v then (F9 h (h.Tree.g v).Parent.toNat).app (h.On.g v)else (Sl.nil:Sl Int).app (h.On.g v)
termination_by v
decreasing_by omega
theorem O5 {h:A5}{v:Nat}(a:(h.Tree.g v).Parent<0):F9 h v=(Sl.nil:Sl Int).app (h.On.g v):=by rw[F9,dif_neg (by omega)]
theorem Y6 {h:A5}{v p:Nat}(a:(h.Tree.g v).Parent=(p:Int))(hp:p<v):F9 h v=(F9 h p).app (h.On.g v):=by rw[F9,dif_pos (by omega),a,Ae5]
theorem P4 {t:Sl E2}(ht:AI t){v:Nat}(a:v<t.n):(v=0/\(t.g v).Parent = -1) \/ ∃p:Nat,p<v/\(t.g v).Parent=(p:Int):=by
 have hk:=ht.2.2 v a;by_cases b:v=0
 ·subst b;exact .inl ⟨rfl,hk.1 rfl⟩
 ·obtain⟨g1,g2⟩:=hk.2.1 (by omega);exact .inr ⟨(t.g v).Parent.toNat,by omega,by omega⟩
theorem Qx {h:A5}(a:Z0 h)(ht:AI h.Tree)(hn:h.On.n=h.Tree.n):∀(m v:Nat),v<=m->v<h.Tree.n->(F9 h v).n<=(v+1)*1100000
 |m,v,hm,hv=>by
  have hl:=a.len v (by omega);rcases P4 ht hv with⟨_,e⟩ | ⟨p,hp,e⟩
  ·rw[O5 (by omega)];show 0+(h.On.g v).n<=_;omega
  ·rw[Y6 e hp]
   match m with
   |0=>omega
   |m+1=>
    have:=Qx a ht hn m p (by omega) (by omega)
    show (F9 h p).n+(h.On.g v).n<=_;have b:(p+1)*1100000+1100000<=(v+1)*1100000:=by omega
    omega
theorem GB {h:A5}(a:Z0 h)(ht:AI h.Tree)(hn:h.On.n=h.Tree.n):∀(M v:Nat),v+2<=M->v<h.Tree.n->Aa M h (v:Int)=some (F9 h v)
 |0,v,hM,_=>by omega
 |M+1,v,hM,hv=>by
  have b:=ht.2.1;show Aq (Aa M) M h (v:Int)=_;unfold Aq;rw[if_neg (by simp),if_pos (by omega),Ae5];have hl:=a.len v (by omega);rcases P4 ht hv with⟨c,e⟩ | ⟨p,hp,e⟩
  ·rw[e,O5 (by omega)]
   have:Aa M h (-1)=some (Sl.nil:Sl Int):=by obtain⟨K,rfl⟩:∃K,M=K+1:=⟨M-1,by omega⟩;show Aq (Aa K) K h (-1)=_;unfold Aq;rw[if_pos (by decide)]
   rw[this,Ag0,if_pos ⟨by omega,by show (0+(h.On.g v).n)*8<=_/\0+(h.On.g v).n<=_;omega⟩]
  ·have hb:=Qx a ht hn p p (Af0 _) (by omega);rw[e,GB a ht hn M p (by omega) (by omega),Ag0,Y6 e hp,if_pos ⟨by omega,by omega⟩]
def Qy (h:A5):Prop:=∃v,v<h.On.n/\64<(F9 h v).n
def Ze (h:A5)(v:Nat):Prop:=∃k,k<(h.On.g v).n/\((h.On.g v).g k<0 \/ (h.Laws.n:Int)<=(h.On.g v).g k)
def UX (h:A5)(e:Int):Prop:=(Qy h/\e=2) \/ (¬Qy h/\(∃v,v<h.On.n/\Ze h v)/\e=3) \/ (¬Qy h/\(∀v,v<h.On.n->¬Ze h v)/\e=0)
theorem UY {N:Nat}(hN:3000000<=N){h:A5}(hi:Z0 h)(ht:AI h.Tree)(hn:h.On.n=h.Tree.n):∃e,S4 N h=some e/\UX h e:=by
 have h63:=ht.2.1;unfold S4;refine ifT (by omega) ?_;refine loop3 (fun i (x4:Sl Int) (x5:Bool) x6=>x6=(i:Int)/\x4.n=h.On.n/\(∀v,v<i->x4.g v=((F9 h v).n:Int)/\(F9 h v).n<=64)/\(x5=true ↔ ∃v,v<i/\Ze h v)) h.On.n _ (by omega) ⟨rfl,by show ((h.On.n:Nat):Int).toNat=_;omega,fun v b=>absurd b (by omega),⟨fun g=>(by cases g),fun⟨v,b,_⟩=>absurd b (by omega)⟩⟩ ?_;rintro m i x4 x5 x6 hle ⟨rfl,hx,hp,hb⟩ hs;by_cases o:i<h.On.n
 case neg=>
  refine ifF (by simp;omega) ?_;have hl:¬Qy h:=fun⟨v,b,hl⟩=>by have:=(hp v (by omega)).2;omega
  cases x5
  ·exact ifF (by simp) ⟨0,rfl,.inr (.inr ⟨hl,fun v b g=>(by have:=hb.2 ⟨v,by omega,g⟩;cases this),rfl⟩)⟩
  ·obtain⟨v,b,g⟩:=hb.1 rfl;exact ifT rfl ⟨3,rfl,.inr (.inl ⟨hl,⟨v,by omega,g⟩,rfl⟩)⟩
 refine ifT (by simp;omega) (ifT (by rw[Ae5];omega) (ifT (by omega) (ltX ?_)));rw[Ae5];have hl:=hi.len i (by omega);have hlb:=Qx hi ht hn i i (Af0 _) (by omega);have rest:∀z:Sl Int,z.n=h.On.n->(∀v,v<i->z.g v=x4.g v)->z.g i=((F9 h i).n:Int)->∃r,(if (((0:Int)<=(i:Int)/\(i:Int)<(z.n:Int))/\i<z.n)then
  if (decide (64<(z.g i))) then
   some 2
  else
   AW N (fun (d:Bool->Int->Option Int) (c:Bool) (a:Int)=>
    if (decide (a<((h.On.g i).n:Int))) then
     if ((0:Int)<=a/\a<((h.On.g i).n:Int))then
      d ((c||(decide (((h.On.g i).g a.toNat)<0)))||(decide ((h.Laws.n:Int)<=((h.On.g i).g a.toNat)))) (wrap .i64 (a+1))
     else none
    else
     m z c (wrap .i64 ((i:Int)+1))
    ) x5 0
  else none)=some r/\UX h r:=by
  intro z hz u q;refine ifT (by omega) ?_;rw[q];by_cases w:64<(F9 h i).n
  ·exact ifT (by simp;omega) ⟨2,rfl,.inl ⟨⟨i,o,w⟩,rfl⟩⟩
  refine ifF (by simp;omega) ?_;refine DN (fun k (c:Bool) a=>a=(k:Int)/\(c=true↔(∃v,v<i/\Ze h v) \/ ∃j,j<k/\j<(h.On.g i).n/\((h.On.g i).g j<0 \/ (h.Laws.n:Int)<=(h.On.g i).g j))) (h.On.g i).n _ (by omega) ⟨rfl,hb.trans ⟨fun g=>.inl g,fun g=>g.resolve_right fun⟨j,f,_⟩=>absurd f (by omega)⟩⟩ ?_;rintro x k c a hk ⟨rfl,s⟩ y;by_cases l:k<(h.On.g i).n
  ·refine ifT (by simp;omega) (ifT (by omega) (y l _ _ ⟨J1 (by omega),?_⟩));rw[Ae5,Ag9,Ag9,s,decide_eq_true_eq,decide_eq_true_eq];constructor
   ·rintro (((g|⟨j,f,g⟩)|g)|g)
    ·exact .inl g
    ·exact .inr ⟨j,by omega,g⟩
    ·exact .inr ⟨k,by omega,l,.inl g⟩
    ·exact .inr ⟨k,by omega,l,.inr g⟩
   ·rintro (g|⟨j,f,a0,g⟩)
    ·exact .inl (.inl (.inl g))
    ·by_cases e:j=k
     ·subst e;rcases g with g|g
      ·exact .inl (.inr g)
      ·exact .inr g
     ·exact .inl (.inl (.inr ⟨j,by omega,a0,g⟩))
  ·refine ifF (by simp;omega) (hs o _ _ _ ⟨J1 (by omega),hz,fun v b=>?_,s.trans ?_⟩)
   ·by_cases e:v=i
    ·subst e;exact⟨q,by omega⟩
    ·rw[u v (by omega)];exact hp v (by omega)
   ·constructor
    ·rintro (⟨v,b,g⟩ | ⟨j,_,f,g⟩)
     ·exact⟨v,by omega,g⟩
     ·exact⟨i,by omega,j,f,g⟩
    ·rintro⟨v,b,g⟩;by_cases e:v=i
     ·subst e;obtain⟨j,f,g⟩:=g;exact .inr ⟨j,by omega,f,g⟩
     ·exact .inl ⟨v,by omega,g⟩
 rcases P4 ht (v:=i) (by omega)with⟨_,e⟩ | ⟨p,t,e⟩
 ·rw[e];refine ifF (by decide) (rest _ hx (fun v b=>?_) ?_)
  ·show (if v=i then _ else x4.g v)=_;rw[if_neg (by omega)]
  ·show (if i=i then ((h.On.g i).n:Int)else _)=_;rw[if_pos rfl,O5 (by omega)];show _=((0+(h.On.g i).n:Nat):Int);omega
 ·have a1:=hp p t;rw[e];refine ifT (by simp) (ifT ?_ ?_)
  ·show ((((((0:Int)<=(i:Int)/\(i:Int)<(x4.n:Int))/\i<x4.n)/\(0:Int)<=(p:Int)/\(p:Int)<(x4.n:Int))/\(p:Int).toNat<x4.n)/\(0:Int)<=(i:Int)/\(i:Int)<(x4.n:Int))/\i<x4.n;omega
  ·rw[Ae5];refine rest _ hx (fun v b=>?_) ?_
   ·show (if v=i then _ else if v=i then _ else x4.g v)=_;rw[if_neg (by omega),if_neg (by omega)]
   ·show (if i=i then wrap .i64 ((if i=i then ((h.On.g i).n:Int)else _)+(if p=i then _ else x4.g p))else _)=_;rw[if_pos rfl,if_pos rfl,if_neg (by omega),a1.1,Y6 e t,H1 (by omega) (by omega)];show _=(((F9 h p).n+(h.On.g i).n:Nat):Int);omega
end Go.AM
namespace Go.AM
open Go.Proofs
def Zs (h:A5)(i:Nat):Prop:=∃u v,u<v/\v<i/\(h.Laws.g u).Name=(h.Laws.g v).Name
open Classical in
noncomputable def hres (N:Nat) (h:A5):Int:=
 if ¬AI h.Tree then 16 else if 64<h.Laws.n then 12 else if ∃i,i<h.Laws.n/\¬chkAll N (h.Laws.g i)then 17 else if Zs h h.Laws.n then 6 else if h.On.n≠h.Tree.n then 2
 else if Qy h then 2 else if ∃v,v<h.On.n/\Ze h v then 3 else 0
structure EY (N:Nat) (h:A5):Prop where
 tree:AI h.Tree
 laws:RD N h.Laws
 dup:¬Zs h h.Laws.n
 on:h.On.n=h.Tree.n
 long:¬Qy h
 bad:∀v,v<h.On.n->¬Ze h v
theorem hres_zero {N:Nat}{h:A5}:hres N h=0↔EY N h:=by
 unfold hres;constructor
 ·intro g;split at g
  ·cases g
  split at g
  ·cases g
  split at g
  ·cases g
  split at g
  ·cases g
  split at g
  ·cases g
  split at g
  ·cases g
  split at g
  ·cases g
  rename_i h1 n c d f j l;exact⟨Classical.not_not.1 h1,⟨by omega,fun i a=>Ai8 fun hn=>c ⟨i,a,hn⟩⟩,d,Classical.not_not.1 f,j,fun v b hb=>l ⟨v,b,hb⟩⟩
 ·intro g;have m:=g.laws.1;rw[if_neg (fun k=>k g.tree),if_neg (by omega),if_neg (fun⟨i,a,hn⟩=>hn (g.laws.2 i a)),if_neg g.dup,if_neg (fun k=>k g.on),if_neg g.long,if_neg (fun⟨v,b,hb⟩=>g.bad v b hb)]
theorem CK {N:Nat}{h:A5}(h1:AI h.Tree)(a:RD N h.Laws)(b:¬Zs h h.Laws.n)(c:h.On.n=h.Tree.n){e:Int}(d:UX h e):e=hres N h:=by
 have f:=a.1;unfold hres;rw[if_neg (fun k=>k h1),if_neg (by omega),if_neg (fun⟨i,j,hn⟩=>hn (a.2 i j)),if_neg b,if_neg (fun k=>k c)];rcases d with⟨g,rfl⟩ | ⟨g,g2,rfl⟩ | ⟨g,g2,rfl⟩
 ·rw[if_pos g]
 ·rw[if_neg g,if_pos g2]
 ·rw[if_neg g,if_neg (fun⟨v,l,hb⟩=>g2 v l hb)]
theorem Hg {N:Nat}(z:3000000<=N){h:A5}(o:Z0 h):D1 N h=some (hres N h):=by
 suffices g:∃r,D1 N h=some r/\r=hres N h by obtain⟨r,g,rfl⟩:=g;exact g
 obtain⟨e,e1,_,he⟩:=RG z o.tree;unfold D1;refine E9 e1 ?_;rcases he with⟨rfl,ht⟩ | ⟨rfl,ht⟩
 case inr=>exact ifT (by decide) ⟨16,rfl,by unfold hres;rw[if_pos ht]⟩
 refine ifF (by decide) ?_;by_cases c:64<h.Laws.n
 ·exact ifT (by simp;omega) ⟨12,rfl,by unfold hres;rw[if_neg (fun k=>k ht),if_pos c]⟩
 refine ifF (by simp;omega) ?_;refine DN (fun i (x1:List (Str×Int)) x2=>x2=(i:Int)/\(∀j,j<i->chkAll N (h.Laws.g j))/\(∀s,(Bh eqS s x1=none/\∀u,u<i->(h.Laws.g u).Name≠s) \/ (∃v,Bh eqS s x1=some v)/\∃u,u<i/\(h.Laws.g u).Name=s)/\((Zs h i/\x1.length<i) \/ (¬Zs h i/\x1.length=i))) h.Laws.n _ (by omega)
  ⟨rfl,fun j hj=>absurd hj (by omega),fun s=>.inl ⟨rfl,fun u q=>absurd q (by omega)⟩,.inr ⟨fun⟨u,v,_,hv,_⟩=>absurd hv (by omega),rfl⟩⟩ ?_
 rintro self i x1 x2 hle ⟨rfl,hc,hm,hl⟩ hs;by_cases d:i<h.Laws.n
 ·obtain⟨y,y1,_,hy⟩:=OM z (o.laws i d);refine ifT (by simp;omega) (ifT (by omega) (E9 (by rw[Ae5];exact y1) ?_));rcases hy with⟨rfl,hy⟩ | ⟨rfl,hy⟩
  case inr=>exact ifT (by decide) ⟨17,rfl,by unfold hres;rw[if_neg (fun k=>k ht),if_neg c,if_pos ⟨i,d,hy⟩]⟩
  refine ifF (by decide) ?_;rw[Ae5];have t : ∀j,j<i+1->chkAll N (h.Laws.g j):=fun j hj=>by
   by_cases e:j=i
   ·subst e;exact hy
   ·exact hc j (by omega)
  have look:∀(v:Int) (s:Str),(Bh eqS s (Md eqS (h.Laws.g i).Name v x1)=none/\∀u,u<i+1->(h.Laws.g u).Name≠s) \/ (∃w,Bh eqS s (Md eqS (h.Laws.g i).Name v x1)=some w)/\∃u,u<i+1/\(h.Laws.g u).Name=s:=by
   intro v s;rw[Hf];by_cases e:s=(h.Laws.g i).Name
   ·exact .inr ⟨⟨v,by rw[if_pos e]⟩,i,by omega,e.symm⟩
   ·rw[if_neg e];rcases hm s with⟨g,g2⟩ | ⟨g,u,q,g2⟩
    ·refine .inl ⟨g,fun u q=>?_⟩;by_cases e2:u=i
     ·subst e2;exact fun k=>e k.symm
     ·exact g2 u (by omega)
    ·exact .inr ⟨g,u,by omega,g2⟩
  rcases hm (h.Laws.g i).Name with⟨g,g2⟩ | ⟨⟨v,g⟩,u,q,g2⟩
  ·rw[g,NS];refine hs d _ _ ⟨J1 (by omega),t,look _,?_⟩;rw[RE g];rcases hl with⟨⟨a,b,f,hb,hn⟩,hl⟩ | ⟨m,hl⟩
   ·exact .inl ⟨⟨a,b,f,by omega,hn⟩,by omega⟩
   ·refine .inr ⟨fun⟨a,b,f,hb,hn⟩=>?_,by omega⟩;by_cases e:b=i
    ·subst e;exact g2 a f hn
    ·exact m ⟨a,b,f,by omega,hn⟩
  ·rw[g,Un];refine hs d _ _ ⟨J1 (by omega),t,look _,?_⟩;rw[RF g];refine .inl ⟨⟨u,i,q,by omega,g2⟩,?_⟩;rcases hl with⟨_,hl⟩ | ⟨_,hl⟩<;>omega
 ·obtain rfl:i=h.Laws.n:=by omega
  have hok:RD N h.Laws:=⟨by omega,hc⟩;have x:¬ ∃i,i<h.Laws.n/\¬chkAll N (h.Laws.g i):=fun⟨i,o,hn⟩=>hn (hc i o);refine ifF (by simp) ?_;rw[PH];rcases hl with⟨m,hl⟩ | ⟨m,hl⟩
  ·exact ifT (by simp;omega) ⟨6,rfl,by unfold hres;rw[if_neg (fun k=>k ht),if_neg c,if_neg x,if_pos m]⟩
  refine ifF (by simp;omega) ?_;by_cases l:h.On.n=h.Tree.n
  case neg=>exact ifT (by simp;omega) ⟨2,rfl,by unfold hres;rw[if_neg (fun k=>k ht),if_neg c,if_neg x,if_neg m,if_pos l]⟩
  refine ifF (by simp[l]) ?_;obtain⟨e,e1,he⟩:=UY z o ht l;exact E9 e1 ⟨e,rfl,CK ht hok m l he⟩
theorem OR {N:Nat}(hN:3000000<=N){h:A5}(q:Z0 h):Dp N h=some (hres N h):=by
 suffices g:∃r,Dp N h=some r/\r=hres N h by obtain⟨r,g,rfl⟩:=g;exact g
 obtain⟨e,_,e1,he⟩:=RG hN q.tree;unfold Dp;refine E9 e1 ?_;rcases he with⟨rfl,ht⟩ | ⟨rfl,ht⟩
 case inr=>exact ifT (by decide) ⟨16,rfl,by unfold hres;rw[if_pos ht]⟩
 refine ifF (by decide) ?_;by_cases f:64<h.Laws.n
 ·exact ifT (by simp;omega) ⟨12,rfl,by unfold hres;rw[if_neg (fun k=>k ht),if_pos f]⟩
 refine ifF (by simp;omega) ?_;refine Ab (fun i x1=>x1=(i:Int)/\∀j,j<i->chkAll N (h.Laws.g j)) h.Laws.n _ (by omega) ⟨rfl,fun j s=>absurd s (by omega)⟩ ?_;rintro self i x1 hle ⟨rfl,hc⟩ hs;by_cases a:i<h.Laws.n
 ·obtain⟨y,_,y1,hy⟩:=OM hN (q.laws i a);refine ifT (by simp;omega) (ifT (by omega) (E9 (by rw[Ae5];exact y1) ?_));rcases hy with⟨rfl,hy⟩ | ⟨rfl,hy⟩
  case inr=>exact ifT (by decide) ⟨17,rfl,by unfold hres;rw[if_neg (fun k=>k ht),if_neg f,if_pos ⟨i,a,hy⟩]⟩
  refine ifF (by decide) (hs a _ ⟨J1 (by omega),fun j s=>?_⟩);by_cases e:j=i
  ·subst e;exact hy
  ·exact hc j (by omega)
 obtain rfl:i=h.Laws.n:=by omega
 have l:RD N h.Laws:=⟨by omega,hc⟩;have w:¬ ∃i,i<h.Laws.n/\¬chkAll N (h.Laws.g i):=fun⟨i,q,hn⟩=>hn (hc i q);refine ifF (by simp) ?_;refine Ab (fun i x1=>x1=(i:Int)/\¬Zs h i) h.Laws.n _ (by omega) ⟨rfl,fun⟨u,v,_,d,_⟩=>absurd d (by omega)⟩ ?_;rintro a3 i x1 hle2 ⟨rfl,t⟩ a4;by_cases a:i<h.Laws.n
 ·refine ifT (by simp;omega) ?_;refine Ab (fun k x5=>x5=(k:Int)/\∀u,u<k->(h.Laws.g u).Name≠(h.Laws.g i).Name) i _ (by omega) ⟨rfl,fun u hu=>absurd hu (by omega)⟩ ?_;rintro a5 k x5 hk ⟨rfl,x⟩ a6;by_cases z:k<i
  ·refine ifT (by simp;omega) (ifT (by omega) ?_);rw[Ae5,Ae5];by_cases e:(h.Laws.g k).Name=(h.Laws.g i).Name
   ·exact ifT (by simp[e]) ⟨6,rfl,by unfold hres;rw[if_neg (fun k=>k ht),if_neg f,if_neg w,if_pos ⟨k,i,z,a,e⟩]⟩
   ·refine ifF (by simp;exact fun g=>e g.symm) (a6 z _ ⟨J1 (by omega),fun u hu=>?_⟩);by_cases e2:u=k
    ·subst e2;exact e
    ·exact x u (by omega)
  ·refine ifF (by simp;omega) (a4 a _ ⟨J1 (by omega),fun⟨u,v,a7,d,hn⟩=>?_⟩);by_cases e:v=i
   ·subst e;exact x u (by omega) hn
   ·exact t ⟨u,v,a7,by omega,hn⟩
 obtain rfl:i=h.Laws.n:=by omega
 refine ifF (by simp) ?_;by_cases b:h.On.n=h.Tree.n
 case neg=>exact ifT (by simp;omega) ⟨2,rfl,by unfold hres;rw[if_neg (fun k=>k ht),if_neg f,if_neg w,if_neg t,if_pos b]⟩
 refine ifF (by simp[b]) ?_;have h63:=ht.2.1;refine Ab (fun i x1=>x1=(i:Int)/\∀v,v<i->¬ 64<(F9 h v).n) h.On.n _ (by omega) ⟨rfl,fun v d=>absurd d (by omega)⟩ ?_;rintro a8 i x1 hle3 ⟨rfl,a0⟩ a9;by_cases a:i<h.On.n
 ·refine ifT (by simp;omega) (E9 (GB q ht b N i (by omega) (by omega)) ?_);by_cases hg:64<(F9 h i).n
  ·exact ifT (by simp;omega) ⟨2,rfl,CK ht l t b (.inl ⟨⟨i,a,hg⟩,rfl⟩)⟩
  ·refine ifF (by simp;omega) (a9 a _ ⟨J1 (by omega),fun v d=>?_⟩);by_cases e:v=i
   ·subst e;exact hg
   ·exact a0 v (by omega)
 refine ifF (by simp;omega) ?_;have m:¬Qy h:=fun⟨v,d,g⟩=>a0 v (by omega) g;refine Ab (fun i x1=>x1=(i:Int)/\∀v,v<i->¬Ze h v) h.On.n _ (by omega) ⟨rfl,fun v d=>absurd d (by omega)⟩ ?_;rintro b0 i x1 hle4 ⟨rfl,a1⟩ b1;by_cases c:i<h.On.n
 ·have hl:=q.len i c;refine ifT (by simp;omega) ?_;refine Ab (fun k x1=>x1=(k:Int)/\∀j,j<k->¬((h.On.g i).g j<0 \/ (h.Laws.n:Int)<=(h.On.g i).g j)) (h.On.g i).n _ (by omega) ⟨rfl,fun j s=>absurd s (by omega)⟩ ?_;rintro b2 k x1 hk ⟨rfl,a2⟩ b3;refine ifT (by omega) ?_;rw[Ae5,Ae5];by_cases o:k<(h.On.g i).n
  ·refine ifT (by simp;omega) (ifT (by omega) ?_);by_cases g1:(h.On.g i).g k<0
   ·exact ifT (by simpa using g1) ⟨3,rfl,CK ht l t b (.inr (.inl ⟨m,⟨i,c,k,o,.inl g1⟩,rfl⟩))⟩
   refine ifF (by simpa using g1) (ifT (by omega) ?_);by_cases g2:(h.Laws.n:Int)<=(h.On.g i).g k
   ·exact ifT (by simpa using g2) ⟨3,rfl,CK ht l t b (.inr (.inl ⟨m,⟨i,c,k,o,.inr g2⟩,rfl⟩))⟩
   refine ifF (by simpa using g2) (b3 o _ ⟨J1 (by omega),fun j s=>?_⟩);by_cases e:j=k
   ·subst e;exact fun g=>g.elim g1 g2
   ·exact a2 j (by omega)
  ·refine ifF (by simp;omega) (b1 c _ ⟨J1 (by omega),fun v d=>?_⟩);by_cases e:v=i
   ·subst e;exact fun⟨j,s,g⟩=>a2 j (by omega) g
   ·exact a1 v (by omega)
 ·exact ifF (by simp;omega) ⟨0,rfl,CK ht l t b (.inr (.inr ⟨m,fun v d=>a1 v (by omega),rfl⟩))⟩
end Go.AM
namespace Go.AM
open IntKind (wrap)
open Go.Proofs
def Tn (t:Sl E2)(v:Nat):List Nat:=
 if hp:0<=(t.g v).Parent/\(t.g v).Parent<v then Tn t (t.g v).Parent.toNat++[v]else [v]
termination_by v
decreasing_by omega
theorem GC {t:Sl E2}{v:Nat}(a:(t.g v).Parent<0):Tn t v=[v]:=by rw[Tn,dif_neg (by omega)]
theorem MY {t:Sl E2}{v p:Nat}(a:(t.g v).Parent=(p:Int))(hp:p<v):Tn t v=Tn t p++[v]:=by rw[Tn,dif_pos (by omega),a,Ae5]
theorem UZ {t:Sl E2}(ht:AI t):∀(m v:Nat),v<=m->v<t.n->∀x∈Tn t v,x<=v
 |m,v,hm,hv,x,hx=>by
  rcases P4 ht hv with⟨_,e⟩ | ⟨p,hp,e⟩
  ·rw[GC (by omega)]at hx;simp at hx;omega
  ·rw[MY e hp]at hx;rcases List.mem_append.1 hx with hx|hx
   ·match m with
    |0=>omega
    |m+1=>have:=UZ ht m p (by omega) (by omega) x hx;omega
   ·simp at hx;omega
theorem Xc {α : Type}{x:Sl α}{m:Nat}(h:x.n=m+1):x.toList.reverse=x.g m::(x.take m).toList.reverse:=by unfold Sl.toList;rw[h,Ak4,Al3,Al4];rfl
theorem RH {x2:Sl Int}(hx:x2.n<100000):∀(k M:Nat),k<=x2.n->k<M->Q6 M (fun (a:Int->Option (List Int)) (x3:Int)=>
 if (decide (0<=x3)) then
  if (((0:Int)<=x3/\x3<(x2.n:Int))/\x3.toNat<x2.n)then
   FZ (x2.g x3.toNat) (
    a (wrap .i64 (x3-1))
    )
  else none
 else
  some []
 ) ((k:Int)-1)=some (x2.take k).toList.reverse
 |0,M,hk,hM=>by obtain⟨M,rfl⟩:∃K,M=K+1:=⟨M-1,by omega⟩;rw[FU,if_neg (by simp)];rfl
 |k+1,M,hk,hM=>by obtain⟨M,rfl⟩:∃K,M=K+1:=⟨M-1,by omega⟩;rw[show ((k+1:Nat):Int)-1=(k:Int) by omega,FU,if_pos (by simp),if_pos ⟨by omega,by omega⟩,H1 (by omega) (by omega),RH hx k M (by omega) (by omega),Ae5,Xc (x:=x2.take (k+1)) (m:=k) rfl];rfl
theorem Zf {N:Nat}(j:3000000<=N){t:Sl E2}(ht:AI t){v:Nat}(f:v<t.n):K8 N (v:Int) t=some ((Tn t v).map fun (x:Nat)=>(x:Int)):=by
 have i:=ht.2.1;have key:∀(m c:Nat) (x2:Sl Int) (M:Nat),c<m->c<t.n->m+1<M->x2.n+c<=1000->∃y:Sl Int,y.n<=1001/\y.toList.reverse=((Tn t c).map fun (x:Nat)=>(x:Int))++x2.toList.reverse /\
  AW M (fun (a:Int->Sl Int->Option (List Int)) (x1:Int) (x2:Sl Int)=>
  if (decide (0<=x1)) then
   if (((x2.n+(Sl.of [x1]:Sl Int).n)*8<=140737488355328/\x2.n+(Sl.of [x1]:Sl Int).n<=140737488355328)/\((0:Int)<=x1/\x1<(t.n:Int)))then
    a (t.g x1.toNat).Parent (x2.push x1)
   else none
  else
   Q6 N (fun b (x3:Int)=>
    if (decide (0<=x3)) then
     if (((0:Int)<=x3/\x3<(x2.n:Int))/\x3.toNat<x2.n)then
      FZ (x2.g x3.toNat) (
       b (wrap .i64 (x3-1))
       )
     else none
    else
     some []
    ) (wrap .i64 ((x2.n:Int)-1))
  ) (c:Int) x2=some y.toList.reverse:=by
  intro m
  induction m with
  |zero=>exact fun c _ _ h=>absurd h (by omega)
  |succ m ih=>
   intro c x2 M hc d l hx;obtain⟨M,rfl⟩:∃K,M=K+1:=⟨M-1,by omega⟩;rw[NR,if_pos (by simp),if_pos ⟨by show (x2.n+1)*8<=_/\x2.n+1<=_;omega,by omega⟩,Ae5];rcases P4 ht d with⟨_,e⟩ | ⟨p,hp,e⟩
   ·obtain⟨M,rfl⟩:∃K,M=K+1:=⟨M-1,by omega⟩;refine⟨x2.push (c:Int),by show x2.n+1<=_;omega,by rw[UT,Al4,GC (by omega)];rfl,?_⟩;rw[e,NR,if_neg (by decide)];have hb:=RH (x2:=x2.push (c:Int)) (by show x2.n+1<_;omega) (x2.n+1) N (Af0 _) (by omega);rw[H1 (by show _<=((x2.n+1:Nat):Int)-1;omega) (by show ((x2.n+1:Nat):Int)-1<=_;omega)];exact hb
   ·obtain⟨y,y1,y2,y3⟩:=ih p (x2.push (c:Int)) M (by omega) (by omega) (by omega) (by show x2.n+1+p<=_;omega);refine⟨y,y1,?_,by rw[e];exact y3⟩;rw[y2,UT,Al4,MY e hp,Al3,Ap8];rfl
 obtain⟨y,_,y2,y3⟩:=key (v+1) v (Sl.nil:Sl Int) N (by omega) f (by omega) (by show 0+v<=_;omega);unfold K8;rw[y3,y2];show some (_++[])=_;rw[Am4]
def Zg (h:A5)(L:List Nat)(z:Sl Int):Sl Int:=L.foldl (fun z x=>z.app (h.On.g x)) z
theorem OT {h:A5}(ht:AI h.Tree):∀(m v:Nat),v<=m->v<h.Tree.n->Zg h (Tn h.Tree v) (Sl.nil:Sl Int)=F9 h v
 |m,v,hm,hv=>by
  rcases P4 ht hv with⟨_,e⟩ | ⟨p,hp,e⟩
  ·rw[GC (by omega),O5 (by omega)];rfl
  ·rw[MY e hp,Y6 e hp]
   match m with
   |0=>omega
   |m+1=>
    have:=OT ht m p (by omega) (by omega)
    unfold Zg at this⊢;rw[List.foldl_append,this];rfl
theorem OU {h:A5}(c:Z0 h):∀(L:List Nat) (z:Sl Int),(∀x∈L,x<h.On.n)->z.n+L.length*1100000<=10000000000 ->
 Y9 (L.map fun (x:Nat)=>(x:Int)) (fun (a:Sl Int->Option ((Sl Int)×Int)) (x1:Int) (z1:Sl Int)=>
  if (((0:Int)<=x1/\x1<(h.On.n:Int))/\((z1.n+(h.On.g x1.toNat).n)*8<=140737488355328/\z1.n+(h.On.g x1.toNat).n<=140737488355328))then
   a (z1.app (h.On.g x1.toNat))
  else none
  ) (fun (z1:Sl Int)=>
   some (z1,0)
  ) z=some (Zg h L z,0)
 |[],z,_,_=>rfl
 |x::L,z,hx,hz=>by have b:=hx x (by simp);have hl:=c.len x b;simp only[Ah5,Ap1]at hz;rw[Ag3,Y9,Ae5,if_pos ⟨by omega,by omega⟩];exact OU c L _ (fun y hy=>hx y (by simp[hy])) (by show z.n+(h.On.g x).n+_<=_;omega)
theorem RI {t:Sl E2}(ht:AI t):∀(m v:Nat),v<=m->v<t.n->(Tn t v).length<=v+1
 |m,v,hm,hv=>by
  rcases P4 ht hv with⟨_,e⟩ | ⟨p,hp,e⟩
  ·rw[GC (by omega)];simp
  ·rw[MY e hp]
   match m with
   |0=>omega
   |m+1=>have:=RI ht m p (by omega) (by omega);simp;omega
theorem Xd {N:Nat}(g:3000000<=N){h:A5}(d:Z0 h)(v:Int) :∃s e,I0 N h v=some (s,e)/\Hd N h v=some (s,e)/\((e=0/\EY N h/\0<=v/\v<h.Tree.n/\s=F9 h v.toNat) \/ (e≠0/\s=(Sl.nil:Sl Int))):=by
 unfold I0 Hd;rw[Hg g d,OR g d,Ag0,Ag0];by_cases f:hres N h=0
 case neg=>
  have b:(hres N h != 0)=true:=by simpa using f
  rw[if_pos b,if_pos b];exact⟨_,_,rfl,rfl,.inr ⟨f,rfl⟩⟩
 have a:=hres_zero.1 f;have c:¬(hres N h != 0)=true:=by simp[f]
 rw[if_neg c,if_neg c,N6,Hc,Ag0,Ag0];by_cases m:0<=v/\v<(h.Tree.n:Int)
 case neg=>
  have hb:(!((decide (0<=v))&&(decide (v<(h.Tree.n:Int)))))=true:=by simp;omega
  rw[if_pos hb,if_pos hb];exact⟨_,_,rfl,rfl,.inr ⟨by decide,rfl⟩⟩
 have hb:¬(!((decide (0<=v))&&(decide (v<(h.Tree.n:Int)))))=true:=by simp;omega
 rw[if_neg hb,if_neg hb,Y4,Ag0];obtain⟨u,rfl⟩:∃u:Nat,v=(u:Int):=⟨v.toNat,by omega⟩;have l:=a.tree.2.1;have hw:=Zf g a.tree (v:=u) (by omega);have j:=RI a.tree u u (Af0 _) (by omega);have i:=OU d (Tn h.Tree u) (Sl.nil:Sl Int) (fun x hx=>by have:=UZ a.tree u u (Af0 _) (by omega) x hx;have:=a.on;omega) (by show 0+_<=_;omega);rw[GB d a.tree a.on N u (by omega) (by omega),Ag0];refine⟨F9 h u,0,?_,rfl,.inl ⟨rfl,a,by omega,by omega,by rw[Ae5]⟩⟩;show (K8 N (u:Int) h.Tree).bind _=_;rw[hw,Ag0,i,OT a.tree u u (Af0 _) (by omega)]
theorem Qz {N:Nat}{h:A5}(a:EY N h):∀(m v:Nat),v<=m->v<h.Tree.n->∀i,i<(F9 h v).n->0<=(F9 h v).g i/\(F9 h v).g i<h.Laws.n
 |m,v,hm,hv,i,b=>by
  have Zl:∀j,j<(h.On.g v).n->0<=(h.On.g v).g j/\(h.On.g v).g j<h.Laws.n:=fun j c=>by
   have:=a.bad v (by have:=a.on;omega)
   constructor
   ·exact Int.not_lt.1 fun g=>this ⟨j,c,.inl g⟩
   ·exact Int.not_le.1 fun g=>this ⟨j,c,.inr g⟩
  rcases P4 a.tree hv with⟨_,e⟩ | ⟨p,hp,e⟩
  ·rw[O5 (by omega)]at b⊢;have b:i<0+(h.On.g v).n:=b
   have:((Sl.nil:Sl Int).app (h.On.g v)).g i=(h.On.g v).g i:=by show (if i<0 then (default:Int)else (h.On.g v).g (i-0))=_;rw[if_neg (by omega)];rfl
   rw[this];exact Zl i (by omega)
  ·rw[Y6 e hp]at b⊢;have b:i<(F9 h p).n+(h.On.g v).n:=b;show 0<=(if i<(F9 h p).n then (F9 h p).g i else (h.On.g v).g (i-(F9 h p).n))/\(if i<(F9 h p).n then (F9 h p).g i else (h.On.g v).g (i-(F9 h p).n))<_;split
   ·match m with
    |0=>omega
    |m+1=>exact Qz a m p (by omega) (by omega) i (by assumption)
   ·exact Zl _ (by omega)
theorem Fx:∀(d:Nat) (p:Pat),okP d p->∀M,100+d<=M->∃q,K5 M p=some q/\PE p q
 |0,p,h,M,_=>h.elim
 |d+1,p,h,0,hM=>by omega
 |d+1,p,h,M+1,hM=>by
  show ∃q,K9 (K5 M) M p=some q/\_;unfold K9;have hn:=h.1;refine DN (fun i (x1:Sl Pat) x2=>x2=(i:Int)/\x1.n=i/\∀j,j<i->PE (p.L.g j) (x1.g j)) p.L.n _ (by omega) ⟨rfl,rfl,fun j a=>absurd a (by omega)⟩ ?_;rintro c i x1 x2 f ⟨rfl,hx,a⟩ hs;by_cases hl:i<p.L.n
  ·obtain⟨q,q1,q2⟩:=Fx d (p.L.g i) (h.2.2 i hl) M (by omega);refine ifT (by simp;omega) (ifT (by omega) (E9 (by rw[Ae5];exact q1) (ifT (by show (x1.n+1)*64<=_/\x1.n+1<=_;omega) (hs hl _ _ ⟨J1 (by omega),by show x1.n+1=_;omega,fun j b=>?_⟩))));show PE _ (if j<x1.n then x1.g j else q);by_cases e:j=i
   ·subst e;rw[if_neg (by omega)];exact q2
   ·rw[if_pos (by omega)];exact a j (by omega)
  ·exact ifF (by simp;omega) ⟨_,rfl,PE_of.2 ⟨rfl,rfl,rfl,rfl,rfl,by show x1.n=_;omega,fun j b=>a j (by omega)⟩⟩
theorem Th {N:Nat}(d:3000000<=N){l:Law}(hl:JJ l)(hc:chkAll N l):∃l',M8 N l=some l' /\ LE l l':=by have a:=hc.f hl;obtain⟨_,h1,b,g,c,_⟩:=a;have i:=c.1;obtain⟨q1,e1,g1⟩:=Fx 40 l.Left (UK 40 _ (by omega) h1 _ (by simp)) N (by omega);obtain⟨q2,e2,g2⟩:=Fx 40 l.Right (UK 40 _ (by omega) b _ (by simp)) N (by omega);unfold M8 A6 E3;rw[e1,e2,Ag0,Ag0,if_pos (by omega),Ag0,if_pos (by omega)];exact⟨_,rfl,rfl,g1,g2,SE.refl _,SE.refl _,rfl⟩
end Go.AM
namespace Go.AM
open Go.Proofs
theorem Zh {N:Nat}{h:A5}(a:EY N h){x:Nat}(hx:x<h.Tree.n):(h.On.g x).n<=64/\∀i,i<(h.On.g x).n->0<=(h.On.g x).g i/\(h.On.g x).g i<h.Laws.n:=by
 have c:=a.on;refine⟨?_,fun j b=>?_⟩
 ·have hl:(F9 h x).n<=64:=Aq1 fun g=>a.long ⟨x,by omega,g⟩;rcases P4 a.tree hx with⟨_,e⟩ | ⟨p,hp,e⟩
  ·rw[O5 (by omega)]at hl;have hl:0+(h.On.g x).n<=64:=hl;omega
  ·rw[Y6 e hp]at hl;have hl:(F9 h p).n+(h.On.g x).n<=64:=hl;omega
 ·have:=a.bad x (by omega)
  constructor
  ·exact Int.not_lt.1 fun g=>this ⟨j,b,.inl g⟩
  ·exact Int.not_le.1 fun g=>this ⟨j,b,.inr g⟩
end Go.AM
namespace Go.AM
open Go.Proofs
theorem eqR {R:Type}{x:Option R}{y:R}(h:∃r,x=some r/\r=y):x=some y:=by obtain⟨r,h,rfl⟩:=h;exact h
end Go.AM
namespace Go.AM
open Go.Proofs
end Go.AM
namespace Go.AM
open Go.Proofs
end Go.AM
namespace Go.AM
open Go.Proofs
theorem Va {N:Nat}(t:3000000<=N)(h:A5):∃b,Br N h=some b/\True:=by
 unfold Br;by_cases hb:(((decide (70<(h.Tree.n:Int)))||(decide (70<(h.Laws.n:Int))))||(decide (70<(h.On.n:Int))))=true
 ·exact ifT hb ⟨_,rfl,trivial⟩
 refine ifF hb ?_;have o : h.Laws.n<=70/\h.On.n<=70:=by simp at hb;omega
 refine Ab (fun i x=>x=(i:Int)) h.On.n _ (by omega) rfl ?_;rintro l i x q rfl hs;by_cases d:i<h.On.n
 ·refine ifT (by simp;omega) (ifT (by omega) ?_);by_cases m:(decide (70<((h.On.g (i:Int).toNat).n:Int)))=true
  ·exact ifT m ⟨_,rfl,trivial⟩
  ·exact ifF m (hs d _ (J1 (by omega)))
 ·refine ifF (by simp;omega) ?_;refine Ab (fun i x=>x=(i:Int)) h.Laws.n _ (by omega) rfl ?_;rintro f i x q rfl j;by_cases d:i<h.Laws.n
  ·rw[J1 (by omega)];refine ifT (by simp;omega) (ifT (by omega) ?_);obtain⟨r,s⟩:=WZ (N:=N) (by omega) (h.Laws.sub (i:Int).toNat ((i+1:Nat):Int).toNat);refine E9 s ?_;have last:∀z3:Bool,∃r,(if z3 then some false else f ((i+1:Nat):Int))=some r/\True:=fun z=>by
    cases z
    ·exact ifF (by simp) (j d _ rfl)
    ·exact ifT rfl ⟨_,rfl,trivial⟩
   refine ltX ?_;by_cases g1:(decide (4<r))=true
   ·exact ifT g1 (last _)
   refine ifF g1 ?_;by_cases g2:(decide (20<((h.Laws.g (i:Int).toNat).If.n:Int)))=true
   ·exact ifT g2 (last _)
   refine ifF g2 ?_;by_cases g3:(decide (20<((h.Laws.g (i:Int).toNat).Out.n:Int)))=true
   ·exact ifT g3 (last _)
   refine ifF g3 ?_;obtain⟨a,ha,_⟩:=MW (N:=N) (by omega) (h.Laws.g (i:Int).toNat).Left;refine E9 ha ?_;by_cases g4:(decide (41<(a:Int)))=true
   ·exact ifT g4 (last _)
   refine ifF g4 ?_;obtain⟨c,hc,_⟩:=MW (N:=N) (by omega) (h.Laws.g (i:Int).toNat).Right;exact E9 hc (last _)
  ·exact ifF (by simp;omega) ⟨_,rfl,trivial⟩
end Go.AM
namespace Go.AM
open Go.Proofs
end Go.AM
namespace Go.AM
open Go.Proofs
end Go.AM
namespace Go.AM
open Go.Proofs
theorem Hh {N:Nat}{a b:Sl Int}(d:a.n<N)(hs:a.n<1000000000)(h:SE a b):S5 N a b=some true:=by
 obtain⟨h1,f⟩:=h;refine eqR ?_;unfold S5;refine ifF (by simp[h1]) ?_;refine Ab (fun i x=>x=(i:Int)) a.n _ d rfl ?_;rintro c i x g rfl hs;by_cases hl:i<a.n
 ·refine ifT (by simp;omega) (ifT (by omega) ?_);rw[Ae5,f i hl];exact ifF (by simp) (hs hl _ (J1 (by omega)))
 ·exact ifF (by simp;omega) ⟨_,rfl,rfl⟩
def szP:Pat->Nat
 |.nil=>1
 |.mk _ _ _ _ _ n g=>1+((List.range n).map fun i=>szP (g i)+1).sum
theorem OV (p:Pat):szP p=1+((List.range p.L.n).map fun i=>szP (p.L.g i)+1).sum:=by
 cases p with
 |nil=>rfl
 |mk k is no mn mx n g=>rw[szP];rfl
theorem Vb {f:Nat->Nat}:∀{n i:Nat},i<n->f i<=((List.range n).map f).sum
 |n+1,i,h=>by
  rw[Ak4,Al3,At2];by_cases e:i=n
  ·subst e;simp
  ·have:=Vb (f:=f) (n:=n) (i:=i) (by omega)
   omega
theorem Ac7 {f:Nat->Nat}(h:∀i,1<=f i):∀n,n<=((List.range n).map f).sum
 |0=>Am1 _
 |n+1=>by
  rw[Ak4,Al3,At2]
  have:=Ac7 h n
  have:=h n
  simp;omega
theorem Fy:∀(d:Nat) (p q:Pat),szP p<=d->PE p q->∀M,1100000+d<=M->d<=1048576->T7 M p q=some true
 |0,p,q,h,_,M,_,_=>by rw[OV]at h;omega
 |d+1,p,q,h,he,0,hM,_=>by omega
 |d+1,p,q,h,he,M+1,hM,hd=>by
  obtain⟨h1,b,c,j,l,m,o⟩:=PE_of.1 he;rw[OV]at h;have hn:=Ac7 (f:=fun i=>szP (p.L.g i)+1) (fun i=>by omega) p.L.n;refine eqR ?_;show ∃r,S6 (T7 M) M p q=some r/\_;unfold S6;refine ifF (by simp[h1]) (ifF (by simp[b]) (ifF (by simp[c]) (ifF (by simp[j]) (ifF (by simp[l]) (ifF (by simp[m]) ?_)))));refine Ab (fun i x=>x=(i:Int)) p.L.n _ (by omega) rfl ?_;rintro a i x t rfl hs;by_cases hl:i<p.L.n
  ·refine ifT (by simp;omega) (ifT (by omega) ?_);rw[Ae5]
   have:=Vb (f:=fun i=>szP (p.L.g i)+1) hl
   have s:szP (p.L.g i)<=d:=by omega
   exact E9 (Fy d _ _ s (o i hl) M (by omega) (by omega)) (ifF (by simp) (hs hl _ (J1 (by omega))))
  ·exact ifF (by simp;omega) ⟨_,rfl,rfl⟩
theorem Vc {N:Nat}(g:3000000<=N){l l' : Law}(h:LE l l')(hp:szP l.Left<=1048576)(f:szP l.Right<=1048576)(j:l.If.n<1100000)(m:l.Out.n<1100000):CG N l l' = some true:=by
 refine eqR ?_;unfold CG;have g1:=h.cond.1;have g2:=h.out.1;refine ltX (ifF (by simp[h.name]) (ifF (by simp[h.mode]) (ifF (by simp[g1]) (ifF (by simp[g2]) (E9 (Fy 1048576 _ _ hp h.left N (by omega) (by omega)) (ifF (by simp) (E9 (Fy 1048576 _ _ f h.right N (by omega) (by omega)) (ifF (by simp) ?_))))))));refine Ab (fun i x=>x=(i:Int)) l.If.n _ (by omega) rfl ?_;rintro d i x a rfl hs;by_cases hl:i<l.If.n
 ·refine ifT (by simp;omega) (ifT (by omega) ?_);rw[Ae5,h.cond.2 i hl];exact ifF (by simp) (hs hl _ (J1 (by omega)))
 ·refine ifF (by simp;omega) ?_;refine Ab (fun i x=>x=(i:Int)) l.Out.n _ (by omega) rfl ?_;rintro b i x a rfl c;by_cases hl:i<l.Out.n
  ·refine ifT (by simp;omega) (ifT (by omega) ?_);rw[Ae5,h.out.2 i hl];exact ifF (by simp) (c hl _ (J1 (by omega)))
  ·exact ifF (by simp;omega) ⟨_,rfl,rfl⟩
def GD (l:Sl Law):Prop:=∀i,i<l.n->szP (l.g i).Left<=1048576/\szP (l.g i).Right<=1048576/\(l.g i).If.n<1100000/\(l.g i).Out.n<1100000
theorem RJ {N:Nat}(f:3000000<=N){a b:Sl Law}(h:LS a b)(hs:GD a)(hn:a.n<1100000):CH N a b=some true:=by
 obtain⟨h1,g⟩:=h;refine eqR ?_;unfold CH;refine ifF (by simp[h1]) ?_;refine Ab (fun i x=>x=(i:Int)) a.n _ (by omega) rfl ?_;rintro d i x j rfl c;by_cases hl:i<a.n
 ·refine ifT (by simp;omega) (ifT (by omega) ?_);rw[Ae5];obtain⟨s1,s2,s3,s4⟩:=hs i hl;exact E9 (Vc f (g i hl) s1 s2 s3 s4) (ifF (by simp) (c hl _ (J1 (by omega))))
 ·exact ifF (by simp;omega) ⟨_,rfl,rfl⟩
structure copyE (h g:A5):Prop where
 tree:g.Tree=h.Tree
 laws:g.Laws=h.Laws
 n:g.On.n=h.On.n
 row:∀v,v<h.On.n->g.On.g v=h.On.g v
theorem QA {N:Nat}(o:3000000<=N){h g:A5}(hc:copyE h g)(j:Z0 h)(hs:GD h.Laws)(ht:h.Tree.n<1100000)(hl:h.Laws.n<1100000):X0 N g h=some true:=by
 have q:=j.on;have hn:=hc.n;refine eqR ?_;unfold X0;rw[hc.tree,hc.laws];refine ltX (ifF (by simp) (ifF (by simp[hn]) (E9 (RJ o (LS.refl _) hs hl) (ifF (by simp) ?_))));refine Ab (fun i x=>x=(i:Int)) h.Tree.n _ (by omega) rfl ?_;rintro l i x b rfl c;by_cases a:i<h.Tree.n
 ·exact ifT (by simp;omega) (ifT (by omega) (ifF (by simp) (c a _ (J1 (by omega)))))
 ·refine ifF (by simp;omega) ?_;refine Ab (fun i x=>x=(i:Int)) g.On.n _ (by omega) rfl ?_;rintro d i x b rfl f;by_cases a:i<g.On.n
  ·refine ifT (by simp;omega) (ifT (by omega) ?_);rw[Ae5,hc.row i (by omega)];have m:=j.len i (by omega);exact E9 (Hh (by omega) (by omega) (SE.refl _)) (ifF (by simp) (f a _ (J1 (by omega))))
  ·exact ifF (by simp;omega) ⟨_,rfl,rfl⟩
end Go.AM
namespace Go.AM
open Go.Proofs
end Go.AM
namespace Go.AM
open Go.Proofs
end Go.AM
namespace Go.AM
open Go.Proofs
theorem Vd:∀(p q:Pat),PE p q->szP p=szP q
 |.nil,q,h=>by obtain⟨_,_,_,_,_,a,_⟩:=PE_of.1 h;rw[OV q,a];rfl
 |.mk k is no mn mx n g,q,h=>by obtain⟨_,_,_,_,_,a,c⟩:=PE_of.1 h;rw[OV q,a,OV (.mk k is no mn mx n g)];congr 2;refine Ag8 fun i b=>?_;have b:i<n:=Ak3.1 b;show szP (g i)+1=_;rw[Vd (g i) _ (c i b)]
end Go.AM
namespace Go.AM
open IntKind (wrap)
open Go.Proofs
structure MZ (x:DX):Prop where
 par:∀i,i<x.Parents.n->∃k:Nat,x.Parents.g i=(k:Int)/\k<256
 laws:OO x.Laws
 on:∀i,i<x.On.n->∃k:Nat,x.On.g i=(k:Int)/\k<65536
theorem RK {n:Nat}(h:n<256):IntKind.u8.wrap (n:Int)=n:=by have h1:((n:Int) % (2 ^ 8:Int))=n:=Ao1 (by omega) (by omega);unfold wrap;simp only[IntKind.bits,IntKind.signed,h1,Ao7,Af1,if_false]
def Ve (a j:Nat):Str:=[UInt8.ofNat (a+j)]
theorem Vf {a j:Nat}(h:a+j<256):[UInt8.ofNat (wrap .u8 ((a:Int)+(wrap .u8 (j:Int)))).toNat]=Ve a j:=by rw[RK (by omega),<- Int.natCast_add,RK h,Ae5];rfl
theorem RL {a i j:Nat}(b:a+i<256)(c:a+j<256)(h:Ve a i=Ve a j):i=j:=by
 have:=congrArg UInt8.toNat (Au3 h).1
 rw[Ar1,Ar1]at this;omega
theorem Vg:∀j:Fin 10,Ia (Ve 97 j.val)=true:=by decide +kernel
def Xe (x:DX):Nat->E2
 |0=>⟨-1,[114]⟩
 |j+1=>⟨(((x.Parents.g j).toNat % (j+1):Nat):Int),Ve 97 (j+1)⟩
def Zi (x:DX)(j:Nat):Law:=⟨Ve 65 j,(x.Laws.g j).Left,(x.Laws.g j).Right,(x.Laws.g j).If,(x.Laws.g j).Out,(x.Laws.g j).Mode⟩
theorem Vh {x:DX}(hx:MZ x){j:Nat}(d:j<x.Laws.n):JJ (Zi x j):=by obtain⟨⟨a,b,c⟩,l,f,g,i⟩:=hx.laws j d;exact⟨⟨a,b,c⟩,by show 1<_;omega,f,g,i⟩
theorem Xf {x:DX}{t:Sl E2}(hn:t.n<=10)(ht:∀j,j<t.n->t.g j=Xe x j){v:Nat}(c:v<t.n):Xb t v:=by
 have a:∀j,j<t.n->0<j->(Xe x j).Name=Ve 97 j:=fun j _ d=>by obtain⟨k,rfl⟩:∃k,j=k+1:=⟨j-1,by omega⟩;rfl
 have b:∀j,j<10->([114]:Str)≠Ve 97 j:=fun j f h=>by
  have:=congrArg UInt8.toNat (Au3 h).1
  rw[Ar1]at this;have e:(114:UInt8).toNat=114:=rfl;omega
 refine⟨fun h=>by rw[ht 0 (by omega)];rfl,fun d=>?_,?_,fun u i=>?_⟩
 ·obtain⟨k,rfl⟩:∃k,v=k+1:=⟨v-1,by omega⟩;rw[ht _ c];show 0<=(((x.Parents.g k).toNat % (k+1):Nat):Int)/\(((x.Parents.g k).toNat % (k+1):Nat):Int)<((k+1:Nat):Int)
  have:=Ar5 (x.Parents.g k).toNat (show 0<k+1 by omega)
  omega
 ·rw[ht _ c];by_cases d:v=0
  ·subst d;show Ia [114]=true;decide +kernel
  ·rw[a v c (by omega)];exact Vg ⟨v,by omega⟩
 ·rw[ht _ c,ht u (by omega),a v c (by omega)];by_cases d:u=0
  ·subst d;exact b v (by omega)
  ·rw[a u (by omega) (by omega)];exact fun h=>by have:=RL (by omega) (by omega) h;omega
theorem Ly {h:A5}(ht:AI h.Tree)(a:∀v,v<h.Tree.n->(h.On.g v).n<=5):∀(m v:Nat),v<=m->v<h.Tree.n->(F9 h v).n<=(v+1)*5
 |m,v,hm,hv=>by
  have:=a v hv
  rcases P4 ht hv with⟨_,e⟩ | ⟨p,hp,e⟩
  ·rw[O5 (by omega)];show 0+(h.On.g v).n<=_;omega
  ·rw[Y6 e hp];show (F9 h p).n+(h.On.g v).n<=_
   match m with
   |0=>omega
   |m+1=>
    have:=Ly ht a m p (by omega) (by omega)
    omega
structure Vi (N:Nat) (x:DX) (h:A5):Prop where
 hist:EY N h
 n:h.Tree.n<=10
 node:∀j,j<h.Tree.n->h.Tree.g j=Xe x j
 laws:h.Laws.n<=6
 law:∀j,j<h.Laws.n->h.Laws.g j=Zi x j/\j<x.Laws.n
 five:∀v,v<h.Tree.n->(h.On.g v).n<=5
theorem Xg {N:Nat}(hN:3000000<=N){x:DX}(hx:MZ x) :∃r:A5×Bool,P3 N x=some r/\Z0 r.1/\(r.2=true->Vi N x r.1):=by
 have t:Z0 (⟨(Sl.nil:Sl E2),(Sl.nil:Sl Law),(Sl.nil:Sl (Sl Int))⟩:A5):=
  ⟨fun i hi=>absurd hi (Ai3 i),fun i hi=>absurd hi (Ai3 i),by show 0<_;omega,fun i hi=>absurd hi (Ai3 i)⟩
 unfold P3;refine DN (fun i (x1:Sl E2) x2=>x2=((i+1:Nat):Int)/\x1.n=i+1/\∀j,j<i+1->x1.g j=Xe x j) 9 _ (by omega) ⟨rfl,rfl,fun j s=>by obtain rfl:j=0:=(by omega);rfl⟩ ?_;rintro self i x1 x2 hi ⟨rfl,hn1,h1⟩ hs;by_cases hlt:i+1<=x.Parents.n/\i+1<10
 ·obtain⟨k,hk,hk2⟩:=hx.par i (by omega);have e1:wrap .i64 (((i+1:Nat):Int)-1)=(i:Int):=by rw[Zb (by omega) (by omega)];rfl
  refine ifT (by simp;omega) ?_;rw[e1,Ae5,hk,H1 (n:=(k:Int)) (by omega) (by omega)];refine ifT ⟨⟨by omega,by omega⟩,by omega⟩ (ifT (by show (x1.n+1)*24<=_/\x1.n+1<=_;omega) (hs (by omega) _ _ ⟨J1 (by omega),by show x1.n+1=_;omega,fun j s=>?_⟩));show (if j<x1.n then x1.g j else _)=_;by_cases e:j<x1.n
  ·rw[if_pos e];exact h1 j (by omega)
  ·obtain rfl:j=i+1:=by omega
   rw[if_neg e];have e2:[UInt8.ofNat (wrap .u8 (97+(wrap .u8 ((i+1:Nat):Int)))).toNat]=Ve 97 (i+1):=Vf (a:=97) (by omega);rw[e2];show (⟨_,_⟩:E2)=⟨(((x.Parents.g i).toNat % (i+1):Nat):Int),Ve 97 (i+1)⟩;rw[hk,Ae5];rfl
 refine ifF (by simp;omega) ?_;clear hs;refine DN (fun i (x4:Sl Law) x5=>x5=(i:Int)/\x4.n=i/\∀j,j<i->x4.g j=Zi x j/\j<x.Laws.n/\chkAll N (Zi x j)) 6 _ (by omega) ⟨rfl,rfl,fun j s=>absurd s (by omega)⟩ ?_;rintro self2 m x4 x5 hm ⟨rfl,hn4,h4⟩ hs2;by_cases hlt2:m<x.Laws.n/\m<6
 ·obtain⟨hml,hm6⟩:=hlt2;have e2:[UInt8.ofNat (wrap .u8 (65+(wrap .u8 (m:Int)))).toNat]=Ve 65 m:=Vf (a:=65) (by omega);have hin:=Vh hx hml;refine ifT (by simp;omega) (ifT (by omega) ?_);rw[Ae5,e2];obtain⟨b,hb,_⟩:=Va hN (⟨(Sl.nil:Sl E2),(Sl.of [Zi x m]:Sl Law),(Sl.nil:Sl (Sl Int))⟩:A5);have hl:Bs N (Zi x m)=some b:=by unfold Bs;rw[hb];rfl
  refine E9 hl (ltX ?_);cases b
  ·exact ifT rfl (ifT rfl ⟨_,rfl,t,fun h=>by cases h⟩)
  ·refine ifF (by decide) ?_;obtain⟨e,he,hE⟩:=Lx hN hin;refine E9 he ?_;rcases hE with⟨rfl,hc⟩ | ⟨rfl,_⟩
   ·refine ifF (by decide) (ifT (by show (x4.n+1)*200<=_/\x4.n+1<=_;omega) (hs2 hm6 _ _ ⟨J1 (by omega),by show x4.n+1=_;omega,fun j s=>?_⟩));show (if j<x4.n then x4.g j else Zi x m)=_/\_;by_cases e:j<x4.n
    ·rw[if_pos e];exact h4 j (by omega)
    ·obtain rfl:j=m:=by omega
     rw[if_neg e];exact⟨rfl,hml,hc⟩
   ·exact ifT (by decide) ⟨_,rfl,t,fun h=>by cases h⟩
 refine ifF (by simp;omega) ?_;clear hs2;have hL1:wrap .i64 ((x4.n:Int)+1)=((x4.n+1:Nat):Int):=J1 (by omega);rw[hL1];refine DN (fun v (f:Sl (Sl Int)) x11=>x11=(v:Int)/\f.n=v/\∀u,u<v->(f.g u).n<=5/\∀j,j<(f.g u).n->0<=(f.g u).g j/\(f.g u).g j<x4.n) x1.n _ (by omega) ⟨rfl,rfl,fun j s=>absurd s (by omega)⟩ ?_;rintro self5 v f x11 w ⟨rfl,hn10,a1⟩ hs5;by_cases hvl:v<x1.n
 ·obtain⟨c,hc,hc2⟩:∃c:Nat,At N x.On (v:Int)=some (c:Int)/\c<65536:=by
   unfold At;by_cases h:v<x.On.n
   ·obtain⟨k,hk,hk2⟩:=hx.on v h;exact⟨k,by rw[if_pos (by simp;omega),if_pos (by omega),Ae5,hk,H1 (by omega) (by omega)],hk2⟩
   ·exact⟨0,by rw[if_neg (by simp;omega)];rfl,by omega⟩
  refine ifT (by simp;omega) (E9 hc ?_);refine DN (fun q (l:Sl Int) x15=>l.n=q/\(∃d:Nat,x15=(d:Int)/\d<65536)/\∀j,j<l.n->0<=l.g j/\l.g j<x4.n) 5 _ (by omega) ⟨rfl,⟨c,rfl,hc2⟩,fun j s=>absurd s (Ai3 j)⟩ ?_;rintro self6 q l x15 hq ⟨hn14,⟨d,rfl,hd⟩,h14⟩ hs6;refine ifT (by omega) ?_;have em:(d:Int).tmod ((x4.n+1:Nat):Int)=((d % (x4.n+1):Nat):Int):=rfl;have ed:(d:Int).tdiv ((x4.n+1:Nat):Int)=((d / (x4.n+1):Nat):Int):=rfl;rw[em,ed];have hlt3:=Ar5 d (show 0<x4.n+1 by omega);have hle3:=Nat.div_le_self d (x4.n+1);generalize d / (x4.n+1)=d1 at hle3;generalize d % (x4.n+1)=m1 at hlt3;by_cases g:m1≠0/\q<5
  ·rw[Zb (by omega) (by omega),H1 (n:=(d1:Int)) (by omega) (by omega)];refine ifT (by simp;omega) (ifT ⟨⟨by omega,by show (l.n+1)*8<=_;omega,by show l.n+1<=_;omega⟩,by omega⟩ (hs6 (by omega) _ _ ⟨by show l.n+1=_;omega,⟨_,rfl,by omega⟩,fun j s=>?_⟩));show 0<=(if j<l.n then l.g j else _)/\(if j<l.n then l.g j else _)<_;by_cases e:j<l.n
   ·rw[if_pos e];exact h14 j e
   ·rw[if_neg e];omega
  ·refine ifF (by simp;omega) (ifT (by show (f.n+1)*24<=_/\f.n+1<=_;omega) (hs5 hvl _ _ ⟨J1 (by omega),by show f.n+1=_;omega,fun u hu=>?_⟩));show (if u<f.n then f.g u else l).n<=5/\∀j,j<(if u<f.n then f.g u else l).n->0<=(if u<f.n then f.g u else l).g j/\(if u<f.n then f.g u else l).g j<_;by_cases e:u<f.n
   ·rw[if_pos e];exact a1 u (by omega)
   ·rw[if_neg e];exact⟨by omega,h14⟩
 obtain rfl:v=x1.n:=by omega
 refine ifF (by simp) ⟨_,rfl,?_,fun _=>?_⟩
 ·refine⟨fun i o=>?_,fun i o=>?_,by show f.n<_;omega,fun i o=>?_⟩
  ·have o:i<x4.n:=o;show JJ (x4.g i);obtain⟨e,hil,_⟩:=h4 i (by omega);rw[e];exact Vh hx hil
  ·have o:i<x1.n:=o;show (x1.g i).Name.length<_;rw[h1 i (by omega)];cases i<;>(show 1<_;omega)
  ·have o:i<f.n:=o;show (f.g i).n<_
   have:=(a1 i (by omega)).1
   omega
 ·have y:AI x1:=⟨by omega,by omega,fun v w=>Xf (by omega) (fun j s=>h1 j (by omega)) w⟩;have z:∀v,v<x1.n->(f.g v).n<=5:=fun v w=>(a1 v (by omega)).1;refine⟨⟨y,⟨by show x4.n<=64;omega,fun i o=>?_⟩,?_,by show f.n=x1.n;omega,?_,fun v w=>?_⟩,by show x1.n<=10;omega,fun j s=>h1 j (by have s:j<x1.n:=s;omega),by show x4.n<=6;omega,fun j s=>?_,fun v w=>z v w⟩
  ·have o:i<x4.n:=o;show chkAll N (x4.g i);obtain⟨e,_,hc⟩:=h4 i (by omega);rw[e];exact hc
  ·rintro⟨u,v,h1',h2',a2⟩;have h2' : v<x4.n:=h2';have a2 : (x4.g u).Name=(x4.g v).Name:=a2;rw[(h4 u (by omega)).1,(h4 v (by omega)).1]at a2
   have:=RL (a:=65) (by omega) (by omega) a2
   omega
  ·rintro⟨v,w,a0⟩;have w:v<f.n:=w;have a0:64<(F9 (⟨x1,x4,f⟩:A5) v).n:=a0
   have:=Ly (h:=(⟨x1,x4,f⟩:A5)) y z v v (Af0 _) (by show v<x1.n;omega)
   omega
  ·have w:v<f.n:=w;rintro⟨j,s,hb⟩;have s:j<(f.g v).n:=s;have hb:(f.g v).g j<0 \/ ((x4.n:Nat):Int)<=(f.g v).g j:=hb
   have:=(a1 v (by omega)).2 j s
   omega
  ·have s:j<x4.n:=s;exact⟨(h4 j (by omega)).1,(h4 j (by omega)).2.1⟩
end Go.AM
namespace Go.AM
open Go.Proofs
end Go.AM
namespace Go.AM
open Go.Proofs
end Go.AM
namespace Go.AM
open Go.Proofs
theorem ltV {R A:Type}{Q:R->Prop}{k:A->Option R}{f:(A->Option R)->Option R}(u:A)(h1:∃r,k u=some r/\Q r)(a:∀k:A->Option R,(∃r,k u=some r/\Q r)->∃r,f k=some r/\Q r):∃r,lt k f=some r/\Q r:=a k h1
end Go.AM
namespace Go.AM
open Go.Proofs
end Go.AM
namespace Go.AM
open IntKind (wrap)
open Go.Proofs
theorem Na:∀{p q r:Pat},PE p q->PE q r->PE p r
 |.nil,q,r,h,h'=>by obtain⟨h1,c,d,f,j,a,l⟩:=PE_of.1 h;obtain⟨g1,g2,g3,g4,g5,g6,g7⟩:=PE_of.1 h';exact PE_of.2 ⟨g1.trans h1,g2.trans c,g3.trans d,g4.trans f,g5.trans j,g6.trans a,fun i b=>absurd b (Ai3 i)⟩
 |.mk k is no mn mx n g,q,r,h,h'=>by obtain⟨h1,c,d,f,j,a,l⟩:=PE_of.1 h;obtain⟨g1,g2,g3,g4,g5,g6,g7⟩:=PE_of.1 h';exact PE_of.2 ⟨g1.trans h1,g2.trans c,g3.trans d,g4.trans f,g5.trans j,g6.trans a,fun i b=>Na (l i b) (g7 i (by rw[a];exact b))⟩
theorem LE.trans {l l' l'' : Law}(h:LE l l')(h' : LE l' l''):LE l l'':=⟨h'.name.trans h.name,Na h.left h'.left,Na h.right h'.right,h.cond.trans h'.cond,h.out.trans h'.out,h'.mode.trans h.mode⟩
structure OW (h g:A5) (u k:Nat):Prop where
 tree:g.Tree=h.Tree
 laws:LS h.Laws g.Laws
 n:g.On.n=h.On.n
 row:∀v,v<h.On.n->v≠u->g.On.g v=h.On.g v
 at' : g.On.g u=((h.On.g u).upd k ((h.On.g u).g (k+1))).upd (k+1) ((h.On.g u).g k)
theorem OX {N:Nat}(y:3000000<=N){h:A5}(m:Z0 h)(a:EY N h){u k:Nat}(hu:u<h.Tree.n)(hk:k+1<(h.On.g u).n) :∃g,G6 N h (u:Int) (k:Int)=some (g,0)/\OW h g u k:=by
 suffices ∃r,G6 N h (u:Int) (k:Int)=some r/\(r.2=0/\OW h r.1 u k) by obtain⟨⟨g,e⟩,r1,r2,r3⟩:=this;obtain rfl:e=0:=r2;exact⟨g,r1,r3⟩
 have h63:=a.tree.2.1;have z:=a.laws.1;have hon:=a.on;have ho:=(Zh a hu).1;unfold G6;rw[Hg y m,hres_zero.2 a];have eP:wrap .i64 (((h.On.g u).n:Int)-1)=(((h.On.g u).n-1:Nat):Int):=Zb (by omega) (by omega);refine E9 rfl (ifF (by decide) (E9 rfl ?_));rw[Ae5,Ae5,eP];have b:((decide (0<=(u:Int)))&&(decide ((u:Int)<(h.Tree.n:Int))))=true:=by simp;omega
 rw[b];refine ifT (fun _ _=>by omega) (ifF (by simp;omega) ?_);refine E9 (x:=h.Tree) (if_pos (by omega)) ?_;refine DN (fun i (x1:Sl Law) x2=>x2=(i:Int)/\x1.n=i/\∀j,j<i->LE (h.Laws.g j) (x1.g j)) h.Laws.n _ (by omega) ⟨rfl,rfl,fun j f=>absurd f (by omega)⟩ ?_;rintro a0 i x1 x2 hle ⟨rfl,hx,f⟩ hs;by_cases c:i<h.Laws.n
 ·obtain⟨q,q1,q2⟩:=Th y (m.laws i c) (a.laws.2 i c);refine ifT (by simp;omega) (ifT (by omega) ?_);rw[Ae5];refine E9 q1 (ifT (by show (x1.n+1)*200<=_/\x1.n+1<=_;omega) (hs c _ _ ⟨J1 (by omega),by show x1.n+1=_;omega,fun j o=>?_⟩));show LE _ (if j<x1.n then x1.g j else q);by_cases e:j=i
  ·subst e;rw[if_neg (by omega)];exact q2
  ·rw[if_pos (by omega)];exact f j (by omega)
 refine ifF (by simp;omega) ?_;clear hs;refine DN (fun v (x3:Sl (Sl Int)) x4=>x4=(v:Int)/\x3.n=v/\∀j,j<v->x3.g j=h.On.g j) h.On.n _ (by omega) ⟨rfl,rfl,fun j f=>absurd f (by omega)⟩ ?_;rintro s v x3 x4 hv ⟨rfl,hx3,d⟩ t;by_cases l:v<h.On.n
 ·have a1:=m.len v l;refine ifT (by simp;omega) (ifT (by omega) ?_);rw[Ae5];refine E9 (x:=h.On.g v) (if_pos (by omega)) (ifT (by show (x3.n+1)*24<=_/\x3.n+1<=_;omega) (t l _ _ ⟨J1 (by omega),by show x3.n+1=_;omega,fun j o=>?_⟩));show (if j<x3.n then x3.g j else h.On.g v)=_;by_cases e:j=v
  ·subst e;rw[if_neg (by omega)]
  ·rw[if_pos (by omega)];exact d j (by omega)
 have eK:wrap .i64 ((k:Int)+1)=((k+1:Nat):Int):=J1 (by omega);rw[eK,Ae5,d u (by omega)];refine ifF (by simp;omega) (ifT (by omega) (ifT (by omega) ⟨_,rfl,rfl,rfl,⟨by show h.Laws.n=x1.n;omega,fun i hii=>f i (by omega)⟩,by show x3.n=_;omega,fun v hv w=>?_,?_⟩))
 ·show (if v=u then _ else x3.g v)=_;rw[if_neg w];exact d v (by omega)
 ·show (if u=u then _ else x3.g u)=_;rw[if_pos rfl];rfl
theorem Xh {N:Nat}(c:3000000<=N){h:A5}(d:Z0 h)(a:EY N h){u k:Nat}(f:u<h.Tree.n)(hk:¬k+1<(h.On.g u).n)(i:k<5) :G6 N h (u:Int) (k:Int)=some ((⟨(Sl.nil:Sl E2),(Sl.nil:Sl Law),(Sl.nil:Sl (Sl Int))⟩:A5),3):=by
 have j:=a.on;have l:=(Zh a f).1;unfold G6;have eP:wrap .i64 (((h.On.g u).n:Int)-1)=((h.On.g u).n:Int)-1:=H1 (by omega) (by omega);have b:((decide (0<=(u:Int)))&&(decide ((u:Int)<(h.Tree.n:Int))))=true:=by simp;omega
 rw[Hg c d,hres_zero.2 a,Ag0,if_neg (by decide),N6,Ag0,b,Ae5,eP];rw[if_pos (fun _ _=>by omega),if_pos (by simp;omega)]
theorem RM {h g:A5}{u k:Nat}(hc:OW h g u k){v:Nat}(a:v<h.On.n):(g.On.g v).n=(h.On.g v).n:=by
 by_cases e:v=u
 ·subst e;rw[hc.at']
 ·rw[hc.row v a e]
def ctI (s:Sl Int)(c:Int):Nat->Nat
 |0=>0
 |i+1=>ctI s c i+(if s.g i=c then 1 else 0)
theorem Hi (s:Sl Int)(c:Int)(i:Nat):ctI s c (i+1)=ctI s c i+(if s.g i=c then 1 else 0):=rfl
theorem Vj (s:Sl Int)(c:Int):∀i,ctI s c i<=i
 |0=>Af0 _
 |i+1=>by
  have:=Vj s c i
  rw[Hi];split<;>omega
theorem JM {s t:Sl Int}{c:Int}:∀i,(∀j,j<i->s.g j=t.g j)->ctI s c i=ctI t c i
 |0,_=>rfl
 |i+1,h=>by rw[Hi,Hi,JM i (fun j a=>h j (by omega)),h i (by omega)]
theorem Nb (s t:Sl Int)(c:Int):∀m,ctI (s.app t) c (s.n+m)=ctI s c s.n+ctI t c m
 |0=>JM s.n fun j a=>by show (if j<s.n then _ else _)=_;rw[if_pos a]
 |m+1=>by
  rw[<- Am8,Hi,Nb s t c m,Hi]
  have:(s.app t).g (s.n+m)=t.g m:=by show (if s.n+m<s.n then _ else t.g (s.n+m-s.n))=_;rw[if_neg (by omega),Nat.add_sub_cancel_left]
  rw[this,Am8]
theorem RN {s:Sl Int}{k:Nat}(c:Int):∀m,k+2<=m->ctI ((s.upd k (s.g (k+1))).upd (k+1) (s.g k)) c m=ctI s c m
 |0,h=>by omega
 |m+1,h=>by
  by_cases e:m=k+1
  ·subst e;rw[Hi,Hi,Hi,Hi];have e1:ctI ((s.upd k (s.g (k+1))).upd (k+1) (s.g k)) c k=ctI s c k:=JM k fun j a=>by show (if j=k+1 then _ else if j=k then _ else s.g j)=_;rw[if_neg (by omega),if_neg (by omega)]
   have e2:((s.upd k (s.g (k+1))).upd (k+1) (s.g k)).g k=s.g (k+1):=by show (if k=k+1 then _ else if k=k then _ else s.g k)=_;rw[if_neg (by omega),if_pos rfl]
   have e3:((s.upd k (s.g (k+1))).upd (k+1) (s.g k)).g (k+1)=s.g k:=by show (if k+1=k+1 then _ else _)=_;rw[if_pos rfl]
   rw[e1,e2,e3];omega
  ·have e3:((s.upd k (s.g (k+1))).upd (k+1) (s.g k)).g m=s.g m:=by show (if m=k+1 then _ else if m=k then _ else s.g m)=_;rw[if_neg (by omega),if_neg (by omega)]
   rw[Hi,Hi,RN c m (by omega),e3]
theorem RO {h g:A5}{u k:Nat}(hc:OW h g u k)(hk:k+1<(h.On.g u).n)(c:Int){v:Nat}(a:v<h.On.n):ctI (g.On.g v) c (h.On.g v).n=ctI (h.On.g v) c (h.On.g v).n:=by
 by_cases e:v=u
 ·subst e;rw[hc.at',RN c _ (by omega)]
 ·rw[hc.row v a e]
theorem Vk (t:Sl Int)(c:Int):ctI ((Sl.nil:Sl Int).app t) c t.n=ctI t c t.n:=by
 have:=Nb (Sl.nil:Sl Int) t c t.n
 rw[show (Sl.nil:Sl Int).n=0 from rfl,Ai2,show ctI (Sl.nil:Sl Int) c 0=0 from rfl,Ai2]at this;exact this
theorem JN {h g:A5}{u k:Nat}(hc:OW h g u k)(hk:k+1<(h.On.g u).n)(a:h.On.n=h.Tree.n)(ht:AI h.Tree):∀(m v:Nat),v<=m->v<h.On.n->(F9 g v).n=(F9 h v).n/\∀c,ctI (F9 g v) c (F9 h v).n=ctI (F9 h v) c (F9 h v).n
 |m,v,hm,hv=>by
  have b:=RM hc hv;rcases P4 ht (v:=v) (by omega)with⟨_,e⟩ | ⟨p,hp,e⟩
  ·rw[O5 (h:=h) (by omega),O5 (h:=g) (by rw[hc.tree];omega)];refine⟨by show 0+_=0+_;rw[b],fun c=>?_⟩;have e1:=Vk (g.On.g v) c;have e2:=Vk (h.On.g v) c;have e3:=RO hc hk c hv;show ctI _ c (0+(h.On.g v).n)=ctI _ c (0+(h.On.g v).n);rw[b]at e1;rw[Ai2,e1,e2,e3]
  ·rw[Y6 (h:=h) e hp,Y6 (h:=g) (p:=p) (by rw[hc.tree];exact e) hp]
   match m with
   |0=>omega
   |m+1=>obtain⟨i1,i2⟩:=JN hc hk a ht m p (by omega) (by omega);refine⟨by show (F9 g p).n+_=(F9 h p).n+_;rw[i1,b],fun c=>?_⟩;have e1:=Nb (F9 g p) (g.On.g v) c (h.On.g v).n;have e2:=Nb (F9 h p) (h.On.g v) c (h.On.g v).n;have e3:=RO hc hk c hv;have e4:=i2 c;rw[i1]at e1;show ctI _ c ((F9 h p).n+(h.On.g v).n)=ctI _ c ((F9 h p).n+(h.On.g v).n);rw[e1,e2,e3,e4]
theorem Zj {h g:A5}{u k:Nat}(hc:OW h g u k)(hk:k+1<(h.On.g u).n){N:Nat}(l:Z0 h)(c:EY N h)(s:u<h.Tree.n):Z0 g/\EY N g:=by
 have m:=c.on;have f:=hc.laws.1;refine⟨⟨WY hc.laws l.laws,by rw[hc.tree];exact l.tree,by rw[hc.n];exact l.on,fun v d=>?_⟩,⟨by rw[hc.tree];exact c.tree,⟨by rw[<- f];exact c.laws.1,fun i r=>(US (hc.laws.2 i (by omega))).1 (c.laws.2 i (by omega))⟩,?_,by rw[hc.n,hc.tree];exact c.on,?_,fun v d=>?_⟩⟩
 ·rw[hc.n]at d;rw[RM hc d];exact l.len v d
 ·rintro⟨a,b,h1,t,q⟩;rw[(hc.laws.2 a (by omega)).name,(hc.laws.2 b (by omega)).name]at q;exact c.dup ⟨a,b,h1,by omega,q⟩
 ·rintro⟨v,d,hl⟩;rw[hc.n]at d;rw[(JN hc hk m c.tree v v (Af0 _) d).1]at hl;exact c.long ⟨v,d,hl⟩
 ·rw[hc.n]at d;rintro⟨j,o,hb⟩;rw[RM hc d]at o;rw[<- f]at hb;by_cases e:v=u
  ·subst e;rw[hc.at']at hb;replace hb:(if j=k+1 then (h.On.g v).g k else if j=k then (h.On.g v).g (k+1)else (h.On.g v).g j)<0 \/ (h.Laws.n:Int)<=(if j=k+1 then (h.On.g v).g k else if j=k then (h.On.g v).g (k+1)else (h.On.g v).g j):=hb;by_cases e1:j=k+1
   ·rw[if_pos e1]at hb;exact c.bad v d ⟨k,by omega,hb⟩
   ·by_cases e2:j=k
    ·rw[if_neg e1,if_pos e2]at hb;exact c.bad v d ⟨k+1,hk,hb⟩
    ·rw[if_neg e1,if_neg e2]at hb;exact c.bad v d ⟨j,o,hb⟩
  ·rw[hc.row v d e]at hb;exact c.bad v d ⟨j,o,hb⟩
theorem Vl {h g b:A5}{u k:Nat}(h1:OW h g u k)(a:OW g b u k):b.Tree=h.Tree/\LS h.Laws b.Laws/\b.On.n=h.On.n/\∀v,v<h.On.n->SE (b.On.g v) (h.On.g v):=by
 refine⟨a.tree.trans h1.tree,⟨h1.laws.1.trans a.laws.1,fun i d=>?_⟩,a.n.trans h1.n,fun v c=>?_⟩
 ·exact LE.trans (h1.laws.2 i d) (a.laws.2 i (by have:=h1.laws.1;omega))
 ·by_cases e:v=u
  ·subst e;rw[a.at',h1.at'];refine⟨rfl,fun j f=>?_⟩;show (if j=k+1 then (if k=k+1 then (h.On.g v).g k else if k=k then (h.On.g v).g (k+1)else (h.On.g v).g k)else if j=k then (if k+1=k+1 then (h.On.g v).g k else if k+1=k then (h.On.g v).g (k+1)else (h.On.g v).g (k+1))else (if j=k+1 then (h.On.g v).g k else if j=k then (h.On.g v).g (k+1)else (h.On.g v).g j))=(h.On.g v).g j;by_cases e1:j=k+1
   ·rw[if_pos e1,if_neg (by omega),if_pos rfl,e1]
   ·by_cases e2:j=k
    ·rw[if_neg e1,if_pos e2,if_pos rfl,e2]
    ·rw[if_neg e1,if_neg e2,if_neg e1,if_neg e2]
  ·rw[a.row v (by rw[h1.n];exact c) e,h1.row v c e];exact SE.refl _
theorem QB {N:Nat}(r:3000000<=N){h g:A5}(ht:g.Tree=h.Tree)(c:LS g.Laws h.Laws)(hs:GD g.Laws)(hn:g.On.n=h.On.n)(s:∀v,v<h.On.n->SE (g.On.g v) (h.On.g v))(m:Z0 h)(t:h.Tree.n<1100000)(hl:g.Laws.n<1100000):X0 N g h=some true:=by
 have u:=m.on;refine eqR ?_;unfold X0;rw[ht];refine ltX (ifF (by simp) (ifF (by simp[hn]) (E9 (RJ r c hs hl) (ifF (by simp) ?_))));refine Ab (fun i x=>x=(i:Int)) h.Tree.n _ (by omega) rfl ?_;rintro o i x d rfl f;by_cases a:i<h.Tree.n
 ·exact ifT (by simp;omega) (ifT (by omega) (ifF (by simp) (f a _ (J1 (by omega)))))
 ·refine ifF (by simp;omega) ?_;refine Ab (fun i x=>x=(i:Int)) g.On.n _ (by omega) rfl ?_;rintro j i x d rfl l;by_cases a:i<g.On.n
  ·refine ifT (by simp;omega) (ifT (by omega) ?_);have b:=s i (by omega);have q:=m.len i (by omega)
   have:=b.1
   rw[Ae5];exact E9 (Hh (by omega) (by omega) b) (ifF (by simp) (l a _ (J1 (by omega))))
  ·exact ifF (by simp;omega) ⟨_,rfl,rfl⟩
theorem Vm {a b:Sl Law}(h:LS a b)(hs:GD a):GD b:=fun i c=>by
 have hl:=h.2 i (by rw[h.1];exact c);obtain⟨s1,s2,s3,s4⟩:=hs i (by rw[h.1];exact c);rw[Vd _ _ hl.left]at s1;rw[Vd _ _ hl.right]at s2
 have:=hl.cond.1
 have:=hl.out.1
 exact⟨s1,s2,by omega,by omega⟩
end Go.AM
namespace Go.AM
open IntKind (wrap)
open Go.Proofs
theorem Vn {N:Nat}(d:3000000<=N){h:A5}(b:Z0 h)(a:EY N h){v:Nat}(f:v<h.Tree.n):I0 N h (v:Int)=some (F9 h v,0):=by
 have c:=a.on;have g:=a.tree.2.1;obtain⟨s,e,s1,s2,s3⟩:=Xd d b (v:Int);rcases s3 with⟨rfl,_,_,_,rfl⟩ | ⟨s3,rfl⟩
 ·rw[s1,Ae5]
 ·have:=GB b a.tree c N v (by omega) f
  unfold Hd at s2;have hb:¬(!((decide (0<=(v:Int)))&&(decide ((v:Int)<(h.Tree.n:Int)))))=true:=by simp;omega
  rw[OR d b,hres_zero.2 a,Ag0,if_neg (by decide),Hc,Ag0,if_neg hb,this]at s2
  have:=Aj0 s2
  exact absurd (Prod.mk.inj this).2.symm s3
theorem HL {N:Nat}(w:3000000<=N)(hw:W5 N=some true){x:DX}(hx:MZ x)(hsm:GD x.Laws){a b:Nat}(ha:a<256)(hb:b<256):Q5 N x (a:Int) (b:Int)=some true:=by
 refine eqR ?_;unfold Q5;obtain⟨⟨h,c⟩,h1,r,h2⟩:=Xg w hx;refine E9 h1 ?_;dsimp only;cases c
 ·exact ifT rfl (E9 hw ⟨_,rfl,rfl⟩)
 refine ifF (by simp) ?_;replace r:Z0 h:=r;have y:Vi N x h:=h2 rfl;have l:=y.hist;have ht1:=l.tree.1;have h63:=l.tree.2.1;have hl64:=l.laws.1;have hon:=l.on;have hsl:GD h.Laws:=fun i a0=>by obtain⟨e,o⟩:=y.law i a0;rw[e];exact hsm i o
 refine ifT (by omega) ?_;have e1:(wrap .i64 (a:Int)).tmod (h.Tree.n:Int)=((a % h.Tree.n:Nat):Int):=by rw[H1 (by omega) (by omega)];rfl
 have e2:(wrap .i64 (b:Int)).tmod 5=((b % 5:Nat):Int):=by rw[H1 (by omega) (by omega)];rfl
 rw[e1,e2];have hu:=Ar5 a (show 0<h.Tree.n by omega);have hk5:=Ar5 b (show 0<5 by omega);generalize a % h.Tree.n=u at hu;generalize b % 5=k at hk5;rw[Ae5];have ho:=(Zh l hu).1;have eP:wrap .i64 (((h.On.g u).n:Int)-1)=((h.On.g u).n:Int)-1:=H1 (by omega) (by omega);rw[eP];by_cases hk:k+1<(h.On.g u).n
 case neg=>
  have a1:Z0 (⟨(Sl.nil:Sl E2),(Sl.nil:Sl Law),(Sl.nil:Sl (Sl Int))⟩:A5):=
   ⟨fun i r=>absurd r (Ai3 i),fun i r=>absurd r (Ai3 i),by show 0<_;omega,fun i r=>absurd r (Ai3 i)⟩
  have hz:=QA w (h:=⟨(Sl.nil:Sl E2),(Sl.nil:Sl Law),(Sl.nil:Sl (Sl Int))⟩) (g:=⟨(Sl.nil:Sl E2),(Sl.nil:Sl Law),(Sl.nil:Sl (Sl Int))⟩) ⟨rfl,rfl,rfl,fun _ _=>rfl⟩ a1 (fun i r=>absurd r (Ai3 i)) (by show 0<_;omega) (by show 0<_;omega);exact E9 (Xh w r l hu hk hk5) (ifT (by decide) (ltX (ifT (by decide) (ifT (by omega) (ifT (by simp;omega) (E9 hz (ifT rfl (E9 hw ⟨_,rfl,rfl⟩))))))))
 obtain⟨g,g1,hc⟩:=OX w r l hu hk;obtain⟨gi,gok⟩:=Zj hc hk r l hu;have hgn:=RM hc (v:=u) (by omega);obtain⟨q,q1,hq⟩:=OX w gi gok (u:=u) (k:=k) (by rw[hc.tree];exact hu) (by omega);obtain⟨b1,b2,b3,b4⟩:=Vl hc hq;have a2:=QB w (h:=h) (g:=q) b1 ⟨b2.1.symm,fun i a0=>(b2.2 i (by rw[b2.1];exact a0)).symm⟩ (Vm b2 hsl) b3 b4 r (by omega) (by have:=b2.1;omega);refine E9 g1 (ifF (by simp) (E9 q1 ?_));dsimp only;refine ltX (ifF (by simp) (E9 a2 (ifF (by simp) (ifT (by omega) (ifF (by simp;omega) (ifT (by omega) ?_))))));have hll:=hc.laws.1;have hgl:∀v:Nat,v<h.Tree.n->I0 N g (v:Int)=some (F9 g v,0):=fun v hv=>Vn w gi gok (by rw[hc.tree];exact hv);refine DN (fun i (x7:Sl Bool) x8=>x8=(i:Int)/\x7.n=h.Tree.n/\∀v,v<i->x7.g v=false->F9 g v=F9 h v) h.Tree.n _ (by omega) ⟨rfl,by show (h.Tree.n:Int).toNat=_;omega,fun j hj=>absurd hj (by omega)⟩ ?_;rintro self5 i x7 x8 hle ⟨rfl,hn7,h7⟩ hs5;by_cases o:i<h.Tree.n
 case neg=>exact ifF (by simp;omega) (E9 hw ⟨_,rfl,rfl⟩)
 have hpc:=P4 l.tree o;refine ifT (by simp;omega) ?_;rw[Ae5];refine ifT ⟨fun _=>by omega,fun _ hd=>by have hd:=of_decide_eq_true hd;rcases hpc with⟨_,e⟩ | ⟨p,hp,e⟩<;>omega⟩ (ifT (by omega) (E9 (Vn w r l o) (E9 (hgl i o) ?_)));dsimp only;obtain⟨l1,l2⟩:=JN hc hk hon l.tree i i (Af0 _) (by omega);have hln:(F9 h i).n<=64:=Aq1 fun f=>l.long ⟨i,by omega,f⟩;have hin:=Qz l i i (Af0 _) o;have hin':=Qz gok i i (Af0 _) (by rw[hc.tree];exact o);have m:(((i:Int)==(u:Int))||((decide (0<=(h.Tree.g i).Parent))&&(x7.g (h.Tree.g i).Parent.toNat)))=false->F9 g i=F9 h i:=fun s=>by
  rw[Ao4]at s;obtain⟨f1,f2⟩:=s;have hne:i≠u:=by
   have:=(beq_eq_false_iff_ne (a:=(i:Int)) (b:=(u:Int))).1 f1
   omega
  have hr:=hc.row i (by omega) hne;rcases hpc with⟨_,e⟩ | ⟨p,hp,e⟩
  ·rw[O5 (h:=h) (by omega),O5 (h:=g) (by rw[hc.tree];omega),hr]
  ·rw[Y6 (h:=h) e hp,Y6 (h:=g) (p:=p) (by rw[hc.tree];exact e) hp,hr];have hd:decide (0<=(h.Tree.g i).Parent)=true:=by rw[e];simp
   rw[hd,Bool.true_and,e,Ae5]at f2;rw[h7 p hp f2]
 generalize hB:(((i:Int)==(u:Int))||((decide (0<=(h.Tree.g i).Parent))&&(x7.g (h.Tree.g i).Parent.toNat)))=B at m⊢;refine ltV false ?_ fun k5 z=>?_
 case refine_2=>
  refine ifF (by decide) (ifF (by decide) (ifF (by simp[l1]) (ifT ⟨⟨by omega,by show (i:Int)<(x7.n:Int);omega⟩,by show i<x7.n;omega⟩ ?_)));cases B
  ·exact ifT (by show (!(if i=i then false else _))=true;rw[if_pos rfl];rfl) (E9 (Hh (by omega) (by omega) (by rw[m rfl];exact SE.refl _)) z)
  ·exact ifF (by show ¬(!(if i=i then true else x7.g i))=true;rw[if_pos rfl];decide) z
 refine ifF (by decide) (ifT (by omega) ?_);refine DN (fun j (d:Sl Int) x15=>x15=(j:Int)/\d.n=h.Laws.n/\∀c,c<h.Laws.n->d.g c=(ctI (F9 h i) (c:Int) j:Int)-(ctI (F9 g i) (c:Int) j:Int)) (F9 h i).n _ (by omega) ⟨rfl,by show (h.Laws.n:Int).toNat=_;omega,fun j hj=>rfl⟩ ?_;rintro self6 j d x15 hj ⟨rfl,hn14,t⟩ hs6;by_cases hjl:j<(F9 h i).n
 ·obtain⟨o1,o2⟩:=hin j hjl;obtain⟨n1,n2⟩:=hin' j (by omega);have hd1:decide ((F9 h i).g j<0)=false:=by simp;omega
  have hd2:decide ((F9 g i).g j<0)=false:=by simp;omega
  refine ifT (by simp;omega) ?_;rw[Ae5];refine ifT (by omega) ?_;refine ifT (by simp only[decide_eq_false_iff_not];omega) (ifF (by simp;omega) (ifT (by omega) ?_));generalize hO:(F9 h i).g j=O at o1 o2⊢;generalize hM:(F9 g i).g j=M at n1 n2⊢;have b1:=Vj (F9 h i);have b2:=Vj (F9 g i);have eO:=t O.toNat (by omega);have b3:=b1 (O.toNat:Int) j;have b4:=b2 (O.toNat:Int) j;refine ifT (by show (((0<=M/\M<(d.n:Int))/\M.toNat<d.n)/\0<=M/\M<(d.n:Int))/\M.toNat<d.n;omega) ?_;refine hs6 hjl _ _ ⟨J1 (by omega),hn14,fun c hcl=>?_⟩;have eC:=t c hcl;have eM:=t M.toNat (by omega);have b5:=b1 (M.toNat:Int) j;have b6:=b2 (M.toNat:Int) j;have w1:wrap .i64 (d.g O.toNat+1)=d.g O.toNat+1:=H1 (by omega) (by omega);rw[Hi,Hi,hO,hM];show (if c=M.toNat then wrap .i64 ((if M.toNat=O.toNat then wrap .i64 (d.g O.toNat+1)else d.g M.toNat)-1)else if c=O.toNat then wrap .i64 (d.g O.toNat+1)else d.g c)=_;rw[w1];have w2:wrap .i64 ((if M.toNat=O.toNat then d.g O.toNat+1 else d.g M.toNat)-1)=(if M.toNat=O.toNat then d.g O.toNat+1 else d.g M.toNat)-1:=by refine H1 ?_ ?_<;>split<;>omega
  rw[w2];have q1:O=(c:Int)↔c=O.toNat:=by omega
  have q2:M=(c:Int)↔c=M.toNat:=by omega
  by_cases f1:c=M.toNat
  ·subst f1;by_cases f2:M.toNat=O.toNat
   ·rw[if_pos rfl,if_pos f2,if_pos (q1.2 f2),if_pos (q2.2 rfl)];rw[<- f2];omega
   ·rw[if_pos rfl,if_neg f2,if_neg (fun f=>f2 (q1.1 f)),if_pos (q2.2 rfl)];omega
  ·by_cases f2:c=O.toNat
   ·subst f2;rw[if_neg f1,if_pos rfl,if_pos (q1.2 rfl),if_neg (fun f=>f1 (q2.1 f))];omega
   ·rw[if_neg f1,if_neg f2,if_neg (fun f=>f2 (q1.1 f)),if_neg (fun f=>f1 (q2.1 f))];omega
 ·obtain rfl:j=(F9 h i).n:=by omega
  refine ifF (by simp) ?_;refine Ab (fun i x=>x=(i:Int)) d.n _ (by omega) rfl ?_;rintro self7 q x16 hq rfl hs7;by_cases hql:q<d.n
  ·refine ifT (by simp;omega) (ifT (by omega) ?_);rw[Ae5];have e0:=t q (by omega);rw[l2]at e0;exact ifF (by simp;omega) (hs7 hql _ (J1 (by omega)))
  ·refine ifF (by simp;omega) (hs5 o _ _ ⟨J1 (by omega),hn7,fun v hv s=>?_⟩);replace s:(if v=i then B else x7.g v)=false:=s;by_cases e:v=i
   ·subst e;rw[if_pos rfl]at s;exact m s
   ·rw[if_neg e]at s;exact h7 v (by omega) s
end Go.AM
