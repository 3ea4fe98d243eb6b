/- What a law's walk and its plain proof need, part 7: no condition of its own. -/
import Derived.Test.YtodhnkfgkgkngaaGreatDoorGF
import Derived.Test.YtodhnkfgkgkngaaGreatDoorGE
set_option linter.defProp false
set_option linter.unusedSimpArgs false
set_option linter.unusedVariables false
set_option linter.unusedSectionVars false
namespace Go.AM
open IntKind (wrap)
def Ao9:=@List.reverse_append
def At4:=@List.mem_reverse
def Av1:=@Classical.axiomOfChoice
def Av7:=@List.reverse_singleton
def Aw3:=@List.singleton_append
def Aw4:=@List.sum_append
open Go.Proofs
theorem TT {N:Nat}{p:Pat}(hp:okS p.Is):∃e,W3 N p=some e/\(e=0↔KQ p):=by
 obtain⟨a,b,i⟩:=hp;have m:=XH i;have V:K6 N p.Is=some (vB a b):=by rw[i];exact VG a b
 have e0:((p.Is.Plus==0)&&(p.Is.Minus==0))=decide (p.Is.Plus=0/\p.Is.Minus=0):=by rw[Ao0];simp
 have fin:(KQ p↔vS p.Is)->∃e,((K6 N p.Is).bind fun y1=>if (!y1) then some (14:Int)else some 0)=some e/\(e=0↔KQ p):=by
  intro c;rw[V];refine E7 rfl ?_;rw[c,m];cases vB a b
  ·exact ifT rfl ⟨14,rfl,by simp⟩
  ·exact ifF (by simp) ⟨0,rfl,by simp⟩
 have bad:∀{x:Int},x≠0->¬KQ p->∃e,some x=some e/\(e=0↔KQ p):=fun hx h=>⟨_,rfl,fun d=>absurd d hx,fun d=>absurd d h⟩;unfold W3;by_cases hk:p.Kind=0 \/ p.Kind=2 \/ p.Kind=6
 ·refine ifT (by rcases hk with h|h|h<;>simp[h]) (ltX ?_);rw[e0];by_cases g1:p.Is.Plus=0/\p.Is.Minus=0
  case neg=>exact ifT (by simp[g1]) (ifT rfl (bad (by decide) fun h=>g1 (h.2.1 (by omega)).1))
  refine ifF (by simp[g1]) ?_;by_cases g2:p.Not=true
  ·exact ifT g2 (ifT rfl (bad (by decide) fun h=>by have:=(h.2.1 (by omega)).2;rw[g2]at this;cases this))
  refine ifF g2 ?_;by_cases g3:p.Min=0
  case neg=>exact ifT (by simp[g3]) (ifT rfl (bad (by decide) fun h=>g3 (h.2.2.2.1 (by omega)).1))
  refine ifF (by simp[g3]) ?_;by_cases g4:p.Max=0
  case neg=>exact ifT (by simp[g4]) (ifT rfl (bad (by decide) fun h=>g4 (h.2.2.2.1 (by omega)).2))
  refine ifF (by simp[g4]) ?_;by_cases g5:p.L.n=0
  case neg=>exact ifT (by simp;omega) (bad (by decide) fun h=>g5 (h.2.2.1 (by omega) (by omega) (by omega)))
  refine ifF (by simp;omega) (fin ?_);exact⟨fun h=>h.2.2.2.2.2,fun h=>⟨by omega,fun _=>⟨g1,by simpa using g2⟩,fun _ _ _=>g5,fun _=>⟨g3,g4⟩,fun f=>by omega,h⟩⟩
 refine ifF (by simp only[not_or]at hk;simp[hk]) ?_;by_cases k1:p.Kind=1
 ·refine ifT (by simp[k1]) (ltX ?_);refine ifF (by simp) ?_;by_cases g3:p.Min=0
  case neg=>exact ifT (by simp[g3]) (ifT rfl (bad (by decide) fun h=>g3 (h.2.2.2.1 (by omega)).1))
  refine ifF (by simp[g3]) ?_;by_cases g4:p.Max=0
  case neg=>exact ifT (by simp[g4]) (ifT rfl (bad (by decide) fun h=>g4 (h.2.2.2.1 (by omega)).2))
  refine ifF (by simp[g4]) ?_;by_cases g5:p.L.n=0
  case neg=>exact ifT (by simp;omega) (bad (by decide) fun h=>g5 (h.2.2.1 (by omega) (by omega) (by omega)))
  refine ifF (by simp;omega) (fin ?_);exact⟨fun h=>h.2.2.2.2.2,fun h=>⟨by omega,fun h1=>absurd k1 h1,fun _ _ _=>g5,fun _=>⟨g3,g4⟩,fun f=>by omega,h⟩⟩
 refine ifF (by simp[k1]) (ltX ?_);rw[e0];have tail:∀(x y:Int),(KQ p↔(p.Is.Plus=0/\p.Is.Minus=0)/\p.Not=false/\x=0/\y=0/\vS p.Is)->∃e,(if (((((decide (p.Is.Plus=0/\p.Is.Minus=0) != true)||p.Not)||(x != 0))||(y != 0))||(decide (0<0))) then some (2:Int)else
  (K6 N p.Is).bind fun y3=>if (!y3) then some 14 else some 0)=some e/\(e=0↔KQ p):=by
  intro x y c;by_cases g:(p.Is.Plus=0/\p.Is.Minus=0)/\p.Not=false/\x=0/\y=0
  ·obtain⟨g1,g2,g3,g4⟩:=g;exact ifF (by simp[g1,g2,g3,g4]) (fin (c.trans ⟨fun h=>h.2.2.2.2,fun h=>⟨g1,g2,g3,g4,h⟩⟩))
  ·refine ifT ?_ (bad (by decide) fun h=>g ⟨(c.1 h).1,(c.1 h).2.1,(c.1 h).2.2.1,(c.1 h).2.2.2.1⟩);simp only[Ak2,bne_iff_ne,ne_eq,decide_eq_true_eq];by_cases g1:p.Is.Plus=0/\p.Is.Minus=0
   ·by_cases g2:p.Not=true
    ·simp[g2]
    ·by_cases g3:x=0
     ·have:¬y=0:=fun g4=>g ⟨g1,by simpa using g2,g3,g4⟩
      simp[this]
     ·simp[g3]
   ·simp[g1]
 by_cases k34:p.Kind=3 \/ p.Kind=4
 ·refine ifT (by rcases k34 with h|h<;>simp[h]) (tail _ _ ?_);constructor
  ·exact fun h=>⟨(h.2.1 k1).1,(h.2.1 k1).2,(h.2.2.2.1 (by omega)).1,(h.2.2.2.1 (by omega)).2,h.2.2.2.2.2⟩
  ·rintro⟨h1,d,j,l,f⟩;exact⟨by omega,fun _=>⟨h1,d⟩,fun h h'=>by omega,fun _=>⟨j,l⟩,fun h=>by omega,f⟩
 refine ifF (by simp only[not_or]at k34;simp[k34]) ?_;by_cases k5:p.Kind=5
 ·refine ifT (by simp[k5]) ?_;by_cases g:p.L.n=1/\0<=p.Min/\p.Min<=32/\(p.Max = -1 \/ (p.Min<=p.Max/\p.Max<=32))
  ·refine ifF (by simp only[Ak2,Ah9,bne_iff_ne,ne_eq,decide_eq_true_eq];omega) (tail 0 0 ?_);constructor
   ·exact fun h=>⟨(h.2.1 k1).1,(h.2.1 k1).2,rfl,rfl,h.2.2.2.2.2⟩
   ·rintro⟨h1,d,j,l,f⟩;exact⟨by omega,fun _=>⟨h1,d⟩,fun _ _ h=>absurd k5 h,fun h=>absurd k5 h,fun _=>g,f⟩
  ·exact ifT (by simp only[Ak2,Ah9,bne_iff_ne,ne_eq,decide_eq_true_eq];omega) (bad (by decide) fun h=>g (h.2.2.2.2.1 k5))
 ·exact ifF (by simp[k5]) (bad (by decide) fun h=>by have:=h.1;omega)
theorem VL {x:Sl Pat}{m:Nat}(h:x.n=m+1):x.toList.reverse=x.g m::(x.take m).toList.reverse:=by unfold Sl.toList;rw[h,An8,Ao8,Ao9];rfl
theorem XK (z:Sl Pat)(q:Pat):((z.push Pat.nil).upd z.n q).toList.reverse=q::z.toList.reverse:=by
 rw[VL (m:=z.n) rfl];have e1:((z.push Pat.nil).upd z.n q).g z.n=q:=by simp
 have e2:(((z.push Pat.nil).upd z.n q).take z.n).toList=z.toList:=by
  unfold Sl.toList;refine Ak3 fun i a=>?_
  have:i<z.n:=Ao2.1 a
  show (if i=z.n then q else if i<z.n then z.g i else Pat.nil)=z.g i;rw[if_neg (by omega),if_pos this]
 rw[e1,e2]
theorem QZ {N:Nat}(q:Sl Pat)(c:q.n<N)(hs:q.n<1000000):C0 N q=some ((List.range q.n).reverse.map fun (i:Nat)=>((i:Int),q.g i)):=by
 unfold C0;have h:∀(m:Nat),m<=q.n->∀F,m<F->Q8 F (fun (a:Int->Option (List (Int×Pat))) (x1:Int)=>
  if (decide (0<=x1)) then
   if ((0:Int)<=x1/\x1<(q.n:Int))then
    Gn (x1,q.g x1.toNat) (
     a (wrap .i64 (x1-1))
     )
   else none
  else
   some []) ((m:Int)-1)=some ((List.range m).reverse.map fun (i:Nat)=>((i:Int),q.g i)):=by
  intro m
  induction m with
  |zero=>
   intro _ F b
   match F,b with
   |F+1,_=>rfl
  |succ m ih=>
   intro hm F b
   match F,b with
   |F+1,b=>rw[Gi];rw[show ((m+1:Nat):Int)-1=(m:Int) by omega,if_pos (by simp),if_pos (by omega),Z5 (by omega) (by omega),ih (by omega) F (by omega),Ai0,An8,Ao9,Av7,Aw3,Aj7];rfl
 rw[Z5 (by omega) (by omega)];exact h q.n (Ai4 _) N c
theorem ZQ {k:Nat}(hk:k<=40){c:Sl Pat}{l:List Pat}:chk k ((c.take (min 41 c.n)).toList++l)↔chk k (c.toList++l):=by
 by_cases h:c.n<=41
 ·rw[Nat.min_eq_right h]
 ·constructor
  ·intro a
   have:=Nx _ _ a
   rw[Al8,CU]at this
   have:(c.take (min 41 c.n)).n=41:=Aq7 (by omega)
   omega
  ·intro a
   have:=Nx _ _ a
   rw[Al8,CU]at this;omega
theorem Sh {N:Nat}(hN:2000<=N){p:Pat}(hp:okPS p):∃e,S2 N p=some e/\(e=0↔chk 40 [p]):=by
 unfold S2;refine ET (fun i x3 x4=>x4=(i:Int)/\x3.n<=1+41*i/\(∀q∈x3.toList.reverse,okPS q)/\(chk 40 [p]↔chk (40-i) x3.toList.reverse)) 40 _ (by omega)
  ⟨rfl,by show 1<=_;omega,fun q l=>by rw[show (Sl.of [p]:Sl Pat).toList.reverse=[p] from rfl]at l;rw[Ap4.1 l];exact hp,As1⟩ ?_
 rintro x i x3 x4 hi ⟨rfl,h1,c,f⟩ hs;rcases hn:x3.n with _|m
 ·refine ifF (by simp) ⟨0,rfl,fun _=>f.2 ?_,fun _=>rfl⟩
  have:x3.toList.reverse=[]:=by unfold Sl.toList;rw[hn];rfl
  rw[this];exact VH _
 ·rw[VL hn]at f c;refine ifT (decide_eq_true (by omega)) ?_;by_cases r:i=40
  ·subst r;refine ifT (by simp) ⟨12,rfl,fun h=>absurd h (by decide),fun h=>?_⟩
   have:(x3.g m::(x3.take m).toList.reverse)=[]:=f.1 h
   cases this
  refine ifF (by simp;omega) ?_;have hw:IntKind.i64.wrap (((m+1:Nat):Int)-1)=(m:Int):=by rw[Z5 (by omega) (by omega)];omega
  simp only[hw,Ai0];refine ifT (by omega) (ifT (by omega) ?_);obtain⟨e,y,a⟩:=TT (N:=N) (c (x3.g m) (by simp)).is;refine E7 y ?_;rw[show 40-i=(39-i)+1 by omega]at f;by_cases o:e=0
  case neg=>exact ifT (by simp[o]) ⟨e,rfl,fun h=>absurd h o,fun h=>absurd (a.2 (f.1 h).1) o⟩
  refine ifF (by simp[o]) ?_;have hc:(if (41:Int)<((x3.g m).L.n:Int)then (41:Int)else ((x3.g m).L.n:Int))=((min 41 (x3.g m).L.n:Nat):Int):=by split<;>omega
  simp only[hc,Ai0];refine ifT (by omega) (E7 rfl (E7 (QZ _ (by show min 41 _<N;omega) (by show min 41 _<1000000;omega)) ?_));generalize s:(x3.g m).L.take (min 41 (x3.g m).L.n)=C;have a0:C.n<=41:=by rw[<- s];exact Nat.min_le_left _ _
  refine Af9 (fun L z=>∃j,j<=C.n/\L=((List.range j).reverse.map fun (i:Nat)=>((i:Int),C.g i))/\z.n=m+(C.n-j)/\z.toList.reverse=C.toList.drop j++(x3.take m).toList.reverse) ?_ ?_ _ _ ⟨C.n,Ai4 _,rfl,by show m=_;omega,by rw[EH];rfl⟩
  ·rintro z ⟨j,hj,hL,hz,b⟩;have u:j=0:=by
    cases j with
    |zero=>rfl
    |succ j=>simp[An8]at hL
   subst u;rw[Au6]at b;refine hs (by omega) _ _ ⟨K8 (by omega),by omega,fun q l=>?_,?_⟩
   ·rw[b]at l;rcases List.mem_append.1 l with h|h
    ·obtain⟨i',d,rfl⟩:=Aq1.1 h;have d:=Ao2.1 d;rw[<- s]at d⊢;exact (c (x3.g m) (by simp)).L (Aj8 d (Nat.min_le_right _ _))
    ·exact c q (by simp[h])
   ·rw[b,f,show 40-(i+1)=39-i by omega,<- s,ZQ (by omega)];exact⟨fun h=>h.2,fun h=>⟨a.1 o,h⟩⟩
  ·rintro t L z v ⟨j,hj,hL,hz,b⟩ w;cases j with
   |zero=>simp at hL
   |succ j=>rw[An8,Ao9,Av7,Aw3,Aj7]at hL;obtain⟨rfl,rfl⟩:=List.cons.inj hL;have e1:(z.n:Int).toNat=z.n:=Ai0 _;refine ifT ⟨⟨⟨by show (z.n+1)*64<=_;omega,by show z.n+1<=_;omega⟩,by show (0:Int)<=_/\(z.n:Int)<((z.n+1:Nat):Int);omega⟩,by show z.n<z.n+1;omega⟩ ?_;refine w _ ⟨j,by omega,rfl,by show z.n+1=_;omega,?_⟩;rw[XK,b,FM C (i:=j) (by omega),Ak9]
end Go.AM
namespace Go.AM
open IntKind (wrap)
open Go.Proofs
theorem Pn {N:Nat}{w:Sl Sound}(m:w.n<N)(hs:w.n<1000000){f:Sound->Option Bool}{b:Nat->Bool}(o:∀i,i<w.n->f (w.g i)=some (b i)) :∃r,B1 N w f=some r/\(r=true ↔ ∃i,i<w.n/\b i=true):=by
 unfold B1 C9
 have:∃y,Q8 N (fun (a:Int->Option Int) (x1:Int)=>
  if (decide (x1<(w.n:Int))) then
   if ((0:Int)<=x1/\x1<(w.n:Int))then
    (f (w.g x1.toNat)).bind fun y3=>
    if y3 then
     some x1
    else
     a (wrap .i64 (x1+1))
   else none
  else
   some (-1)) 0=some y/\(0<=y ↔ ∃i,i<w.n/\b i=true):=by
  refine AN (fun i x1=>x1=(i:Int)/\∀j,j<i->b j=false) w.n _ m ⟨rfl,fun j c=>absurd c (by omega)⟩ ?_;rintro l i x1 q ⟨rfl,h⟩ d;by_cases hl:i<w.n
  ·refine ifT (by simp;omega) (ifT (by omega) (E7 (by rw[Ai0];exact o i hl) ?_));cases hb:b i
   ·refine ifF (by simp) (d hl _ ⟨K8 (by omega),fun j c=>?_⟩);by_cases e:j=i
    ·subst e;exact hb
    ·exact h j (by omega)
   ·exact ifT rfl ⟨i,rfl,fun _=>⟨i,hl,hb⟩,fun _=>by omega⟩
  ·refine ifF (by simp;omega) ⟨-1,rfl,fun h=>absurd h (by decide),?_⟩;rintro⟨j,c,hb⟩;rw[h j (by omega)]at hb;cases hb
 obtain⟨y,e,hy⟩:=this;exact E7 e ⟨_,rfl,by rw[decide_eq_true_eq];exact hy⟩
end Go.AM
namespace Go.AM
open Go.Proofs
end Go.AM
namespace Go.AM
open Go.Proofs
end Go.AM
namespace Go.AM
open Go.Proofs
def okL (l:Law):Prop:=okPS l.Left/\okPS l.Right/\∀i,i<l.If.n->okS (l.If.g i)
end Go.AM
namespace Go.AM
open Go.Proofs
end Go.AM
namespace Go.AM
open Go.Proofs
def okO (x:Aa):Prop:=okS x.Set/\(∃c:BitVec 32,x.Clear=(c.toNat:Int))/\∃t:BitVec 32,x.Take=(t.toNat:Int)
def outP (l:Law):Prop:=l.Out.n<=6/\∀i,i<l.Out.n->okO (l.Out.g i)/\(l.Out.g i).From<l.If.n/\((l.Out.g i).Take≠0->0<=(l.Out.g i).Of/\(l.Out.g i).Of<l.If.n)
end Go.AM
namespace Go.AM
open Go.Proofs
theorem ne0 (x:BitVec 32):((x.toNat:Int) != 0)=decide (x≠0#32):=by rw[bne,eq0];simp
theorem or0 (x y:BitVec 32):x ||| y=0#32↔x=0#32/\y=0#32:=by
 constructor
 ·intro h;have h:=(z32 _).1 h;exact⟨(z32 _).2 fun i a=>by have:=h i a;rw[Ap9,At8]at this;exact this.1,(z32 _).2 fun i a=>by have:=h i a;rw[Ap9,At8]at this;exact this.2⟩
 ·rintro⟨rfl,rfl⟩;rfl
theorem Ag0 (x y z:BitVec 32):x &&& (y ||| z)=(x &&& y) ||| (x &&& z):=by apply Aq4;intro i a;simp only[As6,Ap9];cases x.getLsbD i<;>simp
theorem Ag1 (x y z:BitVec 32):(x ||| y) &&& z=(x &&& z) ||| (y &&& z):=by apply Aq4;intro i a;simp only[As6,Ap9];cases z.getLsbD i<;>simp
theorem Si {N:Nat}(j:1000<=N){x:Aa}(hx:okO x)(k:Int):∃b,P4 N x k=some b/\CP N x k=some b:=by
 obtain⟨⟨a,b,d⟩,⟨c,hc⟩,t,ht⟩:=hx;have f:(16777215:Int)=((16777215#32).toNat:Int):=rfl;unfold P4 CP;simp only[lt,d,hc,ht,JX,LY a b j,Ai6];rw[f];simp only[IU,Vi,Te,ne0];by_cases h1:x.From < -1
 ·simp[h1]
 by_cases g:k<=x.From
 ·simp[h1,g]
 by_cases i:vB a b=true
 case neg=>simp[h1,g,i]
 simp only[h1,g,i,decide_false,Ai5,if_false,As4];rw[Ag1,Ag0 t];generalize ~~~16777215#32=M;by_cases g1:c &&& M=0#32
 case neg=>simp[g1,or0]
 by_cases g2:t &&& M=0#32
 case neg=>simp[g1,g2,or0]
 by_cases g3:c &&& (a ||| b)=0#32
 case neg=>simp[g1,g2,g3,or0]
 by_cases g4:t &&& (a ||| b)=0#32
 case neg=>simp[g1,g2,g3,g4,or0]
 by_cases g5:t &&& c=0#32
 case neg=>simp[g1,g2,g3,g4,g5,or0]
 simp[g1,g2,g3,g4,g5,or0];by_cases g6:t.toNat=0
 ·simp only[g6,if_true];cases x.Of==0<;>simp
 ·simp only[g6,if_false];cases (decide (0<=x.Of)&&decide (x.Of<k))<;>simp
end Go.AM
namespace Go.AM
open Go.Proofs
abbrev nameC:Str:=[97,98,99,100,101,102,103,104,105,106,107,108,109,110,111,112,113,114,115,116,117,118,119,120,121,122,65,66,67,68,69,70,71,72,73,74,75,76,77,78,79,80,81,82,83,84,85,86,87,88,89,90,48,49,50,51,52,53,54,55,56,57,45]
theorem VM {p:UInt8->Bool}:∀{l:Str},l.dropWhile p=[] ↔ ∀x∈l,p x=true
 |[]=>by simp
 |a::l=>by
  rw[List.dropWhile_cons];by_cases h:p a=true
  ·rw[if_pos h,VM];simp[h]
  ·rw[if_neg h];simp[h]
theorem XL (l cs:Str):Lib.trimS l cs=[] ↔ ∀b∈l,cs.contains b=true:=by
 unfold Lib.trimS Lib.trimLeftS Lib.trimRightS;rw[VM];constructor
 ·intro h;have h:∀x∈l.reverse.dropWhile (cs.contains ·),cs.contains x=true:=fun x hx=>h x (At4.2 hx);have a:l.reverse.dropWhile (cs.contains ·)=[]:=by
   rcases e:l.reverse.dropWhile (cs.contains ·)with _|⟨y,r⟩
   ·rfl
   ·have c:=h y (by rw[e];simp);have d:¬cs.contains y=true:=by
     have:=List.head_dropWhile_not (cs.contains ·) (l:=l.reverse) (by rw[e];simp)
     simp only[e,List.head_cons]at this;rw[this];exact Bool.false_ne_true
    exact absurd c d
  rw[VM]at a;exact fun b hb=>a b (At4.2 hb)
 ·intro h x hx;have hx:=At4.1 hx;exact h x (At4.1 ((List.dropWhile_sublist _).mem hx))
abbrev Ny (y:Int):Bool:=((((decide (97<=y))&&(decide (y<=122)))||((decide (65<=y))&&(decide (y<=90))))||((decide (48<=y))&&(decide (y<=57))))||(y==45)
theorem VN:∀k:Fin 256,nameC.contains (UInt8.ofNat k.val)=Ny ((k.val:Nat):Int):=by decide +kernel
theorem VO (b:UInt8):nameC.contains b=Ny ((b.toNat:Nat):Int):=by
 have:=VN ⟨b.toNat,b.toNat_lt⟩
 rw[show UInt8.ofNat b.toNat=b by simp]at this;exact this
theorem Po {N:Nat}{s:Str}(n:s.length<N)(hs:s.length<1000000000):∃b,Al N s=some b/\Aj N s=some b:=by
 have o:∃b,Aj N s=some b/\(b=true↔(∀c∈s,nameC.contains c=true)/\1<=s.length/\s.length<=24):=by
  unfold Aj;refine AN (fun i x1=>x1=(i:Int)/\∀j (h:j<s.length),j<i->nameC.contains s[j]=true) s.length _ n ⟨rfl,fun j _ a=>absurd a (by omega)⟩ ?_;rintro l i x1 v ⟨rfl,h⟩ f;by_cases hl:i<s.length
  ·refine ifT (by simp;omega) (ifT (by omega) ?_);have eb:U4 s (i:Int)=((s[i].toNat:Nat):Int):=by simp[U4,hl]
   by_cases hb:nameC.contains s[i]=true
   ·refine ifF (by rw[eb];show ¬(!(Ny ((s[i].toNat:Nat):Int)))=true;rw[<- VO,hb];simp) (f hl _ ⟨K8 (by omega),fun j a q=>?_⟩);by_cases e:j=i
    ·subst e;exact hb
    ·exact h j a (by omega)
   ·refine ifT ?_ ⟨false,rfl,by simp,fun t=>absurd (t.1 s[i] (Av2 hl)) hb⟩;rw[eb];show (!(Ny ((s[i].toNat:Nat):Int)))=true;rw[<- VO];simpa using hb
  ·refine ifF (by simp;omega) ⟨_,rfl,?_⟩;simp only[Ah9,decide_eq_true_eq];constructor
   ·rintro⟨g1,g2⟩;refine⟨fun c hc=>?_,by omega,by omega⟩;obtain⟨j,a,rfl⟩:=Au0 hc;exact h j a (by omega)
   ·rintro⟨_,g1,g2⟩;exact⟨by omega,by omega⟩
 obtain⟨b,e,hb⟩:=o;refine⟨b,?_,e⟩
 suffices h:∃r,Al N s=some r/\(r=true↔(∀c∈s,nameC.contains c=true)/\1<=s.length/\s.length<=24) by obtain⟨r,u,g⟩:=h;rw[u,show r=b by rw[Ao0,g,hb]]
 unfold Al;refine ltX ?_;by_cases d:s=[]
 ·exact ifF (by simp[d]) ⟨false,rfl,by simp[d]⟩
 refine ifT (by simp[d]) ?_;have m:0<s.length:=List.length_pos_iff.2 d;by_cases h1:s.length<=24
 ·refine ifT (by simp;omega) (E7 (x:=Lib.trimS s nameC) ?_ ⟨_,rfl,?_⟩)
  ·unfold Cf;rw[if_pos ⟨by omega,by decide,by decide⟩]
  ·rw[<- XL];constructor
   ·intro h;exact⟨by simpa using h,by omega,h1⟩
   ·rintro⟨h,_⟩;simp[h]
 ·exact ifF (by simp;omega) ⟨false,rfl,by simp;intro _ _;omega⟩
end Go.AM
namespace Go.AM
open IntKind (wrap)
open Go.Proofs
theorem Pp {N:Nat}{s:Sl Aa}(m:s.n<N)(hs:s.n<1000000){f:Aa->Option Bool}{b:Nat->Bool}(o:∀i,i<s.n->f (s.g i)=some (b i)) :∃r,B8 N s f=some r/\(r=true ↔ ∃i,i<s.n/\b i=true):=by
 unfold B8 D5
 have:∃y,Q8 N (fun (a:Int->Option Int) (x1:Int)=>
  if (decide (x1<(s.n:Int))) then
   if ((0:Int)<=x1/\x1<(s.n:Int))then
    (f (s.g x1.toNat)).bind fun y3=>
    if y3 then
     some x1
    else
     a (wrap .i64 (x1+1))
   else none
  else
   some (-1)) 0=some y/\(0<=y ↔ ∃i,i<s.n/\b i=true):=by
  refine AN (fun i x1=>x1=(i:Int)/\∀j,j<i->b j=false) s.n _ m ⟨rfl,fun j c=>absurd c (by omega)⟩ ?_;rintro l i x1 q ⟨rfl,h⟩ d;by_cases hl:i<s.n
  ·refine ifT (by simp;omega) (ifT (by omega) (E7 (by rw[Ai0];exact o i hl) ?_));cases hb:b i
   ·refine ifF (by simp) (d hl _ ⟨K8 (by omega),fun j c=>?_⟩);by_cases e:j=i
    ·subst e;exact hb
    ·exact h j (by omega)
   ·exact ifT rfl ⟨i,rfl,fun _=>⟨i,hl,hb⟩,fun _=>by omega⟩
  ·refine ifF (by simp;omega) ⟨-1,rfl,fun h=>absurd h (by decide),?_⟩;rintro⟨j,c,hb⟩;rw[h j (by omega)]at hb;cases hb
 obtain⟨y,e,hy⟩:=this;exact E7 e ⟨_,rfl,by rw[decide_eq_true_eq];exact hy⟩
def Ra (l:Law):Prop:=okL l/\l.Name.length<1100000/\l.If.n<1100000/\l.Out.n<1100000/\∀i,i<l.Out.n->okO (l.Out.g i)
theorem TU {N:Nat}{s:Sound}(hs:okS s):∃b,E9 N s=some b/\(b=true↔vS s):=by obtain⟨p,m,e⟩:=hs;exact⟨vB p m,by rw[e];exact JX p m,(XH e).symm⟩
theorem TV {N:Nat}(a:1000<=N){s:Sound}(hs:okS s):∃b,R6 N s=some b/\(b=true↔vS s):=by obtain⟨p,m,e⟩:=hs;exact⟨vB p m,by rw[e];exact LY p m a,(XH e).symm⟩
theorem XM {N:Nat}{x:Aa}(hx:okO x){k:Int}(h:P4 N x k=some true):x.From<k/\(x.Take≠0->0<=x.Of/\x.Of<k):=by
 obtain⟨⟨a,b,c⟩,_,_⟩:=hx;unfold P4 at h;simp only[lt,c,JX,Ai6]at h;by_cases h1:x.From < -1
 ·simp[h1]at h
 by_cases d:k<=x.From
 ·simp[h1,d]at h
 refine⟨by omega,fun ht=>?_⟩;simp only[h1,d,decide_false,Ai5,if_false]at h;by_cases f:(!vB a b)=true
 ·rw[if_pos f]at h;cases h
 rw[if_neg f]at h;split at h
 ·cases h
 ·rw[if_neg (by simp[ht])]at h;simpa using h
def chkAll (N:Nat)(l:Law):Prop:=Aj N l.Name=some true/\chk 40 [l.Left]/\chk 40 [l.Right]/\l.If.n<=4/\l.Out.n<=6/\l.If.n+l.Out.n≠0/\1<=l.Mode/\l.Mode<=3/\(∀i,i<l.If.n->vS (l.If.g i))/\∀i,i<l.Out.n->P4 N (l.Out.g i) l.If.n=some true
def Ag2 (N:Nat)(l:Law)(e:Int):Prop:=(e=0/\chkAll N l) \/ (e=17/\¬chkAll N l)
def lawF (l:Law):Prop:=okL l/\chk 40 [l.Left]/\chk 40 [l.Right]/\l.If.n<=4/\outP l/\l.If.n+l.Out.n≠0/\1<=l.Mode/\l.Mode<=3
theorem chkAll.f {N:Nat}{l:Law}(hl:Ra l)(h:chkAll N l):lawF l:=by obtain⟨_,h1,b,c,d,g,j,m,o,n⟩:=h;exact⟨hl.1,h1,b,c,⟨d,fun i a=>⟨hl.2.2.2.2 i a,XM (hl.2.2.2.2 i a) (n i a)⟩⟩,g,j,m⟩
theorem TW {N:Nat}(hN:3000000<=N){l:Law}(hl:Ra l):∃e,S4 N l=some e/\Ag2 N l e:=by
 have u:=hl.2.1;have v:=hl.2.2.1;have x:=hl.2.2.2.1;unfold S4;obtain⟨b0,e0,e0'⟩:=Po (N:=N) (s:=l.Name) (by omega) (by omega);refine E7 e0 ?_;cases b0
 ·exact ifT rfl ⟨17,rfl,.inr ⟨rfl,fun h=>by have:=h.1;rw[e0']at this;cases this⟩⟩
 refine ifF (by simp) ?_;obtain⟨y2,e2,o⟩:=Sh (N:=N) (by omega) hl.1.1;refine E7 e2 ?_;by_cases c2:y2=0
 case neg=>exact ifT (by simpa using c2) ⟨17,rfl,.inr ⟨rfl,fun h=>c2 (o.2 h.2.1)⟩⟩
 refine ifF (by simp[c2]) ?_;obtain⟨y3,e3,q⟩:=Sh (N:=N) (by omega) hl.1.2.1;refine E7 e3 ?_;by_cases c3:y3=0
 case neg=>exact ifT (by simpa using c3) ⟨17,rfl,.inr ⟨rfl,fun h=>c3 (q.2 h.2.2.1)⟩⟩
 refine ifF (by simp[c3]) ?_;by_cases c4:4<l.If.n
 ·exact ifT (by simp;omega) ⟨17,rfl,.inr ⟨rfl,fun h=>by have:=h.2.2.2.1;omega⟩⟩
 refine ifF (by simp;omega) ?_;by_cases c5:6<l.Out.n
 ·exact ifT (by simp;omega) ⟨17,rfl,.inr ⟨rfl,fun h=>by have:=h.2.2.2.2.1;omega⟩⟩
 refine ifF (by simp;omega) ?_;rw[Af5 (by omega)];by_cases c6:l.If.n+l.Out.n=0
 ·exact ifT (by rw[c6];rfl) ⟨17,rfl,.inr ⟨rfl,fun h=>h.2.2.2.2.2.1 c6⟩⟩
 refine ifF (by simp;omega) ?_;by_cases c7:l.Mode<1 \/ 3<l.Mode
 ·exact ifT (by simp;omega) ⟨17,rfl,.inr ⟨rfl,fun h=>by have g1:=h.2.2.2.2.2.2.1;have g2:=h.2.2.2.2.2.2.2.1;omega⟩⟩
 refine ifF (by simp;omega) ?_;have y:∀i,∃b,i<l.If.n->U0 N (l.If.g i)=some b/\(b=true ↔ ¬vS (l.If.g i)):=by
  intro i;by_cases a:i<l.If.n
  ·obtain⟨b,eb,hb⟩:=TU (N:=N) (hl.1.2.2 i a);refine⟨!b,fun _=>⟨by unfold U0;rw[eb];rfl,?_⟩⟩;rw[<- hb];simp
  ·exact⟨false,fun h=>absurd h a⟩
 obtain⟨f,j⟩:=Av1 y;obtain⟨y4,e4,r⟩:=Pn (N:=N) (w:=l.If) (by omega) (by omega) (f:=fun u1=>U0 N u1) (fun i a=>(j i a).1);refine E7 e4 ?_;cases c:y4
 case true=>obtain⟨i,a,hb⟩:=r.1 c;exact ifT rfl ⟨17,rfl,.inr ⟨rfl,fun h=>(j i a).2.1 hb (h.2.2.2.2.2.2.2.2.1 i a)⟩⟩
 refine ifF (by simp) ?_;have z:∀i,∃b,i<l.Out.n->T9 N (l.Out.g i) (l.If.n:Int)=some b/\(b=true ↔ ¬P4 N (l.Out.g i) l.If.n=some true):=by
  intro i;by_cases a:i<l.Out.n
  ·obtain⟨b,eb,_⟩:=Si (N:=N) (by omega) (hl.2.2.2.2 i a) (l.If.n:Int);refine⟨!b,fun _=>⟨by unfold T9;rw[eb];rfl,?_⟩⟩;rw[eb];simp
  ·exact⟨false,fun h=>absurd h a⟩
 obtain⟨g,m⟩:=Av1 z;obtain⟨y5,e5,t⟩:=Pp (N:=N) (s:=l.Out) (by omega) (by omega) (f:=fun u2=>T9 N u2 (l.If.n:Int)) (fun i a=>(m i a).1);refine E7 e5 ?_;cases d:y5
 case true=>obtain⟨i,a,hb⟩:=t.1 d;exact ifT rfl ⟨17,rfl,.inr ⟨rfl,fun h=>(m i a).2.1 hb (h.2.2.2.2.2.2.2.2.2 i a)⟩⟩
 refine ifF (by simp) ⟨0,rfl,.inl ⟨rfl,e0',o.1 c2,q.1 c3,by omega,by omega,c6,by omega,by omega,fun i a=>?_,fun i a=>?_⟩⟩
 ·refine Am2 fun hn=>?_
  have:=r.2 ⟨i,a,(j i a).2.2 hn⟩
  rw[c]at this;cases this
 ·refine Am2 fun hn=>?_
  have:=t.2 ⟨i,a,(m i a).2.2 hn⟩
  rw[d]at this;cases this
theorem TX {N:Nat}(y:3000000<=N){l:Law}(hl:Ra l):∃e,Ak N l=some e/\Ag2 N l e:=by
 have u:=hl.2.1;have v:=hl.2.2.1;have w:=hl.2.2.2.1;unfold Ak;obtain⟨b0,e0,e0'⟩:=Po (N:=N) (s:=l.Name) (by omega) (by omega);refine E7 e0' (ltX ?_);cases b0
 ·exact ifT rfl (ifT rfl ⟨17,rfl,.inr ⟨rfl,fun h=>by have:=h.1;rw[e0']at this;cases this⟩⟩)
 refine ifF (by simp) ?_;obtain⟨y2,e2,q⟩:=Pm (N:=N) (by omega) hl.1.1;refine E7 e2 ?_;by_cases c2:y2=0
 case neg=>exact ifT (by simpa using c2) (ifT rfl ⟨17,rfl,.inr ⟨rfl,fun h=>c2 (q.2 h.2.1)⟩⟩)
 refine ifF (by simp[c2]) ?_;obtain⟨y3,e3,r⟩:=Pm (N:=N) (by omega) hl.1.2.1;refine E7 e3 ?_;by_cases c3:y3=0
 case neg=>exact ifT (by simpa using c3) ⟨17,rfl,.inr ⟨rfl,fun h=>c3 (r.2 h.2.2.1)⟩⟩
 refine ifF (by simp[c3]) ?_;rw[Af5 (by omega)];by_cases a:l.If.n<=4/\l.Out.n<=6/\l.If.n+l.Out.n≠0/\1<=l.Mode/\l.Mode<=3
 case neg=>refine ifT ?_ ⟨17,rfl,.inr ⟨rfl,fun h=>a ⟨h.2.2.2.1,h.2.2.2.2.1,h.2.2.2.2.2.1,h.2.2.2.2.2.2.1,h.2.2.2.2.2.2.2.1⟩⟩⟩;simp only[Ak2,decide_eq_true_eq,beq_iff_eq];omega
 refine ifF (by simp only[Ak2,decide_eq_true_eq,beq_iff_eq];omega) ?_;obtain⟨c4,c5,c6,c7,c8⟩:=a;refine AN (fun i x1=>x1=(i:Int)/\∀j,j<i->vS (l.If.g j)) l.If.n _ (by omega) ⟨rfl,fun j c=>absurd c (by omega)⟩ ?_;rintro t i x1 z ⟨rfl,h⟩ hs;by_cases d:i<l.If.n
 ·obtain⟨b,eb,hb⟩:=TV (N:=N) (by omega) (hl.1.2.2 i d);refine ifT (by simp;omega) (ifT (by omega) (E7 (by rw[Ai0];exact eb) ?_));cases b
  ·exact ifT rfl ⟨17,rfl,.inr ⟨rfl,fun h=>by have:=hb.2 (h.2.2.2.2.2.2.2.2.1 i d);cases this⟩⟩
  ·refine ifF (by simp) (hs d _ ⟨K8 (by omega),fun j c=>?_⟩);by_cases e:j=i
   ·subst e;exact hb.1 rfl
   ·exact h j (by omega)
 refine ifF (by simp;omega) ?_;have x:∀j,j<l.If.n->vS (l.If.g j):=fun j c=>h j (by omega);refine AN (fun i x1=>x1=(i:Int)/\∀j,j<i->P4 N (l.Out.g j) l.If.n=some true) l.Out.n _ (by omega) ⟨rfl,fun j c=>absurd c (by omega)⟩ ?_;rintro m k x2 hk ⟨rfl,h'⟩ o;by_cases f:k<l.Out.n
 ·obtain⟨b,eb,eb'⟩:=Si (N:=N) (by omega) (hl.2.2.2.2 k f) (l.If.n:Int);refine ifT (by simp;omega) (ifT (by omega) (E7 (by rw[Ai0];exact eb') ?_));cases b
  ·exact ifT rfl ⟨17,rfl,.inr ⟨rfl,fun h=>by have:=h.2.2.2.2.2.2.2.2.2 k f;rw[eb]at this;cases this⟩⟩
  ·refine ifF (by simp) (o f _ ⟨K8 (by omega),fun j c=>?_⟩);by_cases e:j=k
   ·subst e;exact eb
   ·exact h' j (by omega)
 ·exact ifF (by simp;omega) ⟨0,rfl,.inl ⟨rfl,e0',q.1 c2,r.1 c3,c4,c5,c6,c7,c8,x,fun j c=>h' j (by omega)⟩⟩
theorem VP {N:Nat}{l:Law}{e e' : Int}(h:Ag2 N l e)(h' : Ag2 N l e'):e=e':=by
 rcases h with⟨rfl,h⟩ | ⟨rfl,h⟩<;>rcases h' with⟨rfl,h'⟩ | ⟨rfl,h'⟩
 ·rfl
 ·exact absurd h h'
 ·exact absurd h' h
 ·rfl
theorem Pq {N:Nat}(a:3000000<=N){l:Law}(hl:Ra l):∃e,S4 N l=some e/\Ak N l=some e/\Ag2 N l e:=by obtain⟨e,h,c⟩:=TW a hl;obtain⟨e',h',c'⟩:=TX a hl;obtain rfl:=VP c c';exact⟨_,h,h',c⟩
end Go.AM
namespace Go.AM
open Go.Proofs
def PE:Pat->Pat->Prop
 |.nil,q=>q.Kind=0/\q.Is=default/\q.Not=false/\q.Min=0/\q.Max=0/\q.L.n=0
 |.mk k is no mn mx n g,q=>q.Kind=k/\q.Is=is/\q.Not=no/\q.Min=mn/\q.Max=mx/\q.L.n=n/\∀i,i<n->PE (g i) (q.L.g i)
theorem PE_of {p q:Pat}:PE p q↔q.Kind=p.Kind/\q.Is=p.Is/\q.Not=p.Not/\q.Min=p.Min/\q.Max=p.Max/\q.L.n=p.L.n/\∀i,i<p.L.n->PE (p.L.g i) (q.L.g i):=by
 cases p with
 |nil=>exact⟨fun h=>⟨h.1,h.2.1,h.2.2.1,h.2.2.2.1,h.2.2.2.2.1,h.2.2.2.2.2,fun i a=>absurd a (An9 i)⟩,fun h=>⟨h.1,h.2.1,h.2.2.1,h.2.2.2.1,h.2.2.2.2.1,h.2.2.2.2.2.1⟩⟩
 |mk k is no mn mx n g=>exact As1
theorem Rb:∀p:Pat,PE p p
 |.nil=>⟨rfl,rfl,rfl,rfl,rfl,rfl⟩
 |.mk k is no mn mx n g=>⟨rfl,rfl,rfl,rfl,rfl,rfl,fun i _=>Rb (g i)⟩
theorem Rc:∀{p q:Pat},PE p q->PE q p
 |.nil,q,h=>PE_of.2 ⟨h.1.symm,h.2.1.symm,h.2.2.1.symm,h.2.2.2.1.symm,h.2.2.2.2.1.symm,h.2.2.2.2.2.symm,fun i a=>absurd a (by rw[h.2.2.2.2.2];exact An9 i)⟩
 |.mk k is no mn mx n g,q,h=>PE_of.2 ⟨h.1.symm,h.2.1.symm,h.2.2.1.symm,h.2.2.2.1.symm,h.2.2.2.2.1.symm,h.2.2.2.2.2.1.symm,fun i a=>Rc (h.2.2.2.2.2.2 i (by rw[<- h.2.2.2.2.2.1];exact a))⟩
end Go.AM
namespace Go.AM
open Go.Proofs
def SE {α : Type}(s t:Sl α):Prop:=s.n=t.n/\∀i,i<s.n->s.g i=t.g i
theorem SE.refl {α : Type}(s:Sl α):SE s s:=⟨rfl,fun _ _=>rfl⟩
theorem SE.symm {α : Type}{s t:Sl α}(h:SE s t):SE t s:=⟨h.1.symm,fun i a=>(h.2 i (by rw[h.1];exact a)).symm⟩
structure LE (l l' : Law):Prop where
 name:l'.Name=l.Name
 left:PE l.Left l'.Left
 right:PE l.Right l'.Right
 cond:SE l.If l'.If
 out:SE l.Out l'.Out
 mode:l'.Mode=l.Mode
theorem LE.refl (l:Law):LE l l:=⟨rfl,Rb _,Rb _,SE.refl _,SE.refl _,rfl⟩
theorem LE.symm {l l' : Law}(h:LE l l'):LE l' l:=⟨h.name.symm,Rc h.left,Rc h.right,h.cond.symm,h.out.symm,h.mode.symm⟩
end Go.AM
namespace Go.AM
open Go.Proofs
end Go.AM
namespace Go.AM
open Go.Proofs
def LS (s t:Sl Law):Prop:=s.n=t.n/\∀i,i<s.n->LE (s.g i) (t.g i)
theorem LS.refl (s:Sl Law):LS s s:=⟨rfl,fun _ _=>LE.refl _⟩
def Yx (laws:Sl Law):Prop:=∀i,i<laws.n->Ra (laws.g i)
def Sj (N:Nat)(laws:Sl Law):Prop:=laws.n<=64/\∀i,i<laws.n->chkAll N (laws.g i)
end Go.AM
namespace Go.AM
open Go.Proofs
theorem VQ {α : Type}(s:Sl α)(a : α):(s.push a).toList=s.toList++[a]:=by
 show (List.range (s.n+1)).map (fun i=>if i<s.n then s.g i else a)=_;rw[An8,Ao8];congr 1
 ·exact Ak3 fun i b=>if_pos (Ao2.1 b)
 ·simp
end Go.AM
namespace Go.AM
open Go.Proofs
def dep:Nat->Pat->Prop
 |0,_=>False
 |d+1,p=>p.L.n<=40/\∀i,i<p.L.n->dep d (p.L.g i)
theorem Yy:∀(d:Nat) (p:Pat),dep d p->∀e,d<=e->dep e p
 |0,_,h,_,_=>h.elim
 |d+1,p,h,0,he=>by omega
 |d+1,p,h,e+1,he=>⟨h.1,fun i a=>Yy d _ (h.2 i a) e (by omega)⟩
theorem Pr {N:Nat}(o:1000<=N):∀(d:Nat),d<=40->∀(p:Pat) (M:Nat),N+d+2<=M->∃r:Nat,X4 M p ((40-d:Nat):Int)=some (r:Int)/\40-d<r/\r<=41/\(r<=40->dep (d+1) p)
 |d,hd,p,0,hM=>by omega
 |d,hd,p,M+1,hM=>by
  have:∃x,X4 (M+1) p ((40-d:Nat):Int)=some x/\∃r:Nat,x=(r:Int)/\40-d<r/\r<=41/\(r<=40->dep (d+1) p):=by
   show ∃x,Z1 (X4 M) M p _=some x/\_;unfold Z1;rw[K8 (by omega)];refine ET (fun i x1 x2=>x2=(i:Int)/\∃k:Nat,x1=(k:Int)/\40-d+1+i<=k/\k<=41/\i<=p.L.n/\(k<=40->∀j,j<i->dep d (p.L.g j))) 41 _ (by omega) ⟨rfl,40-d+1,rfl,by omega,by omega,by omega,fun _ j b=>absurd b (by omega)⟩ ?_;rintro f i x1 x2 q ⟨rfl,k,rfl,h1,c,s,l⟩ hs;by_cases hc:i<p.L.n/\k<=40
   ·refine ifT (by simp only[Ah9,decide_eq_true_eq];omega) (ifT (by omega) ?_);obtain⟨r,m,r1,r2,r3⟩:=Pr o (40-k) (by omega) (p.L.g i) M (by omega);rw[show ((40-(40-k):Nat):Int)=(k:Int) by omega]at m;refine E7 (by rw[Ai0];exact m) (hs (by omega) _ _ ⟨K8 (by omega),r,rfl,by omega,r2,by omega,fun a j b=>?_⟩);by_cases e:j=i
    ·subst e;exact Yy _ _ (r3 a) d (by omega)
    ·exact l hc.2 j (by omega)
   ·refine ifF (by simp only[Ah9,decide_eq_true_eq];omega) ⟨_,rfl,k,rfl,by omega,c,fun hk=>⟨by omega,fun j b=>l hk j (by omega)⟩⟩
  obtain⟨x,h1,r,rfl,c⟩:=this;exact⟨r,h1,c⟩
theorem JY:∀(d:Nat) (p:Pat),dep d p->∀M,100+d<=M->∃r,T7 M p=some r
 |0,p,h,M,_=>h.elim
 |d+1,p,h,0,hM=>by omega
 |d+1,p,h,M+1,hM=>by
  suffices ∃r,T7 (M+1) p=some r/\True by obtain⟨r,h,_⟩:=this;exact⟨r,h⟩
  show ∃x,R9 (T7 M) M p=some x/\_;unfold R9;have hn:=h.1;refine ET (fun i x1 x2=>x2=(i:Int)) p.L.n _ (by omega) rfl ?_;rintro a i x1 x2 c rfl hs;by_cases hl:i<p.L.n
  ·obtain⟨r,b⟩:=JY d (p.L.g i) (h.2 i hl) M (by omega);exact ifT (by simp;omega) (ifT (by omega) (E7 (by rw[Ai0];exact b) (hs hl _ _ (K8 (by omega)))))
  ·exact ifF (by simp;omega) ⟨_,rfl,trivial⟩
theorem Nz {N:Nat}(b:2000<=N)(p:Pat):∃r:Nat,Ah N p=some (r:Int)/\(r<=40->dep 41 p):=by obtain⟨r,h1,_,_,a⟩:=Pr (N:=1000) (by omega) 40 (by omega) p N (by omega);exact⟨r,by unfold Ah;rw[show X4 N p 0=some (r:Int) from h1];rfl,a⟩
theorem XN {N:Nat}(f:2000<=N)(laws:Sl Law):∃r,Bg N laws=some r:=by
 suffices ∃r,Bg N laws=some r/\True by obtain⟨r,h,_⟩:=this;exact⟨r,h⟩
 unfold Bg;refine ET (fun i x1 x2=>x2=(i:Int)) 301 _ (by omega) rfl ?_;rintro d i x1 x2 s rfl hs;by_cases hc:i<laws.n/\i<=300
 ·refine ifT (by simp only[Ah9,decide_eq_true_eq];omega) (ifT (by omega) ?_);refine ET (fun j x7 x8=>x8=(j:Int)) 2 _ (by omega) rfl ?_;rintro b j x7 x8 t rfl a;by_cases hl:j<2
  ·refine ifT (by show decide ((j:Int)<((2:Nat):Int))=true;simp;omega) (ifT (by show (0:Int)<=(j:Int)/\(j:Int)<((2:Nat):Int);omega) ?_);obtain⟨r,l,m⟩:=Nz f ((Sl.of [(laws.g (i:Int).toNat).Left,(laws.g (i:Int).toNat).Right]:Sl Pat).g (j:Int).toNat);refine E7 l ?_;by_cases c:r<=40
   ·obtain⟨q,o⟩:=JY 41 _ (m c) N (by omega);exact ifT (by simp;omega) (E7 o (a hl _ _ (K8 (by omega))))
   ·exact ifF (by simp;omega) (a hl _ _ (K8 (by omega)))
  ·exact ifF (by show ¬decide ((j:Int)<((2:Nat):Int))=true;simp;omega) (hs (by omega) _ _ (K8 (by omega)))
 ·exact ifF (by simp only[Ah9,decide_eq_true_eq];omega) ⟨_,rfl,trivial⟩
end Go.AM
namespace Go.AM
open IntKind (wrap)
open Go.Proofs
def KR (s:Str):Bool:=(decide (1<=s.length)&&decide (s.length<=24))&&s.all fun c=>Ny ((c.toNat:Nat):Int)
theorem Ps {N:Nat}{s:Str}(m:s.length<N)(hs:s.length<1000000000){let_:Int->Option Bool}(hl:∀y,let_ y=some (Ny y)){fin:Bool}(n:fin=(decide (1<=s.length)&&decide (s.length<=24))) :Q8 N (fun (a:Int->Option Bool) (x1:Int)=>
  if (decide (x1<(s.length:Int))) then
   if ((0:Int)<=x1/\x1<(s.length:Int))then
    (let_ (U4 s x1)).bind fun y3=>
    if (!y3) then
     some false
    else
     a (wrap .i64 (x1+1))
   else none
  else
   some fin
 ) 0=some (KR s):=by
 suffices h:∃b,Q8 N (fun (a:Int->Option Bool) (x1:Int)=>
  if (decide (x1<(s.length:Int))) then
   if ((0:Int)<=x1/\x1<(s.length:Int))then
    (let_ (U4 s x1)).bind fun y3=>
    if (!y3) then
     some false
    else
     a (wrap .i64 (x1+1))
   else none
  else
   some fin
  ) 0=some b/\b=KR s by obtain⟨b,h,rfl⟩:=h;exact h
 refine AN (fun i x1=>x1=(i:Int)/\∀j (h:j<s.length),j<i->Ny ((s[j].toNat:Nat):Int)=true) s.length _ m ⟨rfl,fun j _ f=>absurd f (by omega)⟩ ?_;rintro l i x1 q ⟨rfl,h⟩ g;by_cases d:i<s.length
 ·have eb:U4 s (i:Int)=((s[i].toNat:Nat):Int):=by simp[U4,d]
  refine ifT (by simp;omega) (ifT (by omega) (E7 (hl _) ?_));rw[eb];cases hb:Ny ((s[i].toNat:Nat):Int)
  ·refine ifT rfl ⟨false,rfl,?_⟩;symm;unfold KR;rw[Aw2]
   right
   rw[List.all_eq_false];exact⟨s[i],Av2 d,by rw[hb];simp⟩
  ·refine ifF (by simp) (g d _ ⟨K8 (by omega),fun j f o=>?_⟩);by_cases e:j=i
   ·subst e;exact hb
   ·exact h j f (by omega)
 ·refine ifF (by simp;omega) ⟨_,rfl,?_⟩;unfold KR;rw[n]
  have:(s.all fun c=>Ny ((c.toNat:Nat):Int))=true:=Aj0.2 fun c hc=>by obtain⟨j,f,rfl⟩:=Au0 hc;exact h j f (by omega)
  rw[this,At9]
theorem VR {N:Nat}{s:Str}(a:s.length<N)(hs:s.length<1000000000):AA N s=some (KR s):=by unfold AA;exact Ps a hs (fun y=>rfl) (by rw[Ao0];simp;omega)
theorem XO {N:Nat}{s:Str}(a:s.length<N)(hs:s.length<1000000000):Bi N s=some (KR s):=by unfold Bi;exact Ps a hs (fun y=>rfl) (by rw[Ao0];simp;omega)
def ZR (t:Sl G6)(v:Nat):Prop:=(v=0->(t.g 0).Parent = -1)/\(0<v->0<=(t.g v).Parent/\(t.g v).Parent<v)/\KR (t.g v).Name=true/\∀u,u<v->(t.g u).Name≠(t.g v).Name
def CV (t:Sl G6):Prop:=1<=t.n/\t.n<=63/\∀v,v<t.n->ZR t v
def TY (t:Sl G6)(e:Int):Prop:=(e=0/\CV t) \/ (e=16/\¬CV t)
theorem TZ {t:Sl G6}{e e' : Int}(h:TY t e)(h' : TY t e'):e=e':=by
 rcases h with⟨rfl,h⟩ | ⟨rfl,h⟩<;>rcases h' with⟨rfl,h'⟩ | ⟨rfl,h'⟩
 ·rfl
 ·exact absurd h h'
 ·exact absurd h' h
 ·rfl
def NA (t:Sl G6):Prop:=∀v,v<t.n->(t.g v).Name.length<1100000
theorem VT {N:Nat}(y:3000000<=N){t:Sl G6}(ht:NA t):∃e,Am N t=some e/\TY t e:=by
 unfold Am;by_cases z:t.n<1
 ·exact ifT (fun h=>absurd h (by simp;omega)) (ifT (by simp;omega) ⟨16,rfl,.inr ⟨rfl,fun h=>by have:=h.1;omega⟩⟩)
 refine ifT (fun _ _=>by omega) ?_;by_cases h1:63<t.n
 ·exact ifT (by simp;omega) ⟨16,rfl,.inr ⟨rfl,fun h=>by have:=h.2.1;omega⟩⟩
 by_cases m:(t.g 0).Parent = -1
 case neg=>exact ifT (by simp[m]) ⟨16,rfl,.inr ⟨rfl,fun h=>m ((h.2.2 0 (by omega)).1 rfl)⟩⟩
 refine ifF (by simp[m];omega) ?_;refine AN (fun i x1=>x1=(i:Int)/\∀j,j<i->ZR t j) t.n _ (by omega) ⟨rfl,fun j x=>absurd x (by omega)⟩ ?_;rintro f i x1 hi ⟨rfl,h⟩ hs;by_cases a:i<t.n
 case neg=>exact ifF (by simp;omega) ⟨0,rfl,.inl ⟨rfl,by omega,by omega,fun v hv=>h v (by omega)⟩⟩
 refine ifT (by simp;omega) (ltX ?_);have b:=XO (N:=N) (s:=(t.g i).Name) (by have:=ht i a;omega) (by have:=ht i a;omega);have rest:(0<i->0<=(t.g i).Parent/\(t.g i).Parent<i)->∃r,(if (!KR (t.g i).Name) then some 16 else
  Q8 N (fun (d:Int->Option Int) (x7:Int)=>
   if (decide (x7<(i:Int))) then
    if (((0:Int)<=x7/\x7<(t.n:Int))/\((0:Int)<=(i:Int)/\(i:Int)<(t.n:Int)))then
     if (((t.g x7.toNat).Name==(t.g (i:Int).toNat).Name) != false) then
      some 16
     else
      d (wrap .i64 (x7+1))
    else none
   else
    f (wrap .i64 ((i:Int)+1))
   ) 0)=some r/\TY t r:=by
  intro hp;cases hb:KR (t.g i).Name
  ·exact ifT rfl ⟨16,rfl,.inr ⟨rfl,fun h=>by have:=(h.2.2 i a).2.2.1;rw[hb]at this;cases this⟩⟩
  refine ifF (by simp) ?_;refine AN (fun k x7=>x7=(k:Int)/\∀u,u<k->(t.g u).Name≠(t.g i).Name) i _ (by omega) ⟨rfl,fun u o=>absurd o (by omega)⟩ ?_;rintro q k x7 hk ⟨rfl,h'⟩ w;by_cases l:k<i
  ·refine ifT (by simp;omega) (ifT (by omega) ?_);rw[Ai0,Ai0];by_cases e:(t.g k).Name=(t.g i).Name
   ·exact ifT (by simp[e]) ⟨16,rfl,.inr ⟨rfl,fun h=>(h.2.2 i a).2.2.2 k l e⟩⟩
   ·refine ifF (by simp[e]) (w l _ ⟨K8 (by omega),fun u o=>?_⟩);by_cases e2:u=k
    ·subst e2;exact e
    ·exact h' u (by omega)
  ·refine ifF (by simp;omega) (hs a _ ⟨K8 (by omega),fun j x=>?_⟩);by_cases e:j=i
   ·subst e;exact⟨fun e=>by subst e;exact m,hp,hb,fun u o=>h' u (by omega)⟩
   ·exact h j (by omega)
 by_cases c:0<i
 ·refine ifT (by simp;omega) (ifT (by omega) ?_);rw[Ai0];by_cases g1:(t.g i).Parent<0
  ·exact ifT (by simpa using g1) (ifT rfl ⟨16,rfl,.inr ⟨rfl,fun h=>by have:=((h.2.2 i a).2.1 c).1;omega⟩⟩)
  refine ifF (by simpa using g1) (ifT (by omega) ?_);by_cases g2:(i:Int)<=(t.g i).Parent
  ·exact ifT (by simpa using g2) (ifT rfl ⟨16,rfl,.inr ⟨rfl,fun h=>by have:=((h.2.2 i a).2.1 c).2;omega⟩⟩)
  exact ifF (by simpa using g2) (ifT (by omega) (E7 b (rest fun _=>⟨by omega,by omega⟩)))
 ·exact ifF (by simp;omega) (ifT (by omega) (E7 (by rw[Ai0];exact b) (rest fun h=>absurd h c)))
theorem Ho {ν : Type}{k s:Str}{v : ν}:∀es:List (Str × ν),Bu eqS s (ME eqS k v es)=if s=k then some v else Bu eqS s es
 |[]=>by simp only[ME,Bu];by_cases h:s=k<;>simp[eqS,h]
 |(a,x)::es=>by
  simp only[ME];by_cases h:k=a
  ·subst h;rw[if_pos (by simp[eqS])];simp only[Bu];by_cases b:s=k<;>simp[eqS,b]
  ·rw[if_neg (by simp[eqS,h])];simp only[Bu];rw[Ho es];by_cases b:s=k
   ·subst b;simp[eqS,h]
   ·simp[b]
theorem Sk {ν : Type}{k:Str}{v : ν}:∀{es:List (Str × ν)},Bu eqS k es=none->(ME eqS k v es).length=es.length+1
 |[],_=>rfl
 |(a,x)::es,h=>by
  simp only[Bu]at h;simp only[ME];by_cases e:eqS k a=true
  ·rw[if_pos e]at h;cases h
  ·rw[if_neg e]at h;rw[if_neg e,Al0,Sk h];rfl
theorem Sm {ν : Type}{k:Str}{v x : ν}:∀{es:List (Str × ν)},Bu eqS k es=some x->(ME eqS k v es).length=es.length
 |[],h=>by cases h
 |(a,y)::es,h=>by
  simp only[Bu]at h;simp only[ME];by_cases e:eqS k a=true
  ·rw[if_pos e];rfl
  ·rw[if_neg e]at h;rw[if_neg e,Al0,Sm h];rfl
theorem VU {N:Nat}(m:3000000<=N){t:Sl G6}(ht:NA t):∃e,S7 N t=some e/\TY t e:=by
 unfold S7;by_cases o:t.n=0 \/ 63<t.n
 ·exact ifT (by simp;omega) ⟨16,rfl,.inr ⟨rfl,fun h=>by have g1:=h.1;have g2:=h.2.1;omega⟩⟩
 refine ifF (by simp;omega) ?_;refine ET (fun i (x2:List (Str×Bool)) x3=>x3=(i:Int)/\(∀j,j<i->ZR t j)/\∀s,(Bu eqS s x2=some true/\∃u,u<i/\(t.g u).Name=s) \/ (Bu eqS s x2=none/\∀u,u<i->(t.g u).Name≠s)) t.n _ (by omega) ⟨rfl,fun j f=>absurd f (by omega),fun s=>.inr ⟨rfl,fun u c=>absurd c (by omega)⟩⟩ ?_;rintro l i x2 x3 q ⟨rfl,h,hm⟩ hs;by_cases a:i<t.n
 case neg=>exact ifF (by simp;omega) ⟨0,rfl,.inl ⟨rfl,by omega,by omega,fun v r=>h v (by omega)⟩⟩
 refine ifT (by simp;omega) (ifT (by omega) (ltX ?_));rw[Ai0];have b:=VR (N:=N) (s:=(t.g i).Name) (by have:=ht i a;omega) (by have:=ht i a;omega);have e1:(if 0<wrap .i64 ((i:Int)-1)then (0:Int)else wrap .i64 ((i:Int)-1))=if i=0 then -1 else 0:=by rw[Z5 (by omega) (by omega)];split<;>split<;>omega
 rw[e1];by_cases g1:(i:Int)<=(t.g i).Parent
 ·refine ifT (by simpa using g1) (ifT rfl ⟨16,rfl,.inr ⟨rfl,fun h=>?_⟩⟩);have hk:=h.2.2 i a;by_cases d:i=0
  ·subst d;have:=hk.1 rfl;omega
  ·have:=(hk.2.1 (by omega)).2;omega
 refine ifF (by simpa using g1) ?_;by_cases g2:(t.g i).Parent<if i=0 then -1 else 0
 ·refine ifT (by simpa using g2) (ifT rfl ⟨16,rfl,.inr ⟨rfl,fun h=>?_⟩⟩);have hk:=h.2.2 i a;by_cases d:i=0
  ·subst d;have:=hk.1 rfl;simp at g2;omega
  ·have:=(hk.2.1 (by omega)).1;simp[d]at g2;omega
 refine ifF (by simpa using g2) (E7 b ?_);cases hb:KR (t.g i).Name
 ·exact ifT rfl (ifT rfl ⟨16,rfl,.inr ⟨rfl,fun h=>by have:=(h.2.2 i a).2.2.1;rw[hb]at this;cases this⟩⟩)
 refine ifF (by simp) ?_;rcases hm (t.g i).Name with⟨e,u,c,hn⟩ | ⟨e,hn⟩
 ·rw[e];exact⟨16,rfl,.inr ⟨rfl,fun h=>(h.2.2 i a).2.2.2 u c hn⟩⟩
 rw[e,Oy];refine ifF (show ¬false=true by simp) (hs a _ _ ⟨K8 (by omega),fun j f=>?_,fun s=>?_⟩)
 ·by_cases e:j=i
  ·subst e;refine⟨fun e=>?_,fun hp=>?_,hb,hn⟩
   ·subst e;simp at g2;omega
   ·have:¬j=0:=by omega
    simp[this]at g2;omega
  ·exact h j (by omega)
 ·rw[Ho];by_cases e:s=(t.g i).Name
  ·exact .inl ⟨by rw[if_pos e],i,by omega,e.symm⟩
  ·rw[if_neg e];rcases hm s with⟨g,u,c,hn⟩ | ⟨g,hn⟩
   ·exact .inl ⟨g,u,by omega,hn⟩
   ·refine .inr ⟨g,fun u c=>?_⟩;by_cases e2:u=i
    ·subst e2;exact fun h=>e h.symm
    ·exact hn u (by omega)
theorem Sn {N:Nat}(a:3000000<=N){t:Sl G6}(ht:NA t):∃e,S7 N t=some e/\Am N t=some e/\TY t e:=by obtain⟨e,h1,b⟩:=VU a ht;obtain⟨e',c,d⟩:=VT a ht;obtain rfl:=TZ b d;exact⟨_,h1,c,b⟩
end Go.AM
namespace Go.AM
open IntKind (wrap)
open Go.Proofs
structure Y2 (h:A5):Prop where
 laws:Yx h.Laws
 tree:NA h.Tree
 on:h.On.n<1100000
 len:∀v,v<h.On.n->(h.On.g v).n<1100000
def K0 (h:A5)(v:Nat):Sl Int:=
 if hp:0<=(h.Tree.g v).Parent/\(h.Tree.g v).Parent<v then (K0 h (h.Tree.g v).Parent.toNat).app (h.On.g v)else (Sl.nil:Sl Int).app (h.On.g v)
termination_by v
decreasing_by omega
theorem Ao {h:A5}{v:Nat}(a:(h.Tree.g v).Parent<0):K0 h v=(Sl.nil:Sl Int).app (h.On.g v):=by rw[K0,dif_neg (by omega)]
theorem Bc {h:A5}{v p:Nat}(a:(h.Tree.g v).Parent=(p:Int))(hp:p<v):K0 h v=(K0 h p).app (h.On.g v):=by rw[K0,dif_pos (by omega),a,Ai0]
theorem W7 {t:Sl G6}(ht:CV t){v:Nat}(a:v<t.n):(v=0/\(t.g v).Parent = -1) \/ ∃p:Nat,p<v/\(t.g v).Parent=(p:Int):=by
 have hk:=ht.2.2 v a;by_cases b:v=0
 ·subst b;exact .inl ⟨rfl,hk.1 rfl⟩
 ·obtain⟨g1,g2⟩:=hk.2.1 (by omega);exact .inr ⟨(t.g v).Parent.toNat,by omega,by omega⟩
theorem Rd {h:A5}(a:Y2 h)(ht:CV h.Tree)(hn:h.On.n=h.Tree.n):∀(m v:Nat),v<=m->v<h.Tree.n->(K0 h v).n<=(v+1)*1100000
 |m,v,hm,hv=>by
  have hl:=a.len v (by omega);rcases W7 ht hv with⟨_,e⟩ | ⟨p,hp,e⟩
  ·rw[Ao (by omega)];show 0+(h.On.g v).n<=_;omega
  ·rw[Bc e hp]
   match m with
   |0=>omega
   |m+1=>
    have:=Rd a ht hn m p (by omega) (by omega)
    show (K0 h p).n+(h.On.g v).n<=_;have b:(p+1)*1100000+1100000<=(v+1)*1100000:=by omega
    omega
theorem CW {h:A5}(a:Y2 h)(ht:CV h.Tree)(hn:h.On.n=h.Tree.n):∀(M v:Nat),v+2<=M->v<h.Tree.n->U1 M h (v:Int)=some (K0 h v)
 |0,v,hM,_=>by omega
 |M+1,v,hM,hv=>by
  have b:=ht.2.1;show S5 (U1 M) M h (v:Int)=_;unfold S5;rw[if_neg (by simp),if_pos (by omega),Ai0];have hl:=a.len v (by omega);rcases W7 ht hv with⟨c,e⟩ | ⟨p,hp,e⟩
  ·rw[e,Ao (by omega)]
   have:U1 M h (-1)=some (Sl.nil:Sl Int):=by obtain⟨K,rfl⟩:∃K,M=K+1:=⟨M-1,by omega⟩;show S5 (U1 K) K h (-1)=_;unfold S5;rw[if_pos (by decide)]
   rw[this,Ai6,if_pos ⟨by omega,by show (0+(h.On.g v).n)*8<=_/\0+(h.On.g v).n<=_;omega⟩]
  ·have hb:=Rd a ht hn p p (Ai4 _) (by omega);rw[e,CW a ht hn M p (by omega) (by omega),Ai6,Bc e hp,if_pos ⟨by omega,by omega⟩]
def KS (h:A5):Prop:=∃v,v<h.On.n/\64<(K0 h v).n
def VV (h:A5)(v:Nat):Prop:=∃k,k<(h.On.g v).n/\((h.On.g v).g k<0 \/ (h.Laws.n:Int)<=(h.On.g v).g k)
def VW (h:A5)(e:Int):Prop:=(KS h/\e=2) \/ (¬KS h/\(∃v,v<h.On.n/\VV h v)/\e=3) \/ (¬KS h/\(∀v,v<h.On.n->¬VV h v)/\e=0)
theorem VX {N:Nat}(hN:3000000<=N){h:A5}(hi:Y2 h)(ht:CV h.Tree)(hn:h.On.n=h.Tree.n):∃e,S8 N h=some e/\VW h e:=by
 have h63:=ht.2.1;unfold S8;refine ifT (by omega) ?_;refine loop3 (fun i (x4:Sl Int) (x5:Bool) x6=>x6=(i:Int)/\x4.n=h.On.n/\(∀v,v<i->x4.g v=((K0 h v).n:Int)/\(K0 h v).n<=64)/\(x5=true ↔ ∃v,v<i/\VV h v)) h.On.n _ (by omega) ⟨rfl,by show ((h.On.n:Nat):Int).toNat=_;omega,fun v b=>absurd b (by omega),⟨fun g=>(by cases g),fun⟨v,b,_⟩=>absurd b (by omega)⟩⟩ ?_;rintro m i x4 x5 x6 hle ⟨rfl,hx,hp,hb⟩ hs;by_cases o:i<h.On.n
 case neg=>
  refine ifF (by simp;omega) ?_;have hl:¬KS h:=fun⟨v,b,hl⟩=>by have:=(hp v (by omega)).2;omega
  cases x5
  ·exact ifF (by simp) ⟨0,rfl,.inr (.inr ⟨hl,fun v b g=>(by have:=hb.2 ⟨v,by omega,g⟩;cases this),rfl⟩)⟩
  ·obtain⟨v,b,g⟩:=hb.1 rfl;exact ifT rfl ⟨3,rfl,.inr (.inl ⟨hl,⟨v,by omega,g⟩,rfl⟩)⟩
 refine ifT (by simp;omega) (ifT (by rw[Ai0];omega) (ifT (by omega) (ltX ?_)));rw[Ai0];have hl:=hi.len i (by omega);have hlb:=Rd hi ht hn i i (Ai4 _) (by omega);have rest:∀z:Sl Int,z.n=h.On.n->(∀v,v<i->z.g v=x4.g v)->z.g i=((K0 h i).n:Int)->∃r,(if (((0:Int)<=(i:Int)/\(i:Int)<(z.n:Int))/\i<z.n)then
  if (decide (64<(z.g i))) then
   some 2
  else
   Bt N (fun (d:Bool->Int->Option Int) (c:Bool) (a:Int)=>
    if (decide (a<((h.On.g i).n:Int))) then
     if ((0:Int)<=a/\a<((h.On.g i).n:Int))then
      d ((c||(decide (((h.On.g i).g a.toNat)<0)))||(decide ((h.Laws.n:Int)<=((h.On.g i).g a.toNat)))) (wrap .i64 (a+1))
     else none
    else
     m z c (wrap .i64 ((i:Int)+1))
    ) x5 0
  else none)=some r/\VW h r:=by
  intro z hz u q;refine ifT (by omega) ?_;rw[q];by_cases w:64<(K0 h i).n
  ·exact ifT (by simp;omega) ⟨2,rfl,.inl ⟨⟨i,o,w⟩,rfl⟩⟩
  refine ifF (by simp;omega) ?_;refine ET (fun k (c:Bool) a=>a=(k:Int)/\(c=true↔(∃v,v<i/\VV h v) \/ ∃j,j<k/\j<(h.On.g i).n/\((h.On.g i).g j<0 \/ (h.Laws.n:Int)<=(h.On.g i).g j))) (h.On.g i).n _ (by omega) ⟨rfl,hb.trans ⟨fun g=>.inl g,fun g=>g.resolve_right fun⟨j,f,_⟩=>absurd f (by omega)⟩⟩ ?_;rintro x k c a hk ⟨rfl,s⟩ y;by_cases l:k<(h.On.g i).n
  ·refine ifT (by simp;omega) (ifT (by omega) (y l _ _ ⟨K8 (by omega),?_⟩));rw[Ai0,Ak2,Ak2,s,decide_eq_true_eq,decide_eq_true_eq];constructor
   ·rintro (((g|⟨j,f,g⟩)|g)|g)
    ·exact .inl g
    ·exact .inr ⟨j,by omega,g⟩
    ·exact .inr ⟨k,by omega,l,.inl g⟩
    ·exact .inr ⟨k,by omega,l,.inr g⟩
   ·rintro (g|⟨j,f,a0,g⟩)
    ·exact .inl (.inl (.inl g))
    ·by_cases e:j=k
     ·subst e;rcases g with g|g
      ·exact .inl (.inr g)
      ·exact .inr g
     ·exact .inl (.inl (.inr ⟨j,by omega,a0,g⟩))
  ·refine ifF (by simp;omega) (hs o _ _ _ ⟨K8 (by omega),hz,fun v b=>?_,s.trans ?_⟩)
   ·by_cases e:v=i
    ·subst e;exact⟨q,by omega⟩
    ·rw[u v (by omega)];exact hp v (by omega)
   ·constructor
    ·rintro (⟨v,b,g⟩ | ⟨j,_,f,g⟩)
     ·exact⟨v,by omega,g⟩
     ·exact⟨i,by omega,j,f,g⟩
    ·rintro⟨v,b,g⟩;by_cases e:v=i
     ·subst e;obtain⟨j,f,g⟩:=g;exact .inr ⟨j,by omega,f,g⟩
     ·exact .inl ⟨v,by omega,g⟩
 rcases W7 ht (v:=i) (by omega)with⟨_,e⟩ | ⟨p,t,e⟩
 ·rw[e];refine ifF (by decide) (rest _ hx (fun v b=>?_) ?_)
  ·show (if v=i then _ else x4.g v)=_;rw[if_neg (by omega)]
  ·show (if i=i then ((h.On.g i).n:Int)else _)=_;rw[if_pos rfl,Ao (by omega)];show _=((0+(h.On.g i).n:Nat):Int);omega
 ·have a1:=hp p t;rw[e];refine ifT (by simp) (ifT ?_ ?_)
  ·show ((((((0:Int)<=(i:Int)/\(i:Int)<(x4.n:Int))/\i<x4.n)/\(0:Int)<=(p:Int)/\(p:Int)<(x4.n:Int))/\(p:Int).toNat<x4.n)/\(0:Int)<=(i:Int)/\(i:Int)<(x4.n:Int))/\i<x4.n;omega
  ·rw[Ai0];refine rest _ hx (fun v b=>?_) ?_
   ·show (if v=i then _ else if v=i then _ else x4.g v)=_;rw[if_neg (by omega),if_neg (by omega)]
   ·show (if i=i then wrap .i64 ((if i=i then ((h.On.g i).n:Int)else _)+(if p=i then _ else x4.g p))else _)=_;rw[if_pos rfl,if_pos rfl,if_neg (by omega),a1.1,Bc e t,Z5 (by omega) (by omega)];show _=(((K0 h p).n+(h.On.g i).n:Nat):Int);omega
end Go.AM
namespace Go.AM
open Go.Proofs
def XP (h:A5)(i:Nat):Prop:=∃u v,u<v/\v<i/\(h.Laws.g u).Name=(h.Laws.g v).Name
open Classical in
noncomputable def hres (N:Nat) (h:A5):Int:=
 if ¬CV h.Tree then 16 else if 64<h.Laws.n then 12 else if ∃i,i<h.Laws.n/\¬chkAll N (h.Laws.g i)then 17 else if XP h h.Laws.n then 6 else if h.On.n≠h.Tree.n then 2
 else if KS h then 2 else if ∃v,v<h.On.n/\VV h v then 3 else 0
structure Fo (N:Nat) (h:A5):Prop where
 tree:CV h.Tree
 laws:Sj N h.Laws
 dup:¬XP h h.Laws.n
 on:h.On.n=h.Tree.n
 long:¬KS h
 bad:∀v,v<h.On.n->¬VV h v
theorem hres_zero {N:Nat}{h:A5}:hres N h=0↔Fo N h:=by
 unfold hres;constructor
 ·intro g;split at g
  ·cases g
  split at g
  ·cases g
  split at g
  ·cases g
  split at g
  ·cases g
  split at g
  ·cases g
  split at g
  ·cases g
  split at g
  ·cases g
  rename_i h1 n c d f j l;exact⟨Classical.not_not.1 h1,⟨by omega,fun i a=>Am2 fun hn=>c ⟨i,a,hn⟩⟩,d,Classical.not_not.1 f,j,fun v b hb=>l ⟨v,b,hb⟩⟩
 ·intro g;have m:=g.laws.1;rw[if_neg (fun k=>k g.tree),if_neg (by omega),if_neg (fun⟨i,a,hn⟩=>hn (g.laws.2 i a)),if_neg g.dup,if_neg (fun k=>k g.on),if_neg g.long,if_neg (fun⟨v,b,hb⟩=>g.bad v b hb)]
theorem CX {N:Nat}{h:A5}(h1:CV h.Tree)(a:Sj N h.Laws)(b:¬XP h h.Laws.n)(c:h.On.n=h.Tree.n){e:Int}(d:VW h e):e=hres N h:=by
 have f:=a.1;unfold hres;rw[if_neg (fun k=>k h1),if_neg (by omega),if_neg (fun⟨i,j,hn⟩=>hn (a.2 i j)),if_neg b,if_neg (fun k=>k c)];rcases d with⟨g,rfl⟩ | ⟨g,g2,rfl⟩ | ⟨g,g2,rfl⟩
 ·rw[if_pos g]
 ·rw[if_neg g,if_pos g2]
 ·rw[if_neg g,if_neg (fun⟨v,l,hb⟩=>g2 v l hb)]
theorem CY {N:Nat}(z:3000000<=N){h:A5}(o:Y2 h):C8 N h=some (hres N h):=by
 suffices g:∃r,C8 N h=some r/\r=hres N h by obtain⟨r,g,rfl⟩:=g;exact g
 obtain⟨e,e1,_,he⟩:=Sn z o.tree;unfold C8;refine E7 e1 ?_;rcases he with⟨rfl,ht⟩ | ⟨rfl,ht⟩
 case inr=>exact ifT (by decide) ⟨16,rfl,by unfold hres;rw[if_pos ht]⟩
 refine ifF (by decide) ?_;by_cases c:64<h.Laws.n
 ·exact ifT (by simp;omega) ⟨12,rfl,by unfold hres;rw[if_neg (fun k=>k ht),if_pos c]⟩
 refine ifF (by simp;omega) ?_;refine ET (fun i (x1:List (Str×Int)) x2=>x2=(i:Int)/\(∀j,j<i->chkAll N (h.Laws.g j))/\(∀s,(Bu eqS s x1=none/\∀u,u<i->(h.Laws.g u).Name≠s) \/ (∃v,Bu eqS s x1=some v)/\∃u,u<i/\(h.Laws.g u).Name=s)/\((XP h i/\x1.length<i) \/ (¬XP h i/\x1.length=i))) h.Laws.n _ (by omega)
  ⟨rfl,fun j hj=>absurd hj (by omega),fun s=>.inl ⟨rfl,fun u q=>absurd q (by omega)⟩,.inr ⟨fun⟨u,v,_,hv,_⟩=>absurd hv (by omega),rfl⟩⟩ ?_
 rintro self i x1 x2 hle ⟨rfl,hc,hm,hl⟩ hs;by_cases d:i<h.Laws.n
 ·obtain⟨y,y1,_,hy⟩:=Pq z (o.laws i d);refine ifT (by simp;omega) (ifT (by omega) (E7 (by rw[Ai0];exact y1) ?_));rcases hy with⟨rfl,hy⟩ | ⟨rfl,hy⟩
  case inr=>exact ifT (by decide) ⟨17,rfl,by unfold hres;rw[if_neg (fun k=>k ht),if_neg c,if_pos ⟨i,d,hy⟩]⟩
  refine ifF (by decide) ?_;rw[Ai0];have t : ∀j,j<i+1->chkAll N (h.Laws.g j):=fun j hj=>by
   by_cases e:j=i
   ·subst e;exact hy
   ·exact hc j (by omega)
  have look:∀(v:Int) (s:Str),(Bu eqS s (ME eqS (h.Laws.g i).Name v x1)=none/\∀u,u<i+1->(h.Laws.g u).Name≠s) \/ (∃w,Bu eqS s (ME eqS (h.Laws.g i).Name v x1)=some w)/\∃u,u<i+1/\(h.Laws.g u).Name=s:=by
   intro v s;rw[Ho];by_cases e:s=(h.Laws.g i).Name
   ·exact .inr ⟨⟨v,by rw[if_pos e]⟩,i,by omega,e.symm⟩
   ·rw[if_neg e];rcases hm s with⟨g,g2⟩ | ⟨g,u,q,g2⟩
    ·refine .inl ⟨g,fun u q=>?_⟩;by_cases e2:u=i
     ·subst e2;exact fun k=>e k.symm
     ·exact g2 u (by omega)
    ·exact .inr ⟨g,u,by omega,g2⟩
  rcases hm (h.Laws.g i).Name with⟨g,g2⟩ | ⟨⟨v,g⟩,u,q,g2⟩
  ·rw[g,Oy];refine hs d _ _ ⟨K8 (by omega),t,look _,?_⟩;rw[Sk g];rcases hl with⟨⟨a,b,f,hb,hn⟩,hl⟩ | ⟨m,hl⟩
   ·exact .inl ⟨⟨a,b,f,by omega,hn⟩,by omega⟩
   ·refine .inr ⟨fun⟨a,b,f,hb,hn⟩=>?_,by omega⟩;by_cases e:b=i
    ·subst e;exact g2 a f hn
    ·exact m ⟨a,b,f,by omega,hn⟩
  ·rw[g,Vl];refine hs d _ _ ⟨K8 (by omega),t,look _,?_⟩;rw[Sm g];refine .inl ⟨⟨u,i,q,by omega,g2⟩,?_⟩;rcases hl with⟨_,hl⟩ | ⟨_,hl⟩<;>omega
 ·obtain rfl:i=h.Laws.n:=by omega
  have hok:Sj N h.Laws:=⟨by omega,hc⟩;have x:¬ ∃i,i<h.Laws.n/\¬chkAll N (h.Laws.g i):=fun⟨i,o,hn⟩=>hn (hc i o);refine ifF (by simp) ?_;rw[Qd];rcases hl with⟨m,hl⟩ | ⟨m,hl⟩
  ·exact ifT (by simp;omega) ⟨6,rfl,by unfold hres;rw[if_neg (fun k=>k ht),if_neg c,if_neg x,if_pos m]⟩
  refine ifF (by simp;omega) ?_;by_cases l:h.On.n=h.Tree.n
  case neg=>exact ifT (by simp;omega) ⟨2,rfl,by unfold hres;rw[if_neg (fun k=>k ht),if_neg c,if_neg x,if_neg m,if_pos l]⟩
  refine ifF (by simp[l]) ?_;obtain⟨e,e1,he⟩:=VX z o ht l;exact E7 e1 ⟨e,rfl,CX ht hok m l he⟩
theorem BH {N:Nat}(hN:3000000<=N){h:A5}(q:Y2 h):S6 N h=some (hres N h):=by
 suffices g:∃r,S6 N h=some r/\r=hres N h by obtain⟨r,g,rfl⟩:=g;exact g
 obtain⟨e,_,e1,he⟩:=Sn hN q.tree;unfold S6;refine E7 e1 ?_;rcases he with⟨rfl,ht⟩ | ⟨rfl,ht⟩
 case inr=>exact ifT (by decide) ⟨16,rfl,by unfold hres;rw[if_pos ht]⟩
 refine ifF (by decide) ?_;by_cases f:64<h.Laws.n
 ·exact ifT (by simp;omega) ⟨12,rfl,by unfold hres;rw[if_neg (fun k=>k ht),if_pos f]⟩
 refine ifF (by simp;omega) ?_;refine AN (fun i x1=>x1=(i:Int)/\∀j,j<i->chkAll N (h.Laws.g j)) h.Laws.n _ (by omega) ⟨rfl,fun j s=>absurd s (by omega)⟩ ?_;rintro self i x1 hle ⟨rfl,hc⟩ hs;by_cases a:i<h.Laws.n
 ·obtain⟨y,_,y1,hy⟩:=Pq hN (q.laws i a);refine ifT (by simp;omega) (ifT (by omega) (E7 (by rw[Ai0];exact y1) ?_));rcases hy with⟨rfl,hy⟩ | ⟨rfl,hy⟩
  case inr=>exact ifT (by decide) ⟨17,rfl,by unfold hres;rw[if_neg (fun k=>k ht),if_neg f,if_pos ⟨i,a,hy⟩]⟩
  refine ifF (by decide) (hs a _ ⟨K8 (by omega),fun j s=>?_⟩);by_cases e:j=i
  ·subst e;exact hy
  ·exact hc j (by omega)
 obtain rfl:i=h.Laws.n:=by omega
 have l:Sj N h.Laws:=⟨by omega,hc⟩;have w:¬ ∃i,i<h.Laws.n/\¬chkAll N (h.Laws.g i):=fun⟨i,q,hn⟩=>hn (hc i q);refine ifF (by simp) ?_;refine AN (fun i x1=>x1=(i:Int)/\¬XP h i) h.Laws.n _ (by omega) ⟨rfl,fun⟨u,v,_,d,_⟩=>absurd d (by omega)⟩ ?_;rintro a3 i x1 hle2 ⟨rfl,t⟩ a4;by_cases a:i<h.Laws.n
 ·refine ifT (by simp;omega) ?_;refine AN (fun k x5=>x5=(k:Int)/\∀u,u<k->(h.Laws.g u).Name≠(h.Laws.g i).Name) i _ (by omega) ⟨rfl,fun u hu=>absurd hu (by omega)⟩ ?_;rintro a5 k x5 hk ⟨rfl,x⟩ a6;by_cases z:k<i
  ·refine ifT (by simp;omega) (ifT (by omega) ?_);rw[Ai0,Ai0];by_cases e:(h.Laws.g k).Name=(h.Laws.g i).Name
   ·exact ifT (by simp[e]) ⟨6,rfl,by unfold hres;rw[if_neg (fun k=>k ht),if_neg f,if_neg w,if_pos ⟨k,i,z,a,e⟩]⟩
   ·refine ifF (by simp;exact fun g=>e g.symm) (a6 z _ ⟨K8 (by omega),fun u hu=>?_⟩);by_cases e2:u=k
    ·subst e2;exact e
    ·exact x u (by omega)
  ·refine ifF (by simp;omega) (a4 a _ ⟨K8 (by omega),fun⟨u,v,a7,d,hn⟩=>?_⟩);by_cases e:v=i
   ·subst e;exact x u (by omega) hn
   ·exact t ⟨u,v,a7,by omega,hn⟩
 obtain rfl:i=h.Laws.n:=by omega
 refine ifF (by simp) ?_;by_cases b:h.On.n=h.Tree.n
 case neg=>exact ifT (by simp;omega) ⟨2,rfl,by unfold hres;rw[if_neg (fun k=>k ht),if_neg f,if_neg w,if_neg t,if_pos b]⟩
 refine ifF (by simp[b]) ?_;have h63:=ht.2.1;refine AN (fun i x1=>x1=(i:Int)/\∀v,v<i->¬ 64<(K0 h v).n) h.On.n _ (by omega) ⟨rfl,fun v d=>absurd d (by omega)⟩ ?_;rintro a8 i x1 hle3 ⟨rfl,a0⟩ a9;by_cases a:i<h.On.n
 ·refine ifT (by simp;omega) (E7 (CW q ht b N i (by omega) (by omega)) ?_);by_cases hg:64<(K0 h i).n
  ·exact ifT (by simp;omega) ⟨2,rfl,CX ht l t b (.inl ⟨⟨i,a,hg⟩,rfl⟩)⟩
  ·refine ifF (by simp;omega) (a9 a _ ⟨K8 (by omega),fun v d=>?_⟩);by_cases e:v=i
   ·subst e;exact hg
   ·exact a0 v (by omega)
 refine ifF (by simp;omega) ?_;have m:¬KS h:=fun⟨v,d,g⟩=>a0 v (by omega) g;refine AN (fun i x1=>x1=(i:Int)/\∀v,v<i->¬VV h v) h.On.n _ (by omega) ⟨rfl,fun v d=>absurd d (by omega)⟩ ?_;rintro b0 i x1 hle4 ⟨rfl,a1⟩ b1;by_cases c:i<h.On.n
 ·have hl:=q.len i c;refine ifT (by simp;omega) ?_;refine AN (fun k x1=>x1=(k:Int)/\∀j,j<k->¬((h.On.g i).g j<0 \/ (h.Laws.n:Int)<=(h.On.g i).g j)) (h.On.g i).n _ (by omega) ⟨rfl,fun j s=>absurd s (by omega)⟩ ?_;rintro b2 k x1 hk ⟨rfl,a2⟩ b3;refine ifT (by omega) ?_;rw[Ai0,Ai0];by_cases o:k<(h.On.g i).n
  ·refine ifT (by simp;omega) (ifT (by omega) ?_);by_cases g1:(h.On.g i).g k<0
   ·exact ifT (by simpa using g1) ⟨3,rfl,CX ht l t b (.inr (.inl ⟨m,⟨i,c,k,o,.inl g1⟩,rfl⟩))⟩
   refine ifF (by simpa using g1) (ifT (by omega) ?_);by_cases g2:(h.Laws.n:Int)<=(h.On.g i).g k
   ·exact ifT (by simpa using g2) ⟨3,rfl,CX ht l t b (.inr (.inl ⟨m,⟨i,c,k,o,.inr g2⟩,rfl⟩))⟩
   refine ifF (by simpa using g2) (b3 o _ ⟨K8 (by omega),fun j s=>?_⟩);by_cases e:j=k
   ·subst e;exact fun g=>g.elim g1 g2
   ·exact a2 j (by omega)
  ·refine ifF (by simp;omega) (b1 c _ ⟨K8 (by omega),fun v d=>?_⟩);by_cases e:v=i
   ·subst e;exact fun⟨j,s,g⟩=>a2 j (by omega) g
   ·exact a1 v (by omega)
 ·exact ifF (by simp;omega) ⟨0,rfl,CX ht l t b (.inr (.inr ⟨m,fun v d=>a1 v (by omega),rfl⟩))⟩
end Go.AM
namespace Go.AM
open IntKind (wrap)
open Go.Proofs
def Uo (t:Sl G6)(v:Nat):List Nat:=
 if hp:0<=(t.g v).Parent/\(t.g v).Parent<v then Uo t (t.g v).Parent.toNat++[v]else [v]
termination_by v
decreasing_by omega
theorem GN {t:Sl G6}{v:Nat}(a:(t.g v).Parent<0):Uo t v=[v]:=by rw[Uo,dif_neg (by omega)]
theorem NB {t:Sl G6}{v p:Nat}(a:(t.g v).Parent=(p:Int))(hp:p<v):Uo t v=Uo t p++[v]:=by rw[Uo,dif_pos (by omega),a,Ai0]
theorem VY {t:Sl G6}(ht:CV t):∀(m v:Nat),v<=m->v<t.n->∀x∈Uo t v,x<=v
 |m,v,hm,hv,x,hx=>by
  rcases W7 ht hv with⟨_,e⟩ | ⟨p,hp,e⟩
  ·rw[GN (by omega)]at hx;simp at hx;omega
  ·rw[NB e hp]at hx;rcases List.mem_append.1 hx with hx|hx
   ·match m with
    |0=>omega
    |m+1=>have:=VY ht m p (by omega) (by omega) x hx;omega
   ·simp at hx;omega
theorem XQ {α : Type}{x:Sl α}{m:Nat}(h:x.n=m+1):x.toList.reverse=x.g m::(x.take m).toList.reverse:=by unfold Sl.toList;rw[h,An8,Ao8,Ao9];rfl
theorem So {x2:Sl Int}(hx:x2.n<100000):∀(k M:Nat),k<=x2.n->k<M->Q8 M (fun (a:Int->Option (List Int)) (x3:Int)=>
 if (decide (0<=x3)) then
  if (((0:Int)<=x3/\x3<(x2.n:Int))/\x3.toNat<x2.n)then
   Gn (x2.g x3.toNat) (
    a (wrap .i64 (x3-1))
    )
  else none
 else
  some []
 ) ((k:Int)-1)=some (x2.take k).toList.reverse
 |0,M,hk,hM=>by obtain⟨M,rfl⟩:∃K,M=K+1:=⟨M-1,by omega⟩;rw[Gi,if_neg (by simp)];rfl
 |k+1,M,hk,hM=>by obtain⟨M,rfl⟩:∃K,M=K+1:=⟨M-1,by omega⟩;rw[show ((k+1:Nat):Int)-1=(k:Int) by omega,Gi,if_pos (by simp),if_pos ⟨by omega,by omega⟩,Z5 (by omega) (by omega),So hx k M (by omega) (by omega),Ai0,XQ (x:=x2.take (k+1)) (m:=k) rfl];rfl
theorem ZS {N:Nat}(j:3000000<=N){t:Sl G6}(ht:CV t){v:Nat}(f:v<t.n):M0 N (v:Int) t=some ((Uo t v).map fun (x:Nat)=>(x:Int)):=by
 have i:=ht.2.1;have key:∀(m c:Nat) (x2:Sl Int) (M:Nat),c<m->c<t.n->m+1<M->x2.n+c<=1000->∃y:Sl Int,y.n<=1001/\y.toList.reverse=((Uo t c).map fun (x:Nat)=>(x:Int))++x2.toList.reverse /\
  Bt M (fun (a:Int->Sl Int->Option (List Int)) (x1:Int) (x2:Sl Int)=>
  if (decide (0<=x1)) then
   if (((x2.n+(Sl.of [x1]:Sl Int).n)*8<=140737488355328/\x2.n+(Sl.of [x1]:Sl Int).n<=140737488355328)/\((0:Int)<=x1/\x1<(t.n:Int)))then
    a (t.g x1.toNat).Parent (x2.push x1)
   else none
  else
   Q8 N (fun b (x3:Int)=>
    if (decide (0<=x3)) then
     if (((0:Int)<=x3/\x3<(x2.n:Int))/\x3.toNat<x2.n)then
      Gn (x2.g x3.toNat) (
       b (wrap .i64 (x3-1))
       )
     else none
    else
     some []
    ) (wrap .i64 ((x2.n:Int)-1))
  ) (c:Int) x2=some y.toList.reverse:=by
  intro m
  induction m with
  |zero=>exact fun c _ _ h=>absurd h (by omega)
  |succ m ih=>
   intro c x2 M hc d l hx;obtain⟨M,rfl⟩:∃K,M=K+1:=⟨M-1,by omega⟩;rw[IV,if_pos (by simp),if_pos ⟨by show (x2.n+1)*8<=_/\x2.n+1<=_;omega,by omega⟩,Ai0];rcases W7 ht d with⟨_,e⟩ | ⟨p,hp,e⟩
   ·obtain⟨M,rfl⟩:∃K,M=K+1:=⟨M-1,by omega⟩;refine⟨x2.push (c:Int),by show x2.n+1<=_;omega,by rw[VQ,Ao9,GN (by omega)];rfl,?_⟩;rw[e,IV,if_neg (by decide)];have hb:=So (x2:=x2.push (c:Int)) (by show x2.n+1<_;omega) (x2.n+1) N (Ai4 _) (by omega);rw[Z5 (by show _<=((x2.n+1:Nat):Int)-1;omega) (by show ((x2.n+1:Nat):Int)-1<=_;omega)];exact hb
   ·obtain⟨y,y1,y2,y3⟩:=ih p (x2.push (c:Int)) M (by omega) (by omega) (by omega) (by show x2.n+1+p<=_;omega);refine⟨y,y1,?_,by rw[e];exact y3⟩;rw[y2,VQ,Ao9,NB e hp,Ao8,As9];rfl
 obtain⟨y,_,y2,y3⟩:=key (v+1) v (Sl.nil:Sl Int) N (by omega) f (by omega) (by show 0+v<=_;omega);unfold M0;rw[y3,y2];show some (_++[])=_;rw[Ap8]
def ZT (h:A5)(L:List Nat)(z:Sl Int):Sl Int:=L.foldl (fun z x=>z.app (h.On.g x)) z
theorem Pt {h:A5}(ht:CV h.Tree):∀(m v:Nat),v<=m->v<h.Tree.n->ZT h (Uo h.Tree v) (Sl.nil:Sl Int)=K0 h v
 |m,v,hm,hv=>by
  rcases W7 ht hv with⟨_,e⟩ | ⟨p,hp,e⟩
  ·rw[GN (by omega),Ao (by omega)];rfl
  ·rw[NB e hp,Bc e hp]
   match m with
   |0=>omega
   |m+1=>
    have:=Pt ht m p (by omega) (by omega)
    unfold ZT at this⊢;rw[List.foldl_append,this];rfl
theorem Pu {h:A5}(c:Y2 h):∀(L:List Nat) (z:Sl Int),(∀x∈L,x<h.On.n)->z.n+L.length*1100000<=10000000000 ->
 Z8 (L.map fun (x:Nat)=>(x:Int)) (fun (a:Sl Int->Option ((Sl Int)×Int)) (x1:Int) (z1:Sl Int)=>
  if (((0:Int)<=x1/\x1<(h.On.n:Int))/\((z1.n+(h.On.g x1.toNat).n)*8<=140737488355328/\z1.n+(h.On.g x1.toNat).n<=140737488355328))then
   a (z1.app (h.On.g x1.toNat))
  else none
  ) (fun (z1:Sl Int)=>
   some (z1,0)
  ) z=some (ZT h L z,0)
 |[],z,_,_=>rfl
 |x::L,z,hx,hz=>by have b:=hx x (by simp);have hl:=c.len x b;simp only[Al0,As0]at hz;rw[Aj7,Z8,Ai0,if_pos ⟨by omega,by omega⟩];exact Pu c L _ (fun y hy=>hx y (by simp[hy])) (by show z.n+(h.On.g x).n+_<=_;omega)
theorem Sp {t:Sl G6}(ht:CV t):∀(m v:Nat),v<=m->v<t.n->(Uo t v).length<=v+1
 |m,v,hm,hv=>by
  rcases W7 ht hv with⟨_,e⟩ | ⟨p,hp,e⟩
  ·rw[GN (by omega)];simp
  ·rw[NB e hp]
   match m with
   |0=>omega
   |m+1=>have:=Sp ht m p (by omega) (by omega);simp;omega
theorem Sq {N:Nat}(g:3000000<=N){h:A5}(d:Y2 h)(v:Int) :∃s e,N9 N h v=some (s,e)/\U2 N h v=some (s,e)/\((e=0/\Fo N h/\0<=v/\v<h.Tree.n/\s=K0 h v.toNat) \/ (e≠0/\s=(Sl.nil:Sl Int))):=by
 unfold N9 U2;rw[CY g d,BH g d,Ai6,Ai6];by_cases f:hres N h=0
 case neg=>
  have b:(hres N h != 0)=true:=by simpa using f
  rw[if_pos b,if_pos b];exact⟨_,_,rfl,rfl,.inr ⟨f,rfl⟩⟩
 have a:=hres_zero.1 f;have c:¬(hres N h != 0)=true:=by simp[f]
 rw[if_neg c,if_neg c,P5,Bj,Ai6,Ai6];by_cases m:0<=v/\v<(h.Tree.n:Int)
 case neg=>
  have hb:(!((decide (0<=v))&&(decide (v<(h.Tree.n:Int)))))=true:=by simp;omega
  rw[if_pos hb,if_pos hb];exact⟨_,_,rfl,rfl,.inr ⟨by decide,rfl⟩⟩
 have hb:¬(!((decide (0<=v))&&(decide (v<(h.Tree.n:Int)))))=true:=by simp;omega
 rw[if_neg hb,if_neg hb,Z3,Ai6];obtain⟨u,rfl⟩:∃u:Nat,v=(u:Int):=⟨v.toNat,by omega⟩;have l:=a.tree.2.1;have hw:=ZS g a.tree (v:=u) (by omega);have j:=Sp a.tree u u (Ai4 _) (by omega);have i:=Pu d (Uo h.Tree u) (Sl.nil:Sl Int) (fun x hx=>by have:=VY a.tree u u (Ai4 _) (by omega) x hx;have:=a.on;omega) (by show 0+_<=_;omega);rw[CW d a.tree a.on N u (by omega) (by omega),Ai6];refine⟨K0 h u,0,?_,rfl,.inl ⟨rfl,a,by omega,by omega,by rw[Ai0]⟩⟩;show (M0 N (u:Int) h.Tree).bind _=_;rw[hw,Ai6,i,Pt a.tree u u (Ai4 _) (by omega)]
theorem Re {N:Nat}{h:A5}(a:Fo N h):∀(m v:Nat),v<=m->v<h.Tree.n->∀i,i<(K0 h v).n->0<=(K0 h v).g i/\(K0 h v).g i<h.Laws.n
 |m,v,hm,hv,i,b=>by
  have ZV:∀j,j<(h.On.g v).n->0<=(h.On.g v).g j/\(h.On.g v).g j<h.Laws.n:=fun j c=>by
   have:=a.bad v (by have:=a.on;omega)
   constructor
   ·exact Int.not_lt.1 fun g=>this ⟨j,c,.inl g⟩
   ·exact Int.not_le.1 fun g=>this ⟨j,c,.inr g⟩
  rcases W7 a.tree hv with⟨_,e⟩ | ⟨p,hp,e⟩
  ·rw[Ao (by omega)]at b⊢;have b:i<0+(h.On.g v).n:=b
   have:((Sl.nil:Sl Int).app (h.On.g v)).g i=(h.On.g v).g i:=by show (if i<0 then (default:Int)else (h.On.g v).g (i-0))=_;rw[if_neg (by omega)];rfl
   rw[this];exact ZV i (by omega)
  ·rw[Bc e hp]at b⊢;have b:i<(K0 h p).n+(h.On.g v).n:=b;show 0<=(if i<(K0 h p).n then (K0 h p).g i else (h.On.g v).g (i-(K0 h p).n))/\(if i<(K0 h p).n then (K0 h p).g i else (h.On.g v).g (i-(K0 h p).n))<_;split
   ·match m with
    |0=>omega
    |m+1=>exact Re a m p (by omega) (by omega) i (by assumption)
   ·exact ZV _ (by omega)
theorem FN:∀(d:Nat) (p:Pat),okP d p->∀M,100+d<=M->∃q,K7 M p=some q/\PE p q
 |0,p,h,M,_=>h.elim
 |d+1,p,h,0,hM=>by omega
 |d+1,p,h,M+1,hM=>by
  show ∃q,M8 (K7 M) M p=some q/\_;unfold M8;have hn:=h.1;refine ET (fun i (x1:Sl Pat) x2=>x2=(i:Int)/\x1.n=i/\∀j,j<i->PE (p.L.g j) (x1.g j)) p.L.n _ (by omega) ⟨rfl,rfl,fun j a=>absurd a (by omega)⟩ ?_;rintro c i x1 x2 f ⟨rfl,hx,a⟩ hs;by_cases hl:i<p.L.n
  ·obtain⟨q,q1,q2⟩:=FN d (p.L.g i) (h.2.2 i hl) M (by omega);refine ifT (by simp;omega) (ifT (by omega) (E7 (by rw[Ai0];exact q1) (ifT (by show (x1.n+1)*64<=_/\x1.n+1<=_;omega) (hs hl _ _ ⟨K8 (by omega),by show x1.n+1=_;omega,fun j b=>?_⟩))));show PE _ (if j<x1.n then x1.g j else q);by_cases e:j=i
   ·subst e;rw[if_neg (by omega)];exact q2
   ·rw[if_pos (by omega)];exact a j (by omega)
  ·exact ifF (by simp;omega) ⟨_,rfl,PE_of.2 ⟨rfl,rfl,rfl,rfl,rfl,by show x1.n=_;omega,fun j b=>a j (by omega)⟩⟩
theorem Ua {N:Nat}(d:3000000<=N){l:Law}(hl:Ra l)(hc:chkAll N l):∃l',N2 N l=some l' /\ LE l l':=by have a:=hc.f hl;obtain⟨_,h1,b,g,c,_⟩:=a;have i:=c.1;obtain⟨q1,e1,g1⟩:=FN 40 l.Left (VJ 40 _ (by omega) h1 _ (by simp)) N (by omega);obtain⟨q2,e2,g2⟩:=FN 40 l.Right (VJ 40 _ (by omega) b _ (by simp)) N (by omega);unfold N2 A7 E2;rw[e1,e2,Ai6,Ai6,if_pos (by omega),Ai6,if_pos (by omega)];exact⟨_,rfl,rfl,g1,g2,SE.refl _,SE.refl _,rfl⟩
theorem XR {N:Nat}(m:3000000<=N){h:A5}(o:Y2 h)(c:Fo N h){l:Sl Int}(hn:l.n<1000000)(hl:∀i,i<l.n->0<=l.g i/\l.g i<h.Laws.n) :∃s,I2 N h l=some s/\s.n=l.n/\∀i,i<l.n->LE (h.Laws.g (l.g i).toNat) (s.g i):=by
 unfold I2;refine ET (fun i (x1:Sl Law) x2=>x2=(i:Int)/\x1.n=i/\∀j,j<i->LE (h.Laws.g (l.g j).toNat) (x1.g j)) l.n _ (by omega) ⟨rfl,rfl,fun j b=>absurd b (by omega)⟩ ?_;rintro f i x1 x2 hle ⟨rfl,hx,b⟩ hs;by_cases a:i<l.n
 ·have r:=hl i a;obtain⟨q,q1,q2⟩:=Ua m (o.laws (l.g i).toNat (by omega)) (c.laws.2 (l.g i).toNat (by omega));refine ifT (by simp;omega) ?_;rw[Ai0];refine ifT ⟨by omega,r⟩ (E7 q1 (ifT (by show (x1.n+1)*200<=_/\x1.n+1<=_;omega) (hs a _ _ ⟨K8 (by omega),by show x1.n+1=_;omega,fun j d=>?_⟩)));show LE _ (if j<x1.n then x1.g j else q);by_cases e:j=i
  ·subst e;rw[if_neg (by omega)];exact q2
  ·rw[if_pos (by omega)];exact b j (by omega)
 ·exact ifF (by simp;omega) ⟨_,rfl,by omega,fun j d=>b j (by omega)⟩
def lawsI (h:A5)(l:Sl Int):Sl Law:=⟨l.n,fun i=>h.Laws.g (l.g i).toNat⟩
theorem XS {N:Nat}(q:3000000<=N){h:A5}(b:Y2 h)(v:Int) :∃s s' e,W6 N h v=some (s,e)/\Y1 N h v=some (s',e)/\LS s' s/\((e=0/\Fo N h/\0<=v/\v<h.Tree.n/\SE s' (lawsI h (K0 h v.toNat))) \/ (e≠0/\s.n=0)):=by
 obtain⟨l,e,h1,w,t⟩:=Sq q b v;unfold W6 Y1;rw[h1,w,Ai6,Ai6];have hl:l.n<1000000/\(∀i,i<l.n->0<=l.g i/\l.g i<h.Laws.n)/\∃s,I2 N h l=some s/\s.n=l.n/\∀i,i<l.n->LE (h.Laws.g (l.g i).toNat) (s.g i):=by
  rcases t with⟨_,a,g1,g2,rfl⟩ | ⟨_,rfl⟩
  ·have x:(K0 h v.toNat).n<=64:=Ap1 fun g=>a.long ⟨v.toNat,by have:=a.on;omega,g⟩;have f:=Re a v.toNat v.toNat (Ai4 _) (by omega);exact⟨by omega,f,XR q b a (by omega) f⟩
  ·refine⟨by show 0<_;omega,fun i b=>absurd b (An9 i),(Sl.nil:Sl Law),?_,rfl,fun i b=>absurd b (An9 i)⟩;unfold I2;obtain⟨M,rfl⟩:∃K,N=K+1:=⟨N-1,by omega⟩;rw[IV,if_neg (by show ¬decide ((0:Int)<((0:Nat):Int))=true;decide)]
 obtain⟨hn,y,s,s1,s2,s3⟩:=hl;have z:∃r,(Bt N (fun (c:Sl Law->Int->Option ((Sl Law)×Int)) (x1:Sl Law) (x2:Int)=>
  if (decide (x2<(l.n:Int))) then
   if ((((0:Int)<=x2/\x2<(l.n:Int))/\x2.toNat<l.n)/\((0:Int)<=(l.g x2.toNat)/\(l.g x2.toNat)<(h.Laws.n:Int)))then
    if ((x1.n+(Sl.of [h.Laws.g (l.g x2.toNat).toNat]:Sl Law).n)*200<=140737488355328/\x1.n+(Sl.of [h.Laws.g (l.g x2.toNat).toNat]:Sl Law).n<=140737488355328)then
     c (x1.push (h.Laws.g (l.g x2.toNat).toNat)) (wrap .i64 (x2+1))
    else none
   else none
  else
   some (x1,e)
  ) (Sl.nil:Sl Law) 0)=some r/\r.2=e/\r.1.n=l.n/\∀i,i<l.n->r.1.g i=h.Laws.g (l.g i).toNat:=by
  refine ET (fun i (x1:Sl Law) x2=>x2=(i:Int)/\x1.n=i/\∀j,j<i->x1.g j=h.Laws.g (l.g j).toNat) l.n _ (by omega) ⟨rfl,rfl,fun j m=>absurd m (by omega)⟩ ?_;rintro u i x1 x2 hle ⟨rfl,hx,m⟩ hs;by_cases d:i<l.n
  ·refine ifT (by simp;omega) ?_;rw[Ai0];refine ifT ⟨⟨by omega,d⟩,y i d⟩ (ifT (by show (x1.n+1)*200<=_/\x1.n+1<=_;omega) (hs d _ _ ⟨K8 (by omega),by show x1.n+1=_;omega,fun j o=>?_⟩));show (if j<x1.n then x1.g j else _)=_;by_cases e:j=i
   ·subst e;rw[if_neg (by omega)]
   ·rw[if_pos (by omega)];exact m j (by omega)
  ·exact ifF (by simp;omega) ⟨_,rfl,rfl,by show x1.n=_;omega,fun j o=>m j (by omega)⟩
 obtain⟨⟨s',e'⟩,d1,d2,d3,d4⟩:=z;dsimp only at d2 d3 d4;subst d2;rw[s1,Ai6];refine⟨s,s',_,rfl,d1,⟨by omega,fun i b=>by rw[d4 i (by omega)];exact s3 i (by omega)⟩,?_⟩;rcases t with⟨g0,a,g1,g2,rfl⟩ | ⟨g0,rfl⟩
 ·exact .inl ⟨g0,a,g1,g2,d3,fun i b=>d4 i (by omega)⟩
 ·exact .inr ⟨g0,s2⟩
end Go.AM
namespace Go.AM
open Go.Proofs
theorem on_ok {N:Nat}{h:A5}(a:Fo N h){x:Nat}(hx:x<h.Tree.n):(h.On.g x).n<=64/\∀i,i<(h.On.g x).n->0<=(h.On.g x).g i/\(h.On.g x).g i<h.Laws.n:=by
 have c:=a.on;refine⟨?_,fun j b=>?_⟩
 ·have hl:(K0 h x).n<=64:=Ap1 fun g=>a.long ⟨x,by omega,g⟩;rcases W7 a.tree hx with⟨_,e⟩ | ⟨p,hp,e⟩
  ·rw[Ao (by omega)]at hl;have hl:0+(h.On.g x).n<=64:=hl;omega
  ·rw[Bc e hp]at hl;have hl:(K0 h p).n+(h.On.g x).n<=64:=hl;omega
 ·have:=a.bad x (by omega)
  constructor
  ·exact Int.not_lt.1 fun g=>this ⟨j,b,.inl g⟩
  ·exact Int.not_le.1 fun g=>this ⟨j,b,.inr g⟩
end Go.AM
namespace Go.AM
open Go.Proofs
theorem eqR {R:Type}{x:Option R}{y:R}(h:∃r,x=some r/\r=y):x=some y:=by obtain⟨r,h,rfl⟩:=h;exact h
end Go.AM
namespace Go.AM
open Go.Proofs
end Go.AM
namespace Go.AM
open Go.Proofs
end Go.AM
namespace Go.AM
open Go.Proofs
theorem VZ {N:Nat}(t:3000000<=N)(h:A5):∃b,BF N h=some b/\True:=by
 unfold BF;by_cases hb:(((decide (70<(h.Tree.n:Int)))||(decide (70<(h.Laws.n:Int))))||(decide (70<(h.On.n:Int))))=true
 ·exact ifT hb ⟨_,rfl,trivial⟩
 refine ifF hb ?_;have o : h.Laws.n<=70/\h.On.n<=70:=by simp at hb;omega
 refine AN (fun i x=>x=(i:Int)) h.On.n _ (by omega) rfl ?_;rintro l i x q rfl hs;by_cases d:i<h.On.n
 ·refine ifT (by simp;omega) (ifT (by omega) ?_);by_cases m:(decide (70<((h.On.g (i:Int).toNat).n:Int)))=true
  ·exact ifT m ⟨_,rfl,trivial⟩
  ·exact ifF m (hs d _ (K8 (by omega)))
 ·refine ifF (by simp;omega) ?_;refine AN (fun i x=>x=(i:Int)) h.Laws.n _ (by omega) rfl ?_;rintro f i x q rfl j;by_cases d:i<h.Laws.n
  ·rw[K8 (by omega)];refine ifT (by simp;omega) (ifT (by omega) ?_);obtain⟨r,s⟩:=XN (N:=N) (by omega) (h.Laws.sub (i:Int).toNat ((i+1:Nat):Int).toNat);refine E7 s ?_;have last:∀z3:Bool,∃r,(if z3 then some false else f ((i+1:Nat):Int))=some r/\True:=fun z=>by
    cases z
    ·exact ifF (by simp) (j d _ rfl)
    ·exact ifT rfl ⟨_,rfl,trivial⟩
   refine ltX ?_;by_cases g1:(decide (4<r))=true
   ·exact ifT g1 (last _)
   refine ifF g1 ?_;by_cases g2:(decide (20<((h.Laws.g (i:Int).toNat).If.n:Int)))=true
   ·exact ifT g2 (last _)
   refine ifF g2 ?_;by_cases g3:(decide (20<((h.Laws.g (i:Int).toNat).Out.n:Int)))=true
   ·exact ifT g3 (last _)
   refine ifF g3 ?_;obtain⟨a,ha,_⟩:=Nz (N:=N) (by omega) (h.Laws.g (i:Int).toNat).Left;refine E7 ha ?_;by_cases g4:(decide (41<(a:Int)))=true
   ·exact ifT g4 (last _)
   refine ifF g4 ?_;obtain⟨c,hc,_⟩:=Nz (N:=N) (by omega) (h.Laws.g (i:Int).toNat).Right;exact E7 hc (last _)
  ·exact ifF (by simp;omega) ⟨_,rfl,trivial⟩
end Go.AM
namespace Go.AM
open Go.Proofs
end Go.AM
namespace Go.AM
open Go.Proofs
end Go.AM
namespace Go.AM
open Go.Proofs
theorem Hq {N:Nat}{a b:Sl Int}(d:a.n<N)(hs:a.n<1000000000)(h:SE a b):O9 N a b=some true:=by
 obtain⟨h1,f⟩:=h;refine eqR ?_;unfold O9;refine ifF (by simp[h1]) ?_;refine AN (fun i x=>x=(i:Int)) a.n _ d rfl ?_;rintro c i x g rfl hs;by_cases hl:i<a.n
 ·refine ifT (by simp;omega) (ifT (by omega) ?_);rw[Ai0,f i hl];exact ifF (by simp) (hs hl _ (K8 (by omega)))
 ·exact ifF (by simp;omega) ⟨_,rfl,rfl⟩
def szP:Pat->Nat
 |.nil=>1
 |.mk _ _ _ _ _ n g=>1+((List.range n).map fun i=>szP (g i)+1).sum
theorem Pv (p:Pat):szP p=1+((List.range p.L.n).map fun i=>szP (p.L.g i)+1).sum:=by
 cases p with
 |nil=>rfl
 |mk k is no mn mx n g=>rw[szP];rfl
theorem Wa {f:Nat->Nat}:∀{n i:Nat},i<n->f i<=((List.range n).map f).sum
 |n+1,i,h=>by
  rw[An8,Ao8,Aw4];by_cases e:i=n
  ·subst e;simp
  ·have:=Wa (f:=f) (n:=n) (i:=i) (by omega)
   omega
theorem Ag3 {f:Nat->Nat}(h:∀i,1<=f i):∀n,n<=((List.range n).map f).sum
 |0=>An7 _
 |n+1=>by
  rw[An8,Ao8,Aw4]
  have:=Ag3 h n
  have:=h n
  simp;omega
theorem FO:∀(d:Nat) (p q:Pat),szP p<=d->PE p q->∀M,1100000+d<=M->d<=1048576->U3 M p q=some true
 |0,p,q,h,_,M,_,_=>by rw[Pv]at h;omega
 |d+1,p,q,h,he,0,hM,_=>by omega
 |d+1,p,q,h,he,M+1,hM,hd=>by
  obtain⟨h1,b,c,j,l,m,o⟩:=PE_of.1 he;rw[Pv]at h;have hn:=Ag3 (f:=fun i=>szP (p.L.g i)+1) (fun i=>by omega) p.L.n;refine eqR ?_;show ∃r,T0 (U3 M) M p q=some r/\_;unfold T0;refine ifF (by simp[h1]) (ifF (by simp[b]) (ifF (by simp[c]) (ifF (by simp[j]) (ifF (by simp[l]) (ifF (by simp[m]) ?_)))));refine AN (fun i x=>x=(i:Int)) p.L.n _ (by omega) rfl ?_;rintro a i x t rfl hs;by_cases hl:i<p.L.n
  ·refine ifT (by simp;omega) (ifT (by omega) ?_);rw[Ai0]
   have:=Wa (f:=fun i=>szP (p.L.g i)+1) hl
   have s:szP (p.L.g i)<=d:=by omega
   exact E7 (FO d _ _ s (o i hl) M (by omega) (by omega)) (ifF (by simp) (hs hl _ (K8 (by omega))))
  ·exact ifF (by simp;omega) ⟨_,rfl,rfl⟩
theorem Wb {N:Nat}(g:3000000<=N){l l' : Law}(h:LE l l')(hp:szP l.Left<=1048576)(f:szP l.Right<=1048576)(j:l.If.n<1100000)(m:l.Out.n<1100000):CR N l l' = some true:=by
 refine eqR ?_;unfold CR;have g1:=h.cond.1;have g2:=h.out.1;refine ltX (ifF (by simp[h.name]) (ifF (by simp[h.mode]) (ifF (by simp[g1]) (ifF (by simp[g2]) (E7 (FO 1048576 _ _ hp h.left N (by omega) (by omega)) (ifF (by simp) (E7 (FO 1048576 _ _ f h.right N (by omega) (by omega)) (ifF (by simp) ?_))))))));refine AN (fun i x=>x=(i:Int)) l.If.n _ (by omega) rfl ?_;rintro d i x a rfl hs;by_cases hl:i<l.If.n
 ·refine ifT (by simp;omega) (ifT (by omega) ?_);rw[Ai0,h.cond.2 i hl];exact ifF (by simp) (hs hl _ (K8 (by omega)))
 ·refine ifF (by simp;omega) ?_;refine AN (fun i x=>x=(i:Int)) l.Out.n _ (by omega) rfl ?_;rintro b i x a rfl c;by_cases hl:i<l.Out.n
  ·refine ifT (by simp;omega) (ifT (by omega) ?_);rw[Ai0,h.out.2 i hl];exact ifF (by simp) (c hl _ (K8 (by omega)))
  ·exact ifF (by simp;omega) ⟨_,rfl,rfl⟩
def LZ (l:Sl Law):Prop:=∀i,i<l.n->szP (l.g i).Left<=1048576/\szP (l.g i).Right<=1048576/\(l.g i).If.n<1100000/\(l.g i).Out.n<1100000
theorem Sr {N:Nat}(f:3000000<=N){a b:Sl Law}(h:LS a b)(hs:LZ a)(hn:a.n<1100000):Bk N a b=some true:=by
 obtain⟨h1,g⟩:=h;refine eqR ?_;unfold Bk;refine ifF (by simp[h1]) ?_;refine AN (fun i x=>x=(i:Int)) a.n _ (by omega) rfl ?_;rintro d i x j rfl c;by_cases hl:i<a.n
 ·refine ifT (by simp;omega) (ifT (by omega) ?_);rw[Ai0];obtain⟨s1,s2,s3,s4⟩:=hs i hl;exact E7 (Wb f (g i hl) s1 s2 s3 s4) (ifF (by simp) (c hl _ (K8 (by omega))))
 ·exact ifF (by simp;omega) ⟨_,rfl,rfl⟩
structure NC (h g:A5):Prop where
 tree:g.Tree=h.Tree
 laws:g.Laws=h.Laws
 n:g.On.n=h.On.n
 row:∀v,v<h.On.n->g.On.g v=h.On.g v
theorem Wc {N:Nat}(o:3000000<=N){h:A5}(c:Y2 h)(ht:h.Tree.n<1100000)(hl:h.Laws.n<1100000):∃g,CT N h=some g/\NC h g:=by
 have l:=c.on;unfold CT;refine ifT (by omega) (ifT (by omega) ?_);refine ET (fun i x (X:Sl (Sl Int))=>x=(i:Int)/\X.n=i/\∀v,v<i->X.g v=h.On.g v) h.On.n _ (by omega) ⟨rfl,rfl,fun j b=>absurd b (by omega)⟩ ?_;rintro d i x X hle ⟨rfl,hx,b⟩ hs;by_cases a:i<h.On.n
 ·have f:=c.len i a;refine ifT (by simp;omega) (ifT (by omega) ?_);rw[Ai0];refine ifT (by omega) (ifT (by omega) (hs a _ _ ⟨K8 (by omega),by show X.n+1=_;omega,fun v m=>?_⟩));show (if v<X.n then X.g v else h.On.g i)=_;by_cases e:v=i
  ·subst e;rw[if_neg (by omega)]
  ·rw[if_pos (by omega)];exact b v (by omega)
 ·exact ifF (by simp;omega) ⟨_,rfl,rfl,rfl,by show X.n=_;omega,fun v m=>b v (by omega)⟩
theorem Rf {N:Nat}(o:3000000<=N){h g:A5}(hc:NC h g)(j:Y2 h)(hs:LZ h.Laws)(ht:h.Tree.n<1100000)(hl:h.Laws.n<1100000):CS N g h=some true:=by
 have q:=j.on;have hn:=hc.n;refine eqR ?_;unfold CS;rw[hc.tree,hc.laws];refine ltX (ifF (by simp) (ifF (by simp[hn]) (E7 (Sr o (LS.refl _) hs hl) (ifF (by simp) ?_))));refine AN (fun i x=>x=(i:Int)) h.Tree.n _ (by omega) rfl ?_;rintro l i x b rfl c;by_cases a:i<h.Tree.n
 ·exact ifT (by simp;omega) (ifT (by omega) (ifF (by simp) (c a _ (K8 (by omega)))))
 ·refine ifF (by simp;omega) ?_;refine AN (fun i x=>x=(i:Int)) g.On.n _ (by omega) rfl ?_;rintro d i x b rfl f;by_cases a:i<g.On.n
  ·refine ifT (by simp;omega) (ifT (by omega) ?_);rw[Ai0,hc.row i (by omega)];have m:=j.len i (by omega);exact E7 (Hq (by omega) (by omega) (SE.refl _)) (ifF (by simp) (f a _ (K8 (by omega))))
  ·exact ifF (by simp;omega) ⟨_,rfl,rfl⟩
end Go.AM
namespace Go.AM
open Go.Proofs
theorem Ss {h:A5}{v:Nat}(hp:¬(0<=(h.Tree.g v).Parent/\(h.Tree.g v).Parent<v)):K0 h v=(Sl.nil:Sl Int).app (h.On.g v):=by rw[K0,dif_neg hp]
theorem EQ {h g:A5}(hc:NC h g):∀(m v:Nat),v<=m->v<h.On.n->K0 g v=K0 h v:=by
 intro m
 induction m using Nat.strongRecOn with
 |_ m ih=>
 intro v hm b;by_cases hp:0<=(h.Tree.g v).Parent/\(h.Tree.g v).Parent<v
 ·obtain⟨p,e⟩:∃p:Nat,(h.Tree.g v).Parent=(p:Int):=⟨(h.Tree.g v).Parent.toNat,by omega⟩;have a:p<v:=by omega
  rw[Bc (h:=g) (p:=p) (by rw[hc.tree];exact e) a,Bc e a,hc.row v b,ih p (by omega) p (Ai4 _) (by omega)]
 ·rw[Ss (h:=g) (by rw[hc.tree];exact hp),Ss hp,hc.row v b]
open Classical in
theorem CZ {N:Nat}{h g:A5}(hc:NC h g):hres N g=hres N h:=by
 have hn:=hc.n;have e1:KS g=KS h:=by
  unfold KS;refine propext ⟨?_,?_⟩
  ·rintro⟨v,h1,a⟩;rw[EQ hc v v (Ai4 _) (by omega)]at a;exact⟨v,by omega,a⟩
  ·rintro⟨v,h1,a⟩;rw[<- EQ hc v v (Ai4 _) h1]at a;exact⟨v,by omega,a⟩
 have e2:(∃v,v<h.On.n/\VV g v)=(∃v,v<h.On.n/\VV h v):=by
  refine propext ⟨?_,?_⟩
  ·rintro⟨v,h1,a⟩;unfold VV at a⊢;rw[hc.row v (by omega),hc.laws]at a;exact⟨v,by omega,a⟩
  ·rintro⟨v,h1,a⟩;unfold VV at a⊢;rw[<- hc.row v h1,<- hc.laws]at a;exact⟨v,by omega,a⟩
 have e3:∀i,XP g i=XP h i:=fun i=>by unfold XP;rw[hc.laws]
 unfold hres;simp only[hc.tree,hc.laws,e1,e2,e3,hn]
theorem Rg {h g:A5}(hc:NC h g)(a:Y2 h):Y2 g:=by have hn:=hc.n;refine⟨by rw[hc.laws];exact a.laws,by rw[hc.tree];exact a.tree,by rw[hn];exact a.on,fun v b=>?_⟩;rw[hc.row v (by omega)];exact a.len v (by omega)
theorem Pw {N:Nat}(l:3000000<=N){h g:A5}(hc:NC h g)(j:Y2 h)(v:Int):U2 N g v=U2 N h v:=by
 have c:=Rg hc j;have hn:=hc.n;unfold U2;rw[BH l c,BH l j,CZ hc,Ai6,Ai6];by_cases i:hres N h=0
 case neg=>
  have d:(hres N h != 0)=true:=by simpa using i
  rw[if_pos d,if_pos d]
 have f:¬(hres N h != 0)=true:=by simp[i]
 have a:=hres_zero.1 i;have b:Fo N g:=hres_zero.1 (by rw[CZ hc];exact i);rw[if_neg f,if_neg f,Bj,Bj,hc.tree,Ai6,Ai6];by_cases hb:(!((decide (0<=v))&&(decide (v<(h.Tree.n:Int)))))=true
 ·rw[if_pos hb,if_pos hb]
 rw[if_neg hb,if_neg hb];have q:0<=v/\v<(h.Tree.n:Int):=by simp at hb;omega
 obtain⟨u,rfl⟩:∃u:Nat,v=(u:Int):=⟨v.toNat,by omega⟩;have m:=a.tree.2.1;have o:=a.on;rw[CW c b.tree b.on N u (by omega) (by rw[hc.tree];omega),CW j a.tree a.on N u (by omega) (by omega),EQ hc u u (Ai4 _) (by omega)]
theorem Ub {N:Nat}(a:3000000<=N){h g:A5}(hc:NC h g)(b:Y2 h)(v:Int):Y1 N g v=Y1 N h v:=by unfold Y1;rw[Pw a hc b,hc.laws]
end Go.AM
namespace Go.AM
open IntKind (wrap)
open Go.Proofs
theorem Su {N:Nat}{s:Sl Int}(hn:s.n<N)(hs:s.n<1000000000)(v:Int):∃b,D4 N s v=some b/\(b=true ↔ ∃i,i<s.n/\s.g i=v):=by
 unfold D4
 suffices ∃r,G0 N s v=some r/\(0<=r ↔ ∃i,i<s.n/\s.g i=v) by obtain⟨r,r1,r2⟩:=this;exact E7 r1 ⟨_,rfl,by rw[decide_eq_true_eq];exact r2⟩
 unfold G0;refine AN (fun i x=>x=(i:Int)/\∀j,j<i->s.g j≠v) s.n _ hn ⟨rfl,fun j a=>absurd a (by omega)⟩ ?_;rintro d i x o ⟨rfl,a⟩ c;by_cases hl:i<s.n
 ·refine ifT (by simp;omega) (ifT (by omega) ?_);rw[Ai0];by_cases e:v=s.g i
  ·exact ifT (by simp[e]) ⟨_,rfl,fun _=>⟨i,hl,e.symm⟩,fun _=>by omega⟩
  ·refine ifF (by simpa using e) (c hl _ ⟨K8 (by omega),fun j l=>?_⟩);by_cases e2:j=i
   ·subst e2;exact fun f=>e f.symm
   ·exact a j (by omega)
 ·refine ifF (by simp;omega) ⟨_,rfl,fun h=>absurd h (by decide),?_⟩;rintro⟨j,h1,m⟩;exact absurd m (a j (by omega))
def Uc (h:A5)(law:Int)(v:Nat):Prop:=∃i,i<(K0 h v).n/\(K0 h v).g i=law
open Classical in
noncomputable def WS (h:A5) (law:Int):Nat->Sl Int
 |0=>(Sl.nil:Sl Int)
 |i+1=>if Uc h law i then (WS h law i).push (i:Int)else WS h law i
theorem Ma {h:A5}{law:Int}{i:Nat}(hm:Uc h law i):WS h law (i+1)=(WS h law i).push (i:Int):=if_pos hm
theorem Ud {h:A5}{law:Int}{i:Nat}(hm:¬Uc h law i):WS h law (i+1)=WS h law i:=if_neg hm
theorem Ah3 (h:A5)(law:Int):∀i,(WS h law i).n<=i
 |0=>An7 _
 |i+1=>by
  have:=Ah3 h law i
  by_cases hm:Uc h law i
  ·rw[Ma hm];show (WS h law i).n+1<=_;omega
  ·rw[Ud hm];omega
theorem Yz (h:A5)(law:Int):∀i (p:Int),(∃k,k<(WS h law i).n/\(WS h law i).g k=p) ↔ ∃v:Nat,v<i/\Uc h law v/\p=(v:Int)
 |0,p=>⟨fun⟨k,hk,_⟩=>absurd hk (An9 k),fun⟨v,c,_⟩=>absurd c (An9 v)⟩
 |i+1,p=>by
  have ih:=Yz h law i p;by_cases hm:Uc h law i
  ·rw[Ma hm];constructor
   ·rintro⟨k,hk,b⟩;have hk:k<(WS h law i).n+1:=hk;replace b:(if k<(WS h law i).n then (WS h law i).g k else (i:Int))=p:=b;by_cases a:k<(WS h law i).n
    ·rw[if_pos a]at b;obtain⟨v,v1,v2,v3⟩:=ih.1 ⟨k,a,b⟩;exact⟨v,by omega,v2,v3⟩
    ·rw[if_neg a]at b;exact⟨i,by omega,hm,b.symm⟩
   ·rintro⟨v,v1,v2,v3⟩;by_cases e:v=i
    ·subst e;exact⟨(WS h law v).n,Av3 _,by show (if (WS h law v).n<(WS h law v).n then _ else _)=_;rw[if_neg (by omega)];exact v3.symm⟩
    ·obtain⟨k,k1,k2⟩:=ih.2 ⟨v,by omega,v2,v3⟩;exact⟨k,Nat.lt_succ_of_lt k1,by show (if k<(WS h law i).n then _ else _)=_;rw[if_pos k1];exact k2⟩
  ·rw[Ud hm,ih];constructor
   ·rintro⟨v,v1,v2,v3⟩;exact⟨v,by omega,v2,v3⟩
   ·rintro⟨v,v1,v2,v3⟩;by_cases e:v=i
    ·subst e;exact absurd v2 hm
    ·exact⟨v,by omega,v2,v3⟩
theorem Wd {s t:Sl Int}{p:Int}:(∃i,i<(s.app t).n/\(s.app t).g i=p)↔(∃i,i<s.n/\s.g i=p) \/ ∃i,i<t.n/\t.g i=p:=by
 constructor
 ·rintro⟨i,b,a⟩;replace b:i<s.n+t.n:=b;replace a:(if i<s.n then s.g i else t.g (i-s.n))=p:=a;by_cases hl:i<s.n
  ·rw[if_pos hl]at a;exact .inl ⟨i,hl,a⟩
  ·rw[if_neg hl]at a;exact .inr ⟨i-s.n,by omega,a⟩
 ·rintro (⟨i,b,a⟩ | ⟨i,b,a⟩)
  ·exact⟨i,by show i<s.n+t.n;omega,by show (if i<s.n then s.g i else t.g (i-s.n))=p;rw[if_pos b];exact a⟩
  ·exact⟨s.n+i,by show s.n+i<s.n+t.n;omega,by show (if s.n+i<s.n then s.g (s.n+i)else t.g (s.n+i-s.n))=p;rw[if_neg (by omega),Nat.add_sub_cancel_left];exact a⟩
theorem Ue {N:Nat}(u:3000000<=N){h:A5}(s:Y2 h)(a:Fo N h){law:Int}(hl:0<=law/\law<(h.Laws.n:Int)):∃r,S9 N h law=some r/\r=(WS h law h.Tree.n,0):=by
 have v:=a.tree.2.1;have c:=a.on;unfold S9;rw[BH u s,hres_zero.2 a];refine E7 rfl (ifF (by decide) (ifF (by simp;omega) ?_));refine ET (fun i (x:Sl Int) y=>y=(i:Int)/\x=WS h law i) h.Tree.n _ (by omega) ⟨rfl,rfl⟩ ?_;rintro t i x y hle ⟨rfl,rfl⟩ hs;by_cases b:i<h.Tree.n
 case neg=>
  obtain rfl:i=h.Tree.n:=by omega
  exact ifF (by simp) ⟨_,rfl,rfl⟩
 have w:=Ah3 h law i;have z:(K0 h i).n<=64:=Ap1 fun f=>a.long ⟨i,by omega,f⟩;refine ifT (by simp;omega) (E7 (CW s a.tree c N i (by omega) b) ?_);refine ET (fun j (x7:Bool) x8=>x8=(j:Int)/\(x7=true ↔ ∃q,q<j/\(K0 h i).g q=law)) (K0 h i).n _ (by omega) ⟨rfl,by simp⟩ ?_;rintro d j x7 x8 hj ⟨rfl,l⟩ m;by_cases o:j<(K0 h i).n
 ·refine ifT (by simp;omega) (ifT (fun _=>by omega) (m o _ _ ⟨K8 (by omega),?_⟩));rw[Ai0,Ak2,l,beq_iff_eq];constructor
  ·rintro (⟨q,q1,q2⟩ | e)
   ·exact⟨q,by omega,q2⟩
   ·exact⟨j,by omega,e⟩
  ·rintro⟨q,q1,q2⟩;by_cases e:q=j
   ·subst e;exact .inr q2
   ·exact .inl ⟨q,by omega,q2⟩
 ·obtain rfl:j=(K0 h i).n:=by omega
  refine ifF (by simp) ?_;by_cases hx:x7=true
  ·exact ifT hx (ifT (by show ((WS h law i).n+1)*8<=_/\(WS h law i).n+1<=_;omega) (hs b _ _ ⟨K8 (by omega),(Ma (l.1 hx)).symm⟩))
  ·exact ifF hx (hs b _ _ ⟨K8 (by omega),(Ud (fun f=>hx (l.2 f))).symm⟩)
theorem Uf {N:Nat}(u:3000000<=N){h:A5}(w:Y2 h)(a:Fo N h){law:Int}(hl:0<=law/\law<(h.Laws.n:Int)):∃r,G9 N h law=some r/\r=(WS h law h.Tree.n,0):=by
 have a0:=a.tree.2.1;have a1:=a.on;unfold G9;rw[CY u w,hres_zero.2 a];refine E7 rfl (ifF (by decide) (ifF (by simp;omega) ?_));refine ET (fun i (x:Sl Int) y=>y=(i:Int)/\x=WS h law i) h.Tree.n _ (by omega) ⟨rfl,rfl⟩ ?_;rintro m i x y hle ⟨rfl,rfl⟩ hs;by_cases j:i<h.Tree.n
 case neg=>
  obtain rfl:i=h.Tree.n:=by omega
  exact ifF (by simp) ⟨_,rfl,rfl⟩
 have a2:=Ah3 h law i;have ho:=(on_ok a j).1;refine ifT (by simp;omega) (ifT (by omega) ?_);rw[Ai0];obtain⟨b,b1,b2⟩:=Su (N:=N) (s:=h.On.g i) (by omega) (by omega) law;obtain⟨c,c1,c2⟩:=Su (N:=N) (s:=WS h law i) (by omega) (by omega) (h.Tree.g i).Parent;have d:Uc h law i↔(b=true \/ c=true):=by
  rw[b2,c2,Yz];unfold Uc;rcases W7 a.tree j with⟨_,e⟩ | ⟨p,hp,e⟩
  ·rw[Ao (by omega),Wd,e];constructor
   ·rintro (⟨q,hq,_⟩ | f)
    ·exact absurd hq (An9 q)
    ·exact .inl f
   ·rintro (f|⟨v,_,_,o⟩)
    ·exact .inr f
    ·omega
  ·rw[Bc e hp,Wd,e];constructor
   ·rintro (f|f)
    ·exact .inr ⟨p,hp,f,rfl⟩
    ·exact .inl f
   ·rintro (f|⟨v,_,o,hv2⟩)
    ·exact .inr f
    ·obtain rfl:p=v:=by omega
     exact .inl o
 have fin:∀z:Bool,(z=true↔Uc h law i)->∃r,(if z then
  if (((WS h law i).n+(Sl.of [(i:Int)]:Sl Int).n)*8<=140737488355328/\(WS h law i).n+(Sl.of [(i:Int)]:Sl Int).n<=140737488355328)then
   m ((WS h law i).push (i:Int)) (wrap .i64 ((i:Int)+1))
  else none
  else
   m (WS h law i) (wrap .i64 ((i:Int)+1)))=some r/\r=(WS h law h.Tree.n,0):=by
  intro z t;by_cases l:z=true
  ·exact ifT l (ifT (by show ((WS h law i).n+1)*8<=_/\(WS h law i).n+1<=_;omega) (hs j _ _ ⟨K8 (by omega),(Ma (t.1 l)).symm⟩))
  ·exact ifF l (hs j _ _ ⟨K8 (by omega),(Ud (fun f=>l (t.2 f))).symm⟩)
 refine E7 b1 (ltX ?_);by_cases hb:b=true
 ·exact ifT hb (fin true ⟨fun _=>d.2 (.inl hb),fun _=>rfl⟩)
 ·exact ifF hb (E7 c1 (fin c ⟨fun h=>d.2 (.inr h),fun h=>(d.1 h).resolve_left hb⟩))
end Go.AM
namespace Go.AM
open Go.Proofs
theorem We {h g:A5}(hc:NC h g){law:Int}:∀i,i<=h.On.n->WS g law i=WS h law i
 |0,_=>rfl
 |i+1,hi=>by
  have ih:=We hc (law:=law) i (by omega);have e:Uc g law i↔Uc h law i:=by unfold Uc;rw[EQ hc i i (Ai4 _) (by omega)]
  by_cases hm:Uc h law i
  ·rw[Ma hm,Ma (e.2 hm),ih]
  ·rw[Ud hm,Ud (fun f=>hm (e.1 f)),ih]
theorem Ug {N:Nat}(c:3000000<=N){h g:A5}(hc:NC h g)(j:Y2 h)(law:Int):∃r,G9 N g law=some r/\S9 N h law=some r/\r.1.n<=63:=by
 have a:=Rg hc j;by_cases l:hres N h=0
 case neg=>
  have d:(hres N h != 0)=true:=by simpa using l
  refine⟨((Sl.nil:Sl Int),hres N h),?_,?_,An7 _⟩
  ·unfold G9;rw[CY c a,CZ hc,Ai6,if_pos d]
  ·unfold S9;rw[BH c j,Ai6,if_pos d]
 have b:=hres_zero.1 l;have f:Fo N g:=hres_zero.1 (by rw[CZ hc];exact l);by_cases hl:0<=law/\law<(h.Laws.n:Int)
 ·obtain⟨r,r1,r2⟩:=Uf c a f (law:=law) (by rw[hc.laws];exact hl);obtain⟨r',r1',r2'⟩:=Ue c j b hl;have m:=b.tree.2.1;have hn:=Ah3 h law h.Tree.n;have e:r=r':=by rw[r2,r2',hc.tree,We hc _ (by rw[b.on];omega)]
  subst e;exact⟨r,r1,r1',by rw[r2'];show (WS h law h.Tree.n).n<=63;omega⟩
 ·have hb:((decide (law<0))||(decide ((h.Laws.n:Int)<=law)))=true:=by simp;omega
  have i:¬(hres N h != 0)=true:=by simp[l]
  refine⟨((Sl.nil:Sl Int),3),?_,?_,An7 _⟩
  ·unfold G9;rw[CY c a,CZ hc,Ai6,if_neg i,hc.laws,if_pos hb]
  ·unfold S9;rw[BH c j,Ai6,if_neg i,if_pos hb]
theorem Wf:∀(p q:Pat),PE p q->szP p=szP q
 |.nil,q,h=>by obtain⟨_,_,_,_,_,a,_⟩:=PE_of.1 h;rw[Pv q,a];rfl
 |.mk k is no mn mx n g,q,h=>by obtain⟨_,_,_,_,_,a,c⟩:=PE_of.1 h;rw[Pv q,a,Pv (.mk k is no mn mx n g)];congr 2;refine Ak3 fun i b=>?_;have b:i<n:=Ao2.1 b;show szP (g i)+1=_;rw[Wf (g i) _ (c i b)]
theorem GR {N:Nat}(c:3000000<=N)(hw:An N=some true){h:A5}(l:Y2 h)(hs:LZ h.Laws)(ht:h.Tree.n<1100000)(hl:h.Laws.n<1100000)(v law:Int):P0 N h v law=some true:=by
 refine eqR ?_;unfold P0;obtain⟨b,b1,_⟩:=VZ c h;refine E7 b1 ?_;by_cases hb:(!b)=true
 ·exact ifT hb (E7 hw ⟨_,rfl,rfl⟩)
 refine ifF hb ?_;obtain⟨g,g1,hc⟩:=Wc c l ht hl;have m:=Rg hc l;obtain⟨s,e,l1,l2,l3⟩:=Sq c m v;have l2':=l2;rw[Pw c hc l]at l2';obtain⟨t,t',f,k1,k2,k3,k4⟩:=XS c m v;have k2':=k2;rw[Ub c hc l]at k2';obtain⟨r,r1,r2,r3⟩:=Ug c hc l law;have a3:s.n<=64:=by
  rcases l3 with⟨_,a,y,z,rfl⟩ | ⟨_,rfl⟩
  ·exact Ap1 fun q=>a.long ⟨v.toNat,by rw[a.on];omega,q⟩
  ·exact An7 _
 have o:LS t t' /\ LZ t/\t.n<1100000:=by
  have j:LS t t':=⟨k3.1.symm,fun i d=>(k3.2 i (by rw[k3.1];exact d)).symm⟩;refine⟨j,?_⟩;rcases k4 with⟨_,a,y,z,u⟩ | ⟨_,hz⟩
  ·have a4:(K0 g v.toNat).n<=64:=Ap1 fun q=>a.long ⟨v.toNat,by rw[a.on];omega,q⟩;have w:t'.n=(K0 g v.toNat).n:=u.1;have a0:=Re a v.toNat v.toNat (Ai4 _) (by omega);refine⟨fun i d=>?_,by rw[j.1,w];omega⟩;have a1:i<t'.n:=by rw[<- j.1];exact d
   have hle:=j.2 i d;have e2:t'.g i=g.Laws.g ((K0 g v.toNat).g i).toNat:=u.2 i a1;have a2:=a0 i (by omega);rw[hc.laws]at a2 e2;have x:=hs ((K0 g v.toNat).g i).toNat (by omega);rw[<- e2]at x;rw[Wf _ _ hle.left,Wf _ _ hle.right,hle.cond.1,hle.out.1];exact x
  ·exact⟨fun i d=>by omega,by omega⟩
 refine E7 g1 (E7 l1 (E7 l2' (E7 k1 (E7 k2' (E7 r1 (E7 r2 (E7 (CY c m) (E7 (BH c l) (ifT (by simp[CZ hc]) ?_)))))))));refine E7 (Hq (by dsimp only;omega) (by dsimp only;omega) (SE.refl s)) (ifT rfl (ifT (by simp) (E7 (Sr c o.1 o.2.1 o.2.2) (ifT rfl (ifT (by simp) ?_)))));exact E7 (Hq (by omega) (by omega) (SE.refl _)) (ifT rfl (ifT (by simp) (E7 (Rf c hc l hs ht hl) (ifT rfl (E7 hw ⟨_,rfl,rfl⟩)))))
end Go.AM
