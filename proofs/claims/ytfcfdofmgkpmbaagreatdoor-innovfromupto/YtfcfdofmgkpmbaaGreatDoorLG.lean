/- What a law's walk and its plain proof need, part 7: no condition of its own. -/
import Derived.Test.YtfcfdofmgkpmbaaGreatDoorLF
set_option linter.unusedSimpArgs false
set_option linter.unusedVariables false
set_option linter.unusedSectionVars false
namespace Go.AM
open Go.Proofs
abbrev nameC:Str:=[97,98,99,100,101,102,103,104,105,106,107,108,109,110,111,112,113,114,115,116,117,118,119,120,121,122,65,66,67,68,69,70,71,72,73,74,75,76,77,78,79,80,81,82,83,84,85,86,87,88,89,90,48,49,50,51,52,53,54,55,56,57,45]
theorem Wu {p:UInt8->Bool}:∀{l:Str},l.dropWhile p=[] ↔ ∀x∈l,p x=true
 |[]=>by simp
 |a::l=>by
  rw[List.dropWhile_cons];by_cases h:p a=true
  ·rw[if_pos h,Wu];simp[h]
  ·rw[if_neg h];simp[h]
theorem Yh (l cs:Str):Lib.trimS l cs=[] ↔ ∀b∈l,cs.contains b=true:=by
 unfold Lib.trimS Lib.trimLeftS Lib.trimRightS;rw[Wu];constructor
 ·intro h;have h:∀x∈l.reverse.dropWhile (cs.contains ·),cs.contains x=true:=fun x hx=>h x (List.mem_reverse.2 hx);have h2:l.reverse.dropWhile (cs.contains ·)=[]:=by
   rcases e:l.reverse.dropWhile (cs.contains ·)with _|⟨y,r⟩
   ·rfl
   ·have h3:=h y (by rw[e];simp);have h4:¬cs.contains y=true:=by
     have:=List.head_dropWhile_not (cs.contains ·) (l:=l.reverse) (by rw[e];simp)
     simp only[e,List.head_cons]at this;rw[this];exact Bool.false_ne_true
    exact absurd h3 h4
  rw[Wu]at h2;exact fun b hb=>h2 b (List.mem_reverse.2 hb)
 ·intro h x hx;have hx:=List.mem_reverse.1 hx;exact h x (List.mem_reverse.1 ((List.dropWhile_sublist _).mem hx))
abbrev Oh (y:Int):Bool:=((((decide (97<=y))&&(decide (y<=122)))||((decide (65<=y))&&(decide (y<=90))))||((decide (48<=y))&&(decide (y<=57))))||(y==45)
theorem Wv:∀k:Fin 256,nameC.contains (UInt8.ofNat k.val)=Oh ((k.val:Nat):Int):=by decide +kernel
theorem Ww (b:UInt8):nameC.contains b=Oh ((b.toNat:Nat):Int):=by
 have:=Wv ⟨b.toNat,b.toNat_lt⟩
 rw[show UInt8.ofNat b.toNat=b by simp]at this;exact this
theorem Qc {N:Nat}{s:Str}(hN:s.length<N)(hs:s.length<1000000000):∃b,AL N s=some b/\AJ N s=some b:=by
 have h2:∃b,AJ N s=some b/\(b=true↔(∀c∈s,nameC.contains c=true)/\1<=s.length/\s.length<=24):=by
  unfold AJ;refine Eu (fun i x1=>x1=(i:Int)/\∀j (h:j<s.length),j<i->nameC.contains s[j]=true) s.length _ hN ⟨rfl,fun j _ hj=>absurd hj (by omega)⟩ ?_;rintro self i x1 hi ⟨rfl,h⟩ hs2;by_cases hl:i<s.length
  ·refine ifT (by simp;omega) (ifT (by omega) ?_);have eb:V8 s (i:Int)=((s[i].toNat:Nat):Int):=by simp[V8,hl]
   by_cases hb:nameC.contains s[i]=true
   ·refine ifF (by rw[eb];show ¬(!(Oh ((s[i].toNat:Nat):Int)))=true;rw[<- Ww,hb];simp) (hs2 hl _ ⟨N9 (by omega),fun j hj hj2=>?_⟩);by_cases e:j=i
    ·subst e;exact hb
    ·exact h j hj (by omega)
   ·refine ifT ?_ ⟨false,rfl,by simp,fun hh=>absurd (hh.1 s[i] (List.getElem_mem hl)) hb⟩;rw[eb];show (!(Oh ((s[i].toNat:Nat):Int)))=true;rw[<- Ww];simpa using hb
  ·refine ifF (by simp;omega) ⟨_,rfl,?_⟩;simp only[Bool.and_eq_true,decide_eq_true_eq];constructor
   ·rintro⟨g1,g2⟩;refine⟨fun c hc=>?_,by omega,by omega⟩;obtain⟨j,hj,rfl⟩:=List.getElem_of_mem hc;exact h j hj (by omega)
   ·rintro⟨_,g1,g2⟩;exact⟨by omega,by omega⟩
 obtain⟨b,e,hb⟩:=h2;refine⟨b,?_,e⟩
 suffices h:∃r,AL N s=some r/\(r=true↔(∀c∈s,nameC.contains c=true)/\1<=s.length/\s.length<=24) by obtain⟨r,hr,hr2⟩:=h;rw[hr,show r=b by rw[Bool.eq_iff_iff,hr2,hb]]
 unfold AL;refine ltX ?_;by_cases h0:s=[]
 ·exact ifF (by simp[h0]) ⟨false,rfl,by simp[h0]⟩
 refine ifT (by simp[h0]) ?_;have hpos:0<s.length:=List.length_pos_iff.2 h0;by_cases h1:s.length<=24
 ·refine ifT (by simp;omega) (I5 (x:=Lib.trimS s nameC) ?_ ⟨_,rfl,?_⟩)
  ·unfold CN;rw[if_pos ⟨by omega,by decide,by decide⟩]
  ·rw[<- Yh];constructor
   ·intro h;exact⟨by simpa using h,by omega,h1⟩
   ·rintro⟨h,_⟩;simp[h]
 ·exact ifF (by simp;omega) ⟨false,rfl,by simp;intro _ _;omega⟩
end Go.AM
namespace Go.AM
open IntKind (wrap)
open Go.Proofs
theorem Qd {N:Nat}{s:Sl Ai}(hN:s.n<N)(hs:s.n<1000000){f:Ai->Option Bool}{b:Nat->Bool}(hf:∀i,i<s.n->f (s.g i)=some (b i)) :∃r,B9 N s f=some r/\(r=true ↔ ∃i,i<s.n/\b i=true):=by
 unfold B9 D6
 have:∃y,Az N (fun (self1:Int->Option Int) (x1:Int)=>
  if (decide (x1<(s.n:Int))) then
   if ((0:Int)<=x1/\x1<(s.n:Int))then
    (f (s.g x1.toNat)).bind fun y3=>
    if y3 then
     some x1
    else
     self1 (wrap .i64 (x1+1))
   else none
  else
   some (-1)) 0=some y/\(0<=y ↔ ∃i,i<s.n/\b i=true):=by
  refine Eu (fun i x1=>x1=(i:Int)/\∀j,j<i->b j=false) s.n _ hN ⟨rfl,fun j hj=>absurd hj (by omega)⟩ ?_;rintro self i x1 hi ⟨rfl,h⟩ hs2;by_cases hl:i<s.n
  ·refine ifT (by simp;omega) (ifT (by omega) (I5 (by rw[Int.toNat_natCast];exact hf i hl) ?_));cases hb:b i
   ·refine ifF (by simp) (hs2 hl _ ⟨N9 (by omega),fun j hj=>?_⟩);by_cases e:j=i
    ·subst e;exact hb
    ·exact h j (by omega)
   ·exact ifT rfl ⟨i,rfl,fun _=>⟨i,hl,hb⟩,fun _=>by omega⟩
  ·refine ifF (by simp;omega) ⟨-1,rfl,fun h=>absurd h (by decide),?_⟩;rintro⟨j,hj,hb⟩;rw[h j (by omega)]at hb;cases hb
 obtain⟨y,e,hy⟩:=this;exact I5 e ⟨_,rfl,by rw[decide_eq_true_eq];exact hy⟩
def Wx (l:Law):Prop:=okL l/\l.Name.length<1100000/\l.If.n<1100000/\l.Out.n<1100000/\∀i,i<l.Out.n->okO (l.Out.g i)
theorem UE {N:Nat}{s:Sound}(hs:okS s):∃b,E7 N s=some b/\(b=true↔vS s):=by obtain⟨p,m,e⟩:=hs;exact⟨vB p m,by rw[e];exact PZ p m,(Ye e).symm⟩
theorem UF {N:Nat}(hN:1000<=N){s:Sound}(hs:okS s):∃b,S2 N s=some b/\(b=true↔vS s):=by obtain⟨p,m,e⟩:=hs;exact⟨vB p m,by rw[e];exact MJ p m hN,(Ye e).symm⟩
def Hn (N:Nat)(l:Law):Prop:=AJ N l.Name=some true/\chk 40 [l.Left]/\chk 40 [l.Right]/\l.If.n<=4/\l.Out.n<=6/\l.If.n+l.Out.n≠0/\1<=l.Mode/\l.Mode<=3/\(∀i,i<l.If.n->vS (l.If.g i))/\∀i,i<l.Out.n->Ad N (l.Out.g i) l.If.n=some true
def Aj2 (N:Nat)(l:Law)(e:Int):Prop:=(e=0/\Hn N l) \/ (e=17/\¬Hn N l)
theorem UG {N:Nat}(hN:3000000<=N){l:Law}(hl:Wx l):∃e,T0 N l=some e/\Aj2 N l e:=by
 have hb1:=hl.2.1;have hb2:=hl.2.2.1;have hb3:=hl.2.2.2.1;unfold T0;obtain⟨b0,e0,e0'⟩:=Qc (N:=N) (s:=l.Name) (by omega) (by omega);refine I5 e0 ?_;cases b0
 ·exact ifT rfl ⟨17,rfl,.inr ⟨rfl,fun h=>by have:=h.1;rw[e0']at this;cases this⟩⟩
 refine ifF (by simp) ?_;obtain⟨y2,e2,h2⟩:=Ta (N:=N) (by omega) hl.1.1;refine I5 e2 ?_;by_cases c2:y2=0
 case neg=>exact ifT (by simpa using c2) ⟨17,rfl,.inr ⟨rfl,fun h=>c2 (h2.2 h.2.1)⟩⟩
 refine ifF (by simp[c2]) ?_;obtain⟨y3,e3,h3⟩:=Ta (N:=N) (by omega) hl.1.2.1;refine I5 e3 ?_;by_cases c3:y3=0
 case neg=>exact ifT (by simpa using c3) ⟨17,rfl,.inr ⟨rfl,fun h=>c3 (h3.2 h.2.2.1)⟩⟩
 refine ifF (by simp[c3]) ?_;by_cases c4:4<l.If.n
 ·exact ifT (by simp;omega) ⟨17,rfl,.inr ⟨rfl,fun h=>by have:=h.2.2.2.1;omega⟩⟩
 refine ifF (by simp;omega) ?_;by_cases c5:6<l.Out.n
 ·exact ifT (by simp;omega) ⟨17,rfl,.inr ⟨rfl,fun h=>by have:=h.2.2.2.2.1;omega⟩⟩
 refine ifF (by simp;omega) ?_;rw[Ai4 (by omega)];by_cases c6:l.If.n+l.Out.n=0
 ·exact ifT (by rw[c6];rfl) ⟨17,rfl,.inr ⟨rfl,fun h=>h.2.2.2.2.2.1 c6⟩⟩
 refine ifF (by simp;omega) ?_;by_cases c7:l.Mode<1 \/ 3<l.Mode
 ·exact ifT (by simp;omega) ⟨17,rfl,.inr ⟨rfl,fun h=>by have g1:=h.2.2.2.2.2.2.1;have g2:=h.2.2.2.2.2.2.2.1;omega⟩⟩
 refine ifF (by simp;omega) ?_;have hv:∀i,∃b,i<l.If.n->V4 N (l.If.g i)=some b/\(b=true ↔ ¬vS (l.If.g i)):=by
  intro i;by_cases hi:i<l.If.n
  ·obtain⟨b,eb,hb⟩:=UE (N:=N) (hl.1.2.2 i hi);refine⟨!b,fun _=>⟨by unfold V4;rw[eb];rfl,?_⟩⟩;rw[<- hb];simp
  ·exact⟨false,fun h=>absurd h hi⟩
 obtain⟨f,hf⟩:=Classical.axiomOfChoice hv;obtain⟨y4,e4,h4⟩:=Qb (N:=N) (w:=l.If) (by omega) (by omega) (f:=fun u1=>V4 N u1) (fun i hi=>(hf i hi).1);refine I5 e4 ?_;cases hy4:y4
 case true=>obtain⟨i,hi,hb⟩:=h4.1 hy4;exact ifT rfl ⟨17,rfl,.inr ⟨rfl,fun h=>(hf i hi).2.1 hb (h.2.2.2.2.2.2.2.2.1 i hi)⟩⟩
 refine ifF (by simp) ?_;have ho:∀i,∃b,i<l.Out.n->V2 N (l.Out.g i) (l.If.n:Int)=some b/\(b=true ↔ ¬Ad N (l.Out.g i) l.If.n=some true):=by
  intro i;by_cases hi:i<l.Out.n
  ·obtain⟨b,eb,_⟩:=Tb (N:=N) (by omega) (hl.2.2.2.2 i hi) (l.If.n:Int);refine⟨!b,fun _=>⟨by unfold V2;rw[eb];rfl,?_⟩⟩;rw[eb];simp
  ·exact⟨false,fun h=>absurd h hi⟩
 obtain⟨g,hg⟩:=Classical.axiomOfChoice ho;obtain⟨y5,e5,h5⟩:=Qd (N:=N) (s:=l.Out) (by omega) (by omega) (f:=fun u2=>V2 N u2 (l.If.n:Int)) (fun i hi=>(hg i hi).1);refine I5 e5 ?_;cases hy5:y5
 case true=>obtain⟨i,hi,hb⟩:=h5.1 hy5;exact ifT rfl ⟨17,rfl,.inr ⟨rfl,fun h=>(hg i hi).2.1 hb (h.2.2.2.2.2.2.2.2.2 i hi)⟩⟩
 refine ifF (by simp) ⟨0,rfl,.inl ⟨rfl,e0',h2.1 c2,h3.1 c3,by omega,by omega,c6,by omega,by omega,fun i hi=>?_,fun i hi=>?_⟩⟩
 ·refine Classical.byContradiction fun hn=>?_
  have:=h4.2 ⟨i,hi,(hf i hi).2.2 hn⟩
  rw[hy4]at this;cases this
 ·refine Classical.byContradiction fun hn=>?_
  have:=h5.2 ⟨i,hi,(hg i hi).2.2 hn⟩
  rw[hy5]at this;cases this
theorem UH {N:Nat}(hN:3000000<=N){l:Law}(hl:Wx l):∃e,AK N l=some e/\Aj2 N l e:=by
 have hb1:=hl.2.1;have hb2:=hl.2.2.1;have hb3:=hl.2.2.2.1;unfold AK;obtain⟨b0,e0,e0'⟩:=Qc (N:=N) (s:=l.Name) (by omega) (by omega);refine I5 e0' (ltX ?_);cases b0
 ·exact ifT rfl (ifT rfl ⟨17,rfl,.inr ⟨rfl,fun h=>by have:=h.1;rw[e0']at this;cases this⟩⟩)
 refine ifF (by simp) ?_;obtain⟨y2,e2,h2⟩:=Qa (N:=N) (by omega) hl.1.1;refine I5 e2 ?_;by_cases c2:y2=0
 case neg=>exact ifT (by simpa using c2) (ifT rfl ⟨17,rfl,.inr ⟨rfl,fun h=>c2 (h2.2 h.2.1)⟩⟩)
 refine ifF (by simp[c2]) ?_;obtain⟨y3,e3,h3⟩:=Qa (N:=N) (by omega) hl.1.2.1;refine I5 e3 ?_;by_cases c3:y3=0
 case neg=>exact ifT (by simpa using c3) ⟨17,rfl,.inr ⟨rfl,fun h=>c3 (h3.2 h.2.2.1)⟩⟩
 refine ifF (by simp[c3]) ?_;rw[Ai4 (by omega)];by_cases hall:l.If.n<=4/\l.Out.n<=6/\l.If.n+l.Out.n≠0/\1<=l.Mode/\l.Mode<=3
 case neg=>refine ifT ?_ ⟨17,rfl,.inr ⟨rfl,fun h=>hall ⟨h.2.2.2.1,h.2.2.2.2.1,h.2.2.2.2.2.1,h.2.2.2.2.2.2.1,h.2.2.2.2.2.2.2.1⟩⟩⟩;simp only[Bool.or_eq_true,decide_eq_true_eq,beq_iff_eq];omega
 refine ifF (by simp only[Bool.or_eq_true,decide_eq_true_eq,beq_iff_eq];omega) ?_;obtain⟨c4,c5,c6,c7,c8⟩:=hall;refine Eu (fun i x1=>x1=(i:Int)/\∀j,j<i->vS (l.If.g j)) l.If.n _ (by omega) ⟨rfl,fun j hj=>absurd hj (by omega)⟩ ?_;rintro self i x1 hi ⟨rfl,h⟩ hs;by_cases hlt:i<l.If.n
 ·obtain⟨b,eb,hb⟩:=UF (N:=N) (by omega) (hl.1.2.2 i hlt);refine ifT (by simp;omega) (ifT (by omega) (I5 (by rw[Int.toNat_natCast];exact eb) ?_));cases b
  ·exact ifT rfl ⟨17,rfl,.inr ⟨rfl,fun h=>by have:=hb.2 (h.2.2.2.2.2.2.2.2.1 i hlt);cases this⟩⟩
  ·refine ifF (by simp) (hs hlt _ ⟨N9 (by omega),fun j hj=>?_⟩);by_cases e:j=i
   ·subst e;exact hb.1 rfl
   ·exact h j (by omega)
 refine ifF (by simp;omega) ?_;have hV:∀j,j<l.If.n->vS (l.If.g j):=fun j hj=>h j (by omega);refine Eu (fun i x1=>x1=(i:Int)/\∀j,j<i->Ad N (l.Out.g j) l.If.n=some true) l.Out.n _ (by omega) ⟨rfl,fun j hj=>absurd hj (by omega)⟩ ?_;rintro self2 k x2 hk ⟨rfl,h'⟩ hs2;by_cases hlk:k<l.Out.n
 ·obtain⟨b,eb,eb'⟩:=Tb (N:=N) (by omega) (hl.2.2.2.2 k hlk) (l.If.n:Int);refine ifT (by simp;omega) (ifT (by omega) (I5 (by rw[Int.toNat_natCast];exact eb') ?_));cases b
  ·exact ifT rfl ⟨17,rfl,.inr ⟨rfl,fun h=>by have:=h.2.2.2.2.2.2.2.2.2 k hlk;rw[eb]at this;cases this⟩⟩
  ·refine ifF (by simp) (hs2 hlk _ ⟨N9 (by omega),fun j hj=>?_⟩);by_cases e:j=k
   ·subst e;exact eb
   ·exact h' j (by omega)
 ·exact ifF (by simp;omega) ⟨0,rfl,.inl ⟨rfl,e0',h2.1 c2,h3.1 c3,c4,c5,c6,c7,c8,hV,fun j hj=>h' j (by omega)⟩⟩
theorem Wy {N:Nat}{l:Law}{e e' : Int}(h:Aj2 N l e)(h' : Aj2 N l e'):e=e':=by
 rcases h with⟨rfl,h⟩ | ⟨rfl,h⟩<;>rcases h' with⟨rfl,h'⟩ | ⟨rfl,h'⟩
 ·rfl
 ·exact absurd h h'
 ·exact absurd h' h
 ·rfl
theorem Qe {N:Nat}(hN:3000000<=N){l:Law}(hl:Wx l):∃e,T0 N l=some e/\AK N l=some e/\Aj2 N l e:=by obtain⟨e,h,c⟩:=UG hN hl;obtain⟨e',h',c'⟩:=UH hN hl;obtain rfl:=Wy c c';exact⟨_,h,h',c⟩
end Go.AM
namespace Go.AM
open Go.Proofs
end Go.AM
namespace Go.AM
open Go.Proofs
end Go.AM
namespace Go.AM
open Go.Proofs
end Go.AM
namespace Go.AM
open Go.Proofs
def YU (laws:Sl Law):Prop:=∀i,i<laws.n->Wx (laws.g i)
def Tc (N:Nat)(laws:Sl Law):Prop:=laws.n<=64/\∀i,i<laws.n->Hn N (laws.g i)
end Go.AM
namespace Go.AM
open Go.Proofs
end Go.AM
namespace Go.AM
open Go.Proofs
def dep:Nat->Pat->Prop
 |0,_=>False
 |d+1,p=>p.L.n<=40/\∀i,i<p.L.n->dep d (p.L.g i)
theorem YV:∀(d:Nat) (p:Pat),dep d p->∀e,d<=e->dep e p
 |0,_,h,_,_=>h.elim
 |d+1,p,h,0,he=>by omega
 |d+1,p,h,e+1,he=>⟨h.1,fun i hi=>YV d _ (h.2 i hi) e (by omega)⟩
theorem Qf {N:Nat}(hN:1000<=N):∀(d:Nat),d<=40->∀(p:Pat) (M:Nat),N+d+2<=M->∃r:Nat,Z3 M p ((40-d:Nat):Int)=some (r:Int)/\40-d<r/\r<=41/\(r<=40->dep (d+1) p)
 |d,hd,p,0,hM=>by omega
 |d,hd,p,M+1,hM=>by
  have:∃x,Z3 (M+1) p ((40-d:Nat):Int)=some x/\∃r:Nat,x=(r:Int)/\40-d<r/\r<=41/\(r<=40->dep (d+1) p):=by
   show ∃x,At (Z3 M) M p _=some x/\_;unfold At;rw[N9 (by omega)];refine Db (fun i x1 x2=>x2=(i:Int)/\∃k:Nat,x1=(k:Int)/\40-d+1+i<=k/\k<=41/\i<=p.L.n/\(k<=40->∀j,j<i->dep d (p.L.g j))) 41 _ (by omega) ⟨rfl,40-d+1,rfl,by omega,by omega,by omega,fun _ j hj=>absurd hj (by omega)⟩ ?_;rintro self i x1 x2 hi ⟨rfl,k,rfl,h1,h2,h3,h4⟩ hs;by_cases hc:i<p.L.n/\k<=40
   ·refine ifT (by simp only[Bool.and_eq_true,decide_eq_true_eq];omega) (ifT (by omega) ?_);obtain⟨r,hr,r1,r2,r3⟩:=Qf hN (40-k) (by omega) (p.L.g i) M (by omega);rw[show ((40-(40-k):Nat):Int)=(k:Int) by omega]at hr;refine I5 (by rw[Int.toNat_natCast];exact hr) (hs (by omega) _ _ ⟨N9 (by omega),r,rfl,by omega,r2,by omega,fun hr40 j hj=>?_⟩);by_cases e:j=i
    ·subst e;exact YV _ _ (r3 hr40) d (by omega)
    ·exact h4 hc.2 j (by omega)
   ·refine ifF (by simp only[Bool.and_eq_true,decide_eq_true_eq];omega) ⟨_,rfl,k,rfl,by omega,h2,fun hk=>⟨by omega,fun j hj=>h4 hk j (by omega)⟩⟩
  obtain⟨x,h1,r,rfl,h2⟩:=this;exact⟨r,h1,h2⟩
theorem KL:∀(d:Nat) (p:Pat),dep d p->∀M,100+d<=M->∃r,U8 M p=some r
 |0,p,h,M,_=>h.elim
 |d+1,p,h,0,hM=>by omega
 |d+1,p,h,M+1,hM=>by
  suffices ∃r,U8 (M+1) p=some r/\True by obtain⟨r,h,_⟩:=this;exact⟨r,h⟩
  show ∃x,S5 (U8 M) M p=some x/\_;unfold S5;have hn:=h.1;refine Db (fun i x1 x2=>x2=(i:Int)) p.L.n _ (by omega) rfl ?_;rintro self i x1 x2 hi rfl hs;by_cases hl:i<p.L.n
  ·obtain⟨r,hr⟩:=KL d (p.L.g i) (h.2 i hl) M (by omega);exact ifT (by simp;omega) (ifT (by omega) (I5 (by rw[Int.toNat_natCast];exact hr) (hs hl _ _ (N9 (by omega)))))
  ·exact ifF (by simp;omega) ⟨_,rfl,trivial⟩
theorem Ho {N:Nat}(hN:2000<=N)(p:Pat):∃r:Nat,U7 N p=some (r:Int)/\(r<=40->dep 41 p):=by obtain⟨r,h1,_,_,h2⟩:=Qf (N:=1000) (by omega) 40 (by omega) p N (by omega);exact⟨r,by unfold U7;rw[show Z3 N p 0=some (r:Int) from h1];rfl,h2⟩
theorem Yi {N:Nat}(hN:2000<=N)(laws:Sl Law):∃r,BQ N laws=some r:=by
 suffices ∃r,BQ N laws=some r/\True by obtain⟨r,h,_⟩:=this;exact⟨r,h⟩
 unfold BQ;refine Db (fun i x1 x2=>x2=(i:Int)) 301 _ (by omega) rfl ?_;rintro self i x1 x2 hi rfl hs;by_cases hc:i<laws.n/\i<=300
 ·refine ifT (by simp only[Bool.and_eq_true,decide_eq_true_eq];omega) (ifT (by omega) ?_);refine Db (fun j x7 x8=>x8=(j:Int)) 2 _ (by omega) rfl ?_;rintro self2 j x7 x8 hj rfl hs2;by_cases hl:j<2
  ·refine ifT (by show decide ((j:Int)<((2:Nat):Int))=true;simp;omega) (ifT (by show (0:Int)<=(j:Int)/\(j:Int)<((2:Nat):Int);omega) ?_);obtain⟨r,hr,hd⟩:=Ho hN ((Sl.of [(laws.g (i:Int).toNat).Left,(laws.g (i:Int).toNat).Right]:Sl Pat).g (j:Int).toNat);refine I5 hr ?_;by_cases h40:r<=40
   ·obtain⟨q,hq⟩:=KL 41 _ (hd h40) N (by omega);exact ifT (by simp;omega) (I5 hq (hs2 hl _ _ (N9 (by omega))))
   ·exact ifF (by simp;omega) (hs2 hl _ _ (N9 (by omega)))
  ·exact ifF (by show ¬decide ((j:Int)<((2:Nat):Int))=true;simp;omega) (hs (by omega) _ _ (N9 (by omega)))
 ·exact ifF (by simp only[Bool.and_eq_true,decide_eq_true_eq];omega) ⟨_,rfl,trivial⟩
end Go.AM
namespace Go.AM
open IntKind (wrap)
open Go.Proofs
def LN (s:Str):Bool:=(decide (1<=s.length)&&decide (s.length<=24))&&s.all fun c=>Oh ((c.toNat:Nat):Int)
theorem Qg {N:Nat}{s:Str}(hN:s.length<N)(hs:s.length<1000000000){let_:Int->Option Bool}(hl:∀y,let_ y=some (Oh y)){fin:Bool}(hf:fin=(decide (1<=s.length)&&decide (s.length<=24))) :Az N (fun (self1:Int->Option Bool) (x1:Int)=>
  if (decide (x1<(s.length:Int))) then
   if ((0:Int)<=x1/\x1<(s.length:Int))then
    (let_ (V8 s x1)).bind fun y3=>
    if (!y3) then
     some false
    else
     self1 (wrap .i64 (x1+1))
   else none
  else
   some fin
 ) 0=some (LN s):=by
 suffices h:∃b,Az N (fun (self1:Int->Option Bool) (x1:Int)=>
  if (decide (x1<(s.length:Int))) then
   if ((0:Int)<=x1/\x1<(s.length:Int))then
    (let_ (V8 s x1)).bind fun y3=>
    if (!y3) then
     some false
    else
     self1 (wrap .i64 (x1+1))
   else none
  else
   some fin
  ) 0=some b/\b=LN s by obtain⟨b,h,rfl⟩:=h;exact h
 refine Eu (fun i x1=>x1=(i:Int)/\∀j (h:j<s.length),j<i->Oh ((s[j].toNat:Nat):Int)=true) s.length _ hN ⟨rfl,fun j _ hj=>absurd hj (by omega)⟩ ?_;rintro self i x1 hi ⟨rfl,h⟩ hs2;by_cases hlt:i<s.length
 ·have eb:V8 s (i:Int)=((s[i].toNat:Nat):Int):=by simp[V8,hlt]
  refine ifT (by simp;omega) (ifT (by omega) (I5 (hl _) ?_));rw[eb];cases hb:Oh ((s[i].toNat:Nat):Int)
  ·refine ifT rfl ⟨false,rfl,?_⟩;symm;unfold LN;rw[Bool.and_eq_false_iff]
   right
   rw[List.all_eq_false];exact⟨s[i],List.getElem_mem hlt,by rw[hb];simp⟩
  ·refine ifF (by simp) (hs2 hlt _ ⟨N9 (by omega),fun j hj hj2=>?_⟩);by_cases e:j=i
   ·subst e;exact hb
   ·exact h j hj (by omega)
 ·refine ifF (by simp;omega) ⟨_,rfl,?_⟩;unfold LN;rw[hf]
  have:(s.all fun c=>Oh ((c.toNat:Nat):Int))=true:=List.all_eq_true.2 fun c hc=>by obtain⟨j,hj,rfl⟩:=List.getElem_of_mem hc;exact h j hj (by omega)
  rw[this,Bool.and_true]
theorem Wz {N:Nat}{s:Str}(hN:s.length<N)(hs:s.length<1000000000):Bf N s=some (LN s):=by unfold Bf;exact Qg hN hs (fun y=>rfl) (by rw[Bool.eq_iff_iff];simp;omega)
theorem Yj {N:Nat}{s:Str}(hN:s.length<N)(hs:s.length<1000000000):BS N s=some (LN s):=by unfold BS;exact Qg hN hs (fun y=>rfl) (by rw[Bool.eq_iff_iff];simp;omega)
def Ab3 (t:Sl J1)(v:Nat):Prop:=(v=0->(t.g 0).Parent = -1)/\(0<v->0<=(t.g v).Parent/\(t.g v).Parent<v)/\LN (t.g v).Name=true/\∀u,u<v->(t.g u).Name≠(t.g v).Name
def AC (t:Sl J1):Prop:=1<=t.n/\t.n<=63/\∀v,v<t.n->Ab3 t v
def UI (t:Sl J1)(e:Int):Prop:=(e=0/\AC t) \/ (e=16/\¬AC t)
theorem UJ {t:Sl J1}{e e' : Int}(h:UI t e)(h' : UI t e'):e=e':=by
 rcases h with⟨rfl,h⟩ | ⟨rfl,h⟩<;>rcases h' with⟨rfl,h'⟩ | ⟨rfl,h'⟩
 ·rfl
 ·exact absurd h h'
 ·exact absurd h' h
 ·rfl
def KM (t:Sl J1):Prop:=∀v,v<t.n->(t.g v).Name.length<1100000
theorem WA {N:Nat}(hN:3000000<=N){t:Sl J1}(ht:KM t):∃e,Z4 N t=some e/\UI t e:=by
 unfold Z4;by_cases h0:t.n<1
 ·exact ifT (fun h=>absurd h (by simp;omega)) (ifT (by simp;omega) ⟨16,rfl,.inr ⟨rfl,fun h=>by have:=h.1;omega⟩⟩)
 refine ifT (fun _ _=>by omega) ?_;by_cases h1:63<t.n
 ·exact ifT (by simp;omega) ⟨16,rfl,.inr ⟨rfl,fun h=>by have:=h.2.1;omega⟩⟩
 by_cases h2:(t.g 0).Parent = -1
 case neg=>exact ifT (by simp[h2]) ⟨16,rfl,.inr ⟨rfl,fun h=>h2 ((h.2.2 0 (by omega)).1 rfl)⟩⟩
 refine ifF (by simp[h2];omega) ?_;refine Eu (fun i x1=>x1=(i:Int)/\∀j,j<i->Ab3 t j) t.n _ (by omega) ⟨rfl,fun j hj=>absurd hj (by omega)⟩ ?_;rintro self i x1 hi ⟨rfl,h⟩ hs;by_cases hlt:i<t.n
 case neg=>exact ifF (by simp;omega) ⟨0,rfl,.inl ⟨rfl,by omega,by omega,fun v hv=>h v (by omega)⟩⟩
 refine ifT (by simp;omega) (ltX ?_);have hname:=Yj (N:=N) (s:=(t.g i).Name) (by have:=ht i hlt;omega) (by have:=ht i hlt;omega);have rest:(0<i->0<=(t.g i).Parent/\(t.g i).Parent<i)->∃r,(if (!LN (t.g i).Name) then some 16 else
  Az N (fun (self4:Int->Option Int) (x7:Int)=>
   if (decide (x7<(i:Int))) then
    if (((0:Int)<=x7/\x7<(t.n:Int))/\((0:Int)<=(i:Int)/\(i:Int)<(t.n:Int)))then
     if (((t.g x7.toNat).Name==(t.g (i:Int).toNat).Name) != false) then
      some 16
     else
      self4 (wrap .i64 (x7+1))
    else none
   else
    self (wrap .i64 ((i:Int)+1))
   ) 0)=some r/\UI t r:=by
  intro hp;cases hb:LN (t.g i).Name
  ·exact ifT rfl ⟨16,rfl,.inr ⟨rfl,fun h=>by have:=(h.2.2 i hlt).2.2.1;rw[hb]at this;cases this⟩⟩
  refine ifF (by simp) ?_;refine Eu (fun k x7=>x7=(k:Int)/\∀u,u<k->(t.g u).Name≠(t.g i).Name) i _ (by omega) ⟨rfl,fun u hu=>absurd hu (by omega)⟩ ?_;rintro self2 k x7 hk ⟨rfl,h'⟩ hs2;by_cases hki:k<i
  ·refine ifT (by simp;omega) (ifT (by omega) ?_);rw[Int.toNat_natCast,Int.toNat_natCast];by_cases e:(t.g k).Name=(t.g i).Name
   ·exact ifT (by simp[e]) ⟨16,rfl,.inr ⟨rfl,fun h=>(h.2.2 i hlt).2.2.2 k hki e⟩⟩
   ·refine ifF (by simp[e]) (hs2 hki _ ⟨N9 (by omega),fun u hu=>?_⟩);by_cases e2:u=k
    ·subst e2;exact e
    ·exact h' u (by omega)
  ·refine ifF (by simp;omega) (hs hlt _ ⟨N9 (by omega),fun j hj=>?_⟩);by_cases e:j=i
   ·subst e;exact⟨fun e=>by subst e;exact h2,hp,hb,fun u hu=>h' u (by omega)⟩
   ·exact h j (by omega)
 by_cases hpos:0<i
 ·refine ifT (by simp;omega) (ifT (by omega) ?_);rw[Int.toNat_natCast];by_cases g1:(t.g i).Parent<0
  ·exact ifT (by simpa using g1) (ifT rfl ⟨16,rfl,.inr ⟨rfl,fun h=>by have:=((h.2.2 i hlt).2.1 hpos).1;omega⟩⟩)
  refine ifF (by simpa using g1) (ifT (by omega) ?_);by_cases g2:(i:Int)<=(t.g i).Parent
  ·exact ifT (by simpa using g2) (ifT rfl ⟨16,rfl,.inr ⟨rfl,fun h=>by have:=((h.2.2 i hlt).2.1 hpos).2;omega⟩⟩)
  exact ifF (by simpa using g2) (ifT (by omega) (I5 hname (rest fun _=>⟨by omega,by omega⟩)))
 ·exact ifF (by simp;omega) (ifT (by omega) (I5 (by rw[Int.toNat_natCast];exact hname) (rest fun h=>absurd h hpos)))
theorem HS {ν : Type}{k s:Str}{v : ν}:∀es:List (Str × ν),Bk eqS s (KV eqS k v es)=if s=k then some v else Bk eqS s es
 |[]=>by simp only[KV,Bk];by_cases h:s=k<;>simp[eqS,h]
 |(a,x)::es=>by
  simp only[KV];by_cases h:k=a
  ·subst h;rw[if_pos (by simp[eqS])];simp only[Bk];by_cases h2:s=k<;>simp[eqS,h2]
  ·rw[if_neg (by simp[eqS,h])];simp only[Bk];rw[HS es];by_cases h2:s=k
   ·subst h2;simp[eqS,h]
   ·simp[h2]
theorem Td {ν : Type}{k:Str}{v : ν}:∀{es:List (Str × ν)},Bk eqS k es=none->(KV eqS k v es).length=es.length+1
 |[],_=>rfl
 |(a,x)::es,h=>by
  simp only[Bk]at h;simp only[KV];by_cases e:eqS k a=true
  ·rw[if_pos e]at h;cases h
  ·rw[if_neg e]at h;rw[if_neg e,List.length_cons,Td h];rfl
theorem Te {ν : Type}{k:Str}{v x : ν}:∀{es:List (Str × ν)},Bk eqS k es=some x->(KV eqS k v es).length=es.length
 |[],h=>by cases h
 |(a,y)::es,h=>by
  simp only[Bk]at h;simp only[KV];by_cases e:eqS k a=true
  ·rw[if_pos e];rfl
  ·rw[if_neg e]at h;rw[if_neg e,List.length_cons,Te h];rfl
theorem WB {N:Nat}(hN:3000000<=N){t:Sl J1}(ht:KM t):∃e,T3 N t=some e/\UI t e:=by
 unfold T3;by_cases h0:t.n=0 \/ 63<t.n
 ·exact ifT (by simp;omega) ⟨16,rfl,.inr ⟨rfl,fun h=>by have g1:=h.1;have g2:=h.2.1;omega⟩⟩
 refine ifF (by simp;omega) ?_;refine Db (fun i (x2:List (Str×Bool)) x3=>x3=(i:Int)/\(∀j,j<i->Ab3 t j)/\∀s,(Bk eqS s x2=some true/\∃u,u<i/\(t.g u).Name=s) \/ (Bk eqS s x2=none/\∀u,u<i->(t.g u).Name≠s)) t.n _ (by omega) ⟨rfl,fun j hj=>absurd hj (by omega),fun s=>.inr ⟨rfl,fun u hu=>absurd hu (by omega)⟩⟩ ?_;rintro self i x2 x3 hi ⟨rfl,h,hm⟩ hs;by_cases hlt:i<t.n
 case neg=>exact ifF (by simp;omega) ⟨0,rfl,.inl ⟨rfl,by omega,by omega,fun v hv=>h v (by omega)⟩⟩
 refine ifT (by simp;omega) (ifT (by omega) (ltX ?_));rw[Int.toNat_natCast];have hname:=Wz (N:=N) (s:=(t.g i).Name) (by have:=ht i hlt;omega) (by have:=ht i hlt;omega);have e1:(if 0<wrap .i64 ((i:Int)-1)then (0:Int)else wrap .i64 ((i:Int)-1))=if i=0 then -1 else 0:=by rw[Ay (by omega) (by omega)];split<;>split<;>omega
 rw[e1];by_cases g1:(i:Int)<=(t.g i).Parent
 ·refine ifT (by simpa using g1) (ifT rfl ⟨16,rfl,.inr ⟨rfl,fun h=>?_⟩⟩);have hk:=h.2.2 i hlt;by_cases hz:i=0
  ·subst hz;have:=hk.1 rfl;omega
  ·have:=(hk.2.1 (by omega)).2;omega
 refine ifF (by simpa using g1) ?_;by_cases g2:(t.g i).Parent<if i=0 then -1 else 0
 ·refine ifT (by simpa using g2) (ifT rfl ⟨16,rfl,.inr ⟨rfl,fun h=>?_⟩⟩);have hk:=h.2.2 i hlt;by_cases hz:i=0
  ·subst hz;have:=hk.1 rfl;simp at g2;omega
  ·have:=(hk.2.1 (by omega)).1;simp[hz]at g2;omega
 refine ifF (by simpa using g2) (I5 hname ?_);cases hb:LN (t.g i).Name
 ·exact ifT rfl (ifT rfl ⟨16,rfl,.inr ⟨rfl,fun h=>by have:=(h.2.2 i hlt).2.2.1;rw[hb]at this;cases this⟩⟩)
 refine ifF (by simp) ?_;rcases hm (t.g i).Name with⟨e,u,hu,hn⟩ | ⟨e,hn⟩
 ·rw[e];exact⟨16,rfl,.inr ⟨rfl,fun h=>(h.2.2 i hlt).2.2.2 u hu hn⟩⟩
 rw[e,Pk];refine ifF (show ¬false=true by simp) (hs hlt _ _ ⟨N9 (by omega),fun j hj=>?_,fun s=>?_⟩)
 ·by_cases e:j=i
  ·subst e;refine⟨fun e=>?_,fun hp=>?_,hb,hn⟩
   ·subst e;simp at g2;omega
   ·have:¬j=0:=by omega
    simp[this]at g2;omega
  ·exact h j (by omega)
 ·rw[HS];by_cases e:s=(t.g i).Name
  ·exact .inl ⟨by rw[if_pos e],i,by omega,e.symm⟩
  ·rw[if_neg e];rcases hm s with⟨g,u,hu,hn⟩ | ⟨g,hn⟩
   ·exact .inl ⟨g,u,by omega,hn⟩
   ·refine .inr ⟨g,fun u hu=>?_⟩;by_cases e2:u=i
    ·subst e2;exact fun h=>e h.symm
    ·exact hn u (by omega)
theorem Oi {N:Nat}(hN:3000000<=N){t:Sl J1}(ht:KM t):∃e,T3 N t=some e/\Z4 N t=some e/\UI t e:=by obtain⟨e,h1,h2⟩:=WB hN ht;obtain⟨e',h3,h4⟩:=WA hN ht;obtain rfl:=UJ h2 h4;exact⟨_,h1,h3,h2⟩
end Go.AM
namespace Go.AM
open IntKind (wrap)
open Go.Proofs
structure CE (h:A8):Prop where
 laws:YU h.Laws
 tree:KM h.Tree
 on:h.On.n<1100000
 len:∀v,v<h.On.n->(h.On.g v).n<1100000
def N1 (h:A8)(v:Nat):Sl Int:=
 if hp:0<=(h.Tree.g v).Parent/\(h.Tree.g v).Parent<v then (N1 h (h.Tree.g v).Parent.toNat).app (h.On.g v)else (Sl.nil:Sl Int).app (h.On.g v)
termination_by v
decreasing_by omega
theorem Dz {h:A8}{v:Nat}(hv:(h.Tree.g v).Parent<0):N1 h v=(Sl.nil:Sl Int).app (h.On.g v):=by rw[N1,dif_neg (by omega)]
theorem Hq {h:A8}{v p:Nat}(hv:(h.Tree.g v).Parent=(p:Int))(hp:p<v):N1 h v=(N1 h p).app (h.On.g v):=by rw[N1,dif_pos (by omega),hv,Int.toNat_natCast]
theorem Y4 {t:Sl J1}(ht:AC t){v:Nat}(hv:v<t.n):(v=0/\(t.g v).Parent = -1) \/ ∃p:Nat,p<v/\(t.g v).Parent=(p:Int):=by
 have hk:=ht.2.2 v hv;by_cases h0:v=0
 ·subst h0;exact .inl ⟨rfl,hk.1 rfl⟩
 ·obtain⟨g1,g2⟩:=hk.2.1 (by omega);exact .inr ⟨(t.g v).Parent.toNat,by omega,by omega⟩
theorem RW {h:A8}(hi:CE h)(ht:AC h.Tree)(hn:h.On.n=h.Tree.n):∀(m v:Nat),v<=m->v<h.Tree.n->(N1 h v).n<=(v+1)*1100000
 |m,v,hm,hv=>by
  have hl:=hi.len v (by omega);rcases Y4 ht hv with⟨_,e⟩ | ⟨p,hp,e⟩
  ·rw[Dz (by omega)];show 0+(h.On.g v).n<=_;omega
  ·rw[Hq e hp]
   match m with
   |0=>omega
   |m+1=>
    have:=RW hi ht hn m p (by omega) (by omega)
    show (N1 h p).n+(h.On.g v).n<=_;have h2:(p+1)*1100000+1100000<=(v+1)*1100000:=by omega
    omega
theorem KN {h:A8}(hi:CE h)(ht:AC h.Tree)(hn:h.On.n=h.Tree.n):∀(M v:Nat),v+2<=M->v<h.Tree.n->Ae M h (v:Int)=some (N1 h v)
 |0,v,hM,_=>by omega
 |M+1,v,hM,hv=>by
  have h63:=ht.2.1;show T1 (Ae M) M h (v:Int)=_;unfold T1;rw[if_neg (by simp),if_pos (by omega),Int.toNat_natCast];have hl:=hi.len v (by omega);rcases Y4 ht hv with⟨h0,e⟩ | ⟨p,hp,e⟩
  ·rw[e,Dz (by omega)]
   have:Ae M h (-1)=some (Sl.nil:Sl Int):=by obtain⟨K,rfl⟩:∃K,M=K+1:=⟨M-1,by omega⟩;show T1 (Ae K) K h (-1)=_;unfold T1;rw[if_pos (by decide)]
   rw[this,Option.bind_some,if_pos ⟨by omega,by show (0+(h.On.g v).n)*8<=_/\0+(h.On.g v).n<=_;omega⟩]
  ·have hb:=RW hi ht hn p p (Nat.le_refl _) (by omega);rw[e,KN hi ht hn M p (by omega) (by omega),Option.bind_some,Hq e hp,if_pos ⟨by omega,by omega⟩]
def RX (h:A8):Prop:=∃v,v<h.On.n/\64<(N1 h v).n
def Ab4 (h:A8)(v:Nat):Prop:=∃k,k<(h.On.g v).n/\((h.On.g v).g k<0 \/ (h.Laws.n:Int)<=(h.On.g v).g k)
def WC (h:A8)(e:Int):Prop:=(RX h/\e=2) \/ (¬RX h/\(∃v,v<h.On.n/\Ab4 h v)/\e=3) \/ (¬RX h/\(∀v,v<h.On.n->¬Ab4 h v)/\e=0)
theorem WD {N:Nat}(hN:3000000<=N){h:A8}(hi:CE h)(ht:AC h.Tree)(hn:h.On.n=h.Tree.n):∃e,T4 N h=some e/\WC h e:=by
 have h63:=ht.2.1;unfold T4;refine ifT (by omega) ?_;refine loop3 (fun i (x4:Sl Int) (x5:Bool) x6=>x6=(i:Int)/\x4.n=h.On.n/\(∀v,v<i->x4.g v=((N1 h v).n:Int)/\(N1 h v).n<=64)/\(x5=true ↔ ∃v,v<i/\Ab4 h v)) h.On.n _ (by omega) ⟨rfl,by show ((h.On.n:Nat):Int).toNat=_;omega,fun v hv=>absurd hv (by omega),⟨fun g=>(by cases g),fun⟨v,hv,_⟩=>absurd hv (by omega)⟩⟩ ?_;rintro self i x4 x5 x6 hle ⟨rfl,hx,hp,hb⟩ hs;by_cases hlt:i<h.On.n
 case neg=>
  refine ifF (by simp;omega) ?_;have hl:¬RX h:=fun⟨v,hv,hl⟩=>by have:=(hp v (by omega)).2;omega
  cases x5
  ·exact ifF (by simp) ⟨0,rfl,.inr (.inr ⟨hl,fun v hv g=>(by have:=hb.2 ⟨v,by omega,g⟩;cases this),rfl⟩)⟩
  ·obtain⟨v,hv,g⟩:=hb.1 rfl;exact ifT rfl ⟨3,rfl,.inr (.inl ⟨hl,⟨v,by omega,g⟩,rfl⟩)⟩
 refine ifT (by simp;omega) (ifT (by rw[Int.toNat_natCast];omega) (ifT (by omega) (ltX ?_)));rw[Int.toNat_natCast];have hl:=hi.len i (by omega);have hlb:=RW hi ht hn i i (Nat.le_refl _) (by omega);have rest:∀z:Sl Int,z.n=h.On.n->(∀v,v<i->z.g v=x4.g v)->z.g i=((N1 h i).n:Int)->∃r,(if (((0:Int)<=(i:Int)/\(i:Int)<(z.n:Int))/\i<z.n)then
  if (decide (64<(z.g i))) then
   some 2
  else
   Bj N (fun (self4:Bool->Int->Option Int) (x11:Bool) (x12:Int)=>
    if (decide (x12<((h.On.g i).n:Int))) then
     if ((0:Int)<=x12/\x12<((h.On.g i).n:Int))then
      self4 ((x11||(decide (((h.On.g i).g x12.toNat)<0)))||(decide ((h.Laws.n:Int)<=((h.On.g i).g x12.toNat)))) (wrap .i64 (x12+1))
     else none
    else
     self z x11 (wrap .i64 ((i:Int)+1))
    ) x5 0
  else none)=some r/\WC h r:=by
  intro z hz hz1 hz2;refine ifT (by omega) ?_;rw[hz2];by_cases h64:64<(N1 h i).n
  ·exact ifT (by simp;omega) ⟨2,rfl,.inl ⟨⟨i,hlt,h64⟩,rfl⟩⟩
  refine ifF (by simp;omega) ?_;refine Db (fun k (x11:Bool) x12=>x12=(k:Int)/\(x11=true↔(∃v,v<i/\Ab4 h v) \/ ∃j,j<k/\j<(h.On.g i).n/\((h.On.g i).g j<0 \/ (h.Laws.n:Int)<=(h.On.g i).g j))) (h.On.g i).n _ (by omega) ⟨rfl,hb.trans ⟨fun g=>.inl g,fun g=>g.resolve_right fun⟨j,hj,_⟩=>absurd hj (by omega)⟩⟩ ?_;rintro self2 k x11 x12 hk ⟨rfl,hb2⟩ hs2;by_cases hkl:k<(h.On.g i).n
  ·refine ifT (by simp;omega) (ifT (by omega) (hs2 hkl _ _ ⟨N9 (by omega),?_⟩));rw[Int.toNat_natCast,Bool.or_eq_true,Bool.or_eq_true,hb2,decide_eq_true_eq,decide_eq_true_eq];constructor
   ·rintro (((g|⟨j,hj,g⟩)|g)|g)
    ·exact .inl g
    ·exact .inr ⟨j,by omega,g⟩
    ·exact .inr ⟨k,by omega,hkl,.inl g⟩
    ·exact .inr ⟨k,by omega,hkl,.inr g⟩
   ·rintro (g|⟨j,hj,hj2,g⟩)
    ·exact .inl (.inl (.inl g))
    ·by_cases e:j=k
     ·subst e;rcases g with g|g
      ·exact .inl (.inr g)
      ·exact .inr g
     ·exact .inl (.inl (.inr ⟨j,by omega,hj2,g⟩))
  ·refine ifF (by simp;omega) (hs hlt _ _ _ ⟨N9 (by omega),hz,fun v hv=>?_,hb2.trans ?_⟩)
   ·by_cases e:v=i
    ·subst e;exact⟨hz2,by omega⟩
    ·rw[hz1 v (by omega)];exact hp v (by omega)
   ·constructor
    ·rintro (⟨v,hv,g⟩ | ⟨j,_,hj,g⟩)
     ·exact⟨v,by omega,g⟩
     ·exact⟨i,by omega,j,hj,g⟩
    ·rintro⟨v,hv,g⟩;by_cases e:v=i
     ·subst e;obtain⟨j,hj,g⟩:=g;exact .inr ⟨j,by omega,hj,g⟩
     ·exact .inl ⟨v,by omega,g⟩
 rcases Y4 ht (v:=i) (by omega)with⟨_,e⟩ | ⟨p,hpi,e⟩
 ·rw[e];refine ifF (by decide) (rest _ hx (fun v hv=>?_) ?_)
  ·show (if v=i then _ else x4.g v)=_;rw[if_neg (by omega)]
  ·show (if i=i then ((h.On.g i).n:Int)else _)=_;rw[if_pos rfl,Dz (by omega)];show _=((0+(h.On.g i).n:Nat):Int);omega
 ·have hpp:=hp p hpi;rw[e];refine ifT (by simp) (ifT ?_ ?_)
  ·show ((((((0:Int)<=(i:Int)/\(i:Int)<(x4.n:Int))/\i<x4.n)/\(0:Int)<=(p:Int)/\(p:Int)<(x4.n:Int))/\(p:Int).toNat<x4.n)/\(0:Int)<=(i:Int)/\(i:Int)<(x4.n:Int))/\i<x4.n;omega
  ·rw[Int.toNat_natCast];refine rest _ hx (fun v hv=>?_) ?_
   ·show (if v=i then _ else if v=i then _ else x4.g v)=_;rw[if_neg (by omega),if_neg (by omega)]
   ·show (if i=i then wrap .i64 ((if i=i then ((h.On.g i).n:Int)else _)+(if p=i then _ else x4.g p))else _)=_;rw[if_pos rfl,if_pos rfl,if_neg (by omega),hpp.1,Hq e hpi,Ay (by omega) (by omega)];show _=(((N1 h p).n+(h.On.g i).n:Nat):Int);omega
end Go.AM
namespace Go.AM
open Go.Proofs
def Ac8 (h:A8)(i:Nat):Prop:=∃u v,u<v/\v<i/\(h.Laws.g u).Name=(h.Laws.g v).Name
open Classical in
noncomputable def hres (N:Nat) (h:A8):Int:=
 if ¬AC h.Tree then 16 else if 64<h.Laws.n then 12 else if ∃i,i<h.Laws.n/\¬Hn N (h.Laws.g i)then 17 else if Ac8 h h.Laws.n then 6 else if h.On.n≠h.Tree.n then 2
 else if RX h then 2 else if ∃v,v<h.On.n/\Ab4 h v then 3 else 0
structure KO (N:Nat) (h:A8):Prop where
 tree:AC h.Tree
 laws:Tc N h.Laws
 dup:¬Ac8 h h.Laws.n
 on:h.On.n=h.Tree.n
 long:¬RX h
 bad:∀v,v<h.On.n->¬Ab4 h v
theorem hres_zero {N:Nat}{h:A8}:hres N h=0↔KO N h:=by
 unfold hres;constructor
 ·intro g;split at g
  ·cases g
  split at g
  ·cases g
  split at g
  ·cases g
  split at g
  ·cases g
  split at g
  ·cases g
  split at g
  ·cases g
  split at g
  ·cases g
  rename_i h1 h2 h3 h4 h5 h6 h7;exact⟨Classical.not_not.1 h1,⟨by omega,fun i hi=>Classical.byContradiction fun hn=>h3 ⟨i,hi,hn⟩⟩,h4,Classical.not_not.1 h5,h6,fun v hv hb=>h7 ⟨v,hv,hb⟩⟩
 ·intro g;have h64:=g.laws.1;rw[if_neg (fun k=>k g.tree),if_neg (by omega),if_neg (fun⟨i,hi,hn⟩=>hn (g.laws.2 i hi)),if_neg g.dup,if_neg (fun k=>k g.on),if_neg g.long,if_neg (fun⟨v,hv,hb⟩=>g.bad v hv hb)]
theorem DA {N:Nat}{h:A8}(h1:AC h.Tree)(h2:Tc N h.Laws)(h3:¬Ac8 h h.Laws.n)(h4:h.On.n=h.Tree.n){e:Int}(he:WC h e):e=hres N h:=by
 have h64:=h2.1;unfold hres;rw[if_neg (fun k=>k h1),if_neg (by omega),if_neg (fun⟨i,hi,hn⟩=>hn (h2.2 i hi)),if_neg h3,if_neg (fun k=>k h4)];rcases he with⟨g,rfl⟩ | ⟨g,g2,rfl⟩ | ⟨g,g2,rfl⟩
 ·rw[if_pos g]
 ·rw[if_neg g,if_pos g2]
 ·rw[if_neg g,if_neg (fun⟨v,hv,hb⟩=>g2 v hv hb)]
theorem DB {N:Nat}(hN:3000000<=N){h:A8}(hi:CE h):I2 N h=some (hres N h):=by
 suffices g:∃r,I2 N h=some r/\r=hres N h by obtain⟨r,g,rfl⟩:=g;exact g
 obtain⟨e,e1,_,he⟩:=Oi hN hi.tree;unfold I2;refine I5 e1 ?_;rcases he with⟨rfl,ht⟩ | ⟨rfl,ht⟩
 case inr=>exact ifT (by decide) ⟨16,rfl,by unfold hres;rw[if_pos ht]⟩
 refine ifF (by decide) ?_;by_cases h64:64<h.Laws.n
 ·exact ifT (by simp;omega) ⟨12,rfl,by unfold hres;rw[if_neg (fun k=>k ht),if_pos h64]⟩
 refine ifF (by simp;omega) ?_;refine Db (fun i (x1:List (Str×Int)) x2=>x2=(i:Int)/\(∀j,j<i->Hn N (h.Laws.g j))/\(∀s,(Bk eqS s x1=none/\∀u,u<i->(h.Laws.g u).Name≠s) \/ (∃v,Bk eqS s x1=some v)/\∃u,u<i/\(h.Laws.g u).Name=s)/\((Ac8 h i/\x1.length<i) \/ (¬Ac8 h i/\x1.length=i))) h.Laws.n _ (by omega)
  ⟨rfl,fun j hj=>absurd hj (by omega),fun s=>.inl ⟨rfl,fun u hu=>absurd hu (by omega)⟩,.inr ⟨fun⟨u,v,_,hv,_⟩=>absurd hv (by omega),rfl⟩⟩ ?_
 rintro self i x1 x2 hle ⟨rfl,hc,hm,hl⟩ hs;by_cases hlt:i<h.Laws.n
 ·obtain⟨y,y1,_,hy⟩:=Qe hN (hi.laws i hlt);refine ifT (by simp;omega) (ifT (by omega) (I5 (by rw[Int.toNat_natCast];exact y1) ?_));rcases hy with⟨rfl,hy⟩ | ⟨rfl,hy⟩
  case inr=>exact ifT (by decide) ⟨17,rfl,by unfold hres;rw[if_neg (fun k=>k ht),if_neg h64,if_pos ⟨i,hlt,hy⟩]⟩
  refine ifF (by decide) ?_;rw[Int.toNat_natCast];have hc' : ∀j,j<i+1->Hn N (h.Laws.g j):=fun j hj=>by
   by_cases e:j=i
   ·subst e;exact hy
   ·exact hc j (by omega)
  have look:∀(v:Int) (s:Str),(Bk eqS s (KV eqS (h.Laws.g i).Name v x1)=none/\∀u,u<i+1->(h.Laws.g u).Name≠s) \/ (∃w,Bk eqS s (KV eqS (h.Laws.g i).Name v x1)=some w)/\∃u,u<i+1/\(h.Laws.g u).Name=s:=by
   intro v s;rw[HS];by_cases e:s=(h.Laws.g i).Name
   ·exact .inr ⟨⟨v,by rw[if_pos e]⟩,i,by omega,e.symm⟩
   ·rw[if_neg e];rcases hm s with⟨g,g2⟩ | ⟨g,u,hu,g2⟩
    ·refine .inl ⟨g,fun u hu=>?_⟩;by_cases e2:u=i
     ·subst e2;exact fun k=>e k.symm
     ·exact g2 u (by omega)
    ·exact .inr ⟨g,u,by omega,g2⟩
  rcases hm (h.Laws.g i).Name with⟨g,g2⟩ | ⟨⟨v,g⟩,u,hu,g2⟩
  ·rw[g,Pk];refine hs hlt _ _ ⟨N9 (by omega),hc',look _,?_⟩;rw[Td g];rcases hl with⟨⟨a,b,hab,hb,hn⟩,hl⟩ | ⟨hd,hl⟩
   ·exact .inl ⟨⟨a,b,hab,by omega,hn⟩,by omega⟩
   ·refine .inr ⟨fun⟨a,b,hab,hb,hn⟩=>?_,by omega⟩;by_cases e:b=i
    ·subst e;exact g2 a hab hn
    ·exact hd ⟨a,b,hab,by omega,hn⟩
  ·rw[g,VV];refine hs hlt _ _ ⟨N9 (by omega),hc',look _,?_⟩;rw[Te g];refine .inl ⟨⟨u,i,hu,by omega,g2⟩,?_⟩;rcases hl with⟨_,hl⟩ | ⟨_,hl⟩<;>omega
 ·obtain rfl:i=h.Laws.n:=by omega
  have hok:Tc N h.Laws:=⟨by omega,hc⟩;have hnb:¬ ∃i,i<h.Laws.n/\¬Hn N (h.Laws.g i):=fun⟨i,hi,hn⟩=>hn (hc i hi);refine ifF (by simp) ?_;rw[QS];rcases hl with⟨hd,hl⟩ | ⟨hd,hl⟩
  ·exact ifT (by simp;omega) ⟨6,rfl,by unfold hres;rw[if_neg (fun k=>k ht),if_neg h64,if_neg hnb,if_pos hd]⟩
  refine ifF (by simp;omega) ?_;by_cases hon:h.On.n=h.Tree.n
  case neg=>exact ifT (by simp;omega) ⟨2,rfl,by unfold hres;rw[if_neg (fun k=>k ht),if_neg h64,if_neg hnb,if_neg hd,if_pos hon]⟩
  refine ifF (by simp[hon]) ?_;obtain⟨e,e1,he⟩:=WD hN hi ht hon;exact I5 e1 ⟨e,rfl,DA ht hok hd hon he⟩
theorem Fh {N:Nat}(hN:3000000<=N){h:A8}(hi:CE h):T2 N h=some (hres N h):=by
 suffices g:∃r,T2 N h=some r/\r=hres N h by obtain⟨r,g,rfl⟩:=g;exact g
 obtain⟨e,_,e1,he⟩:=Oi hN hi.tree;unfold T2;refine I5 e1 ?_;rcases he with⟨rfl,ht⟩ | ⟨rfl,ht⟩
 case inr=>exact ifT (by decide) ⟨16,rfl,by unfold hres;rw[if_pos ht]⟩
 refine ifF (by decide) ?_;by_cases h64:64<h.Laws.n
 ·exact ifT (by simp;omega) ⟨12,rfl,by unfold hres;rw[if_neg (fun k=>k ht),if_pos h64]⟩
 refine ifF (by simp;omega) ?_;refine Eu (fun i x1=>x1=(i:Int)/\∀j,j<i->Hn N (h.Laws.g j)) h.Laws.n _ (by omega) ⟨rfl,fun j hj=>absurd hj (by omega)⟩ ?_;rintro self i x1 hle ⟨rfl,hc⟩ hs;by_cases hlt:i<h.Laws.n
 ·obtain⟨y,_,y1,hy⟩:=Qe hN (hi.laws i hlt);refine ifT (by simp;omega) (ifT (by omega) (I5 (by rw[Int.toNat_natCast];exact y1) ?_));rcases hy with⟨rfl,hy⟩ | ⟨rfl,hy⟩
  case inr=>exact ifT (by decide) ⟨17,rfl,by unfold hres;rw[if_neg (fun k=>k ht),if_neg h64,if_pos ⟨i,hlt,hy⟩]⟩
  refine ifF (by decide) (hs hlt _ ⟨N9 (by omega),fun j hj=>?_⟩);by_cases e:j=i
  ·subst e;exact hy
  ·exact hc j (by omega)
 obtain rfl:i=h.Laws.n:=by omega
 have hok:Tc N h.Laws:=⟨by omega,hc⟩;have hnb:¬ ∃i,i<h.Laws.n/\¬Hn N (h.Laws.g i):=fun⟨i,hi,hn⟩=>hn (hc i hi);refine ifF (by simp) ?_;refine Eu (fun i x1=>x1=(i:Int)/\¬Ac8 h i) h.Laws.n _ (by omega) ⟨rfl,fun⟨u,v,_,hv,_⟩=>absurd hv (by omega)⟩ ?_;rintro self2 i x1 hle2 ⟨rfl,hd⟩ hs2;by_cases hlt:i<h.Laws.n
 ·refine ifT (by simp;omega) ?_;refine Eu (fun k x5=>x5=(k:Int)/\∀u,u<k->(h.Laws.g u).Name≠(h.Laws.g i).Name) i _ (by omega) ⟨rfl,fun u hu=>absurd hu (by omega)⟩ ?_;rintro self3 k x5 hk ⟨rfl,hne⟩ hs3;by_cases hki:k<i
  ·refine ifT (by simp;omega) (ifT (by omega) ?_);rw[Int.toNat_natCast,Int.toNat_natCast];by_cases e:(h.Laws.g k).Name=(h.Laws.g i).Name
   ·exact ifT (by simp[e]) ⟨6,rfl,by unfold hres;rw[if_neg (fun k=>k ht),if_neg h64,if_neg hnb,if_pos ⟨k,i,hki,hlt,e⟩]⟩
   ·refine ifF (by simp;exact fun g=>e g.symm) (hs3 hki _ ⟨N9 (by omega),fun u hu=>?_⟩);by_cases e2:u=k
    ·subst e2;exact e
    ·exact hne u (by omega)
  ·refine ifF (by simp;omega) (hs2 hlt _ ⟨N9 (by omega),fun⟨u,v,huv,hv,hn⟩=>?_⟩);by_cases e:v=i
   ·subst e;exact hne u (by omega) hn
   ·exact hd ⟨u,v,huv,by omega,hn⟩
 obtain rfl:i=h.Laws.n:=by omega
 refine ifF (by simp) ?_;by_cases hon:h.On.n=h.Tree.n
 case neg=>exact ifT (by simp;omega) ⟨2,rfl,by unfold hres;rw[if_neg (fun k=>k ht),if_neg h64,if_neg hnb,if_neg hd,if_pos hon]⟩
 refine ifF (by simp[hon]) ?_;have h63:=ht.2.1;refine Eu (fun i x1=>x1=(i:Int)/\∀v,v<i->¬ 64<(N1 h v).n) h.On.n _ (by omega) ⟨rfl,fun v hv=>absurd hv (by omega)⟩ ?_;rintro self4 i x1 hle3 ⟨rfl,hlo⟩ hs4;by_cases hlt:i<h.On.n
 ·refine ifT (by simp;omega) (I5 (KN hi ht hon N i (by omega) (by omega)) ?_);by_cases hg:64<(N1 h i).n
  ·exact ifT (by simp;omega) ⟨2,rfl,DA ht hok hd hon (.inl ⟨⟨i,hlt,hg⟩,rfl⟩)⟩
  ·refine ifF (by simp;omega) (hs4 hlt _ ⟨N9 (by omega),fun v hv=>?_⟩);by_cases e:v=i
   ·subst e;exact hg
   ·exact hlo v (by omega)
 refine ifF (by simp;omega) ?_;have hnl:¬RX h:=fun⟨v,hv,g⟩=>hlo v (by omega) g;refine Eu (fun i x1=>x1=(i:Int)/\∀v,v<i->¬Ab4 h v) h.On.n _ (by omega) ⟨rfl,fun v hv=>absurd hv (by omega)⟩ ?_;rintro self5 i x1 hle4 ⟨rfl,hbd⟩ hs5;by_cases hlt2:i<h.On.n
 ·have hl:=hi.len i hlt2;refine ifT (by simp;omega) ?_;refine Eu (fun k x1=>x1=(k:Int)/\∀j,j<k->¬((h.On.g i).g j<0 \/ (h.Laws.n:Int)<=(h.On.g i).g j)) (h.On.g i).n _ (by omega) ⟨rfl,fun j hj=>absurd hj (by omega)⟩ ?_;rintro self6 k x1 hk ⟨rfl,hk2⟩ hs6;refine ifT (by omega) ?_;rw[Int.toNat_natCast,Int.toNat_natCast];by_cases hkl:k<(h.On.g i).n
  ·refine ifT (by simp;omega) (ifT (by omega) ?_);by_cases g1:(h.On.g i).g k<0
   ·exact ifT (by simpa using g1) ⟨3,rfl,DA ht hok hd hon (.inr (.inl ⟨hnl,⟨i,hlt2,k,hkl,.inl g1⟩,rfl⟩))⟩
   refine ifF (by simpa using g1) (ifT (by omega) ?_);by_cases g2:(h.Laws.n:Int)<=(h.On.g i).g k
   ·exact ifT (by simpa using g2) ⟨3,rfl,DA ht hok hd hon (.inr (.inl ⟨hnl,⟨i,hlt2,k,hkl,.inr g2⟩,rfl⟩))⟩
   refine ifF (by simpa using g2) (hs6 hkl _ ⟨N9 (by omega),fun j hj=>?_⟩);by_cases e:j=k
   ·subst e;exact fun g=>g.elim g1 g2
   ·exact hk2 j (by omega)
  ·refine ifF (by simp;omega) (hs5 hlt2 _ ⟨N9 (by omega),fun v hv=>?_⟩);by_cases e:v=i
   ·subst e;exact fun⟨j,hj,g⟩=>hk2 j (by omega) g
   ·exact hbd v (by omega)
 ·exact ifF (by simp;omega) ⟨0,rfl,DA ht hok hd hon (.inr (.inr ⟨hnl,fun v hv=>hbd v (by omega),rfl⟩))⟩
end Go.AM
namespace Go.AM
open IntKind (wrap)
open Go.Proofs
def UK (t:Sl J1)(v:Nat):List Nat:=
 if hp:0<=(t.g v).Parent/\(t.g v).Parent<v then UK t (t.g v).Parent.toNat++[v]else [v]
termination_by v
decreasing_by omega
theorem Hr {t:Sl J1}{v:Nat}(hv:(t.g v).Parent<0):UK t v=[v]:=by rw[UK,dif_neg (by omega)]
theorem Oj {t:Sl J1}{v p:Nat}(hv:(t.g v).Parent=(p:Int))(hp:p<v):UK t v=UK t p++[v]:=by rw[UK,dif_pos (by omega),hv,Int.toNat_natCast]
theorem RY {t:Sl J1}(ht:AC t):∀(m v:Nat),v<=m->v<t.n->∀x∈UK t v,x<=v
 |m,v,hm,hv,x,hx=>by
  rcases Y4 ht hv with⟨_,e⟩ | ⟨p,hp,e⟩
  ·rw[Hr (by omega)]at hx;simp at hx;omega
  ·rw[Oj e hp]at hx;rcases List.mem_append.1 hx with hx|hx
   ·match m with
    |0=>omega
    |m+1=>have:=RY ht m p (by omega) (by omega) x hx;omega
   ·simp at hx;omega
theorem Yk {α : Type}{x:Sl α}{m:Nat}(h:x.n=m+1):x.toList.reverse=x.g m::(x.take m).toList.reverse:=by unfold Sl.toList;rw[h,List.range_succ,List.map_append,List.reverse_append];rfl
theorem Tf {x2:Sl Int}(hx:x2.n<100000):∀(k M:Nat),k<=x2.n->k<M->Az M (fun (self2:Int->Option (List Int)) (x3:Int)=>
 if (decide (0<=x3)) then
  if (((0:Int)<=x3/\x3<(x2.n:Int))/\x3.toNat<x2.n)then
   Fv (x2.g x3.toNat) (
    self2 (wrap .i64 (x3-1))
    )
  else none
 else
  some []
 ) ((k:Int)-1)=some (x2.take k).toList.reverse
 |0,M,hk,hM=>by obtain⟨M,rfl⟩:∃K,M=K+1:=⟨M-1,by omega⟩;rw[GL,if_neg (by simp)];rfl
 |k+1,M,hk,hM=>by obtain⟨M,rfl⟩:∃K,M=K+1:=⟨M-1,by omega⟩;rw[show ((k+1:Nat):Int)-1=(k:Int) by omega,GL,if_pos (by simp),if_pos ⟨by omega,by omega⟩,Ay (by omega) (by omega),Tf hx k M (by omega) (by omega),Int.toNat_natCast,Yk (x:=x2.take (k+1)) (m:=k) rfl];rfl
theorem WE {N:Nat}(hN:3000000<=N){t:Sl J1}(ht:AC t){v:Nat}(hv:v<t.n):M8 N (v:Int) t=some ((UK t v).map fun (x:Nat)=>(x:Int)):=by
 have h63:=ht.2.1;have key:∀(m c:Nat) (x2:Sl Int) (M:Nat),c<m->c<t.n->m+1<M->x2.n+c<=1000->∃y:Sl Int,y.n<=1001/\y.toList.reverse=((UK t c).map fun (x:Nat)=>(x:Int))++x2.toList.reverse /\
  Bj M (fun (self1:Int->Sl Int->Option (List Int)) (x1:Int) (x2:Sl Int)=>
  if (decide (0<=x1)) then
   if (((x2.n+(Sl.of [x1]:Sl Int).n)*8<=140737488355328/\x2.n+(Sl.of [x1]:Sl Int).n<=140737488355328)/\((0:Int)<=x1/\x1<(t.n:Int)))then
    self1 (t.g x1.toNat).Parent (x2.push x1)
   else none
  else
   Az N (fun self2 (x3:Int)=>
    if (decide (0<=x3)) then
     if (((0:Int)<=x3/\x3<(x2.n:Int))/\x3.toNat<x2.n)then
      Fv (x2.g x3.toNat) (
       self2 (wrap .i64 (x3-1))
       )
     else none
    else
     some []
    ) (wrap .i64 ((x2.n:Int)-1))
  ) (c:Int) x2=some y.toList.reverse:=by
  intro m
  induction m with
  |zero=>exact fun c _ _ h=>absurd h (by omega)
  |succ m ih=>
   intro c x2 M hc hct hM hx;obtain⟨M,rfl⟩:∃K,M=K+1:=⟨M-1,by omega⟩;rw[Pj,if_pos (by simp),if_pos ⟨by show (x2.n+1)*8<=_/\x2.n+1<=_;omega,by omega⟩,Int.toNat_natCast];rcases Y4 ht hct with⟨_,e⟩ | ⟨p,hp,e⟩
   ·obtain⟨M,rfl⟩:∃K,M=K+1:=⟨M-1,by omega⟩;refine⟨x2.push (c:Int),by show x2.n+1<=_;omega,by rw[RQ,List.reverse_append,Hr (by omega)];rfl,?_⟩;rw[e,Pj,if_neg (by decide)];have hb:=Tf (x2:=x2.push (c:Int)) (by show x2.n+1<_;omega) (x2.n+1) N (Nat.le_refl _) (by omega);rw[Ay (by show _<=((x2.n+1:Nat):Int)-1;omega) (by show ((x2.n+1:Nat):Int)-1<=_;omega)];exact hb
   ·obtain⟨y,y1,y2,y3⟩:=ih p (x2.push (c:Int)) M (by omega) (by omega) (by omega) (by show x2.n+1+p<=_;omega);refine⟨y,y1,?_,by rw[e];exact y3⟩;rw[y2,RQ,List.reverse_append,Oj e hp,List.map_append,List.append_assoc];rfl
 obtain⟨y,_,y2,y3⟩:=key (v+1) v (Sl.nil:Sl Int) N (by omega) hv (by omega) (by show 0+v<=_;omega);unfold M8;rw[y3,y2];show some (_++[])=_;rw[List.append_nil]
def Ab5 (h:A8)(L:List Nat)(z:Sl Int):Sl Int:=L.foldl (fun z x=>z.app (h.On.g x)) z
theorem Qh {h:A8}(ht:AC h.Tree):∀(m v:Nat),v<=m->v<h.Tree.n->Ab5 h (UK h.Tree v) (Sl.nil:Sl Int)=N1 h v
 |m,v,hm,hv=>by
  rcases Y4 ht hv with⟨_,e⟩ | ⟨p,hp,e⟩
  ·rw[Hr (by omega),Dz (by omega)];rfl
  ·rw[Oj e hp,Hq e hp]
   match m with
   |0=>omega
   |m+1=>
    have:=Qh ht m p (by omega) (by omega)
    unfold Ab5 at this⊢;rw[List.foldl_append,this];rfl
theorem KP {h:A8}(hi:CE h):∀(L:List Nat) (z:Sl Int),(∀x∈L,x<h.On.n)->z.n+L.length*1100000<=10000000000 ->
 Y9 (L.map fun (x:Nat)=>(x:Int)) (fun (self1:Sl Int->Option ((Sl Int)×Int)) (x1:Int) (z1:Sl Int)=>
  if (((0:Int)<=x1/\x1<(h.On.n:Int))/\((z1.n+(h.On.g x1.toNat).n)*8<=140737488355328/\z1.n+(h.On.g x1.toNat).n<=140737488355328))then
   self1 (z1.app (h.On.g x1.toNat))
  else none
  ) (fun (z1:Sl Int)=>
   some (z1,0)
  ) z=some (Ab5 h L z,0)
 |[],z,_,_=>rfl
 |x::L,z,hx,hz=>by have hx0:=hx x (by simp);have hl:=hi.len x hx0;simp only[List.length_cons,Nat.add_mul]at hz;rw[List.map_cons,Y9,Int.toNat_natCast,if_pos ⟨by omega,by omega⟩];exact KP hi L _ (fun y hy=>hx y (by simp[hy])) (by show z.n+(h.On.g x).n+_<=_;omega)
theorem Ok {t:Sl J1}(ht:AC t):∀(m v:Nat),v<=m->v<t.n->(UK t v).length<=v+1
 |m,v,hm,hv=>by
  rcases Y4 ht hv with⟨_,e⟩ | ⟨p,hp,e⟩
  ·rw[Hr (by omega)];simp
  ·rw[Oj e hp]
   match m with
   |0=>omega
   |m+1=>have:=Ok ht m p (by omega) (by omega);simp;omega
theorem Yl {N:Nat}(hN:3000000<=N){h:A8}(hi:CE h)(v:Int) :∃s e,K7 N h v=some (s,e)/\BU N h v=some (s,e)/\((e=0/\KO N h/\0<=v/\v<h.Tree.n/\s=N1 h v.toNat) \/ (e≠0/\s=(Sl.nil:Sl Int))):=by
 unfold K7 BU;rw[DB hN hi,Fh hN hi,Option.bind_some,Option.bind_some];by_cases h0:hres N h=0
 case neg=>
  have hne:(hres N h != 0)=true:=by simpa using h0
  rw[if_pos hne,if_pos hne];exact⟨_,_,rfl,rfl,.inr ⟨h0,rfl⟩⟩
 have hok:=hres_zero.1 h0;have hnz:¬(hres N h != 0)=true:=by simp[h0]
 rw[if_neg hnz,if_neg hnz,Y2,Fr,Option.bind_some,Option.bind_some];by_cases hv:0<=v/\v<(h.Tree.n:Int)
 case neg=>
  have hb:(!((decide (0<=v))&&(decide (v<(h.Tree.n:Int)))))=true:=by simp;omega
  rw[if_pos hb,if_pos hb];exact⟨_,_,rfl,rfl,.inr ⟨by decide,rfl⟩⟩
 have hb:¬(!((decide (0<=v))&&(decide (v<(h.Tree.n:Int)))))=true:=by simp;omega
 rw[if_neg hb,if_neg hb,V5,Option.bind_some];obtain⟨u,rfl⟩:∃u:Nat,v=(u:Int):=⟨v.toNat,by omega⟩;have h63:=hok.tree.2.1;have hw:=WE hN hok.tree (v:=u) (by omega);have hlen:=Ok hok.tree u u (Nat.le_refl _) (by omega);have hit:=KP hi (UK h.Tree u) (Sl.nil:Sl Int) (fun x hx=>by have:=RY hok.tree u u (Nat.le_refl _) (by omega) x hx;have:=hok.on;omega) (by show 0+_<=_;omega);rw[KN hi hok.tree hok.on N u (by omega) (by omega),Option.bind_some];refine⟨N1 h u,0,?_,rfl,.inl ⟨rfl,hok,by omega,by omega,by rw[Int.toNat_natCast]⟩⟩;show (M8 N (u:Int) h.Tree).bind _=_;rw[hw,Option.bind_some,hit,Qh hok.tree u u (Nat.le_refl _) (by omega)]
theorem WF {N:Nat}{h:A8}(hok:KO N h):∀(m v:Nat),v<=m->v<h.Tree.n->∀i,i<(N1 h v).n->0<=(N1 h v).g i/\(N1 h v).g i<h.Laws.n
 |m,v,hm,hv,i,hi=>by
  have Ac1:∀j,j<(h.On.g v).n->0<=(h.On.g v).g j/\(h.On.g v).g j<h.Laws.n:=fun j hj=>by
   have:=hok.bad v (by have:=hok.on;omega)
   constructor
   ·exact Int.not_lt.1 fun g=>this ⟨j,hj,.inl g⟩
   ·exact Int.not_le.1 fun g=>this ⟨j,hj,.inr g⟩
  rcases Y4 hok.tree hv with⟨_,e⟩ | ⟨p,hp,e⟩
  ·rw[Dz (by omega)]at hi⊢;have hi:i<0+(h.On.g v).n:=hi
   have:((Sl.nil:Sl Int).app (h.On.g v)).g i=(h.On.g v).g i:=by show (if i<0 then (default:Int)else (h.On.g v).g (i-0))=_;rw[if_neg (by omega)];rfl
   rw[this];exact Ac1 i (by omega)
  ·rw[Hq e hp]at hi⊢;have hi:i<(N1 h p).n+(h.On.g v).n:=hi;show 0<=(if i<(N1 h p).n then (N1 h p).g i else (h.On.g v).g (i-(N1 h p).n))/\(if i<(N1 h p).n then (N1 h p).g i else (h.On.g v).g (i-(N1 h p).n))<_;split
   ·match m with
    |0=>omega
    |m+1=>exact WF hok m p (by omega) (by omega) i (by assumption)
   ·exact Ac1 _ (by omega)
end Go.AM
namespace Go.AM
open Go.Proofs
end Go.AM
namespace Go.AM
open IntKind (wrap)
open Go.Proofs
theorem eqR {R:Type}{x:Option R}{y:R}(h:∃r,x=some r/\r=y):x=some y:=by obtain⟨r,h,rfl⟩:=h;exact h
def Ol (t:Sl J1)(v:Nat):Prop:=∀u,0<u->u<t.n->(t.g u).Parent≠(v:Int)
open Classical in
noncomputable def T8 (t:Sl J1):Nat->Sl Int
 |0=>(Sl.nil:Sl Int)
 |i+1=>if Ol t i then (T8 t i).push (i:Int)else T8 t i
theorem KQ {t:Sl J1}{i:Nat}(h:Ol t i):T8 t (i+1)=(T8 t i).push (i:Int):=if_pos h
theorem Om {t:Sl J1}{i:Nat}(h:¬Ol t i):T8 t (i+1)=T8 t i:=if_neg h
theorem WG (t:Sl J1):∀i,(T8 t i).n<=i
 |0=>Nat.le_refl 0
 |i+1=>by
  have:=WG t i
  by_cases h:Ol t i
  ·rw[KQ h];show (T8 t i).n+1<=i+1;omega
  ·rw[Om h];omega
theorem RZ (t:Sl J1):∀i k,k<(T8 t i).n->∃v:Nat,v<i/\(T8 t i).g k=(v:Int)
 |0,k,hk=>absurd hk (Nat.not_lt_zero k)
 |i+1,k,hk=>by
  by_cases h:Ol t i
  ·rw[KQ h]at hk⊢;have hk:k<(T8 t i).n+1:=hk;show ∃v:Nat,v<i+1/\(if k<(T8 t i).n then (T8 t i).g k else (i:Int))=(v:Int);by_cases hlt:k<(T8 t i).n
   ·rw[if_pos hlt];obtain⟨v,h1,h2⟩:=RZ t i k hlt;exact⟨v,by omega,h2⟩
   ·rw[if_neg hlt];exact⟨i,by omega,rfl⟩
  ·rw[Om h]at hk⊢;obtain⟨v,h1,h2⟩:=RZ t i k hk;exact⟨v,by omega,h2⟩
theorem Ym {N:Nat}(hN:3000000<=N){t:Sl J1}(ht:AC t):∃X,T5 N t=some X/\(X.n=t.n/\∀v,v<t.n->((X.g v).n=0↔Ol t v)):=by
 have h63:=ht.2.1;unfold T5;refine ifT (by omega) (Db (fun i x (X:Sl (Sl Int))=>x=(i:Int)/\X.n=t.n/\∀v,v<t.n->(((X.g v).n=0 ↔ ∀u,0<u->u<i->(t.g u).Parent≠(v:Int))/\(X.g v).n<=i)) t.n _ (by omega)
  ⟨rfl,rfl,fun v hv=>⟨⟨fun _ u h1 h2=>absurd h2 (Nat.not_lt_zero u),fun _=>rfl⟩,Nat.le_refl 0⟩⟩ ?_)
 rintro self i x X hle ⟨rfl,hX,hI⟩ hs;by_cases hl:i<t.n
 case neg=>
  obtain rfl:i=t.n:=by omega
  exact ifF (by simp) ⟨X,rfl,hX,fun v hv=>(hI v hv).1⟩
 refine ifT (by simpa using hl) (ifT (by omega) ?_);rw[Int.toNat_natCast,N9 (by omega)];rcases Y4 ht hl with⟨h0,h1⟩ | ⟨p,hp,e⟩
 ·subst h0;rw[h1];refine ifT (by show Int.toNat (-1)<X.n;rw[hX];exact hl) (ltX (ifF (by simp) (hs hl _ _ ⟨rfl,hX,fun v hv=>?_⟩)));have e:(X.upd (Int.toNat (-1)) (X.g (Int.toNat (-1)))).g v=X.g v:=by
   show (if v=_ then X.g (Int.toNat (-1))else X.g v)=X.g v;split
   ·rename_i e;rw[e]
   ·rfl
  rw[e];obtain⟨g1,g2⟩:=hI v hv;exact⟨g1.trans ⟨fun _ u h1 h2=>absurd h2 (by omega),fun _ u h1 h2=>absurd h2 (by omega)⟩,by omega⟩
 ·rw[e,Int.toNat_natCast];have hpn:p<t.n:=by omega
  have hrow:=(hI p hpn).2;refine ifT (by omega) (ltX (ifT (by simp;omega) (ifT ⟨⟨by omega,by rw[hX];omega⟩,by omega,by omega⟩ (hs hl _ _ ⟨rfl,hX,fun v hv=>?_⟩))));show ((if v=p then (X.g p).push (i:Int)else X.g v).n=0↔_)/\(if v=p then (X.g p).push (i:Int)else X.g v).n<=i+1;by_cases hvp:v=p
  ·subst hvp;rw[if_pos rfl];refine⟨⟨fun h=>absurd h (Nat.succ_ne_zero _),fun h=>absurd e (h i (by omega) (by omega))⟩,?_⟩;show (X.g v).n+1<=i+1;omega
  ·rw[if_neg hvp];obtain⟨g1,g2⟩:=hI v hv;refine⟨g1.trans ⟨fun h u h1 h2=>?_,fun h u h1 h2=>h u h1 (by omega)⟩,by omega⟩;by_cases hu:u=i
   ·subst hu;rw[e];omega
   ·exact h u h1 (by omega)
theorem Aj3 {R:Type}{Q:R->Prop}{self:Sl Int->Int->Option R}{t:Sl J1}{i:Nat}(hi:i<1000){b:Bool}(hb:b=true↔Ol t i)(h:∃r,self (T8 t (i+1)) ((i+1:Nat):Int)=some r/\Q r) :∃r,(if b then
  if (((T8 t i).n+(Sl.of [(i:Int)]:Sl Int).n)*8<=140737488355328/\(T8 t i).n+(Sl.of [(i:Int)]:Sl Int).n<=140737488355328)then
   self ((T8 t i).push (i:Int)) (wrap .i64 ((i:Int)+1))
  else none
  else self (T8 t i) (wrap .i64 ((i:Int)+1)))=some r/\Q r:=by
 have hn:=WG t i;rw[N9 (by omega)];by_cases hk:Ol t i
 ·rw[KQ hk]at h;exact ifT (hb.2 hk) (ifT ⟨by show ((T8 t i).n+1)*8<=_;omega,by show (T8 t i).n+1<=_;omega⟩ h)
 ·rw[Om hk]at h;exact ifF (fun g=>hk (hb.1 g)) h
theorem Sa {N:Nat}(hN:3000000<=N){t:Sl J1}(ht:AC t):∃r,Au N t=some r/\r=T8 t t.n:=by
 have h63:=ht.2.1;unfold Au;obtain⟨X,e,hX,hk⟩:=Ym hN ht;refine I5 e (Db (fun i x1 x2=>x2=(i:Int)/\x1=T8 t i) t.n _ (by omega) ⟨rfl,rfl⟩ ?_);rintro self i x1 x2 hle ⟨rfl,rfl⟩ hs;by_cases hl:i<t.n
 ·refine ifT (by rw[hX];simpa using hl) (ifT (by omega) ?_);rw[Int.toNat_natCast];exact Aj3 (by omega) (by rw[<- hk i hl];simp) (hs hl _ _ ⟨rfl,rfl⟩)
 ·obtain rfl:i=t.n:=by omega
  exact ifF (by rw[hX];simp) ⟨_,rfl,rfl⟩
theorem Yn {N:Nat}(hN:3000000<=N){t:Sl J1}(ht:AC t){v:Nat}(hv:v<t.n):∃r,Y3 N t (v:Int)=some r/\(r.n=0↔Ol t v):=by
 have h63:=ht.2.1;unfold Y3;refine Db (fun i (x1:Sl Int) x2=>x2=(i:Int)/\x1.n<=i/\(x1.n=0 ↔ ∀u,0<u->u<i->(t.g u).Parent≠(v:Int))) t.n _ (by omega) ⟨rfl,Nat.le_refl 0,fun _ u h1 h2=>absurd h2 (Nat.not_lt_zero u),fun _=>rfl⟩ ?_;rintro self i x1 x2 hle ⟨rfl,hn,hI⟩ hs;by_cases hl:i<t.n
 ·refine ifT (by simpa using hl) (ifT (by omega) ?_);rw[Int.toNat_natCast,N9 (by omega)];by_cases hp:(t.g i).Parent=(v:Int)
  ·have h0:0<i:=by
    rcases Y4 ht hl with⟨h0,h1⟩ | ⟨p,hp,e⟩
    ·rw[h1]at hp;omega
    ·omega
   refine ifT (by simpa using hp) (ifT ⟨by show (x1.n+1)*8<=_;omega,by show x1.n+1<=_;omega⟩ (hs hl _ _ ⟨rfl,by show x1.n+1<=i+1;omega,fun h=>absurd h (Nat.succ_ne_zero _),fun h=>absurd hp (h i h0 (by omega))⟩))
  ·refine ifF (by simpa using hp) (hs hl _ _ ⟨rfl,by omega,hI.trans ⟨fun h u h1 h2=>?_,fun h u h1 h2=>h u h1 (by omega)⟩⟩);by_cases hu:u=i
   ·subst hu;exact hp
   ·exact h u h1 (by omega)
 ·obtain rfl:i=t.n:=by omega
  exact ifF (by simp) ⟨_,rfl,hI⟩
theorem UL {N:Nat}(hN:3000000<=N){t:Sl J1}(hi:KM t):∃s e,Av N t=some (s,e)/\Af N t=some (s,e)/\((AC t/\e=0/\s=T8 t t.n) \/ (¬AC t/\e=16/\s=(Sl.nil:Sl Int))):=by
 obtain⟨e,e1,e2,he⟩:=Oi hN hi;unfold Av Af;rw[e1,e2,Option.bind_some,Option.bind_some];rcases he with⟨rfl,ht⟩ | ⟨rfl,ht⟩
 ·have h63:=ht.2.1;rw[if_neg (by decide),if_neg (by decide)];obtain⟨r,g1,rfl⟩:=Sa hN ht;refine⟨_,0,by rw[g1];rfl,eqR (Db (fun i x1 x2=>x2=(i:Int)/\x1=T8 t i) t.n _ (by omega) ⟨rfl,rfl⟩ ?_),.inl ⟨ht,rfl,rfl⟩⟩;rintro self i x1 x2 hle ⟨rfl,rfl⟩ hs;by_cases hl:i<t.n
  ·refine ifT (by simpa using hl) ?_;obtain⟨r,k1,k2⟩:=Yn hN ht hl;exact I5 k1 (Aj3 (by omega) (by rw[<- k2];simp) (hs hl _ _ ⟨rfl,rfl⟩))
  ·obtain rfl:i=t.n:=by omega
   exact ifF (by simp) ⟨_,rfl,rfl⟩
 ·exact⟨_,16,if_pos (by decide),if_pos (by decide),.inr ⟨ht,rfl,rfl⟩⟩
end Go.AM
namespace Go.AM
open Go.Proofs
theorem WH {N:Nat}(hN:3000000<=N)(h:A8):∃b,Cq N h=some b/\True:=by
 unfold Cq;by_cases hb:(((decide (70<(h.Tree.n:Int)))||(decide (70<(h.Laws.n:Int))))||(decide (70<(h.On.n:Int))))=true
 ·exact ifT hb ⟨_,rfl,trivial⟩
 refine ifF hb ?_;have hb' : h.Laws.n<=70/\h.On.n<=70:=by simp at hb;omega
 refine Eu (fun i x=>x=(i:Int)) h.On.n _ (by omega) rfl ?_;rintro self i x hi rfl hs;by_cases hlt:i<h.On.n
 ·refine ifT (by simp;omega) (ifT (by omega) ?_);by_cases h5:(decide (70<((h.On.g (i:Int).toNat).n:Int)))=true
  ·exact ifT h5 ⟨_,rfl,trivial⟩
  ·exact ifF h5 (hs hlt _ (N9 (by omega)))
 ·refine ifF (by simp;omega) ?_;refine Eu (fun i x=>x=(i:Int)) h.Laws.n _ (by omega) rfl ?_;rintro self2 i x hi rfl hs2;by_cases hlt:i<h.Laws.n
  ·rw[N9 (by omega)];refine ifT (by simp;omega) (ifT (by omega) ?_);obtain⟨r,hr⟩:=Yi (N:=N) (by omega) (h.Laws.sub (i:Int).toNat ((i+1:Nat):Int).toNat);refine I5 hr ?_;have last:∀z3:Bool,∃r,(if z3 then some false else self2 ((i+1:Nat):Int))=some r/\True:=fun z=>by
    cases z
    ·exact ifF (by simp) (hs2 hlt _ rfl)
    ·exact ifT rfl ⟨_,rfl,trivial⟩
   refine ltX ?_;by_cases g1:(decide (4<r))=true
   ·exact ifT g1 (last _)
   refine ifF g1 ?_;by_cases g2:(decide (20<((h.Laws.g (i:Int).toNat).If.n:Int)))=true
   ·exact ifT g2 (last _)
   refine ifF g2 ?_;by_cases g3:(decide (20<((h.Laws.g (i:Int).toNat).Out.n:Int)))=true
   ·exact ifT g3 (last _)
   refine ifF g3 ?_;obtain⟨a,ha,_⟩:=Ho (N:=N) (by omega) (h.Laws.g (i:Int).toNat).Left;refine I5 ha ?_;by_cases g4:(decide (41<(a:Int)))=true
   ·exact ifT g4 (last _)
   refine ifF g4 ?_;obtain⟨c,hc,_⟩:=Ho (N:=N) (by omega) (h.Laws.g (i:Int).toNat).Right;exact I5 hc (last _)
  ·exact ifF (by simp;omega) ⟨_,rfl,trivial⟩
theorem WI {N:Nat}(hN:3000000<=N){h:A8}(hi:CE h)(l:Sl (Sl Sound)):∃b,Cr N h l=some b/\(b=true->l.n<=300/\∀i,i<l.n->(l.g i).n<=50):=by
 obtain⟨b,hb,_⟩:=WH hN h;unfold Cr;refine I5 hb ?_;by_cases g:((!b)||(decide (300<(l.n:Int))))=true
 ·exact ifT g ⟨_,rfl,fun g=>by cases g⟩
 refine ifF g ?_;have hn:l.n<=300:=by simp at g;omega
 refine Db (fun i x1 x2=>x2=(i:Int)/\∀j,j<i->(l.g j).n<=50) l.n _ (by omega) ⟨rfl,fun j hj=>absurd hj (by omega)⟩ ?_;rintro self i x1 x2 hi2 ⟨rfl,hw⟩ hs;by_cases hlt:i<l.n
 ·refine ifT (by simp;omega) (ifT (by omega) ?_);rw[Int.toNat_natCast];by_cases g5:(decide (50<((l.g i).n:Int)))=true
  ·exact ifT g5 ⟨_,rfl,fun g=>by cases g⟩
  ·refine ifF g5 (hs hlt _ _ ⟨N9 (by omega),fun j hj=>?_⟩);by_cases e:j=i
   ·subst e;simp at g5;omega
   ·exact hw j (by omega)
 ·obtain rfl:i=l.n:=by omega
  refine ifF (by simp) ?_;by_cases g5:((decide ((l.n:Int)<=256))&&(decide (1500<x1)))=true
  ·exact ifT g5 ⟨_,rfl,fun g=>by cases g⟩
  refine ifF g5 (I5 (Fh hN hi) ?_);by_cases g6:(hres N h != 0)=true
  ·exact ifT g6 ⟨_,rfl,fun _=>⟨hn,hw⟩⟩
  refine ifF g6 ?_;have hok:KO N h:=hres_zero.1 (by simpa using g6);have h64:=hok.laws.1;have hon:=hi.on;refine Db (fun i x3 x4=>x4=(i:Int)) h.Laws.n _ (by omega) rfl ?_;rintro self2 i x3 x4 hi2 rfl hs2;by_cases hlt:i<h.Laws.n
  ·obtain⟨a,ha,_⟩:=Ho (N:=N) (by omega) (h.Laws.g (i:Int).toNat).Left;obtain⟨c,hc,_⟩:=Ho (N:=N) (by omega) (h.Laws.g (i:Int).toNat).Right;exact ifT (by simp;omega) (ifT (by omega) (I5 ha (I5 hc (hs2 hlt _ _ (N9 (by omega))))))
  ·refine ifF (by simp;omega) ?_;refine Db (fun i x3 x4=>x4=(i:Int)) h.On.n _ (by omega) rfl ?_;rintro self3 i x3 x4 hi2 rfl hs3;by_cases hlt:i<h.On.n
   ·exact ifT (by simp;omega) (ifT (by omega) (hs3 hlt _ _ (N9 (by omega))))
   ·exact ifF (by simp;omega) ⟨_,rfl,fun _=>⟨hn,hw⟩⟩
def YW (l:Sl Int)(j:Nat)(i:Int):Bool:=(List.range j).any fun q=>l.g q==i
theorem KR (l:Sl Int)(j:Nat)(i:Int):YW l (j+1) i=(YW l j i||(l.g j==i)):=by simp[YW,List.range_succ]
def UM (z:BitVec 64)(k:Nat)(b:Bool):BitVec 64:=if b then z ||| (1#64 <<< k)else z
theorem Tg {z:BitVec 64}{k:Nat}(hk:k<64)(b:Bool):D9 .or .u64 (U (UM z k b)) (shI .shl .u64 1 (k:Int))=U (UM z k true):=by
 rw[shl64 _ hk,or64];unfold UM;cases b
 ·rfl
 ·show U (z ||| 1#64 <<< k ||| 1#64 <<< k)=U (z ||| 1#64 <<< k);rw[BitVec.or_assoc,BitVec.or_self]
def Ab6 (M:Nat->Bool):Nat->BitVec 64
 |0=>0#64
 |k+1=>UM (Ab6 M k) k (M k)
noncomputable def Q9 (h:A8) (k:Nat):Nat:=((T8 h.Tree h.Tree.n).g k).toNat
noncomputable def Qi (h:A8) (i k:Nat):Bool:=YW (N1 h (Q9 h k)) (N1 h (Q9 h k)).n (i:Int)
noncomputable def Yo (h:A8):List Int:=(List.range h.Laws.n).map fun i=>U (Ab6 (Qi h i) (T8 h.Tree h.Tree.n).n)
theorem Ab7 {h:A8}{k:Nat}(hk:k<(T8 h.Tree h.Tree.n).n):Q9 h k<h.Tree.n/\(T8 h.Tree h.Tree.n).g k=(Q9 h k:Int):=by obtain⟨v,h1,h2⟩:=RZ h.Tree h.Tree.n k hk;unfold Q9;rw[h2,Int.toNat_natCast];exact⟨h1,rfl⟩
theorem Qj {N:Nat}(hN:3000000<=N){h:A8}(hi:CE h)(hok:KO N h){k:Nat}(hk:k<(T8 h.Tree h.Tree.n).n) :K7 N h ((T8 h.Tree h.Tree.n).g k)=some (N1 h (Q9 h k),0)/\BU N h ((T8 h.Tree h.Tree.n).g k)=some (N1 h (Q9 h k),0)/\(N1 h (Q9 h k)).n<=64 /\
  ∀j,j<(N1 h (Q9 h k)).n->0<=(N1 h (Q9 h k)).g j/\(N1 h (Q9 h k)).g j<h.Laws.n:=by
 obtain⟨h1,h2⟩:=Ab7 hk;obtain⟨s,e,a,b,c⟩:=Yl hN hi (Q9 h k:Int);have hlong:(N1 h (Q9 h k)).n<=64:=Nat.not_lt.1 fun g=>hok.long ⟨Q9 h k,by have:=hok.on;omega,g⟩;rcases c with⟨rfl,_,_,_,rfl⟩ | ⟨g1,g2⟩
 ·rw[Int.toNat_natCast]at a b;rw[h2];exact⟨a,b,hlong,WF hok _ _ (Nat.le_refl _) h1⟩
 ·exfalso;unfold K7 at a;rw[DB hN hi,hres_zero.2 hok,Option.bind_some,if_neg (by decide),Y2,Option.bind_some,if_neg (by simp;omega)]at a;cases hw:(V5 N h.Tree (Q9 h k:Int))with
  |none=>rw[hw]at a;cases a
  |some w=>have h63:=hok.tree.2.1;have hw2:=WE hN hok.tree (v:=Q9 h k) h1;have hit:=KP hi (UK h.Tree (Q9 h k)) (Sl.nil:Sl Int) (fun x hx=>by have:=RY hok.tree _ _ (Nat.le_refl _) h1 x hx;have:=hok.on;omega) (by have:=Ok hok.tree _ _ (Nat.le_refl _) h1;show 0+_<=_;omega);unfold V5 at a;rw[Option.bind_some]at a;replace a:(M8 N (Q9 h k:Int) h.Tree).bind _=_:=a;rw[hw2,Option.bind_some,hit]at a;cases a;exact g1 rfl
theorem WJ {N:Nat}(hN:3000000<=N){h:A8}(hi:CE h)(hok:KO N h){l:Sl Int}(hl:l=T8 h.Tree h.Tree.n)(hn:l.n<=32)(hlv:H5 N h=some (l,0)) :∃r:A3×Int,N8 N h=some r/\r.2=0/\r.1.Langs=(l.n:Int)/\r.1.Has.toList=Yo h:=by
 have h64:=hok.laws.1;unfold N8;refine I5 (DB hN hi) (ifF (by rw[hres_zero.2 hok];decide) (I5 hlv (ifF (by show ¬((0:Int) != 0)=true;decide) (ifT (by omega) ?_))));refine Db (fun k (x3:Sl Int) x4=>x4=(k:Int)/\x3.n=h.Laws.n/\∀i,i<h.Laws.n->x3.g i=U (Ab6 (Qi h i) k)) l.n _ (by omega) ⟨rfl,by show (h.Laws.n:Int).toNat=_;omega,fun i _=>rfl⟩ ?_;rintro self k x3 x4 hk ⟨rfl,hxn,hx⟩ hs;by_cases hkl:k<l.n
 ·obtain⟨a,_,hlen,hr⟩:=Qj hN hi hok (k:=k) (by rw[<- hl];exact hkl);rw[<- hl]at a;have hM:∀i,Qi h i k=YW (N1 h (Q9 h k)) (N1 h (Q9 h k)).n (i:Int):=fun i=>rfl;generalize N1 h (Q9 h k)=w at a hlen hr hM;refine ifT (by simp;omega) (ifT (by show ((0:Int)<=(k:Int)/\(k:Int)<(l.n:Int))/\(k:Int).toNat<l.n;omega) ?_);rw[Int.toNat_natCast];refine I5 a (ifF (by show ¬((0:Int) != 0)=true;decide) ?_);refine Db (fun j (x7:Sl Int) x8=>x8=(j:Int)/\x7.n=h.Laws.n/\∀i,i<h.Laws.n->x7.g i=U (UM (Ab6 (Qi h i) k) k (YW w j (i:Int)))) w.n _ (by omega) ⟨rfl,hxn,fun i hii=>hx i hii⟩ ?_;rintro self4 j x7 x8 hj ⟨rfl,g1,g2⟩ hs4;by_cases hjl:j<w.n
  ·obtain⟨r1,r2⟩:=hr j hjl;refine ifT (by simp;omega) (ifT (by show ((0:Int)<=(j:Int)/\(j:Int)<(w.n:Int))/\(j:Int).toNat<w.n;omega) ?_);rw[Int.toNat_natCast];refine ifT (by show (((((0:Int)<=w.g j/\w.g j<(x7.n:Int))/\(w.g j).toNat<x7.n)/\(0:Int)<=(k:Int))/\((0:Int)<=w.g j/\w.g j<(x7.n:Int)))/\(w.g j).toNat<x7.n;omega) (hs4 hjl _ _ ⟨N9 (by omega),g1,fun i hii=>?_⟩);show (if i=(w.g j).toNat then _ else x7.g i)=_;rw[KR];by_cases e:i=(w.g j).toNat
   ·rw[if_pos e,<- e,g2 i hii,Tg (by omega),show (w.g j==(i:Int))=true by rw[beq_iff_eq];omega,Bool.or_true]
   ·rw[if_neg e,g2 i hii,show (w.g j==(i:Int))=false by rw[beq_eq_false_iff_ne];omega,Bool.or_false]
  ·obtain rfl:j=w.n:=by omega
   refine ifF (by show ¬decide ((w.n:Int)<(w.n:Int))=true;simp) (hs hkl _ _ ⟨N9 (by omega),g1,fun i hii=>?_⟩);rw[g2 i hii,<- hM];rfl
 ·obtain rfl:k=l.n:=by omega
  refine ifF (by simp) ⟨_,rfl,rfl,rfl,?_⟩;show x3.toList=_;unfold Sl.toList Yo;rw[hxn,<- hl];exact List.map_congr_left fun i hii=>hx i (List.mem_range.1 hii)
theorem Yp {N:Nat}(hN:3000000<=N){h:A8}(hi:CE h)(hok:KO N h){l:Sl Int}(hl:l=T8 h.Tree h.Tree.n)(hn:l.n<=32)(hlv:Af N h.Tree=some (l,0)) :∃r:R9×Int,Ag N h=some r/\r.2=0/\r.1.Langs=(l.n:Int)/\r.1.Has.toList=Yo h:=by
 have h64:=hok.laws.1;unfold Ag;refine I5 (Fh hN hi) (ifF (by rw[hres_zero.2 hok];decide) (I5 hlv (ifF (by simp;omega) ?_)));refine Db (fun i (x9:Sl Int) x10=>x10=(i:Int)/\x9.toList=(List.range i).map fun i=>U (Ab6 (Qi h i) (T8 h.Tree h.Tree.n).n)) h.Laws.n _ (by omega) ⟨rfl,rfl⟩ ?_;rintro self i x9 x10 hii ⟨rfl,hx⟩ hs;have hxn:x9.n=i:=by rw[<- SX x9,hx];simp
 by_cases hil:i<h.Laws.n
 ·refine ifT (by simp;omega) ?_;refine Db (fun k (x21 x22:Int)=>x22=(k:Int)/\x21=U (Ab6 (Qi h i) k)) l.n _ (by omega) ⟨rfl,rfl⟩ ?_;rintro self12 k x21 x22 hk ⟨rfl,rfl⟩ hs12;by_cases hkl:k<l.n
  ·obtain⟨_,a,hlen,hr⟩:=Qj hN hi hok (k:=k) (by rw[<- hl];exact hkl);rw[<- hl]at a;have hM:∀i,Qi h i k=YW (N1 h (Q9 h k)) (N1 h (Q9 h k)).n (i:Int):=fun i=>rfl;generalize N1 h (Q9 h k)=w at a hlen hr hM;refine ifT (by simp;omega) (ifT (by show ((0:Int)<=(k:Int)/\(k:Int)<(l.n:Int))/\(k:Int).toNat<l.n;omega) ?_);rw[Int.toNat_natCast];refine I5 a ?_;refine Db (fun j (x25 x26:Int)=>x26=(j:Int)/\x25=U (UM (Ab6 (Qi h i) k) k (YW w j (i:Int)))) w.n _ (by omega) ⟨rfl,rfl⟩ ?_;rintro self13 j x25 x26 hj ⟨rfl,rfl⟩ hs13;by_cases hjl:j<w.n
   ·refine ifT (by simp;omega) (ifT (by show ((0:Int)<=(j:Int)/\(j:Int)<(w.n:Int))/\(j:Int).toNat<w.n;omega) ?_);rw[Int.toNat_natCast];by_cases e:(w.g j==(i:Int))=true
    ·refine ifT e (ifT (by omega) (hs13 hjl _ _ ⟨N9 (by omega),?_⟩));rw[Tg (by omega),KR,e,Bool.or_true]
    ·refine ifF e (hs13 hjl _ _ ⟨N9 (by omega),?_⟩);rw[KR,show (w.g j==(i:Int))=false by simpa using e,Bool.or_false]
   ·obtain rfl:j=w.n:=by omega
    refine ifF (by show ¬decide ((w.n:Int)<(w.n:Int))=true;simp) (hs12 hkl _ _ ⟨N9 (by omega),?_⟩);rw[<- hM];rfl
  ·obtain rfl:k=l.n:=by omega
   refine ifF (by simp) (ifT (by show (x9.n+1)*8<=_/\x9.n+1<=_;omega) (hs hil _ _ ⟨N9 (by omega),?_⟩));rw[RQ,hx,Wo,<- hl]
 ·obtain rfl:i=h.Laws.n:=by omega
  exact ifF (by simp) ⟨_,rfl,rfl,rfl,hx⟩
theorem Ab8 {N:Nat}(hN:3000000<=N){h:A8}(hi:CE h) :∃(r:A3×Int) (u:R9×Int),N8 N h=some r/\Ag N h=some u/\r.1.Langs=u.1.Langs/\r.1.Has.toList=u.1.Has.toList/\r.2=u.2/\r.1.Has.n<=100:=by
 by_cases h0:hres N h=0
 case neg=>
  have hne:(hres N h != 0)=true:=by simpa using h0
  refine⟨(⟨0,Sl.nil⟩,hres N h),(⟨0,Sl.nil⟩,hres N h),?_,?_,rfl,rfl,rfl,by show 0<=100;omega⟩
  ·unfold N8;rw[DB hN hi,Option.bind_some,if_pos hne]
  ·unfold Ag;rw[Fh hN hi,Option.bind_some,if_pos hne]
 have hok:=hres_zero.1 h0;have h64:=hok.laws.1;obtain⟨s,e,a,b,c⟩:=UL hN hi.tree;rcases c with⟨_,rfl,hs⟩ | ⟨g,_⟩
 ·by_cases h32:32<s.n
  ·have hlv:H5 N h=some ((Sl.nil:Sl Int),12):=by unfold H5;rw[a,Option.bind_some,if_neg (by show ¬((0:Int) != 0)=true;decide),if_pos (by simp;omega)]
   refine⟨(⟨0,Sl.nil⟩,12),(⟨0,Sl.nil⟩,12),?_,?_,rfl,rfl,rfl,by show 0<=100;omega⟩
   ·unfold N8;rw[DB hN hi,Option.bind_some,if_neg (by rw[h0];decide),hlv,Option.bind_some,if_pos (by show ((12:Int) != 0)=true;decide)]
   ·unfold Ag;rw[Fh hN hi,Option.bind_some,if_neg (by rw[h0];decide),b,Option.bind_some,if_pos (by simp;omega)]
  ·have hlv:H5 N h=some (s,0):=by unfold H5;rw[a,Option.bind_some,if_neg (by show ¬((0:Int) != 0)=true;decide),if_neg (by simp;omega)]
   obtain⟨r,a1,a2,a3,a4⟩:=WJ hN hi hok hs (by omega) hlv;obtain⟨u,b1,b2,b3,b4⟩:=Yp hN hi hok hs (by omega) b;refine⟨r,u,a1,b1,by rw[a3,b3],by rw[a4,b4],by rw[a2,b2],?_⟩;rw[<- SX r.1.Has,a4,Yo];simp;omega
 ·exact absurd hok.tree g
theorem MM {N:Nat}(hN:3000000<=N)(hw:AP N=some true){h:A8}(hi:CE h):Ax N h=some true:=by
 obtain⟨b,hb,_⟩:=WI hN hi (Sl.nil:Sl (Sl Sound));obtain⟨r,u,a1,a2,a3,a4,a5,a6⟩:=Ab8 hN hi;have hS:=Ab1 (N:=N) (u:=r.1) (r:=u.1) a3 a4 (by omega) (by omega);unfold Ax;rw[hb,Option.bind_some];cases b
 ·rw[if_pos (show (!false)=true from rfl),hw];rfl
 ·rw[if_neg (show ¬(!true)=true by decide),a1,a2];simp only[Option.bind_some,lt,hS,if_true,a5,beq_self_eq_true,hw]
end Go.AM
namespace Go.AM
open Go.Proofs
end Go.AM
namespace Go.AM
open Go.Proofs
end Go.AM
namespace Go.AM
open Go.Proofs
end Go.AM
namespace Go.AM
open Go.Proofs
end Go.AM
namespace Go.AM
open Go.Proofs
end Go.AM
