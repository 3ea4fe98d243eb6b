/- What a law's walk and its plain proof need, part 8: no condition of its own. -/
import Derived.Test.YtegikiijkjlikaaGreatDoorBmG
import Derived.Test.YtegikiijkjlikaaGreatDoorBmF
set_option linter.unusedSimpArgs false
set_option linter.unusedVariables false
set_option linter.unusedSectionVars false
set_option linter.unusedVariables false
namespace Go.AM
open Go.Proofs
abbrev sOf (x y:BitVec 32):Sound:=⟨(x.toNat:Int),(y.toNat:Int)⟩
def okS (s:Sound):Prop:=∃ p m:BitVec 32,s=sOf p m
theorem eq0 (x:BitVec 32):((x.toNat:Int) == 0)=decide (x=0#32):=by
 rw [Bool.eq_iff_iff]
 simp only [beq_iff_eq,decide_eq_true_eq]
 constructor
 ·intro h;apply BitVec.eq_of_toNat_eq;show x.toNat=0;omega
 ·rintro rfl;rfl
theorem z32 (x:BitVec 32):x=0#32 ↔ ∀ i,i < 32->x.getLsbD i=false:=by
 constructor
 ·rintro rfl i hi;simp
 ·intro h;apply BitVec.eq_of_getLsbD_eq;intro i hi;rw [h i hi];simp
theorem AJ6 {x y:BitVec 32} (h:∀ b,b < 32->x.getLsbD b=y.getLsbD b):x=y:=BitVec.eq_of_getLsbD_eq h
theorem BV7 (x:BitVec 32) (i:Nat):(C6 .and .u32 (shI .shr .u32 (x.toNat:Int) (i:Int)) 1 == 1)=x.getLsbD i:=by
 rw [CC5,show (1:Int)=((1#32).toNat:Int) from rfl,As2]
 have h:(x >>> i &&& 1#32)=(BitVec.ofBool (x.getLsbD i)).setWidth 32:=by
  apply BitVec.eq_of_getLsbD_eq
  intro j hj
  simp only [BitVec.getLsbD_and,BitVec.getLsbD_ushiftRight,BitVec.getLsbD_setWidth,BitVec.getLsbD_ofBool]
  by_cases h0:j=0
  ·subst h0;simp
  ·have:(1#32).getLsbD j=false:=by
    rw [BitVec.getLsbD_one];simp [h0]
   simp [this,h0]
 rw [h]
 cases x.getLsbD i <;> rfl
theorem CK6 (i:Nat):shI .shl .u32 1 (i:Int)=((1#32 <<< i).toNat:Int):=by
 rw [show (1:Int)=((1#32).toNat:Int) from rfl,CP9]
theorem Cn9 {i j:Nat} (hj:j < 32):(1#32 <<< i).getLsbD j=decide (j=i):=by
 rw [BitVec.getLsbD_shiftLeft,BitVec.getLsbD_one]
 by_cases h:j=i
 ·subst h;simp [hj]
 ·by_cases h2:j < i
  ·simp [h,h2]
  ·have:j - i ≠ 0:=by omega
   simp [h,this]
theorem Az2 (x:BitVec 32):x.toNat < 16777216 ↔ ∀ i,24<=i->i < 32->x.getLsbD i=false:=by
 constructor
 ·intro h i hi hi2
  exact Nat.testBit_lt_two_pow (Nat.lt_of_lt_of_le h (Nat.pow_le_pow_right (n:=2) (i:=24) (by omega) hi))
 ·intro h
  refine Nat.lt_pow_two_of_testBit (n:=24) _ fun i hi=>?_
  by_cases h2:i < 32
  ·exact h i hi h2
  ·exact Nat.testBit_lt_two_pow (Nat.lt_of_lt_of_le x.isLt (Nat.pow_le_pow_right (by omega) (by omega)))
def vB (p m:BitVec 32):Bool:=decide (∀ i:Fin 32, ¬ (p.getLsbD i=true/\m.getLsbD i=true)/\(24<=i.1->p.getLsbD i=false/\m.getLsbD i=false))
theorem Av3 (p m:BitVec 32):vB p m=true ↔ ∀ i,i < 32->¬ (p.getLsbD i=true/\m.getLsbD i=true)/\(24<=i->p.getLsbD i=false/\m.getLsbD i=false):=by
 rw [vB,decide_eq_true_eq]
 exact ⟨fun h i hi=>h ⟨i,hi⟩,fun h i=>h i.1 i.2⟩
theorem BV8 (p m:BitVec 32):p &&& m=0#32 ↔ ∀ i,i < 32->¬ (p.getLsbD i=true/\m.getLsbD i=true):=by
 rw [z32]
 refine forall_congr' fun i=>forall_congr' fun hi=>?_
 rw [BitVec.getLsbD_and,Bool.and_eq_false_iff]
 cases p.getLsbD i <;> cases m.getLsbD i <;> simp
theorem CS9 (p m:BitVec 32):vB p m=true ↔ p &&& m=0#32/\(p ||| m).toNat < 16777216:=by
 rw [Av3,BV8,Az2]
 constructor
 ·intro h
  refine ⟨fun i hi=>(h i hi).1,fun i h1 h2=>?_⟩
  have:=(h i h2).2 h1
  rw [BitVec.getLsbD_or,this.1,this.2];rfl
 ·rintro ⟨h1,h2⟩ i hi
  refine ⟨h1 i hi,fun h24=>?_⟩
  have:=h2 i h24 hi
  rw [BitVec.getLsbD_or,Bool.or_eq_false_iff] at this
  exact this
theorem CT0 (p m:BitVec 32):vB p m=true ↔ p &&& m=0#32/\p.toNat < 16777216/\m.toNat < 16777216:=by
 rw [Av3,BV8,Az2,Az2]
 exact ⟨fun h=>⟨fun i hi=>(h i hi).1,fun i h1 h2=>((h i h2).2 h1).1,fun i h1 h2=>((h i h2).2 h1).2⟩,fun ⟨h1,h2,h3⟩ i hi=>⟨h1 i hi,fun h24=>⟨h2 i h24 hi,h3 i h24 hi⟩⟩⟩
theorem Ae2 {N:Nat} (p m:BitVec 32):F5 N (sOf p m)=some (vB p m):=by
 unfold F5
 rw [As2,AO5,eq0]
 congr 1
 rw [Bool.eq_iff_iff,CS9]
 simp only [Bool.and_eq_true,decide_eq_true_eq]
 exact ⟨fun h=>⟨h.1,by have:=h.2;omega⟩,fun h=>⟨h.1,by have:=h.2;omega⟩⟩
theorem shr24 (x:BitVec 32):(shI .shr .u32 (x.toNat:Int) 24 == 0)=decide (x.toNat < 16777216):=by
 rw [show (24:Int)=((24:Nat):Int) from rfl,CC5,Bool.eq_iff_iff]
 simp only [beq_iff_eq,decide_eq_true_eq,BitVec.toNat_ushiftRight,Nat.shiftRight_eq_div_pow]
 have:=Nat.div_eq_zero_iff (a:=x.toNat) (b:=2 ^ 24)
 omega
theorem BE4 {N:Nat} (p m:BitVec 32):Ac2 N (sOf p m)=some (vB p m):=by
 unfold Ac2
 rw [As2,AO5,eq0,shr24]
 congr 1
 rw [Bool.eq_iff_iff,CS9]
 simp only [Bool.and_eq_true,decide_eq_true_eq]
theorem BE5 {N:Nat} (p m:BitVec 32):N2 N (sOf p m)=some (vB p m):=BE4 (N:=N) p m
theorem Bm2 {N:Nat} (p m:BitVec 32):P3 N (sOf p m)=some (vB p m):=by
 unfold P3
 rw [As2,eq0]
 congr 1
 rw [Bool.eq_iff_iff,CT0]
 simp only [Bool.and_eq_true,decide_eq_true_eq]
 exact ⟨fun h=>⟨h.1.1,by have:=h.1.2;omega,by have:=h.2;omega⟩,fun h=>⟨⟨h.1,by have:=h.2.1;omega⟩,by have:=h.2.2;omega⟩⟩
theorem X5 {N:Nat} (p m:BitVec 32) (hN:1000<=N):H2 N (sOf p m)=some (vB p m):=by
 suffices h:∃ r,H2 N (sOf p m)=some r/\r=vB p m by obtain ⟨r,h,rfl⟩:=h;exact h
 unfold H2
 refine Av7 (fun i x1=>x1=(i:Int)/\∀ j,j < i->¬ (p.getLsbD j=true/\m.getLsbD j=true)/\(24<=j->p.getLsbD j=false/\m.getLsbD j=false)) 32 _ (by omega) ⟨rfl,fun j hj=>absurd hj (by omega)⟩ ?_
 rintro self i x1 hi ⟨rfl,h1⟩ hs
 by_cases hl:i < 32
 ·refine ifT (by simp;omega) (ifT (by omega) ?_)
  simp only [BV7]
  have e24:decide ((24:Int)<=(i:Int))=decide (24<=i):=decide_eq_decide.2 (by omega)
  rw [e24]
  by_cases hb:¬ (p.getLsbD i=true/\m.getLsbD i=true)/\(24<=i->p.getLsbD i=false/\m.getLsbD i=false)
  ·refine ifF ?_ (hs hl _ ⟨C7 (by omega),fun j hj=>?_⟩)
   ·intro h
    obtain ⟨h2,h3⟩:=hb
    revert h h2 h3
    by_cases h24:24<=i
    ·intro h h2 h3
     obtain ⟨a,b⟩:=h3 h24
     simp [a,b] at h
    ·cases p.getLsbD i <;> cases m.getLsbD i <;> simp [h24]
   ·by_cases e:j=i
    ·subst e;exact hb
    ·exact h1 j (by omega)
  ·refine ifT ?_ ⟨false,rfl, ?_⟩
   ·revert hb
    by_cases h24:24<=i
    ·cases p.getLsbD i <;> cases m.getLsbD i <;> simp [h24]
    ·cases p.getLsbD i <;> cases m.getLsbD i <;> simp [h24]
   ·symm;rw [<- Bool.not_eq_true,Av3];exact fun h=>hb (h i hl)
 ·refine ifF (by simp;omega) ⟨true,rfl, ?_⟩
  symm;rw [Av3];exact fun j hj=>h1 j (by omega)
def gB (p m:BitVec 32) (f:Nat):Int:=if p.getLsbD f=true then 1 else if m.getLsbD f=true then -1 else 0
theorem BV9 {N:Nat} (p m:BitVec 32) (hv:vB p m=true) (f:Nat) (hf:f < 24) (hN:1000<=N):U3 N (sOf p m) (f:Int)=some (gB p m f):=by
 unfold U3
 rw [X5 p m hN]
 simp only [Option.bind_some,lt,Aj3,BV7,gB,hv]
 rw [if_pos (by omega:(0:Int)<=(f:Int)),if_pos (by omega:(0:Int)<=(f:Int))]
 have e:(decide ((0:Int)<=(f:Int)) && decide ((f:Int) < 24))=true:=by simp;omega
 rw [e]
 cases h1:p.getLsbD f <;> cases h2:m.getLsbD f <;> simp
theorem gB_eq {p m a b:BitVec 32} (hv:vB p m=true) (hv' : vB a b=true) (f:Nat) (hf:f < 32):(gB a b f ≠ 0->gB p m f=gB a b f) ↔ ((a.getLsbD f=true->p.getLsbD f=true)/\(b.getLsbD f=true->m.getLsbD f=true)):=by
 have h1:=((Av3 p m).1 hv f hf).1
 have h2:=((Av3 a b).1 hv' f hf).1
 revert h1 h2
 simp only [gB]
 cases a.getLsbD f <;> cases b.getLsbD f <;> cases p.getLsbD f <;> cases m.getLsbD f <;> simp
def Cg4 (p m a b:BitVec 32):Bool:=vB p m && (vB a b && decide (∀ i:Fin 32,(a.getLsbD i=true->p.getLsbD i=true)/\(b.getLsbD i=true->m.getLsbD i=true)))
theorem CK7 (a p:BitVec 32):a &&& ~~~ p=0#32 ↔ ∀ i,i < 32->(a.getLsbD i=true->p.getLsbD i=true):=by
 rw [z32]
 refine forall_congr' fun i=>forall_congr' fun hi=>?_
 rw [BitVec.getLsbD_and,BitVec.getLsbD_not]
 cases a.getLsbD i <;> cases p.getLsbD i <;> simp [hi]
theorem CK8 {N:Nat} (p m a b:BitVec 32):I4 N (sOf p m) (sOf a b)=some (Cg4 p m a b):=by
 unfold I4
 rw [Ae2]
 simp only [Option.bind_some,lt,Ae2,Aq0,eq0,Cg4]
 cases h1:vB p m
 ·simp
 cases h2:vB a b
 ·simp
 simp only [if_true,Bool.true_and]
 have key:(decide (∀ i:Fin 32,(a.getLsbD i=true->p.getLsbD i=true)/\(b.getLsbD i=true->m.getLsbD i=true)))=(decide (a &&& ~~~ p=0#32) && decide (b &&& ~~~ m=0#32)):=by
  rw [Bool.eq_iff_iff]
  simp only [Bool.and_eq_true,decide_eq_true_eq,CK7]
  exact ⟨fun h=>⟨fun i hi=>(h ⟨i,hi⟩).1,fun i hi=>(h ⟨i,hi⟩).2⟩,fun h i=>⟨h.1 i.1 i.2,h.2 i.1 i.2⟩⟩
 rw [key]
 by_cases h:a &&& ~~~ p=0#32
 ·simp [h]
 ·simp [h]
theorem CK9 {N:Nat} (p m a b:BitVec 32) (hN:1000<=N):N8 N (sOf p m) (sOf a b)=some (Cg4 p m a b):=by
 suffices h:∃ r,N8 N (sOf p m) (sOf a b)=some r/\r=Cg4 p m a b by obtain ⟨r,h,rfl⟩:=h;exact h
 unfold N8
 rw [X5 p m hN]
 refine B7 rfl (ltX ?_)
 cases h1:vB p m
 ·exact ifT (by simp) (ifT rfl ⟨false,rfl,by simp [Cg4,h1]⟩)
 refine ifF (by simp) ?_
 rw [X5 a b hN]
 refine B7 rfl ?_
 cases h2:vB a b
 ·exact ifT (by simp) ⟨false,rfl,by simp [Cg4,h2]⟩
 refine ifF (by simp) ?_
 refine Av7 (fun i x3=>x3=(i:Int)/\∀ j,j < i->((a.getLsbD j=true->p.getLsbD j=true)/\(b.getLsbD j=true->m.getLsbD j=true))) 24 _ (by omega) ⟨rfl,fun j hj=>absurd hj (by omega)⟩ ?_
 rintro self i x3 hi ⟨rfl,h3⟩ hs
 by_cases hl:i < 24
 ·refine ifT (by simp;omega) (B7 (BV9 a b h2 i hl hN) (ltX ?_))
  have key:=gB_eq h1 h2 i (by omega)
  have fin:(¬ (gB a b i ≠ 0->gB p m i=gB a b i))->false=Cg4 p m a b:=fun hn=>by
   symm;simp only [Cg4,h1,h2,Bool.true_and]
   rw [<- Bool.not_eq_true,decide_eq_true_eq]
   intro h
   exact hn (key.2 (h ⟨i,by omega⟩))
  have go:(gB a b i ≠ 0->gB p m i=gB a b i)->∃ r,self (IntKind.wrap .i64 ((i:Int)+1))=some r/\r=Cg4 p m a b:=fun hp=>hs hl _ ⟨C7 (by omega),fun j hj=>by
   by_cases e:j=i
   ·subst e;exact key.1 hp
   ·exact h3 j (by omega)⟩
  by_cases hz:gB a b i=0
  ·exact ifF (by simp [hz]) (ifF (by simp) (go fun h=>absurd hz h))
  ·refine ifT (by simp [hz]) (B7 (BV9 p m h1 i hl hN) ?_)
   by_cases he:gB p m i=gB a b i
   ·exact ifF (by simp [he]) (go fun _=>he)
   ·exact ifT (by simp [he]) ⟨false,rfl,fin fun h=>he (h hz)⟩
 ·refine ifF (by simp;omega) ⟨true,rfl, ?_⟩
  symm;simp only [Cg4,h1,h2,Bool.true_and,decide_eq_true_eq]
  intro j
  by_cases hj:j.1 < 24
  ·exact h3 j.1 (by omega)
  ·have:=((Av3 a b).1 h2 j.1 j.2).2 (by omega)
   exact ⟨fun h=>by rw [this.1] at h;exact absurd h (by simp),fun h=>by rw [this.2] at h;exact absurd h (by simp)⟩
def Bt8 (x y s:BitVec 32):BitVec 32:=(x &&& ~~~ s) ||| (y &&& s)
theorem CD5 {N:Nat} (p m a b s:BitVec 32):Af4 N (sOf p m) (sOf a b) (s.toNat:Int)=some (sOf (Bt8 p a s) (Bt8 m b s)):=by
 unfold Af4
 simp only [Aq0,As2,AO5,Bt8]
def CT1 (x:BitVec 32) (f:Nat) (on:Bool):BitVec 32:=if on=true then (x &&& ~~~ (1#32 <<< f)) ||| (1#32 <<< f) else x &&& ~~~ (1#32 <<< f)
theorem AA7 (x:BitVec 32) (f:Nat) (on:Bool) {j:Nat} (hj:j < 32):(CT1 x f on).getLsbD j=if j=f then on else x.getLsbD j:=by
 unfold CT1
 cases on
 ·rw [if_neg (by simp),BitVec.getLsbD_and,BitVec.getLsbD_not,Cn9 hj]
  by_cases e:j=f <;> simp [e,hj]
 ·rw [if_pos rfl,BitVec.getLsbD_or,BitVec.getLsbD_and,BitVec.getLsbD_not,Cn9 hj]
  by_cases e:j=f <;> simp [e,hj]
theorem Co0 {N:Nat} (p m:BitVec 32) (f:Nat) (v:Int):Ah3 N (sOf p m) (f:Int) v=some (sOf (CT1 p f (v == 1)) (CT1 m f (v == -1))):=by
 unfold Ah3
 rw [if_pos (by omega)]
 simp only [CK6,Aq0,AO5]
 cases h1:v == 1 <;> cases h2:v == -1 <;> simp [CT1]
def Cy7 (p m c a b:BitVec 32):Sound × Int:=if vB p m=true/\vB a b=true then (if c.toNat < 16777216/\c &&& (a ||| b)=0#32 then (sOf (Bt8 p a (c ||| (a ||| b))) (Bt8 m b (c ||| (a ||| b))),0) else (⟨0,0⟩,2)) else (⟨0,0⟩,14)
theorem Cd9 {N:Nat} (p m c a b:BitVec 32):N1 N (sOf p m) (c.toNat:Int) (sOf a b)=some (Cy7 p m c a b):=by
 unfold N1 Cy7
 rw [Ae2]
 simp only [Option.bind_some,lt,Ae2,Al3,AO5,As2,CD5]
 cases h1:vB p m
 ·simp
 cases h2:vB a b
 ·simp
 by_cases h3:c.toNat < 16777216
 ·have e:((c &&& (a ||| b)).toNat:Int) != 0 ↔ ¬ (c &&& (a ||| b)=0#32):=by
   have:=eq0 (c &&& (a ||| b))
   simp only [bne_iff_ne,ne_eq]
   rw [<- decide_eq_true_eq (p:=c &&& (a ||| b)=0#32), <- this];simp
  by_cases h4:c &&& (a ||| b)=0#32
  ·simp [h3,h4];omega
  ·have e':=e.2 h4
   rw [if_neg (by simp <;> omega),e']
   simp [h3,h4]
 ·simp [h3];omega
theorem Ce0 {N:Nat} (p m c a b:BitVec 32) (hN:1000<=N):O8 N (sOf p m) (c.toNat:Int) (sOf a b)=some (Cy7 p m c a b):=by
 suffices h:∃ r,O8 N (sOf p m) (c.toNat:Int) (sOf a b)=some r/\r=Cy7 p m c a b by obtain ⟨r,h,rfl⟩:=h;exact h
 unfold O8
 rw [X5 p m hN]
 refine B7 rfl (ltX ?_)
 cases h1:vB p m
 ·exact ifT (by simp) (ifT rfl ⟨_,rfl,by simp [Cy7,h1]⟩)
 refine ifF (by simp) ?_
 rw [X5 a b hN]
 refine B7 rfl ?_
 cases h2:vB a b
 ·exact ifT (by simp) ⟨_,rfl,by simp [Cy7,h2]⟩
 refine ifF (by simp) ?_
 rw [AO5,As2]
 by_cases hc:c.toNat < 16777216/\c &&& (a ||| b)=0#32
 ·obtain ⟨hc1,hc2⟩:=hc
  refine ifF (by rw [hc2];simp;omega) ?_
  have hd:∀ j,j < 32->¬ (c.getLsbD j=true/\(a.getLsbD j=true \/ b.getLsbD j=true)):=fun j hj=>by
   have:=(z32 _).1 hc2 j hj
   rw [BitVec.getLsbD_and,BitVec.getLsbD_or] at this
   revert this
   cases c.getLsbD j <;> cases a.getLsbD j <;> cases b.getLsbD j <;> simp
  refine Cy5 (fun i x2 x3 x4=>x4=(i:Int)/\∃ P M:BitVec 32,x2=(P.toNat:Int)/\x3=(M.toNat:Int)/\∀ j,j < 32 ->
   P.getLsbD j=(if j < i/\(c.getLsbD j=true \/ a.getLsbD j=true \/ b.getLsbD j=true) then a.getLsbD j else p.getLsbD j)/\M.getLsbD j=(if j < i/\(c.getLsbD j=true \/ a.getLsbD j=true \/ b.getLsbD j=true) then b.getLsbD j else m.getLsbD j)) 24 _ (by omega)
   ⟨rfl,p,m,rfl,rfl,fun j hj=>by simp⟩ ?_
  rintro self i x2 x3 x4 hi ⟨rfl,P,M,rfl,rfl,hPM⟩ hs
  by_cases hl:i < 24
  ·refine ifT (by simp;omega) (ifT (by omega) ?_)
   rw [BV7]
   have hG:=BV9 (N:=N) a b h2 i hl hN
   have hab:=((Av3 a b).1 h2 i (by omega)).1
   have hdi:=hd i (by omega)
   by_cases hci:c.getLsbD i=true
   ·refine ifT hci (B7 (Co0 P M i 0) (B7 hG ?_))
    have ea:a.getLsbD i=false:=by cases e:a.getLsbD i <;> simp_all
    have eb:b.getLsbD i=false:=by cases e:b.getLsbD i <;> simp_all
    refine ifF (by simp [gB,ea,eb]) (hs hl _ _ _ ⟨C7 (by omega),_,_,rfl,rfl,fun j hj=>?_⟩)
    rw [AA7 _ _ _ hj,AA7 _ _ _ hj]
    by_cases e:j=i
    ·subst e;simp [hci,ea,eb]
    ·have:=hPM j hj
     have e2:j < i+1 ↔ j < i:=by omega
     simp only [e,if_false,e2];exact this
   ·refine ifF hci (B7 hG ?_)
    by_cases hz:gB a b i=0
    ·have ea:a.getLsbD i=false:=by revert hz;simp only [gB];cases a.getLsbD i <;> simp
     have eb:b.getLsbD i=false:=by revert hz;simp only [gB,ea];cases b.getLsbD i <;> simp
     refine ifF (by simp [hz]) (hs hl _ _ _ ⟨C7 (by omega),P,M,rfl,rfl,fun j hj=>?_⟩)
     by_cases e:j=i
     ·subst e;have:=hPM j hj;simpa [hci,ea,eb] using this
     ·have:=hPM j hj
      have e2:j < i+1 ↔ j < i:=by omega
      simp only [e2];exact this
    ·refine ifT (by simp [hz]) (B7 hG (B7 (Co0 P M i _) (hs hl _ _ _ ⟨C7 (by omega),_,_,rfl,rfl,fun j hj=>?_⟩)))
     rw [AA7 _ _ _ hj,AA7 _ _ _ hj]
     by_cases e:j=i
     ·subst e
      revert hz hab
      simp only [gB]
      cases a.getLsbD j <;> cases b.getLsbD j <;> simp
     ·have:=hPM j hj
      have e2:j < i+1 ↔ j < i:=by omega
      simp only [e,if_false,e2];exact this
  ·obtain rfl:i=24:=by omega
   refine ifF (by simp) ⟨_,rfl, ?_⟩
   simp only [Cy7,h1,h2,hc1,hc2,and_self,if_true]
   have hp:=(Av3 p m).1 h1
   have hA:=(Av3 a b).1 h2
   have hcs:=(Az2 c).1 hc1
   have eP:P=Bt8 p a (c ||| (a ||| b)):=AJ6 fun j hj=>by
    rw [(hPM j hj).1,Bt8,BitVec.getLsbD_or,BitVec.getLsbD_and,BitVec.getLsbD_and,BitVec.getLsbD_not,BitVec.getLsbD_or,BitVec.getLsbD_or]
    by_cases h24:j < 24
    ·cases c.getLsbD j <;> cases a.getLsbD j <;> cases b.getLsbD j <;> cases p.getLsbD j <;> simp [h24,hj]
    ·have g1:=(hp j hj).2 (by omega)
     have g2:=(hA j hj).2 (by omega)
     simp [h24,g1.1,g2.1]
   have eM:M=Bt8 m b (c ||| (a ||| b)):=AJ6 fun j hj=>by
    rw [(hPM j hj).2,Bt8,BitVec.getLsbD_or,BitVec.getLsbD_and,BitVec.getLsbD_and,BitVec.getLsbD_not,BitVec.getLsbD_or,BitVec.getLsbD_or]
    by_cases h24:j < 24
    ·cases c.getLsbD j <;> cases a.getLsbD j <;> cases b.getLsbD j <;> cases m.getLsbD j <;> simp [h24,hj]
    ·have g1:=(hp j hj).2 (by omega)
     have g2:=(hA j hj).2 (by omega)
     simp [h24,g1.2,g2.2]
   rw [eP,eM]
 ·refine ifT ?_ ⟨_,rfl, ?_⟩
  ·rw [Bool.or_eq_true,decide_eq_true_eq,bne_iff_ne]
   by_cases h:c.toNat < 16777216
   ·right
    intro h0
    exact hc ⟨h,BitVec.eq_of_toNat_eq (by show _=0;omega)⟩
   ·left;omega
  ·simp only [Cy7,h1,h2,and_self,if_true];rw [if_neg hc]
def Cy8 (p m a b s:BitVec 32):Sound × Int:=if vB p m=true/\vB a b=true then (if s.toNat < 16777216 then (sOf (Bt8 p a s) (Bt8 m b s),0) else (⟨0,0⟩,2)) else (⟨0,0⟩,14)
theorem Cy9 {N:Nat} (p m a b s:BitVec 32):Q7 N (sOf p m) (sOf a b) (s.toNat:Int)=some (Cy8 p m a b s):=by
 unfold Q7 Cy8
 rw [Ae2]
 simp only [Option.bind_some,lt,Ae2,CD5]
 cases h1:vB p m
 ·simp
 cases h2:vB a b
 ·simp
 by_cases h3:s.toNat < 16777216
 ·simp [h3];omega
 ·simp [h3];omega
theorem Cz0 {N:Nat} (p m a b s:BitVec 32) (hN:1000<=N):W4 N (sOf p m) (sOf a b) (s.toNat:Int)=some (Cy8 p m a b s):=by
 suffices h:∃ r,W4 N (sOf p m) (sOf a b) (s.toNat:Int)=some r/\r=Cy8 p m a b s by obtain ⟨r,h,rfl⟩:=h;exact h
 unfold W4
 rw [X5 p m hN]
 refine B7 rfl (ltX ?_)
 cases h1:vB p m
 ·exact ifT (by simp) (ifT rfl ⟨_,rfl,by simp [Cy8,h1]⟩)
 refine ifF (by simp) ?_
 rw [X5 a b hN]
 refine B7 rfl ?_
 cases h2:vB a b
 ·exact ifT (by simp) ⟨_,rfl,by simp [Cy8,h2]⟩
 refine ifF (by simp) ?_
 by_cases hc:s.toNat < 16777216
 ·refine ifF (by simp;omega) ?_
  refine Cy5 (fun i x2 x3 x4=>x4=(i:Int)/\∃ P M:BitVec 32,x2=(P.toNat:Int)/\x3=(M.toNat:Int)/\∀ j,j < 32 ->
   P.getLsbD j=(if j < i/\s.getLsbD j=true then a.getLsbD j else p.getLsbD j)/\M.getLsbD j=(if j < i/\s.getLsbD j=true then b.getLsbD j else m.getLsbD j)) 24 _ (by omega)
   ⟨rfl,p,m,rfl,rfl,fun j hj=>by simp⟩ ?_
  rintro self i x2 x3 x4 hi ⟨rfl,P,M,rfl,rfl,hPM⟩ hs
  by_cases hl:i < 24
  ·refine ifT (by simp;omega) (ifT (by omega) ?_)
   rw [BV7]
   have hab:=((Av3 a b).1 h2 i (by omega)).1
   by_cases hci:s.getLsbD i=true
   ·refine ifT hci (B7 (BV9 (N:=N) a b h2 i hl hN) (B7 (Co0 P M i _) (hs hl _ _ _ ⟨C7 (by omega),_,_,rfl,rfl,fun j hj=>?_⟩)))
    rw [AA7 _ _ _ hj,AA7 _ _ _ hj]
    by_cases e:j=i
    ·subst e
     revert hab
     simp only [gB,hci]
     cases a.getLsbD j <;> cases b.getLsbD j <;> simp
    ·have:=hPM j hj
     have e2:j < i+1 ↔ j < i:=by omega
     simp only [e,if_false,e2];exact this
   ·refine ifF hci (hs hl _ _ _ ⟨C7 (by omega),P,M,rfl,rfl,fun j hj=>?_⟩)
    by_cases e:j=i
    ·subst e;have:=hPM j hj;simpa [hci] using this
    ·have:=hPM j hj
     have e2:j < i+1 ↔ j < i:=by omega
     simp only [e2];exact this
  ·obtain rfl:i=24:=by omega
   refine ifF (by simp) ⟨_,rfl, ?_⟩
   simp only [Cy8,h1,h2,hc,and_self,if_true]
   have hcs:=(Az2 s).1 hc
   have eP:P=Bt8 p a s:=AJ6 fun j hj=>by
    rw [(hPM j hj).1,Bt8,BitVec.getLsbD_or,BitVec.getLsbD_and,BitVec.getLsbD_and,BitVec.getLsbD_not]
    by_cases h24:j < 24
    ·cases s.getLsbD j <;> cases a.getLsbD j <;> cases p.getLsbD j <;> simp [h24,hj]
    ·rw [if_neg (by simp [h24]),hcs j (by omega) hj]
     simp [hj]
   have eM:M=Bt8 m b s:=AJ6 fun j hj=>by
    rw [(hPM j hj).2,Bt8,BitVec.getLsbD_or,BitVec.getLsbD_and,BitVec.getLsbD_and,BitVec.getLsbD_not]
    by_cases h24:j < 24
    ·cases s.getLsbD j <;> cases b.getLsbD j <;> cases m.getLsbD j <;> simp [h24,hj]
    ·rw [if_neg (by simp [h24]),hcs j (by omega) hj]
     simp [hj]
   rw [eP,eM]
 ·exact ifT (by simp;omega) ⟨_,rfl,by simp [Cy8,h1,h2,hc]⟩
end Go.AM
set_option linter.unusedVariables false
namespace Go.AM
open Go.Proofs
def vS (s:Sound):Prop:=∃ p m:BitVec 32,s=sOf p m/\vB p m=true
def Bb6 (p:Pat):Prop:=
 (0<=p.Kind/\p.Kind<=6)/\(p.Kind ≠ 1->(p.Is.Plus=0/\p.Is.Minus=0)/\p.Not=false)/\(p.Kind ≠ 3->p.Kind ≠ 4->p.Kind ≠ 5->p.L.n=0)/\(p.Kind ≠ 5->p.Min=0/\p.Max=0) /\
 (p.Kind=5->p.L.n=1/\0<=p.Min/\p.Min<=32/\(p.Max = -1 \/ (p.Min<=p.Max/\p.Max<=32)))/\vS p.Is
theorem BP6 {s:Sound} {p m:BitVec 32} (h:s=sOf p m):vS s ↔ vB p m=true:=by
 constructor
 ·rintro ⟨q,r,e,hv⟩
  rw [h] at e
  have e1:(p.toNat:Int)=q.toNat:=congrArg Sound.Plus e
  have e2:(m.toNat:Int)=r.toNat:=congrArg Sound.Minus e
  rw [BitVec.eq_of_toNat_eq (show p.toNat=q.toNat by omega),BitVec.eq_of_toNat_eq (show m.toNat=r.toNat by omega)];exact hv
 ·exact fun hv=>⟨p,m,h,hv⟩
def okPS:Pat->Prop
 | .nil=>True
 | .mk _ is _ _ _ n g=>okS is/\∀ i,i < n->okPS (g i)
theorem okPS.is {p:Pat} (h:okPS p):okS p.Is:=by
 cases p with
 | nil=>exact ⟨0#32,0#32,rfl⟩
 | mk _ is _ _ _ n g=>exact h.1
theorem okPS.L {p:Pat} (h:okPS p) {i:Nat} (hi:i < p.L.n):okPS (p.L.g i):=by
 cases p with
 | nil=>exact absurd hi (by show ¬ i < 0;omega)
 | mk _ is _ _ _ n g=>exact h.2 i hi
def chk:Nat->List Pat->Prop
 | 0,l=>l=[]
 | _+1, []=>True
 | k+1,p :: l=>Bb6 p/\chk k (p.L.toList ++ l)
theorem Co1:∀ k,chk k []
 | 0=>rfl
 | _+1=>trivial
theorem Bb7:∀ (k:Nat) (l:List Pat),chk k l->l.length<=k
 | 0,l,h=>by rw [show l=[] from h];exact Nat.le_refl _
 | k+1, [],_=>Nat.zero_le _
 | k+1,p :: l,⟨_,h⟩=>by
  have:=Bb7 k _ h
  rw [List.length_append] at this
  simp only [List.length_cons];omega
theorem BW0:∀ (d:Nat) (p:Pat),okP d p->okP (d+1) p
 | 0,_,h=>h.elim
 | d+1,p,⟨h1,h2,h3⟩=>⟨h1,h2,fun i hi=>BW0 d _ (h3 i hi)⟩
theorem Bm3 {α : Type} {s:Sl α} {i:Nat} (h:i < s.n):s.g i ∈ s.toList:=List.mem_map.2 ⟨i,List.mem_range.2 h,rfl⟩
theorem S8 {α : Type} (s:Sl α):s.toList.length=s.n:=by simp [Sl.toList]
theorem Co2:∀ (k:Nat) (l:List Pat),k<=40->chk k l->∀ p ∈ l,okP k p
 | 0,l,_,h,p,hp=>by rw [show l=[] from h] at hp;cases hp
 | k+1, [],_,_,p,hp=>by cases hp
 | k+1,q :: l,hk,⟨hn,h⟩,p,hp=>by
  have ih:=Co2 k _ (by omega) h
  rcases List.mem_cons.1 hp with rfl | hp
  ·have hl:=Bb7 k _ h
   rw [List.length_append,S8] at hl
   exact ⟨by omega,fun h5=>hn.2.2.2.2.1 h5,fun i hi=>ih _ (List.mem_append_left _ (Bm3 hi))⟩
  ·exact BW0 k p (ih p (List.mem_append_right _ hp))
theorem Cz1 {N:Nat} {p:Pat} (hp:okS p.Is):∃ e,Aq7 N p=some e/\(e=0 ↔ Bb6 p):=by
 obtain ⟨a,b,he⟩:=hp
 have hv:=BP6 he
 unfold Aq7 Bb6
 by_cases h1:0<=p.Kind/\p.Kind<=6
 case neg=>exact ifT (by simp;omega) ⟨2,rfl,by simp;omega⟩
 refine ifF (by simp;omega) ?_
 have e0:((p.Is.Plus == 0) && (p.Is.Minus == 0))=decide (p.Is.Plus=0/\p.Is.Minus=0):=by
  rw [Bool.eq_iff_iff];simp
 rw [e0]
 by_cases h2:p.Kind ≠ 1->(p.Is.Plus=0/\p.Is.Minus=0)/\p.Not=false
 case neg=>
  refine ifT ?_ ⟨2,rfl,by simp [h2]⟩
  simp only [Bool.and_eq_true,Bool.or_eq_true,bne_iff_ne,ne_eq,Bool.not_eq_true,decide_eq_false_iff_not]
  rw [Classical.not_imp] at h2
  refine ⟨h2.1, ?_⟩
  by_cases h:p.Is.Plus=0/\p.Is.Minus=0
  ·right
   cases hn:p.Not
   ·exact absurd ⟨h,hn⟩ h2.2
   ·rfl
  ·exact .inl h
 refine ifF ?_ (ltX ?_)
 ·simp only [Bool.and_eq_true,Bool.or_eq_true,bne_iff_ne,ne_eq,Bool.not_eq_true,decide_eq_false_iff_not]
  rintro ⟨g1,g2⟩
  obtain ⟨g3,g4⟩:=h2 g1
  rcases g2 with g2 | g2
  ·exact g2 g3
  ·rw [g4] at g2;cases g2
 have rest:(p.Kind ≠ 3->p.Kind ≠ 4->p.Kind ≠ 5->p.L.n=0)->∃ e,(if ((p.Kind != 5) && ((p.Min != 0) || (p.Max != 0)))=true then some (2:Int) else
  lt (fun (z2:Bool)=>if z2=true then some 2 else (P3 N p.Is).bind fun y1=>if (!y1)=true then some 14 else some 0) fun k2=>
   if (p.Kind == 5)=true then if (((p.L.n:Nat):Int) != 1)=true then k2 true else if (decide (p.Min < 0))=true then k2 true else if (decide (32 < p.Min))=true then k2 true else
    if (p.Max != (-1))=true then if (decide (p.Max < p.Min))=true then k2 true else k2 (decide (32 < p.Max)) else k2 false else k2 false)=some e /\
  (e=0 ↔ (0<=p.Kind/\p.Kind<=6)/\(p.Kind ≠ 1->(p.Is.Plus=0/\p.Is.Minus=0)/\p.Not=false)/\(p.Kind ≠ 3->p.Kind ≠ 4->p.Kind ≠ 5->p.L.n=0)/\(p.Kind ≠ 5->p.Min=0/\p.Max=0) /\
   (p.Kind=5->p.L.n=1/\0<=p.Min/\p.Min<=32/\(p.Max = -1 \/ (p.Min<=p.Max/\p.Max<=32)))/\vS p.Is):=by
  intro h3
  by_cases h4:p.Kind ≠ 5->p.Min=0/\p.Max=0
  case neg=>
   refine ifT ?_ ⟨2,rfl,by simp [h4]⟩
   rw [Classical.not_imp] at h4
   simp only [Bool.and_eq_true,Bool.or_eq_true,bne_iff_ne,ne_eq]
   omega
  refine ifF ?_ (ltX ?_)
  ·simp only [Bool.and_eq_true,Bool.or_eq_true,bne_iff_ne,ne_eq]
   rintro ⟨g1,g2⟩
   have:=h4 g1
   omega
  have last:(p.Kind=5->p.L.n=1/\0<=p.Min/\p.Min<=32/\(p.Max = -1 \/ (p.Min<=p.Max/\p.Max<=32)))->∃ e,(if false=true then some (2:Int) else (P3 N p.Is).bind fun y1=>if (!y1)=true then some 14 else some 0)=some e /\
   (e=0 ↔ (0<=p.Kind/\p.Kind<=6)/\(p.Kind ≠ 1->(p.Is.Plus=0/\p.Is.Minus=0)/\p.Not=false)/\(p.Kind ≠ 3->p.Kind ≠ 4->p.Kind ≠ 5->p.L.n=0)/\(p.Kind ≠ 5->p.Min=0/\p.Max=0) /\
    (p.Kind=5->p.L.n=1/\0<=p.Min/\p.Min<=32/\(p.Max = -1 \/ (p.Min<=p.Max/\p.Max<=32)))/\vS p.Is):=by
   intro h5
   refine ifF (by simp) ?_
   rw [hv,he,Bm2]
   refine B7 rfl ?_
   cases hvb:vB a b
   ·exact ifT rfl ⟨14,rfl,by simp⟩
   ·exact ifF (by simp) ⟨0,rfl,by rw [<- he];exact ⟨fun _=>⟨h1,h2,h3,h4,h5,rfl⟩,fun _=>rfl⟩⟩
  have bad:¬ (p.Kind=5->p.L.n=1/\0<=p.Min/\p.Min<=32/\(p.Max = -1 \/ (p.Min<=p.Max/\p.Max<=32)))->∃ e,(if true=true then some (2:Int) else (P3 N p.Is).bind fun y1=>if (!y1)=true then some 14 else some 0)=some e /\
   (e=0 ↔ (0<=p.Kind/\p.Kind<=6)/\(p.Kind ≠ 1->(p.Is.Plus=0/\p.Is.Minus=0)/\p.Not=false)/\(p.Kind ≠ 3->p.Kind ≠ 4->p.Kind ≠ 5->p.L.n=0)/\(p.Kind ≠ 5->p.Min=0/\p.Max=0) /\
    (p.Kind=5->p.L.n=1/\0<=p.Min/\p.Min<=32/\(p.Max = -1 \/ (p.Min<=p.Max/\p.Max<=32)))/\vS p.Is):=fun h5=>ifT rfl ⟨2,rfl,⟨fun h=>absurd h (by decide),fun h=>absurd h.2.2.2.2.1 h5⟩⟩
  by_cases k5:p.Kind=5
  ·refine ifT (by simp [k5]) ?_
   by_cases g1:p.L.n=1
   case neg=>exact ifT (by simp;omega) (bad fun h=>g1 (h k5).1)
   refine ifF (by simp;omega) ?_
   by_cases g2:p.Min < 0
   ·exact ifT (by simpa using g2) (bad fun h=>by have:=h k5;omega)
   refine ifF (by simpa using g2) ?_
   by_cases g3:32 < p.Min
   ·exact ifT (by simpa using g3) (bad fun h=>by have:=h k5;omega)
   refine ifF (by simpa using g3) ?_
   by_cases g4:p.Max = -1
   ·exact ifF (by simp [g4]) (last fun _=>⟨g1,by omega,by omega, .inl g4⟩)
   refine ifT (by simp [g4]) ?_
   by_cases g5:p.Max < p.Min
   ·exact ifT (by simpa using g5) (bad fun h=>by have:=h k5;omega)
   refine ifF (by simpa using g5) ?_
   by_cases g6:32 < p.Max
   ·rw [decide_eq_true g6];exact bad fun h=>by have:=h k5;omega
   ·rw [decide_eq_false g6];exact last fun _=>⟨g1,by omega,by omega, .inr ⟨by omega,by omega⟩⟩
  ·exact ifF (by simp [k5]) (last fun h=>absurd h k5)
 by_cases k3:p.Kind=3
 ·exact ifF (by simp [k3]) (ifF (by simp) (rest fun h=>absurd k3 h))
 refine ifT (by simp [k3]) ?_
 by_cases k4:p.Kind=4
 ·exact ifF (by simp [k4]) (ifF (by simp) (rest fun _ h=>absurd k4 h))
 refine ifT (by simp [k4]) ?_
 by_cases k5:p.Kind=5
 ·exact ifF (by simp [k5]) (ifF (by simp) (rest fun _ _ h=>absurd k5 h))
 refine ifT (by simp [k5]) ?_
 by_cases hn:p.L.n=0
 ·exact ifF (by simp;omega) (rest fun _ _ _=>hn)
 ·exact ifT (by simp;omega) ⟨2,rfl,⟨fun h=>absurd h (by decide),fun h=>absurd (h.2.2.1 k3 k4 k5) hn⟩⟩
theorem AF2 {α : Type} (s:Sl α) {i:Nat} (h:i < s.n):s.toList.drop i=s.g i :: s.toList.drop (i+1):=by
 have hl:i < s.toList.length:=by rw [S8];exact h
 rw [List.drop_eq_getElem_cons hl]
 simp [Sl.toList]
theorem Az3 {α : Type} (s:Sl α):s.toList.drop s.n=[]:=List.drop_eq_nil_of_le (by rw [S8];exact Nat.le_refl _)
theorem Co3 {N:Nat} (hN:1000<=N):∀ (d:Nat),d<=40->∀ (p:Pat),okPS p->∀ M,N+d+1<=M->∃ r,Ak0 M p ((40 - d:Nat):Int)=some r /\
 ∃ k:Nat,r.1=(k:Int)/\40 - d<=k/\k<=40/\(r.2=0->40 - d < k/\∀ l,chk d (p :: l) ↔ chk (40 - k) l)/\(r.2 ≠ 0->∀ l, ¬ chk d (p :: l))
 | d,hd,p,hp,0,hM=>by omega
 | 0,hd,p,hp,M+1,hM=>by
  show ∃ r,U8 (Ak0 M) M p _=some r/\_
  unfold U8
  exact ifT (by simp) ⟨_,rfl,40,rfl,by omega,by omega,fun h=>absurd h (by decide),fun _ l h=>by cases h⟩
 | d+1,hd,p,hp,M+1,hM=>by
  show ∃ r,U8 (Ak0 M) M p _=some r/\_
  unfold U8
  refine ifF (by simp;omega) ?_
  obtain ⟨e,he,hn⟩:=Cz1 (N:=M) hp.is
  refine B7 he ?_
  by_cases h0:e=0
  case neg=>exact ifT (by simp [h0]) ⟨_,rfl,40 - (d+1),rfl,Nat.le_refl _,by omega,fun h=>absurd h h0,fun _ l h=>h0 (hn.2 h.1)⟩
  refine ifF (by simp [h0]) ?_
  have hnode:=hn.1 h0
  rw [C7 (by omega)]
  refine Aa2 (fun i x1 x2=>x2=(i:Int)/\∃ k:Nat,x1=(k:Int)/\40 - (d+1)+1+i<=k/\k<=40/\i<=p.L.n/\∀ l,chk (d+1) (p :: l) ↔ chk (40 - k) (p.L.toList.drop i ++ l)) 41 _ (by omega)
   ⟨rfl,40 - (d+1)+1,rfl,by omega,by omega,by omega,fun l=>by
    rw [show 40 - (40 - (d+1)+1)=d by omega]
    exact ⟨fun h=>h.2,fun h=>⟨hnode,h⟩⟩⟩ ?_
  rintro self i x1 x2 hi ⟨rfl,k,rfl,h1,h2,h3,h4⟩ hs
  by_cases hl:i < p.L.n
  ·refine ifT (by simp;omega) (ifT (by omega) ?_)
   obtain ⟨r,hr,k',r1,r2,r3,r4,r5⟩:=Co3 hN (40 - k) (by omega) (p.L.g i) (hp.L hl) M (by omega)
   rw [show ((40 - (40 - k):Nat):Int)=(k:Int) by omega] at hr
   refine B7 (by rw [Int.toNat_natCast];exact hr) ?_
   by_cases hz:r.2=0
   ·refine ifF (by simp [hz]) (hs (by omega) _ _ ⟨C7 (by omega),k',r1,by have:=(r4 hz).1;omega,r3,by omega,fun l=>?_⟩)
    rw [h4,AF2 _ hl,List.cons_append]
    exact (r4 hz).2 _
   ·refine ifT (by simp [hz]) ⟨_,rfl,k',r1,by omega,r3,fun h=>absurd h hz,fun _ l hc=>?_⟩
    rw [h4,AF2 _ hl,List.cons_append] at hc
    exact r5 hz _ hc
  ·obtain rfl:i=p.L.n:=by omega
   refine ifF (by simp) ⟨_,rfl,k,rfl,by omega,h2,fun _=>⟨by omega,fun l=>?_⟩,fun h=>absurd rfl h⟩
   rw [h4,Az3];rfl
theorem Bb8 {N:Nat} (hN:2000<=N) {p:Pat} (hp:okPS p):∃ e,Ab3 N p=some e/\(e=0 ↔ chk 40 [p]):=by
 obtain ⟨r,hr,k,h1,h2,h3,h4,h5⟩:=Co3 (N:=1500) (by omega) 40 (Nat.le_refl _) p hp N (by omega)
 unfold Ab3
 refine B7 hr ⟨_,rfl,fun h=>?_,fun h=>?_⟩
 ·exact ((h4 h).2 []).2 (Co1 _)
 ·by_cases hz:r.2=0
  ·exact hz
  ·exact absurd h (h5 hz [])
end Go.AM
set_option linter.unusedVariables false
namespace Go.AM
open Go.Proofs
theorem Co4 (x:BitVec 64) (h:x ≠ 0#64):Lib.ctz 64 x.toNat < 64/\x.getLsbD (Lib.ctz 64 x.toNat)=true/\∀ j,j < Lib.ctz 64 x.toNat->x.getLsbD j=false:=by
 have h0:x.toNat ≠ 0:=fun e=>h (BitVec.eq_of_toNat_eq (by simpa using e))
 obtain ⟨m,hm,hlt⟩:=Lib.ctzFrom_spec 64 x.toNat (by omega) x.isLt
 have e:Lib.ctz 64 x.toNat=Lib.ctzFrom 64 x.toNat:=by unfold Lib.ctz;rw [if_neg h0]
 rw [e]
 refine ⟨hlt, ?_,fun j hj=>?_⟩
 ·show x.toNat.testBit _=true
  rw [hm,Nat.testBit_two_pow_mul]
  simp [<- hm,Nat.testBit_zero]
 ·show x.toNat.testBit _=false
  rw [hm,Nat.testBit_two_pow_mul]
  simp [<- hm];omega
def Au1 (x:BitVec 64) (i:Nat):List Int:=((List.range' i (64 - i)).filter fun j=>x.getLsbD j).map fun (j:Nat)=>(j:Int)
theorem AM7 {x:BitVec 64} {i:Nat} (h:∀ j,j < 64->x.getLsbD j=false):Au1 x i=[]:=by
 unfold Au1
 rw [List.filter_eq_nil_iff.2 fun j hj=>by
  have:=List.mem_range'.1 hj
  simp;exact h j (by omega)]
 rfl
theorem Bm4 {x:BitVec 64} {t:Nat}:∀ (k i:Nat),t=i+k->t < 64->x.getLsbD t=true->(∀ j,j < t->x.getLsbD j=false)->Au1 x i=(t:Int) :: Au1 x (t+1)
 | 0,i,h,ht,hb,hl=>by
  obtain rfl:t=i:=by omega
  unfold Au1
  rw [show 64 - t=(64 - (t+1))+1 by omega,List.range'_succ,List.filter_cons_of_pos hb]
  rfl
 | k+1,i,h,ht,hb,hl=>by
  rw [<- Bm4 k (i+1) (by omega) ht hb hl]
  unfold Au1
  rw [show 64 - i=(64 - (i+1))+1 by omega,List.range'_succ,List.filter_cons_of_neg (by simp;exact hl i (by omega))]
theorem BP7 {x y:BitVec 64} {i:Nat} (h:∀ j,i<=j->x.getLsbD j=y.getLsbD j):Au1 x i=Au1 y i:=by
 unfold Au1
 rw [List.filter_congr fun j hj=>h j (by have:=List.mem_range'.1 hj;omega)]
def CU7 (M:Nat) (self:Int->Option (List Int)) (x1:Int):Option (List Int):=
 if (x1 != 0)=true then
  (F1 M x1).bind fun y3=>
  if (0:Int)<=y3 then
   Ad1 y3 (
    self (C6 .andNot .u64 x1 (shI .shl .u64 1 y3))
    )
  else none
 else
  some []
theorem Co5 {x:BitVec 64} {M:Nat} {self:Int->Option (List Int)} (hx:x ≠ 0#64):CU7 M self (U x)=Ad1 ((Lib.ctz 64 x.toNat:Nat):Int) (self (U (x &&& ~~~(1#64 <<< Lib.ctz 64 x.toNat)))):=by
 have h0:x.toNat ≠ 0:=fun e=>hx (BitVec.eq_of_toNat_eq (by simpa using e))
 have hlt:=x.isLt
 unfold CU7
 rw [if_pos (by simp;omega)]
 have:F1 M (U x)=some ((Lib.ctz 64 x.toNat:Nat):Int):=by
  unfold F1
  rw [if_pos ⟨show (0:Int)<=(x.toNat:Int) by omega,show (x.toNat:Int) < 18446744073709551616 by omega⟩]
  rfl
 rw [this,Option.bind_some,if_pos (by omega),BC4 _ (Co4 x hx).1,Cx9]
theorem BE6 {M:Nat} {self:Int->Option (List Int)}:CU7 M self (U 0#64)=some []:=rfl
theorem CL0 (M:Nat):∀ (k i:Nat) (x:BitVec 64),64 - i<=k->(∀ j,j < i->x.getLsbD j=false)->∀ N,k < N->Ae3 N (CU7 M) (U x)=some (Au1 x i):=by
 intro k
 induction k with
 | zero=>
  intro i x hk hl N hN
  have hz:x=0#64:=BitVec.eq_of_getLsbD_eq fun j hj=>by simp;exact hl j (by omega)
  subst hz
  match N,hN with
  | N+1,_=>
   rw [AM7 fun j hj=>by simp,R5,BE6]
 | succ k ih=>
  intro i x hk hl N hN
  match N,hN with
  | N+1,hN=>
   by_cases hx:x=0#64
   ·subst hx
    rw [AM7 fun j hj=>by simp,R5,BE6]
   ·obtain ⟨h1,h2,h3⟩:=Co4 x hx
    have hi:i<=Lib.ctz 64 x.toNat:=by
     by_cases hh:Lib.ctz 64 x.toNat < i
     ·rw [hl _ hh] at h2;cases h2
     ·omega
    rw [Bm4 (Lib.ctz 64 x.toNat - i) i (by omega) h1 h2 h3,R5,Co5 hx]
    generalize Lib.ctz 64 x.toNat=t at h1 h2 h3 hi
    have hb:∀ j,j < 64->(x &&& ~~~(1#64 <<< t)).getLsbD j=(x.getLsbD j && !decide (j=t)):=fun j hj=>by
     rw [BitVec.getLsbD_and,BitVec.getLsbD_not,Ay2 h1 hj];simp [hj]
    have hc:Au1 x (t+1)=Au1 (x &&& ~~~(1#64 <<< t)) (t+1):=BP7 fun j hj=>by
     by_cases hj2:j < 64
     ·rw [hb j hj2];have:¬ j=t:=by omega
      simp [this]
     ·rw [BitVec.getLsbD_of_ge _ _ (by omega),BitVec.getLsbD_of_ge _ _ (by omega)]
    rw [ih (t+1) (x &&& ~~~(1#64 <<< t)) (by omega) (fun j hj=>by
     rw [hb j (by omega)]
     by_cases e:j=t
     ·simp [e]
     ·rw [h3 j (by omega)];rfl) N (by omega), <- hc]
    rfl
theorem AF3 (x:BitVec 64) {N:Nat} (hN:100<=N):O3 N (U x)=some (Au1 x 0):=
 CL0 N 64 0 x (by omega) (fun j hj=>absurd hj (by omega)) N (by omega)
theorem mem_bitsF {x:BitVec 64} {i:Nat} {y:Int}:y ∈ Au1 x i ↔ ∃ j:Nat,y=(j:Int)/\i<=j/\j < 64/\x.getLsbD j=true:=by
 unfold Au1
 simp only [List.mem_map,List.mem_filter,List.mem_range'_1]
 constructor
 ·rintro ⟨j,⟨h1,h2⟩,rfl⟩;exact ⟨j,rfl,h1.1,by omega,h2⟩
 ·rintro ⟨j,rfl,h1,h2,h3⟩;exact ⟨j,⟨⟨h1,by omega⟩,h3⟩,rfl⟩
theorem Cz2 {T A R:Type} {body:(A->Option R)->T->A->Option R} {k:A->Option R} {J1:R->Prop} (J:List T->A->Prop) (hnil:∀ a,J [] a->∃ r,k a=some r/\J1 r)
 (hcons:∀ t L a self,J (t :: L) a->(∀ a',J L a' -> ∃ r,self a' = some r/\J1 r)->∃ r,body self t a=some r/\J1 r):∀ (L:List T) (a:A),J L a->∃ r,K4 L body k a=some r/\J1 r
 | [],a,h=>hnil a h
 | t :: L,a,h=>hcons t L a _ h fun a' h'=>Cz2 J hnil hcons L a' h'
def TabA (n:Nat) (R:Nat->Nat->Prop) (f:Nat->Int):Prop:=TabR n R f/\∀ a,n < a->f a=0
theorem TabA.congr {n:Nat} {R R' : Nat->Nat->Prop} {f:Nat->Int} (h:TabA n R f) (hr:∀ a b,a<=n->b<=n->(R a b ↔ R' a b)):TabA n R' f:=⟨h.1.congr hr,h.2⟩
theorem zeroA (n:Nat):TabA n (fun _ _=>False) (fun _=>0):=⟨Cy6 fun _ _=>rfl,fun _ _=>rfl⟩
theorem An8 (f:Nat->Int) (i:Nat) (v:Int) (a:Nat):AW4 f i v a=if a=i then v else f a:=rfl
theorem CD6 {N n:Nat} {R S:Nat->Nat->Prop} {x y:Nat->Int} (hn:n<=32) (hN:1000<=N) (hR:TabA n R x) (hS:TabA n S y) :
 ∃ s,J4 N x y=some s/\TabA n (fun a b=>R a b \/ S a b) s:=by
 unfold J4
 refine Aa2 (fun i x1 x2=>x2=(i:Int)/\∀ a,x1 a=if a < i then C6 .or .u64 (x a) (y a) else x a) 33 _ (by omega) ⟨rfl,fun a=>by rw [if_neg (by omega)]⟩ ?_
 rintro self i x1 x2 hi ⟨rfl,h2⟩ hs
 by_cases hl:i < 33
 ·refine ifT (by simp;omega) (ifT (by omega) (ifT (by omega) (hs (by omega) _ _ ⟨C7 (by omega),fun a=>?_⟩)))
  rw [An8,Int.toNat_natCast,Nat.zero_add,Nat.mul_one]
  by_cases e:a=i
  ·subst e;rw [if_pos rfl,if_pos (by omega),h2 a,if_neg (by omega)]
  ·rw [if_neg e,h2 a]
   by_cases e2:a < i
   ·rw [if_pos e2,if_pos (by omega)]
   ·rw [if_neg e2,if_neg (by omega)]
 ·refine ifF (by simp;omega) ⟨x1,rfl,fun a ha=>?_,fun a ha=>?_⟩
  ·obtain ⟨u,e1,g1⟩:=hR.1 a ha
   obtain ⟨v,e2,g2⟩:=hS.1 a ha
   refine ⟨u ||| v,by rw [h2 a,if_pos (by omega),e1,e2,CU6],fun b hb=>?_⟩
   rw [BitVec.getLsbD_or,Bool.or_eq_true,g1 b hb,g2 b hb]
   constructor
   ·rintro (⟨h1,h2⟩ | ⟨h1,h2⟩)
    ·exact ⟨h1, .inl h2⟩
    ·exact ⟨h1, .inr h2⟩
   ·rintro ⟨h1,h2 | h2⟩
    ·exact .inl ⟨h1,h2⟩
    ·exact .inr ⟨h1,h2⟩
  ·rw [h2 a]
   split
   ·rw [hR.2 a ha,hS.2 a ha];rfl
   ·exact hR.2 a ha
theorem Az4 {N n:Nat} (hn:n<=32) (hN:1000<=N):∃ s,N9 N (n:Int)=some s/\TabA n (fun a b=>a=b) s:=by
 unfold N9
 rw [C7 (by omega)]
 refine Aa2 (fun i x1 x2=>x2=(i:Int)/\∀ a,x1 a=if a < i then U (1#64 <<< a) else 0) (n+1) _ (by omega) ⟨rfl,fun a=>rfl⟩ ?_
 rintro self i x1 x2 hi ⟨rfl,h2⟩ hs
 by_cases hl:i<=n
 ·refine ifT (by simp;omega) (ifT (by omega) (hs (by omega) _ _ ⟨C7 (by omega),fun a=>?_⟩))
  rw [An8,Int.toNat_natCast,Nat.zero_add,Nat.mul_one]
  by_cases e:a=i
  ·subst e;rw [if_pos rfl,if_pos (by omega),BC4 _ (by omega)]
  ·rw [if_neg e,h2 a]
   by_cases e2:a < i
   ·rw [if_pos e2,if_pos (by omega)]
   ·rw [if_neg e2,if_neg (by omega)]
 ·refine ifF (by simp;omega) ⟨x1,rfl,fun a ha=>⟨1#64 <<< a,by rw [h2 a,if_pos (by omega)],fun b hb=>?_⟩,fun a ha=>by rw [h2 a,if_neg (by omega)]⟩
  rw [Ay2 (by omega) hb,decide_eq_true_eq];omega
theorem AT1 {N n:Nat} {R S:Nat->Nat->Prop} {x y:Nat->Int} (hn:n<=32) (hN:1000<=N) (hR:TabA n R x) (hS:TabA n S y) :
 ∃ s,D3 N x y=some s/\TabA n (fun a b=>∃ c,c<=n/\R a c/\S c b) s:=by
 unfold D3
 refine Aa2 (fun i x3 x4=>x4=(i:Int)/\(∀ a,a < i->a<=n->∃ z:BitVec 64,x3 a=U z/\∀ b,b < 64->(z.getLsbD b=true ↔ b<=n/\∃ c,c<=n/\R a c/\S c b))/\∀ a,i<=a \/ n < a->x3 a=0) 33 _ (by omega)
  ⟨rfl,fun a ha=>absurd ha (by omega),fun a _=>rfl⟩ ?_
 rintro self i x3 x4 hi ⟨rfl,h2,h3⟩ hs
 by_cases hl:i < 33
 ·refine ifT (by simp;omega) (ifT (by omega) ?_)
  rw [Int.toNat_natCast,Nat.zero_add,Nat.mul_one]
  refine B7 (x:=x i) rfl ?_
  by_cases hin:i<=n
  ·obtain ⟨u,e1,g1⟩:=hR.1 i hin
   refine B7 (x:=Au1 u 0) (by rw [e1];exact AF3 u (by omega)) ?_
   refine Cz2 (fun L z=>(∀ a,a ≠ i->z a=x3 a)/\(∀ t ∈ L,∃ c:Nat,t=(c:Int)/\c<=n/\R i c)/\∃ v:BitVec 64,z i=U v/\∀ b,b < 64->((v.getLsbD b=true \/ ∃ c:Nat,(c:Int) ∈ L/\b<=n/\S c b) ↔ (b<=n/\∃ c,c<=n/\R i c/\S c b))) ?_ ?_ _ _ ?_
   ·rintro z ⟨k1,k2,v,k3,k4⟩
    refine hs (by omega) _ _ ⟨C7 (by omega),fun a ha han=>?_,fun a ha=>?_⟩
    ·by_cases e:a=i
     ·subst e
      exact ⟨v,k3,fun b hb=>by rw [<- k4 b hb];simp⟩
     ·obtain ⟨z',p1,p2⟩:=h2 a (by omega) han
      exact ⟨z',by rw [k1 a e];exact p1,p2⟩
    ·rw [k1 a (by omega)];exact h3 a (by omega)
   ·rintro t L z self2 ⟨k1,k2,v,k3,k4⟩ hs2
    obtain ⟨c,rfl,hc,hRc⟩:=k2 t (by simp)
    refine ifT (by omega) (hs2 _ ⟨fun a ha=>?_,fun t ht=>k2 t (by simp [ht]), ?_⟩)
    ·rw [An8,if_neg (by omega)];exact k1 a ha
    ·obtain ⟨yc,e2,g2⟩:=hS.1 c hc
     refine ⟨v ||| yc, ?_,fun b hb=>?_⟩
     ·rw [An8,if_pos (by omega)]
      simp only [Int.toNat_natCast,Nat.zero_add,Nat.mul_one]
      rw [k3,e2,CU6]
     ·rw [<- k4 b hb,BitVec.getLsbD_or,Bool.or_eq_true,g2 b hb]
      constructor
      ·rintro ((h | ⟨h,h'⟩) | ⟨c',h,h'⟩)
       ·exact .inl h
       ·exact .inr ⟨c,by simp,h,h'⟩
       ·exact .inr ⟨c',by simp [h],h'⟩
      ·rintro (h | ⟨c',h,h',h''⟩)
       ·exact .inl (.inl h)
       ·rcases List.mem_cons.1 h with h | h
        ·have:c' = c:=by omega
         subst this;exact .inl (.inr ⟨h',h''⟩)
        ·exact .inr ⟨c',h,h',h''⟩
   ·refine ⟨fun _ _=>rfl,fun t ht=>?_,0#64,h3 i (.inl (Nat.le_refl _)),fun b hb=>?_⟩
    ·obtain ⟨j,rfl,_,hj,hb⟩:=mem_bitsF.1 ht
     exact ⟨j,rfl,((g1 j hj).1 hb).1,((g1 j hj).1 hb).2⟩
    ·simp only [BitVec.getLsbD_zero,Bool.false_eq_true,false_or]
     constructor
     ·rintro ⟨c,hc,h,h'⟩
      obtain ⟨j,hj,_,hj2,hb2⟩:=mem_bitsF.1 hc
      obtain rfl:c=j:=by omega
      exact ⟨h,c,((g1 c hj2).1 hb2).1,((g1 c hj2).1 hb2).2,h'⟩
     ·rintro ⟨h,c,hc,h',h''⟩
      exact ⟨c,mem_bitsF.2 ⟨c,rfl,by omega,by omega,(g1 c (by omega)).2 ⟨hc,h'⟩⟩,h,h''⟩
  ·refine B7 (x:=[]) (by rw [hR.2 i (by omega)];exact (AF3 0#64 (by omega)).trans (by rw [AM7 fun j hj=>by simp])) ?_
   exact hs (by omega) _ _ ⟨C7 (by omega),fun a ha han=>h2 a (by omega) han,fun a ha=>h3 a (by omega)⟩
 ·exact ifF (by simp;omega) ⟨x3,rfl,fun a ha=>h2 a (by omega) ha,fun a ha=>h3 a (.inr ha)⟩
theorem Cz3 (N:Nat) (x:Nat->Int):H4 N x=D3 N x x:=rfl
end Go.AM
set_option linter.unusedVariables false
namespace Go.AM
open Go.Proofs
theorem CT2:∀ m:Fin 33,(C6 .and .i64 ((m.val:Nat):Int) 1 == 1)=decide (m.val % 2=1)/\shI .shr .i64 ((m.val:Nat):Int) 1=((m.val / 2:Nat):Int):=by decide +kernel
theorem BE7 {N n:Nat} {R:Nat->Nat->Prop} {x:Nat->Int} (hn:n<=32) (hN:1000<=N) (hf:Fwd n R) (hR:TabA n R x) {k:Nat} (hk:k<=32) :
 ∃ s,E6 N x (k:Int) (n:Int)=some s/\TabA n (AD3 n R k) s:=by
 unfold E6
 obtain ⟨y1,e1,h1⟩:=Az4 (N:=N) hn hN
 refine B7 e1 ?_
 refine Cy5 (fun i x1 x2 x3=>x1=((k / 2 ^ i:Nat):Int)/\TabA n (AD3 n R (2 ^ i)) x2/\TabA n (AD3 n R (k % 2 ^ i)) x3) 6 _ (by omega) ⟨by simp, ?_, ?_⟩ ?_
 ·exact hR.congr fun a b ha hb=>⟨fun h=>⟨a,ha,rfl,h⟩,fun ⟨c,hc,(h:a=c),h'⟩=>h ▸ h'⟩
 ·rw [Nat.pow_zero,Nat.mod_one];exact h1
 ·rintro self i x1 x2 x3 hi ⟨rfl,h2,h3⟩ hs
  have hm:k / 2 ^ i<=32:=Nat.le_trans (Nat.div_le_self _ _) hk
  obtain ⟨b1,b2⟩:=CT2 ⟨k / 2 ^ i,by omega⟩
  simp only at b1 b2
  have hdiv:k / 2 ^ i / 2=k / 2 ^ (i+1):=by rw [Nat.div_div_eq_div_mul,Nat.pow_succ]
  have hmod:k % 2 ^ (i+1)=k % 2 ^ i+2 ^ i * (k / 2 ^ i % 2):=Nat.mod_pow_succ
  have hsq:∃ s,H4 N x2=some s/\TabA n (AD3 n R (2 ^ (i+1))) s:=by
   obtain ⟨s,e,h⟩:=AT1 hn hN h2 h2
   refine ⟨s,(Cz3 N x2).trans e,h.congr fun a b ha hb=>?_⟩
   rw [show 2 ^ (i+1)=2 ^ i+2 ^ i by rw [Nat.pow_succ];omega]
   exact (An4 hf (2 ^ i) ha (2 ^ i) b).symm
  obtain ⟨sq,esq,hsq⟩:=hsq
  by_cases hz:k / 2 ^ i=0
  ·refine ifF (by simp [hz]) ⟨x3,rfl, ?_⟩
   have:k % 2 ^ i=k:=Nat.mod_eq_of_lt (by
    have:=Nat.div_eq_zero_iff.1 hz
    rcases this with h | h
    ·exact absurd h (Nat.ne_of_gt (Nat.two_pow_pos i))
    ·exact h)
   rw [this] at h3;exact h3
  ·have hi6:i < 6:=by
    by_cases h:i < 6
    ·exact h
    ·exact absurd (Nat.div_eq_of_lt (Nat.lt_of_le_of_lt hk (Nat.lt_of_lt_of_le (by decide:32 < 2 ^ 6) (Nat.pow_le_pow_right (by omega) (by omega))))) hz
   refine ifT (decide_eq_true (Int.natCast_pos.2 (Nat.pos_of_ne_zero hz))) ?_
   by_cases ho:k / 2 ^ i % 2=1
   ·refine ifT (by rw [b1];simp [ho]) ?_
    obtain ⟨t,et,ht⟩:=AT1 hn hN h3 h2
    refine B7 et (B7 esq (hs hi6 _ _ _ ⟨by rw [b2,hdiv],hsq,ht.congr fun a b ha hb=>?_⟩))
    rw [hmod,ho,Nat.mul_one]
    exact (An4 hf (k % 2 ^ i) ha (2 ^ i) b).symm
   ·refine ifF (by rw [b1];simp [ho]) (B7 esq (hs hi6 _ _ _ ⟨by rw [b2,hdiv],hsq, ?_⟩))
    rw [hmod,show k / 2 ^ i % 2=0 by omega,Nat.mul_zero,Nat.add_zero];exact h3
theorem CL1 {s c:Sound} (hs:okS s) (hc:okS c):((C6 .or .u32 (C6 .andNot .u32 c.Plus s.Plus) (C6 .andNot .u32 c.Minus s.Minus)) == 0)=BN5 s c:=by
 obtain ⟨p,m,rfl⟩:=hs
 obtain ⟨a,b,rfl⟩:=hc
 have e:∀ x y:BitVec 32,((C6 .and .u32 (x.toNat:Int) (y.toNat:Int)) == (y.toNat:Int))=decide (y &&& ~~~ x=0#32):=by
  intro x y
  rw [As2,Bool.eq_iff_iff]
  simp only [beq_iff_eq,decide_eq_true_eq]
  constructor
  ·intro h
   have h:x &&& y=y:=BitVec.eq_of_toNat_eq (by omega)
   refine (z32 _).2 fun i hi=>?_
   have:=congrArg (·.getLsbD i) h
   simp only [BitVec.getLsbD_and,BitVec.getLsbD_not,hi,decide_true,Bool.true_and] at this ⊢
   cases hx:x.getLsbD i <;> cases hy:y.getLsbD i <;> simp_all
  ·intro h
   have:x &&& y=y:=AJ6 fun i hi=>by
    have:=(z32 _).1 h i hi
    simp only [BitVec.getLsbD_and,BitVec.getLsbD_not,hi,decide_true,Bool.true_and] at this ⊢
    cases hx:x.getLsbD i <;> cases hy:y.getLsbD i <;> simp_all
   rw [this]
 unfold BN5
 simp only [e,Aq0,AO5,eq0]
 rw [Bool.eq_iff_iff]
 simp only [Bool.and_eq_true,decide_eq_true_eq]
 constructor
 ·intro h
  have h:=(z32 _).1 h
  exact ⟨(z32 _).2 fun i hi=>by have:=h i hi;rw [BitVec.getLsbD_or,Bool.or_eq_false_iff] at this;exact this.1,(z32 _).2 fun i hi=>by have:=h i hi;rw [BitVec.getLsbD_or,Bool.or_eq_false_iff] at this;exact this.2⟩
 ·rintro ⟨h1,h2⟩
  rw [h1,h2];rfl
theorem Co6 {N:Nat} (hN:1000<=N) {w:Sl Sound} (hw:w.n<=32) (hws:∀ i,i < w.n->okS (w.g i)) {c:Sound} (hc:okS c) (no:Bool) :
 ∃ f,V4 N ⟨c,no⟩ w=some f/\TabA w.n (fun a b=>a < w.n/\b=a+1/\(BN5 (w.g a) c != no)=true) f:=by
 unfold V4
 refine Aa2 (fun i x1 x2=>x2=(i:Int)/\∀ a,x1 a=if a < i/\(BN5 (w.g a) c != no)=true then U (1#64 <<< (a+1)) else 0) w.n _ (by omega) ⟨rfl,fun a=>by rw [if_neg (by omega)]⟩ ?_
 rintro self i x1 x2 hi ⟨rfl,h2⟩ hs
 by_cases hl:i < w.n
 ·refine ifT (by simp;omega) (ifT (by omega) ?_)
  rw [Int.toNat_natCast,CL1 (hws i hl) hc]
  by_cases hb:(BN5 (w.g i) c != no)=true
  ·refine ifT (by revert hb;cases BN5 (w.g i) c <;> cases no <;> simp) ?_
   rw [C7 (by omega)]
   refine ifT (by omega) (hs hl _ _ ⟨rfl,fun a=>?_⟩)
   rw [An8,Nat.zero_add,Nat.mul_one,BC4 _ (by omega)]
   by_cases e:a=i
   ·subst e;rw [if_pos rfl,if_pos ⟨by omega,hb⟩]
   ·rw [if_neg e,h2 a]
    by_cases e2:a < i
    ·simp only [e2,show a < i+1 by omega,true_and]
    ·rw [if_neg (by omega),if_neg (by omega)]
  ·refine ifF (by revert hb;cases BN5 (w.g i) c <;> cases no <;> simp) (hs hl _ _ ⟨C7 (by omega),fun a=>?_⟩)
   rw [h2 a]
   by_cases e:a=i
   ·subst e;rw [if_neg (by omega),if_neg (fun h=>hb h.2)]
   ·by_cases e2:a < i
    ·simp only [e2,show a < i+1 by omega,true_and]
    ·rw [if_neg (by omega),if_neg (by omega)]
 ·refine ifF (by simp;omega) ⟨x1,rfl,fun a ha=>?_,fun a ha=>by rw [h2 a,if_neg (by omega)]⟩
  by_cases hb:a < w.n/\(BN5 (w.g a) c != no)=true
  ·refine ⟨1#64 <<< (a+1),by rw [h2 a,if_pos ⟨by omega,hb.2⟩],fun b hb2=>?_⟩
   rw [Ay2 (by omega) hb2,decide_eq_true_eq]
   exact ⟨fun h=>⟨by omega,hb.1,h,hb.2⟩,fun h=>h.2.2.1⟩
  ·refine ⟨0#64,by rw [h2 a,if_neg (fun h=>hb ⟨by omega,h.2⟩)];rfl,fun b hb2=>?_⟩
   simp only [BitVec.getLsbD_zero,Bool.false_eq_true,false_iff]
   rintro ⟨_,h1,h2,h3⟩
   exact hb ⟨h1,h3⟩
theorem Co7 {n a0 b0:Nat} (ha:a0<=n) (hb:b0<=n) (hn:n<=32):TabA n (fun a b=>a=a0/\b=b0) (AW4 (fun _=>0) a0 (U (1#64 <<< b0))):=by
 refine ⟨fun a ha2=>?_,fun a ha2=>by rw [An8,if_neg (by omega)]⟩
 by_cases e:a=a0
 ·refine ⟨1#64 <<< b0,by rw [An8,if_pos e],fun b hb2=>?_⟩
  rw [Ay2 (by omega) hb2,decide_eq_true_eq];omega
 ·refine ⟨0#64,by rw [An8,if_neg e];rfl,fun b hb2=>?_⟩
  simp only [BitVec.getLsbD_zero,Bool.false_eq_true,false_iff]
  exact fun h=>e h.2.1
theorem BW1 {N:Nat} {w:Sl Sound} (hw:w.n<=32) (e:Bool):∃ f,Z6 N ⟨e⟩ w=some f/\TabA w.n (fun a b=>a=(if e=true then w.n else 0)/\b=(if e=true then w.n else 0)) f:=by
 unfold Z6
 cases e
 ·refine ifF (by simp) (ifT (by decide) ⟨_,rfl, ?_⟩)
  exact Co7 (n:=w.n) (a0:=0) (b0:=0) (by omega) (by omega) hw
 ·refine ifT rfl (ifT (by omega) ⟨_,rfl, ?_⟩)
  rw [Int.toNat_natCast,Nat.zero_add,Nat.mul_one,BC4 _ (by omega)]
  exact Co7 (Nat.le_refl _) (Nat.le_refl _) hw
theorem CL2 {N:Nat} (hN:1000<=N) {w:Sl Sound} (hw:w.n<=32) {rec:Part->Sl Sound->Option (Nat->Int)} {m:Nat} (hm:m<=40) {g:Nat->Part} {Q:Nat->Nat->Nat->Prop}
 (hc:∀ i,i < m->∃ f,rec (g i) w=some f/\TabA w.n (Q i) f):∃ f,Ad6 rec N ⟨⟨m,g⟩⟩ w=some f/\TabA w.n (CD3 w.n Q m) f:=by
 unfold Ad6
 obtain ⟨y1,e1,h1⟩:=Az4 (N:=N) hw hN
 refine B7 e1 ?_
 refine Aa2 (fun i x1 x2=>x2=(i:Int)/\i<=m/\TabA w.n (CD3 w.n Q i) x1) m _ (by omega) ⟨rfl,by omega,h1⟩ ?_
 rintro self i x1 x2 hi ⟨rfl,hm2,h2⟩ hs
 by_cases hl:i < m
 ·refine ifT (by simp;omega) (ifT (by show (0:Int)<=i/\(i:Int) < m;omega) ?_)
  obtain ⟨f,e2,h3⟩:=hc i hl
  refine B7 (by rw [Int.toNat_natCast];exact e2) ?_
  obtain ⟨s,e3,h4⟩:=AT1 hw hN h2 h3
  exact B7 e3 (hs hl _ _ ⟨C7 (by omega),hl,h4⟩)
 ·obtain rfl:i=m:=by omega
  exact ifF (by simp) ⟨x1,rfl,h2⟩
theorem CL3 {N:Nat} (hN:1000<=N) {w:Sl Sound} (hw:w.n<=32) {rec:Part->Sl Sound->Option (Nat->Int)} {m:Nat} (hm:m<=40) {g:Nat->Part} {Q:Nat->Nat->Nat->Prop}
 (hc:∀ i,i < m->∃ f,rec (g i) w=some f/\TabA w.n (Q i) f):∃ f,Ad7 rec N ⟨⟨m,g⟩⟩ w=some f/\TabA w.n (fun a b=>∃ i,i < m/\Q i a b) f:=by
 unfold Ad7
 refine Aa2 (fun i x1 x2=>x2=(i:Int)/\i<=m/\TabA w.n (fun a b=>∃ j,j < i/\Q j a b) x1) m _ (by omega) ⟨rfl,by omega,(zeroA _).congr fun a b _ _=>⟨False.elim,fun ⟨j,h,_⟩=>absurd h (by omega)⟩⟩ ?_
 rintro self i x1 x2 hi ⟨rfl,hm2,h2⟩ hs
 by_cases hl:i < m
 ·refine ifT (by simp;omega) (ifT (by show (0:Int)<=i/\(i:Int) < m;omega) ?_)
  obtain ⟨f,e2,h3⟩:=hc i hl
  refine B7 (by rw [Int.toNat_natCast];exact e2) ?_
  obtain ⟨s,e3,h4⟩:=CD6 hw hN h2 h3
  refine B7 e3 (hs hl _ _ ⟨C7 (by omega),hl,h4.congr fun a b _ _=>⟨?_, ?_⟩⟩)
  ·rintro (⟨j,h,h'⟩ | h)
   ·exact ⟨j,by omega,h'⟩
   ·exact ⟨i,by omega,h⟩
  ·rintro ⟨j,h,h'⟩
   by_cases e:j=i
   ·subst e;exact .inr h'
   ·exact .inl ⟨j,by omega,h'⟩
 ·obtain rfl:i=m:=by omega
  exact ifF (by simp) ⟨x1,rfl,h2⟩
end Go.AM
set_option linter.unusedVariables false
namespace Go.AM
open Go.Proofs
theorem CL4 {N:Nat} (hN:1000<=N) {w:Sl Sound} (hw:w.n<=32) {rec:Part->Sl Sound->Option (Nat->Int)} {pt:Part} {Q:Nat->Nat->Prop} (hf:Fwd w.n Q) {f:Nat->Int} (hr:rec pt w=some f) (hQ:TabA w.n Q f)
 {mn mx:Int} (h0:0<=mn) (h1:mn<=32) (h2:mx = -1 \/ (mn<=mx/\mx<=32)) :
 ∃ s,Ad8 rec N ⟨pt,mn,mx⟩ w=some s/\TabA w.n (fun a b=>∃ k:Nat,mn<=k/\(mx = -1 \/ (k:Int)<=mx)/\AD3 w.n Q k a b) s:=by
 obtain ⟨m,rfl⟩:∃ m:Nat,mn=(m:Int):=⟨mn.toNat,by omega⟩
 unfold Ad8
 refine B7 hr ?_
 obtain ⟨y2,e2,t2⟩:=BE7 hw hN hf hQ (k:=m) (by omega)
 refine B7 e2 ?_
 obtain ⟨y3,e3,t3⟩:=Az4 (N:=N) hw hN
 refine B7 e3 ?_
 obtain ⟨y4,e4,t4⟩:=CD6 hw hN hQ t3
 refine B7 e4 ?_
 have hf' : Fwd w.n (fun a b=>Q a b \/ a=b):=fun a b ha h=>by
  rcases h with h | h
  ·exact hf a b ha h
  ·omega
 have key:∀ (K:Nat),K<=32->∃ s,((E6 N y4 (K:Int) (w.n:Int)).bind fun y5=>(D3 N y2 y5).bind fun y6=>some y6)=some s/\TabA w.n (fun a b=>∃ j,j<=K/\AD3 w.n Q (m+j) a b) s:=by
  intro K hK
  obtain ⟨y5,e5,t5⟩:=BE7 hw hN hf' t4 (k:=K) hK
  refine B7 e5 ?_
  obtain ⟨y6,e6,t6⟩:=AT1 hw hN t2 t5
  refine B7 e6 ⟨y6,rfl,t6.congr fun a b ha hb=>?_⟩
  constructor
  ·rintro ⟨c,hc,g1,g2⟩
   obtain ⟨j,hj,g3⟩:=(AZ8 hf hc K b).1 g2
   exact ⟨j,hj,(An4 hf m ha j b).2 ⟨c,hc,g1,g3⟩⟩
  ·rintro ⟨j,hj,g⟩
   obtain ⟨c,hc,g1,g3⟩:=(An4 hf m ha j b).1 g
   exact ⟨c,hc,g1,(AZ8 hf hc K b).2 ⟨j,hj,g3⟩⟩
 by_cases hx:mx < 0
 ·refine ifT (decide_eq_true hx) ?_
  obtain ⟨s,e,t⟩:=key w.n hw
  refine ⟨s,e,t.congr fun a b ha hb=>?_⟩
  constructor
  ·rintro ⟨j,hj,g⟩;exact ⟨m+j,by omega, .inl (by omega),g⟩
  ·rintro ⟨k,hk,_,g⟩
   obtain ⟨c,hc,g1,g3⟩:=(An4 hf m ha (k - m) b).1 (by rw [show m+(k - m)=k by omega];exact g)
   obtain ⟨j,hj,g4⟩:=BC6 hf hc (k - m) g3
   exact ⟨j,hj,(An4 hf m ha j b).2 ⟨c,hc,g1,g4⟩⟩
 ·refine ifF (by simpa using hx) ?_
  obtain ⟨M,rfl⟩:∃ M:Nat,mx=(M:Int):=⟨mx.toNat,by omega⟩
  have hw2:IntKind.i64.wrap ((M:Int) - (m:Int))=((M - m:Nat):Int):=by rw [F2 (by omega) (by omega)];omega
  rw [show IntKind.i64.wrap ((⟨pt,(m:Int),(M:Int)⟩:CS3).max - (⟨pt,(m:Int),(M:Int)⟩:CS3).min)=((M - m:Nat):Int) from hw2]
  obtain ⟨s,e,t⟩:=key (M - m) (by omega)
  refine ⟨s,e,t.congr fun a b ha hb=>?_⟩
  constructor
  ·rintro ⟨j,hj,g⟩;exact ⟨m+j,by omega, .inr (by omega),g⟩
  ·rintro ⟨k,hk,hk2,g⟩
   exact ⟨k - m,by omega,by rw [show m+(k - m)=k by omega];exact g⟩
def okQ:Nat->Pat->Prop
 | 0,_=>False
 | d+1,p=>Bb6 p/\p.L.n<=40/\∀ i,i < p.L.n->okQ d (p.L.g i)
theorem BW2:∀ (d:Nat) (p:Pat),okQ d p->okQ (d+1) p
 | 0,_,h=>h.elim
 | d+1,p,⟨h1,h2,h3⟩=>⟨h1,h2,fun i hi=>BW2 d _ (h3 i hi)⟩
theorem Co8:∀ (k:Nat) (l:List Pat),k<=40->chk k l->∀ p ∈ l,okQ k p
 | 0,l,_,h,p,hp=>by rw [show l=[] from h] at hp;cases hp
 | k+1, [],_,_,p,hp=>by cases hp
 | k+1,q :: l,hk,⟨hn,h⟩,p,hp=>by
  have ih:=Co8 k _ (by omega) h
  rcases List.mem_cons.1 hp with rfl | hp
  ·have hl:=Bb7 k _ h
   rw [List.length_append,S8] at hl
   exact ⟨hn,by omega,fun i hi=>ih _ (List.mem_append_left _ (Bm3 hi))⟩
  ·exact BW2 k p (ih p (List.mem_append_right _ hp))
theorem vS.ok {s:Sound} (h:vS s):okS s:=by
 obtain ⟨p,m,e,_⟩:=h;exact ⟨p,m,e⟩
def CL5 (K:Nat) (p:Pat) (pt:Part):Prop:=∀ (w:Sl Sound),w.n<=32->(∀ i,i < w.n->okS (w.g i))->∀ M,K<=M->∃ f,Z8 M pt w=some f/\TabA w.n (PR w p) f
theorem Bb9 {N:Nat} (hN:1000<=N):∀ (d:Nat),d<=40->∀ (p:Pat),okQ d p->∀ M,N+d<=M->∃ pt,Z7 M p=some pt/\CL5 (N+d) p pt
 | 0,_,p,h,_,_=>h.elim
 | d+1,hd,p,⟨hn,hc,hch⟩,0,hM=>by omega
 | d+1,hd,p,⟨hn,hc,hch⟩,M+1,hM=>by
  show ∃ pt,R8 (Z7 M) M p=some pt/\_
  unfold R8
  refine Aa2 (fun i x1 x2=>x2=(i:Int)/\i<=p.L.n/\x1.n=i/\∀ j,j < i->CL5 (N+d) (p.L.g j) (x1.g j)) p.L.n _ (by omega) ⟨rfl,by omega,rfl,fun j hj=>absurd hj (by omega)⟩ ?_
  rintro self i x1 x2 hi ⟨rfl,h1,h2,h3⟩ hs
  by_cases hl:i < p.L.n
  ·refine ifT (by simp;omega) (ifT (by omega) ?_)
   obtain ⟨pt,e,hg⟩:=Bb9 hN d (by omega) (p.L.g i) (hch i hl) M (by omega)
   refine B7 (by rw [Int.toNat_natCast];exact e) ?_
   refine ifT (by show (x1.n+1) * 16<=_/\x1.n+1<=_;omega) (hs hl _ _ ⟨C7 (by omega),hl,by show x1.n+1=i+1;omega,fun j hj=>?_⟩)
   by_cases e2:j=i
   ·subst e2
    have:(x1.push pt).g j=pt:=by simp [Sl.push,h2]
    rw [this];exact hg
   ·have:(x1.push pt).g j=x1.g j:=by
     simp [Sl.push];omega
    rw [this];exact h3 j (by omega)
  ·obtain rfl:i=p.L.n:=by omega
   have fin:∀ (pt:Part),(∀ (w:Sl Sound),w.n<=32->(∀ i,i < w.n->okS (w.g i))->∀ M,N+d<=M->∃ f,Z8 (M+1) pt w=some f/\TabA w.n (PR w p) f)->∃ r,some pt=some r/\CL5 (N+(d+1)) p r:=by
    intro pt h
    refine ⟨pt,rfl,fun w hw hws M' hM'=>?_⟩
    obtain ⟨M'',rfl⟩:∃ M'',M' = M'' + 1:=⟨M' - 1,by omega⟩
    exact h w hw hws M'' (by omega)
   refine ifF (by simp) ?_
   obtain ⟨⟨k0,k6⟩,n1,n2,n3,n4,n5⟩:=hn
   by_cases k1:p.Kind=1
   ·refine ifT (by simp [k1]) (fin _ fun w hw hws M' hM'=>?_)
    obtain ⟨f,e,h⟩:=Co6 (N:=M') (by omega) hw hws n5.ok p.Not
    refine ⟨f,e,h.congr fun a b _ _=>?_⟩
    rw [Bg8];simp [k1]
   refine ifF (by simp [k1]) ?_
   by_cases k2:p.Kind=2
   ·refine ifT (by simp [k2]) (fin _ fun w hw hws M' hM'=>?_)
    obtain ⟨f,e,h⟩:=BW1 (N:=M') hw false
    refine ⟨f,e,h.congr fun a b _ _=>?_⟩
    rw [Bg8];simp [k2]
   refine ifF (by simp [k2]) ?_
   by_cases k6:p.Kind=6
   ·refine ifT (by simp [k6]) (fin _ fun w hw hws M' hM'=>?_)
    obtain ⟨f,e,h⟩:=BW1 (N:=M') hw true
    refine ⟨f,e,h.congr fun a b _ _=>?_⟩
    rw [Bg8];simp [k6]
   refine ifF (by simp [k6]) ?_
   by_cases k4:p.Kind=4
   ·refine ifT (by simp [k4]) (fin _ fun w hw hws M' hM'=>?_)
    obtain ⟨f,e,h⟩:=CL3 (N:=M') (by omega) hw (rec:=Z8 M') (m:=x1.n) (g:=x1.g) (Q:=fun i=>PR w (p.L.g i)) (by omega) fun i hi=>h3 i (by omega) w hw hws M' (by omega)
    refine ⟨f,e,h.congr fun a b _ _=>?_⟩
    rw [Bg8,h2];simp [k4]
   refine ifF (by simp [k4]) ?_
   by_cases k5:p.Kind=5
   ·obtain ⟨g1,g2,g3,g4⟩:=n4 k5
    refine ifT (by simp [k5]) (ifT (by omega) (fin _ fun w hw hws M' hM'=>?_))
    obtain ⟨f,e,h⟩:=h3 0 (by omega) w hw hws M' (by omega)
    obtain ⟨s,e2,h4⟩:=CL4 (N:=M') (by omega) hw (rec:=Z8 M') (BC7 w (p.L.g 0)) e h g2 g3 g4
    refine ⟨s,e2,h4.congr fun a b _ _=>?_⟩
    rw [Bg8];simp [k5]
   ·refine ifF (by simp [k5]) (fin _ fun w hw hws M' hM'=>?_)
    obtain ⟨f,e,h⟩:=CL2 (N:=M') (by omega) hw (rec:=Z8 M') (m:=x1.n) (g:=x1.g) (Q:=fun i=>PR w (p.L.g i)) (by omega) fun i hi=>h3 i (by omega) w hw hws M' (by omega)
    refine ⟨f,e,h.congr fun a b _ _=>?_⟩
    rw [Bg8,h2]
    by_cases k3:p.Kind=3
    ·simp [k3]
    ·have k0' : p.Kind=0:=by omega
     rw [n2 k3 k4 k5];simp [k0',CD3]
end Go.AM
set_option linter.unusedVariables false
namespace Go.AM
open Go.Proofs
theorem Ce1 {N:Nat} {p:Pat} (hp:okS p.Is):∃ e,Z3 N p=some e/\(e=0 ↔ Bb6 p):=by
 obtain ⟨a,b,he⟩:=hp
 have hv:=BP6 he
 have V:N2 N p.Is=some (vB a b):=by rw [he];exact BE5 a b
 have e0:((p.Is.Plus == 0) && (p.Is.Minus == 0))=decide (p.Is.Plus=0/\p.Is.Minus=0):=by
  rw [Bool.eq_iff_iff];simp
 have fin:(Bb6 p ↔ vS p.Is)->∃ e,((N2 N p.Is).bind fun y1=>if (!y1)=true then some (14:Int) else some 0)=some e/\(e=0 ↔ Bb6 p):=by
  intro hX
  rw [V]
  refine B7 rfl ?_
  rw [hX,hv]
  cases vB a b
  ·exact ifT rfl ⟨14,rfl,by simp⟩
  ·exact ifF (by simp) ⟨0,rfl,by simp⟩
 have bad:∀ {x:Int},x ≠ 0->¬ Bb6 p->∃ e,some x=some e/\(e=0 ↔ Bb6 p):=fun hx h=>⟨_,rfl,fun h2=>absurd h2 hx,fun h2=>absurd h2 h⟩
 unfold Z3
 by_cases hk:p.Kind=0 \/ p.Kind=2 \/ p.Kind=6
 ·refine ifT (by rcases hk with h | h | h <;> simp [h]) (ltX ?_)
  rw [e0]
  by_cases g1:p.Is.Plus=0/\p.Is.Minus=0
  case neg=>exact ifT (by simp [g1]) (ifT rfl (bad (by decide) fun h=>g1 (h.2.1 (by omega)).1))
  refine ifF (by simp [g1]) ?_
  by_cases g2:p.Not=true
  ·exact ifT g2 (ifT rfl (bad (by decide) fun h=>by have:=(h.2.1 (by omega)).2;rw [g2] at this;cases this))
  refine ifF g2 ?_
  by_cases g3:p.Min=0
  case neg=>exact ifT (by simp [g3]) (ifT rfl (bad (by decide) fun h=>g3 (h.2.2.2.1 (by omega)).1))
  refine ifF (by simp [g3]) ?_
  by_cases g4:p.Max=0
  case neg=>exact ifT (by simp [g4]) (ifT rfl (bad (by decide) fun h=>g4 (h.2.2.2.1 (by omega)).2))
  refine ifF (by simp [g4]) ?_
  by_cases g5:p.L.n=0
  case neg=>exact ifT (by simp;omega) (bad (by decide) fun h=>g5 (h.2.2.1 (by omega) (by omega) (by omega)))
  refine ifF (by simp;omega) (fin ?_)
  exact ⟨fun h=>h.2.2.2.2.2,fun h=>⟨by omega,fun _=>⟨g1,by simpa using g2⟩,fun _ _ _=>g5,fun _=>⟨g3,g4⟩,fun h5=>by omega,h⟩⟩
 refine ifF (by simp only [not_or] at hk;simp [hk]) ?_
 by_cases k1:p.Kind=1
 ·refine ifT (by simp [k1]) (ltX ?_)
  refine ifF (by simp) ?_
  by_cases g3:p.Min=0
  case neg=>exact ifT (by simp [g3]) (ifT rfl (bad (by decide) fun h=>g3 (h.2.2.2.1 (by omega)).1))
  refine ifF (by simp [g3]) ?_
  by_cases g4:p.Max=0
  case neg=>exact ifT (by simp [g4]) (ifT rfl (bad (by decide) fun h=>g4 (h.2.2.2.1 (by omega)).2))
  refine ifF (by simp [g4]) ?_
  by_cases g5:p.L.n=0
  case neg=>exact ifT (by simp;omega) (bad (by decide) fun h=>g5 (h.2.2.1 (by omega) (by omega) (by omega)))
  refine ifF (by simp;omega) (fin ?_)
  exact ⟨fun h=>h.2.2.2.2.2,fun h=>⟨by omega,fun h1=>absurd k1 h1,fun _ _ _=>g5,fun _=>⟨g3,g4⟩,fun h5=>by omega,h⟩⟩
 refine ifF (by simp [k1]) (ltX ?_)
 rw [e0]
 have tail:∀ (x y:Int),(Bb6 p ↔ (p.Is.Plus=0/\p.Is.Minus=0)/\p.Not=false/\x=0/\y=0/\vS p.Is)->∃ e,(if (((((decide (p.Is.Plus=0/\p.Is.Minus=0) != true) || p.Not) || (x != 0)) || (y != 0)) || (decide (0 < 0)))=true then some (2:Int) else
  (N2 N p.Is).bind fun y3=>if (!y3)=true then some 14 else some 0)=some e/\(e=0 ↔ Bb6 p):=by
  intro x y hX
  by_cases g:(p.Is.Plus=0/\p.Is.Minus=0)/\p.Not=false/\x=0/\y=0
  ·obtain ⟨g1,g2,g3,g4⟩:=g
   exact ifF (by simp [g1,g2,g3,g4]) (fin (hX.trans ⟨fun h=>h.2.2.2.2,fun h=>⟨g1,g2,g3,g4,h⟩⟩))
  ·refine ifT ?_ (bad (by decide) fun h=>g ⟨(hX.1 h).1,(hX.1 h).2.1,(hX.1 h).2.2.1,(hX.1 h).2.2.2.1⟩)
   simp only [Bool.or_eq_true,bne_iff_ne,ne_eq,decide_eq_true_eq]
   by_cases g1:p.Is.Plus=0/\p.Is.Minus=0
   ·by_cases g2:p.Not=true
    ·simp [g2]
    ·by_cases g3:x=0
     ·have:¬ y=0:=fun g4=>g ⟨g1,by simpa using g2,g3,g4⟩
      simp [this]
     ·simp [g3]
   ·simp [g1]
 by_cases k34:p.Kind=3 \/ p.Kind=4
 ·refine ifT (by rcases k34 with h | h <;> simp [h]) (tail _ _ ?_)
  constructor
  ·exact fun h=>⟨(h.2.1 k1).1,(h.2.1 k1).2,(h.2.2.2.1 (by omega)).1,(h.2.2.2.1 (by omega)).2,h.2.2.2.2.2⟩
  ·rintro ⟨h1,h2,h3,h4,h5⟩
   exact ⟨by omega,fun _=>⟨h1,h2⟩,fun h h'=>by omega,fun _=>⟨h3,h4⟩,fun h=>by omega,h5⟩
 refine ifF (by simp only [not_or] at k34;simp [k34]) ?_
 by_cases k5:p.Kind=5
 ·refine ifT (by simp [k5]) ?_
  by_cases g:p.L.n=1/\0<=p.Min/\p.Min<=32/\(p.Max = -1 \/ (p.Min<=p.Max/\p.Max<=32))
  ·refine ifF (by simp only [Bool.or_eq_true,Bool.and_eq_true,bne_iff_ne,ne_eq,decide_eq_true_eq];omega) (tail 0 0 ?_)
   constructor
   ·exact fun h=>⟨(h.2.1 k1).1,(h.2.1 k1).2,rfl,rfl,h.2.2.2.2.2⟩
   ·rintro ⟨h1,h2,h3,h4,h5⟩
    exact ⟨by omega,fun _=>⟨h1,h2⟩,fun _ _ h=>absurd k5 h,fun h=>absurd k5 h,fun _=>g,h5⟩
  ·exact ifT (by simp only [Bool.or_eq_true,Bool.and_eq_true,bne_iff_ne,ne_eq,decide_eq_true_eq];omega) (bad (by decide) fun h=>g (h.2.2.2.2.1 k5))
 ·exact ifF (by simp [k5]) (bad (by decide) fun h=>by have:=h.1;omega)
theorem Co9 {x:Sl Pat} {m:Nat} (h:x.n=m+1):x.toList.reverse=x.g m :: (x.take m).toList.reverse:=by
 unfold Sl.toList
 rw [h,List.range_succ,List.map_append,List.reverse_append]
 rfl
theorem Cz4 (z:Sl Pat) (q:Pat):((z.push Pat.nil).upd z.n q).toList.reverse=q :: z.toList.reverse:=by
 rw [Co9 (m:=z.n) rfl]
 have e1:((z.push Pat.nil).upd z.n q).g z.n=q:=by simp
 have e2:(((z.push Pat.nil).upd z.n q).take z.n).toList=z.toList:=by
  unfold Sl.toList
  refine List.map_congr_left fun i hi=>?_
  have:i < z.n:=List.mem_range.1 hi
  show (if i=z.n then q else if i < z.n then z.g i else Pat.nil)=z.g i
  rw [if_neg (by omega),if_pos this]
 rw [e1,e2]
theorem BP8 {N:Nat} (q:Sl Pat) (hq:q.n < N) (hs:q.n < 1000000):C8 N q=some ((List.range q.n).reverse.map fun (i:Nat)=>((i:Int),q.g i)):=by
 unfold C8
 have h:∀ (m:Nat),m<=q.n->∀ F,m < F->Ae3 F (fun (self1:Int->Option (List (Int × Pat))) (x1:Int)=>
  if (decide (0<=x1))=true then
   if ((0:Int)<=x1/\x1 < (q.n:Int)) then
    Ad1 (x1,(q.g x1.toNat)) (
     self1 (IntKind.wrap .i64 (x1 - 1))
     )
   else none
  else
   some []) ((m:Int) - 1)=some ((List.range m).reverse.map fun (i:Nat)=>((i:Int),q.g i)):=by
  intro m
  induction m with
  | zero=>
   intro _ F hF
   match F,hF with
   | F+1,_=>rfl
  | succ m ih=>
   intro hm F hF
   match F,hF with
   | F+1,hF=>
    rw [R5]
    rw [show ((m+1:Nat):Int) - 1=(m:Int) by omega,if_pos (by simp),if_pos (by omega),F2 (by omega) (by omega),ih (by omega) F (by omega),Int.toNat_natCast,List.range_succ,List.reverse_append,List.reverse_singleton,List.singleton_append,List.map_cons]
    rfl
 rw [F2 (by omega) (by omega)]
 exact h q.n (Nat.le_refl _) N hq
theorem CL6 {k:Nat} (hk:k<=40) {c:Sl Pat} {l:List Pat}:chk k ((c.take (min 41 c.n)).toList ++ l) ↔ chk k (c.toList ++ l):=by
 by_cases h:c.n<=41
 ·rw [Nat.min_eq_right h]
 ·constructor
  ·intro h2
   have:=Bb7 _ _ h2
   rw [List.length_append,S8] at this
   have:(c.take (min 41 c.n)).n=41:=Nat.min_eq_left (by omega)
   omega
  ·intro h2
   have:=Bb7 _ _ h2
   rw [List.length_append,S8] at this
   omega
theorem Bs6 {N:Nat} (hN:2000<=N) {p:Pat} (hp:okPS p):∃ e,V5 N p=some e/\(e=0 ↔ chk 40 [p]):=by
 unfold V5
 refine Aa2 (fun i x3 x4=>x4=(i:Int)/\x3.n<=1+41 * i/\(∀ q ∈ x3.toList.reverse,okPS q)/\(chk 40 [p] ↔ chk (40 - i) x3.toList.reverse)) 40 _ (by omega)
  ⟨rfl,by show 1<=_;omega,fun q hq=>by rw [show (Sl.of [p]:Sl Pat).toList.reverse=[p] from rfl] at hq;rw [List.mem_singleton.1 hq];exact hp,Iff.rfl⟩ ?_
 rintro self i x3 x4 hi ⟨rfl,h1,hok,h2⟩ hs
 rcases hn:x3.n with _ | m
 ·refine ifF (by simp) ⟨0,rfl,fun _=>h2.2 ?_,fun _=>rfl⟩
  have:x3.toList.reverse=[]:=by unfold Sl.toList;rw [hn];rfl
  rw [this];exact Co1 _
 ·rw [Co9 hn] at h2 hok
  refine ifT (decide_eq_true (by omega)) ?_
  by_cases h40:i=40
  ·subst h40
   refine ifT (by simp) ⟨12,rfl,fun h=>absurd h (by decide),fun h=>?_⟩
   have:(x3.g m :: (x3.take m).toList.reverse)=[]:=h2.1 h
   cases this
  refine ifF (by simp;omega) ?_
  have hw:IntKind.i64.wrap (((m+1:Nat):Int) - 1)=(m:Int):=by rw [F2 (by omega) (by omega)];omega
  simp only [hw,Int.toNat_natCast]
  refine ifT (by omega) (ifT (by omega) ?_)
  obtain ⟨e,he,hnode⟩:=Ce1 (N:=N) (hok (x3.g m) (by simp)).is
  refine B7 he ?_
  rw [show 40 - i=(39 - i)+1 by omega] at h2
  by_cases h0:e=0
  case neg=>exact ifT (by simp [h0]) ⟨e,rfl,fun h=>absurd h h0,fun h=>absurd (hnode.2 (h2.1 h).1) h0⟩
  refine ifF (by simp [h0]) ?_
  have hc:(if (41:Int) < ((x3.g m).L.n:Int) then (41:Int) else ((x3.g m).L.n:Int))=((min 41 (x3.g m).L.n:Nat):Int):=by
   split <;> omega
  simp only [hc,Int.toNat_natCast]
  refine ifT (by omega) (B7 rfl (B7 (BP8 _ (by show min 41 _ < N;omega) (by show min 41 _ < 1000000;omega)) ?_))
  generalize hC:(x3.g m).L.take (min 41 (x3.g m).L.n)=C
  have hCn:C.n<=41:=by rw [<- hC];exact Nat.min_le_left _ _
  refine Cz2 (fun L z=>∃ j,j<=C.n/\L=((List.range j).reverse.map fun (i:Nat)=>((i:Int),C.g i))/\z.n=m+(C.n - j)/\z.toList.reverse=C.toList.drop j ++ (x3.take m).toList.reverse) ?_ ?_ _ _ ⟨C.n,Nat.le_refl _,rfl,by show m=_;omega,by rw [Az3];rfl⟩
  ·rintro z ⟨j,hj,hL,hz,hzr⟩
   have hj0:j=0:=by
    cases j with
    | zero=>rfl
    | succ j=>simp [List.range_succ] at hL
   subst hj0
   rw [List.drop_zero] at hzr
   refine hs (by omega) _ _ ⟨C7 (by omega),by omega,fun q hq=>?_, ?_⟩
   ·rw [hzr] at hq
    rcases List.mem_append.1 hq with h | h
    ·obtain ⟨i',hi',rfl⟩:=List.mem_map.1 h
     have hi':=List.mem_range.1 hi'
     rw [<- hC] at hi' ⊢
     exact (hok (x3.g m) (by simp)).L (Nat.lt_of_lt_of_le hi' (Nat.min_le_right _ _))
    ·exact hok q (by simp [h])
   ·rw [hzr,h2,show 40 - (i+1)=39 - i by omega, <- hC,CL6 (by omega)]
    exact ⟨fun h=>h.2,fun h=>⟨hnode.1 h0,h⟩⟩
  ·rintro t L z self2 ⟨j,hj,hL,hz,hzr⟩ hs2
   cases j with
   | zero=>simp at hL
   | succ j=>
    rw [List.range_succ,List.reverse_append,List.reverse_singleton,List.singleton_append,List.map_cons] at hL
    obtain ⟨rfl,rfl⟩:=List.cons.inj hL
    have e1:(z.n:Int).toNat=z.n:=Int.toNat_natCast _
    refine ifT ⟨⟨⟨by show (z.n+1) * 64<=_;omega,by show z.n+1<=_;omega⟩,by show (0:Int)<=_/\(z.n:Int) < ((z.n+1:Nat):Int);omega⟩,by show z.n < z.n+1;omega⟩ ?_
    refine hs2 _ ⟨j,by omega,rfl,by show z.n+1=_;omega, ?_⟩
    rw [Cz4,hzr,AF2 C (i:=j) (by omega),List.cons_append]
end Go.AM
set_option linter.unusedVariables false
namespace Go.AM
open Go.Proofs
def wOk (w:Sl Sound):Prop:=w.n<=32/\∀ i,i < w.n->vS (w.g i)
theorem AR0 {N:Nat} {w:Sl Sound} (hN:w.n < N) (hs:w.n < 1000000) {f:Sound->Option Bool} {b:Nat->Bool} (hf:∀ i,i < w.n->f (w.g i)=some (b i)) :
 ∃ r,B8 N w f=some r/\(r=true ↔ ∃ i,i < w.n/\b i=true):=by
 unfold B8 D1
 have:∃ y,Ae3 N (fun (self1:Int->Option Int) (x1:Int)=>
  if (decide (x1 < (w.n:Int)))=true then
   if ((0:Int)<=x1/\x1 < (w.n:Int)) then
    (f (w.g x1.toNat)).bind fun y3=>
    if y3=true then
     some x1
    else
     self1 (IntKind.wrap .i64 (x1+1))
   else none
  else
   some (-1)) 0=some y/\(0<=y ↔ ∃ i,i < w.n/\b i=true):=by
  refine Av7 (fun i x1=>x1=(i:Int)/\∀ j,j < i->b j=false) w.n _ hN ⟨rfl,fun j hj=>absurd hj (by omega)⟩ ?_
  rintro self i x1 hi ⟨rfl,h⟩ hs2
  by_cases hl:i < w.n
  ·refine ifT (by simp;omega) (ifT (by omega) (B7 (by rw [Int.toNat_natCast];exact hf i hl) ?_))
   cases hb:b i
   ·refine ifF (by simp) (hs2 hl _ ⟨C7 (by omega),fun j hj=>?_⟩)
    by_cases e:j=i
    ·subst e;exact hb
    ·exact h j (by omega)
   ·exact ifT rfl ⟨i,rfl,fun _=>⟨i,hl,hb⟩,fun _=>by omega⟩
  ·refine ifF (by simp;omega) ⟨-1,rfl,fun h=>absurd h (by decide), ?_⟩
   rintro ⟨j,hj,hb⟩
   rw [h j (by omega)] at hb;cases hb
 obtain ⟨y,e,hy⟩:=this
 exact B7 e ⟨_,rfl,by rw [decide_eq_true_eq];exact hy⟩
theorem Bm5 {N:Nat} (hN:3000<=N) {p:Pat} (hp:okPS p) {w:Sl Sound} (hs:w.n < 1000000/\w.n+1000 < N) (hw:∀ i,i < w.n->okS (w.g i)) :
 ∃ r,W8 N p w=some r/\(r.2=0 ↔ chk 40 [p]/\wOk w)/\(r.2=0->TabA w.n (PR w p) r.1):=by
 unfold W8
 obtain ⟨e,he,hc⟩:=Bs6 (N:=N) (by omega) hp
 refine B7 he ?_
 by_cases h0:e=0
 case neg=>exact ifT (by simp [h0]) ⟨_,rfl,⟨fun h=>absurd h h0,fun h=>absurd (hc.2 h.1) h0⟩,fun h=>absurd h h0⟩
 refine ifF (by simp [h0]) ?_
 by_cases hn:32 < w.n
 ·exact ifT (by simp;omega) ⟨_,rfl,⟨fun h=>absurd h (by decide),fun h=>by have:=h.2.1;omega⟩,fun h=>absurd h (by decide)⟩
 refine ifF (by simp;omega) ?_
 have hv:∀ i,∃ b:Bool,i < w.n->Q3 N (w.g i)=some b/\(b=true ↔ ¬ vS (w.g i)):=by
  intro i
  by_cases hi:i < w.n
  ·obtain ⟨x,y,he⟩:=hw i hi
   refine ⟨!vB x y,fun _=>⟨?_, ?_⟩⟩
   ·unfold Q3
    rw [he,BE5];rfl
   ·rw [BP6 he];cases vB x y <;> simp
  ·exact ⟨false,fun h=>absurd h hi⟩
 obtain ⟨b,hb⟩:=Classical.axiomOfChoice hv
 obtain ⟨r,hr,hr2⟩:=AR0 (N:=N) (by omega) hs.1 (f:=fun u1=>Q3 N u1) fun i hi=>(hb i hi).1
 refine B7 hr ?_
 by_cases hrt:r=true
 ·refine ifT hrt ⟨_,rfl,⟨fun h=>absurd h (by decide),fun h=>?_⟩,fun h=>absurd h (by decide)⟩
  obtain ⟨i,hi,hbi⟩:=hr2.1 hrt
  exact absurd (h.2.2 i hi) ((hb i hi).2.1 hbi)
 ·refine ifF hrt ?_
  have hok:wOk w:=⟨by omega,fun i hi=>Classical.byContradiction fun hnv=>hrt (hr2.2 ⟨i,hi,(hb i hi).2.2 hnv⟩)⟩
  obtain ⟨pt,ep,hg⟩:=Bb9 (N:=1000) (by omega) 40 (Nat.le_refl _) p (Co8 40 [p] (Nat.le_refl _) (hc.1 h0) p (by simp)) N (by omega)
  refine B7 ep ?_
  obtain ⟨f,ef,hf⟩:=hg w (by omega) hw N (by omega)
  exact B7 ef ⟨_,rfl,⟨fun _=>⟨hc.1 h0,hok⟩,fun _=>rfl⟩,fun _=>hf⟩
end Go.AM
set_option linter.unusedVariables false
namespace Go.AM
open Go.Proofs
theorem Ce2 {N:Nat} (hN:3000<=N) {p:Pat} (hp:okPS p) {w:Sl Sound} (hs:w.n < 1000000/\w.n+1000 < N) (hw:∀ i,i < w.n->okS (w.g i)) (at_:Int) :
 ∃ r,Ad9 N p w at_=some r/\(0 < r.1.n ↔ chk 40 [p]/\wOk w/\0<=at_/\at_<=w.n/\∃ a,a<=w.n/\PR w p a at_.toNat):=by
 unfold Ad9
 obtain ⟨y,e,h1,h2⟩:=Bm5 hN hp hs hw
 refine B7 e (ltX ?_)
 by_cases h0:y.2=0
 case neg=>
  refine ifF (by simp [h0]) (ifT (by simp [h0]) ⟨_,rfl,fun h=>absurd h (by show ¬ 0 < 0;omega),fun h=>absurd (h1.2 ⟨h.1,h.2.1⟩) h0⟩)
 refine ifT (by simp [h0]) ?_
 obtain ⟨hc,hok⟩:=h1.1 h0
 have hT:=h2 h0
 have hn:=hok.1
 unfold W5
 by_cases hat:at_ < 0 \/ (w.n:Int) < at_
 ·rw [if_pos (by simpa using hat)]
  refine B7 rfl (ifT (by decide) ⟨_,rfl,fun h=>absurd h (by show ¬ 0 < 0;omega),fun h=>by omega⟩)
 rw [if_neg (by simpa using hat)]
 refine B7 rfl (ifF (by simp) ?_)
 obtain ⟨k,rfl⟩:∃ k:Nat,at_=(k:Int):=⟨at_.toNat,by omega⟩
 rw [C7 (by omega),Int.toNat_natCast]
 refine Aa2 (fun i x2 x3=>x3=(i:Int)/\x2.n<=i/\(0 < x2.n ↔ ∃ a,a < i/\PR w p a k)) (w.n+1) _ (by omega) ⟨rfl,Nat.le_refl _,fun h=>absurd h (by show ¬ 0 < 0;omega),fun ⟨a,h,_⟩=>absurd h (by omega)⟩ ?_
 rintro self i x2 x3 hi ⟨rfl,g1,g2⟩ hs2
 by_cases hl:i<=w.n
 ·refine ifT (by simp;omega) (ifT (by omega) ?_)
  rw [Int.toNat_natCast,Nat.zero_add,Nat.mul_one]
  have hb:=hT.1.bit hl (b:=k) (by omega)
  by_cases hP:PR w p i k
  ·refine ifT (hb.2 ⟨by omega,hP⟩) (ifT (by show (x2.n+1) * 8<=_/\x2.n+1<=_;omega) (hs2 (by omega) _ _ ⟨C7 (by omega),by show x2.n+1<=_;omega,fun _=>⟨i,by omega,hP⟩,fun _=>by show 0 < x2.n+1;omega⟩))
  ·refine ifF (fun h=>hP (hb.1 h).2) (hs2 (by omega) _ _ ⟨C7 (by omega),by omega,fun h=>?_,fun ⟨a,ha,h⟩=>?_⟩)
   ·obtain ⟨a,ha,h'⟩:=g2.1 h;exact ⟨a,by omega,h'⟩
   ·by_cases e2:a=i
    ·subst e2;exact absurd h hP
    ·exact g2.2 ⟨a,by omega,h⟩
 ·refine ifF (by simp;omega) ⟨_,rfl,fun h=>?_,fun h=>?_⟩
  ·obtain ⟨a,ha,h'⟩:=g2.1 h
   exact ⟨hc,hok,by omega,by omega,a,by omega,h'⟩
  ·obtain ⟨a,ha,h'⟩:=h.2.2.2.2
   exact g2.2 ⟨a,by omega,h'⟩
theorem BP9 {N:Nat} (L:List Int) (hL:L.length < 1000):∃ s,I8 N L=some s/\s.n=L.length:=by
 unfold I8 G1
 have:∃ s:Sl Int,K4 L (fun (self1:Sl Int->Option (Sl Int)) (x1:Int) (z1:Sl Int)=>
  if ((z1.n+(Sl.of [x1]:Sl Int).n) * 8<=140737488355328/\z1.n+(Sl.of [x1]:Sl Int).n<=140737488355328) then
   self1 (z1.push x1)
  else none
  ) (fun (z1:Sl Int)=>some z1) (Sl.nil:Sl Int)=some s/\s.n=L.length:=by
  refine Cz2 (fun l z=>z.n+l.length=L.length) (fun z h=>⟨z,rfl,by simpa using h⟩) (fun t l z self h hs=>?_) L _ (by simp)
  simp only [List.length_cons] at h
  exact ifT (by show (z.n+1) * 8<=_/\z.n+1<=_;omega) (hs _ (by show z.n+1+l.length=_;omega))
 obtain ⟨s,e,hn⟩:=this
 exact B7 e ⟨s,rfl,hn⟩
theorem Cz5 {N:Nat} (hN:3000<=N) {p:Pat} (hp:okPS p) {w:Sl Sound} (hs:w.n < 1000000/\w.n+1000 < N) (hw:∀ i,i < w.n->okS (w.g i)) (at_:Int) :
 ∃ r,Am1 N p w at_=some r/\(0 < r.1.n ↔ chk 40 [p]/\wOk w/\0<=at_/\at_<=w.n/\∃ b,b<=w.n/\PR w p at_.toNat b):=by
 unfold Am1
 obtain ⟨y,e,h1,h2⟩:=Bm5 hN hp hs hw
 refine B7 e (ltX ?_)
 by_cases h0:y.2=0
 case neg=>
  refine ifF (by simp [h0]) (ifT (by simp [h0]) ⟨_,rfl,fun h=>absurd h (by show ¬ 0 < 0;omega),fun h=>absurd (h1.2 ⟨h.1,h.2.1⟩) h0⟩)
 refine ifT (by simp [h0]) ?_
 obtain ⟨hc,hok⟩:=h1.1 h0
 have hT:=h2 h0
 have hn:=hok.1
 unfold W5
 by_cases hat:at_ < 0 \/ (w.n:Int) < at_
 ·rw [if_pos (by simpa using hat)]
  refine B7 rfl (ifT (by decide) ⟨_,rfl,fun h=>absurd h (by show ¬ 0 < 0;omega),fun h=>by omega⟩)
 rw [if_neg (by simpa using hat)]
 refine B7 rfl (ifF (by simp) ?_)
 obtain ⟨k,rfl⟩:∃ k:Nat,at_=(k:Int):=⟨at_.toNat,by omega⟩
 refine ifT (by omega) ?_
 rw [Int.toNat_natCast,Nat.zero_add,Nat.mul_one]
 obtain ⟨u,e1,g1⟩:=hT.1 k (by omega)
 refine B7 (x:=y.1 k) rfl (B7 (x:=Au1 u 0) (by rw [e1];exact AF3 u (by omega)) ?_)
 obtain ⟨s,es,hsn⟩:=BP9 (N:=N) (Au1 u 0) (by
  unfold Au1
  rw [List.length_map]
  exact Nat.lt_of_le_of_lt (List.length_filter_le _ _) (by simp))
 refine B7 es ⟨_,rfl, ?_⟩
 show 0 < s.n ↔ _
 rw [hsn,List.length_pos_iff_exists_mem]
 constructor
 ·rintro ⟨t,ht⟩
  obtain ⟨b,rfl,_,hb,hbit⟩:=mem_bitsF.1 ht
  exact ⟨hc,hok,by omega,by omega,b,((g1 b hb).1 hbit).1,((g1 b hb).1 hbit).2⟩
 ·rintro ⟨_,_,_,_,b,hb,h⟩
  exact ⟨(b:Int),mem_bitsF.2 ⟨b,rfl,by omega,by omega,(g1 b (by omega)).2 ⟨hb,h⟩⟩⟩
end Go.AM
set_option linter.unusedVariables false
namespace Go.AM
open Go.Proofs
def BW3 (w:Sl Sound) (e:Int):Prop:=(32 < w.n/\e=11) \/ (w.n<=32/\(∃ i,i < w.n/\¬ vS (w.g i))/\e=14) \/ (wOk w/\e=0)
theorem AJ7 {w:Sl Sound} {e e' : Int} (h:BW3 w e) (h' : BW3 w e'):e=e':=by
 rcases h with ⟨h1,h2⟩ | ⟨h1,⟨i,hi,hv⟩,h2⟩ | ⟨h1,h2⟩ <;> rcases h' with ⟨g1,g2⟩ | ⟨g1,⟨j,hj,gv⟩,g2⟩ | ⟨g1,g2⟩
 ·omega
 ·omega
 ·have:=g1.1;omega
 ·omega
 ·omega
 ·exact absurd (g1.2 i hi) hv
 ·have:=h1.1;omega
 ·exact absurd (h1.2 j hj) gv
 ·omega
theorem Aa3 {w:Sl Sound} {e:Int} (h:BW3 w e):e=0 ↔ wOk w:=by
 rcases h with ⟨h1,h2⟩ | ⟨h1,⟨i,hi,hv⟩,h2⟩ | ⟨h1,h2⟩
 ·exact ⟨fun h=>by omega,fun h=>by have:=h.1;omega⟩
 ·exact ⟨fun h=>by omega,fun h=>absurd (h.2 i hi) hv⟩
 ·exact ⟨fun _=>h1,fun _=>h2⟩
theorem BE8 {N:Nat} (hN:1000<=N) {w:Sl Sound} (hw:∀ i,i < w.n->okS (w.g i)) (V:Sound->Option Bool) (hV:∀ p m:BitVec 32,V (sOf p m)=some (vB p m)) :
 ∃ e,(if (decide (32 < (w.n:Int)))=true then
 some (11:Int)
 else
  Ae3 N (fun self1 (x1:Int)=>
   if (decide (x1 < (w.n:Int)))=true then
    if ((0:Int)<=x1/\x1 < (w.n:Int)) then
     (V (w.g x1.toNat)).bind fun y3=>
     if (!y3)=true then
      some 14
     else
      self1 (IntKind.wrap .i64 (x1+1))
    else none
   else
    some 0
   ) 0)=some e/\BW3 w e:=by
 by_cases hn:32 < w.n
 ·exact ifT (by simp;omega) ⟨11,rfl, .inl ⟨hn,rfl⟩⟩
 refine ifF (by simp;omega) ?_
 refine Av7 (fun i x1=>x1=(i:Int)/\∀ j,j < i->vS (w.g j)) w.n _ (by omega) ⟨rfl,fun j hj=>absurd hj (by omega)⟩ ?_
 rintro self i x1 hi ⟨rfl,h⟩ hs
 by_cases hl:i < w.n
 ·obtain ⟨p,m,he⟩:=hw i hl
  refine ifT (by simp;omega) (ifT (by omega) (B7 (by rw [Int.toNat_natCast,he];exact hV p m) ?_))
  cases hb:vB p m
  ·refine ifT rfl ⟨14,rfl, .inr (.inl ⟨by omega,⟨i,hl,fun hv=>?_⟩,rfl⟩)⟩
   have:=(BP6 he).1 hv;rw [hb] at this;cases this
  ·refine ifF (by simp) (hs hl _ ⟨C7 (by omega),fun j hj=>?_⟩)
   by_cases e:j=i
   ·subst e;exact (BP6 he).2 hb
   ·exact h j (by omega)
 ·exact ifF (by simp;omega) ⟨0,rfl, .inr (.inr ⟨⟨by omega,fun j hj=>h j (by omega)⟩,rfl⟩)⟩
theorem BE9 {N:Nat} (hN:1000<=N) {w:Sl Sound} (hw:∀ i,i < w.n->okS (w.g i)):∃ e,U5 N w=some e/\BW3 w e:=
 BE8 hN hw (Ac2 N) fun p m=>BE4 p m
theorem Ar4 {N:Nat} (hN:1000<=N) {w:Sl Sound} (hw:∀ i,i < w.n->okS (w.g i)):∃ e,U4 N w=some e/\BW3 w e:=
 BE8 hN hw (P3 N) fun p m=>Bm2 p m
theorem BW4 {N:Nat} (hN:2000<=N) {p:Pat} (hp:okPS p) {w:Sl Sound} (hw:∀ i,i < w.n->okS (w.g i)):∃ e,Ak1 N p w=some e/\(e=0 ↔ chk 40 [p]/\wOk w):=by
 unfold Ak1
 obtain ⟨e,he,hc⟩:=Bb8 hN hp
 refine B7 he ?_
 by_cases h0:e=0
 ·obtain ⟨e2,he2,hw2⟩:=Ar4 (N:=N) (by omega) hw
  exact ifT (by simp [h0]) (B7 he2 ⟨e2,rfl,(Aa3 hw2).trans ⟨fun h=>⟨hc.1 h0,h⟩,fun h=>h.2⟩⟩)
 ·exact ifF (by simp [h0]) ⟨e,rfl,fun h=>absurd h h0,fun h=>absurd (hc.2 h.1) h0⟩
theorem BQ0 {N:Nat} (hN:3000<=N) {p:Pat} (hp:okPS p) {w:Sl Sound} (hw:∀ i,i < w.n->okS (w.g i)) (at_:Int) :
 ∃ r,Ah5 N p w at_=some r/\(0 < r.1.n ↔ chk 40 [p]/\wOk w/\0<=at_/\at_<=w.n/\∃ a,a<=w.n/\PR w p a at_.toNat):=by
 unfold Ah5
 obtain ⟨e,he,h1⟩:=BW4 (N:=N) (by omega) hp hw
 refine B7 he ?_
 by_cases h0:e=0
 case neg=>exact ifT (by simp [h0]) ⟨_,rfl,fun h=>absurd h (by show ¬ 0 < 0;omega),fun h=>absurd (h1.2 ⟨h.1,h.2.1⟩) h0⟩
 refine ifF (by simp [h0]) ?_
 obtain ⟨hc,hok⟩:=h1.1 h0
 have hn:=hok.1
 by_cases hat:at_ < 0 \/ (w.n:Int) < at_
 ·exact ifT (by simpa using hat) ⟨_,rfl,fun h=>absurd h (by show ¬ 0 < 0;omega),fun h=>by omega⟩
 refine ifF (by simpa using hat) ?_
 obtain ⟨k,rfl⟩:∃ k:Nat,at_=(k:Int):=⟨at_.toNat,by omega⟩
 obtain ⟨t,et,tn,hT⟩:=Bb5 (N:=1000) (by omega) hn 40 p (Co2 40 [p] (Nat.le_refl _) hc p (by simp)) N (by omega)
 refine B7 et ?_
 rw [Int.toNat_natCast]
 refine Aa2 (fun i x2 x3=>x3=(i:Int)/\x2.n<=i/\(0 < x2.n ↔ ∃ a,a < i/\PR w p a k)) (w.n+1) _ (by omega) ⟨rfl,Nat.le_refl _,fun h=>absurd h (by show ¬ 0 < 0;omega),fun ⟨a,h,_⟩=>absurd h (by omega)⟩ ?_
 rintro self i x2 x3 hi ⟨rfl,g1,g2⟩ hs2
 by_cases hl:i<=w.n
 ·refine ifT (by simp;omega) (ifT (by omega) ?_)
  rw [Int.toNat_natCast]
  have hb:=hT.bit hl (b:=k) (by omega)
  by_cases hP:PR w p i k
  ·refine ifT (hb.2 ⟨by omega,hP⟩) (ifT (by show (x2.n+1) * 8<=_/\x2.n+1<=_;omega) (hs2 (by omega) _ _ ⟨C7 (by omega),by show x2.n+1<=_;omega,fun _=>⟨i,by omega,hP⟩,fun _=>by show 0 < x2.n+1;omega⟩))
  ·refine ifF (fun h=>hP (hb.1 h).2) (hs2 (by omega) _ _ ⟨C7 (by omega),by omega,fun h=>?_,fun ⟨a,ha,h⟩=>?_⟩)
   ·obtain ⟨a,ha,h'⟩:=g2.1 h;exact ⟨a,by omega,h'⟩
   ·by_cases e2:a=i
    ·subst e2;exact absurd h hP
    ·exact g2.2 ⟨a,by omega,h⟩
 ·refine ifF (by simp;omega) ⟨_,rfl,fun h=>?_,fun h=>?_⟩
  ·obtain ⟨a,ha,h'⟩:=g2.1 h
   exact ⟨hc,hok,by omega,by omega,a,by omega,h'⟩
  ·obtain ⟨a,ha,h'⟩:=h.2.2.2.2
   exact g2.2 ⟨a,by omega,h'⟩
theorem Cp0 {N:Nat} (hN:3000<=N) {p:Pat} (hp:okPS p) {w:Sl Sound} (hw:∀ i,i < w.n->okS (w.g i)) (at_:Int) :
 ∃ r,Ar0 N p w at_=some r/\(0 < r.1.n ↔ chk 40 [p]/\wOk w/\0<=at_/\at_<=w.n/\∃ b,b<=w.n/\PR w p at_.toNat b):=by
 unfold Ar0
 obtain ⟨e,he,h1⟩:=BW4 (N:=N) (by omega) hp hw
 refine B7 he ?_
 by_cases h0:e=0
 case neg=>exact ifT (by simp [h0]) ⟨_,rfl,fun h=>absurd h (by show ¬ 0 < 0;omega),fun h=>absurd (h1.2 ⟨h.1,h.2.1⟩) h0⟩
 refine ifF (by simp [h0]) ?_
 obtain ⟨hc,hok⟩:=h1.1 h0
 have hn:=hok.1
 by_cases hat:at_ < 0 \/ (w.n:Int) < at_
 ·exact ifT (by simpa using hat) ⟨_,rfl,fun h=>absurd h (by show ¬ 0 < 0;omega),fun h=>by omega⟩
 refine ifF (by simpa using hat) ?_
 obtain ⟨k,rfl⟩:∃ k:Nat,at_=(k:Int):=⟨at_.toNat,by omega⟩
 obtain ⟨t,et,tn,hT⟩:=Bb5 (N:=1000) (by omega) hn 40 p (Co2 40 [p] (Nat.le_refl _) hc p (by simp)) N (by omega)
 refine B7 et ?_
 rw [Int.toNat_natCast]
 refine Aa2 (fun i x2 x3=>x3=(i:Int)/\x2.n<=i/\(0 < x2.n ↔ ∃ b,b < i/\PR w p k b)) (w.n+1) _ (by omega) ⟨rfl,Nat.le_refl _,fun h=>absurd h (by show ¬ 0 < 0;omega),fun ⟨a,h,_⟩=>absurd h (by omega)⟩ ?_
 rintro self i x2 x3 hi ⟨rfl,g1,g2⟩ hs2
 by_cases hl:i<=w.n
 ·refine ifT (by simp;omega) (ifT (by omega) ?_)
  have hb:=hT.bit (a:=k) (by omega) (b:=i) (by omega)
  by_cases hP:PR w p k i
  ·refine ifT (hb.2 ⟨by omega,hP⟩) (ifT (by show (x2.n+1) * 8<=_/\x2.n+1<=_;omega) (hs2 (by omega) _ _ ⟨C7 (by omega),by show x2.n+1<=_;omega,fun _=>⟨i,by omega,hP⟩,fun _=>by show 0 < x2.n+1;omega⟩))
  ·refine ifF (fun h=>hP (hb.1 h).2) (hs2 (by omega) _ _ ⟨C7 (by omega),by omega,fun h=>?_,fun ⟨a,ha,h⟩=>?_⟩)
   ·obtain ⟨a,ha,h'⟩:=g2.1 h;exact ⟨a,by omega,h'⟩
   ·by_cases e2:a=i
    ·subst e2;exact absurd h hP
    ·exact g2.2 ⟨a,by omega,h⟩
 ·refine ifF (by simp;omega) ⟨_,rfl,fun h=>?_,fun h=>?_⟩
  ·obtain ⟨a,ha,h'⟩:=g2.1 h
   exact ⟨hc,hok,by omega,by omega,a,by omega,h'⟩
  ·obtain ⟨a,ha,h'⟩:=h.2.2.2.2
   exact g2.2 ⟨a,by omega,h'⟩
end Go.AM
set_option linter.unusedVariables false
namespace Go.AM
open Go.Proofs
def CN5 (s c:Sound):Prop:=∃ p m a b:BitVec 32,s=sOf p m/\c=sOf a b/\Cg4 p m a b=true
theorem Cp1 {p m a b:BitVec 32} (h:sOf p m=sOf a b):p=a/\m=b:=by
 have e1:(p.toNat:Int)=a.toNat:=congrArg Sound.Plus h
 have e2:(m.toNat:Int)=b.toNat:=congrArg Sound.Minus h
 exact ⟨BitVec.eq_of_toNat_eq (by omega),BitVec.eq_of_toNat_eq (by omega)⟩
theorem satS_of {p m a b:BitVec 32}:CN5 (sOf p m) (sOf a b) ↔ Cg4 p m a b=true:=by
 constructor
 ·rintro ⟨p',m',a',b',h1,h2,h3⟩
  obtain ⟨rfl,rfl⟩:=Cp1 h1
  obtain ⟨rfl,rfl⟩:=Cp1 h2
  exact h3
 ·exact fun h=>⟨_,_,_,_,rfl,rfl,h⟩
theorem Cz6 {N:Nat} {s c:Sound} (hs:okS s) (hc:okS c):∃ b,I4 N s c=some b/\(b=true ↔ CN5 s c):=by
 obtain ⟨p,m,rfl⟩:=hs
 obtain ⟨a,b,rfl⟩:=hc
 exact ⟨_,CK8 p m a b,satS_of.symm⟩
theorem Cz7 {N:Nat} (hN:1000<=N) {s c:Sound} (hs:okS s) (hc:okS c):∃ b,N8 N s c=some b/\(b=true ↔ CN5 s c):=by
 obtain ⟨p,m,rfl⟩:=hs
 obtain ⟨a,b,rfl⟩:=hc
 exact ⟨_,CK9 p m a b hN,satS_of.symm⟩
def okL (l:Law):Prop:=okPS l.Left/\okPS l.Right/\∀ i,i < l.If.n->okS (l.If.g i)
def arP (l:Law) (w:Sl Sound) (i:Nat):Prop:=chk 40 [l.Left]/\chk 40 [l.Right]/\wOk w/\i+l.If.n<=w.n/\(∃ a,a<=w.n/\PR w l.Left a i)/\∃ b,b<=w.n/\PR w l.Right (i+l.If.n) b
def BW5 (l:Law) (w:Sl Sound) (i:Nat):Prop:=i+l.If.n<=w.n/\(∀ j,j < l.If.n->CN5 (w.g (i+j)) (l.If.g j))/\arP l w i
def okW (w:Sl Sound):Prop:=w.n < 1000/\∀ i,i < w.n->okS (w.g i)
theorem Ce3 {N:Nat} (hN:3000<=N) {l:Law} (hl:okL l) (hk:l.If.n<=4) {w:Sl Sound} (hw:okW w) (i:Nat) (hi:i < 2000) :
 ∃ b,S2 N (i:Int) l w=some b/\(b=true ↔ arP l w i):=by
 unfold S2
 obtain ⟨y1,e1,h1⟩:=Ce2 (N:=N) hN hl.1 (w:=w) ⟨by have:=hw.1;omega,by have:=hw.1;omega⟩ hw.2 (i:Int)
 refine B7 e1 ?_
 rw [Int.toNat_natCast] at h1
 by_cases h0:y1.1.n=0
 ·refine ifT (by simp [h0]) ⟨false,rfl,by simp,fun h=>?_⟩
  have:=h1.2 ⟨h.1,h.2.2.1,by omega,by have:=h.2.2.2.1;omega,h.2.2.2.2.1⟩
  omega
 ·refine ifF (by simp;omega) ?_
  rw [Am6 (by omega)]
  obtain ⟨y2,e2,h2⟩:=Cz5 (N:=N) hN hl.2.1 (w:=w) ⟨by have:=hw.1;omega,by have:=hw.1;omega⟩ hw.2 ((i+l.If.n:Nat):Int)
  rw [Int.toNat_natCast] at h2
  refine B7 e2 ⟨_,rfl, ?_⟩
  have h1:=h1.1 (by omega)
  rw [decide_eq_true_eq]
  constructor
  ·intro h
   have h2:=h2.1 (by omega)
   exact ⟨h1.1,h2.1,h1.2.1,by omega,h1.2.2.2.2,h2.2.2.2.2⟩
  ·intro h
   have:=h2.2 ⟨h.2.1,h.2.2.1,by omega,by have:=h.2.2.2.1;omega,h.2.2.2.2.2⟩
   omega
theorem Bs7 {N:Nat} (hN:3000<=N) {l:Law} (hl:okL l) (hk:l.If.n<=4) {w:Sl Sound} (hw:okW w) (i:Nat) (hi:i < 2000) :
 ∃ b,Z4 N l w (i:Int)=some b/\(b=true ↔ BW5 l w i):=by
 unfold Z4
 rw [Am6 (by omega)]
 by_cases hn:w.n < i+l.If.n
 ·exact ifT (by simp;omega) ⟨false,rfl,by simp,fun h=>by have:=h.1;omega⟩
 refine ifF (by simp;omega) ?_
 refine Av7 (fun j x1=>x1=(j:Int)/\∀ k,k < j->CN5 (w.g (i+k)) (l.If.g k)) l.If.n _ (by omega) ⟨rfl,fun k hk=>absurd hk (by omega)⟩ ?_
 rintro self j x1 hj ⟨rfl,h⟩ hs
 by_cases hlt:j < l.If.n
 ·rw [Am6 (by omega)]
  refine ifT (by simp;omega) (ifT (by omega) ?_)
  obtain ⟨b,eb,hb⟩:=Cz7 (N:=N) (by omega) (hw.2 (i+j) (by omega)) (hl.2.2 j hlt)
  refine B7 (by rw [Int.toNat_natCast,Int.toNat_natCast];exact eb) ?_
  cases b
  ·refine ifT rfl ⟨false,rfl,by simp,fun h2=>?_⟩
   have:=hb.2 (h2.2.1 j hlt);cases this
  ·refine ifF (by simp) (hs hlt _ ⟨C7 (by omega),fun k hk2=>?_⟩)
   by_cases e:k=j
   ·subst e;exact hb.1 rfl
   ·exact h k (by omega)
 ·refine ifF (by simp;omega) ?_
  obtain ⟨y1,e1,h1⟩:=BQ0 (N:=N) hN hl.1 (w:=w) hw.2 (i:Int)
  obtain ⟨y2,e2,h2⟩:=Cp0 (N:=N) hN hl.2.1 (w:=w) hw.2 ((i+l.If.n:Nat):Int)
  rw [Int.toNat_natCast] at h1 h2
  refine B7 e1 (B7 e2 ⟨_,rfl, ?_⟩)
  simp only [Bool.and_eq_true,decide_eq_true_eq]
  constructor
  ·rintro ⟨g1,g2⟩
   have h1:=h1.1 (by omega)
   have h2:=h2.1 (by omega)
   exact ⟨by omega,fun k hk2=>h k (by omega),h1.1,h2.1,h1.2.1,by omega,h1.2.2.2.2,h2.2.2.2.2⟩
  ·intro g
   have a1:=h1.2 ⟨g.2.2.1,g.2.2.2.2.1,by omega,by omega,g.2.2.2.2.2.2.1⟩
   have a2:=h2.2 ⟨g.2.2.2.1,g.2.2.2.2.1,by omega,by omega,g.2.2.2.2.2.2.2⟩
   exact ⟨by omega,by omega⟩
end Go.AM
set_option linter.unusedVariables false
namespace Go.AM
open Go.Proofs
open Classical in
noncomputable def hitB (l:Law) (w:Sl Sound) (i:Nat):Bool:=decide (BW5 l w i)
theorem hitB_iff {l:Law} {w:Sl Sound} {i:Nat}:hitB l w i=true ↔ BW5 l w i:=by simp [hitB]
noncomputable def Ao9 (l:Law) (w:Sl Sound) (i:Nat):List Int:=((List.range' i (w.n+1 - i)).filter (hitB l w)).map fun (j:Nat)=>(j:Int)
theorem AM8 {l:Law} {w:Sl Sound} {i:Nat} (h:w.n < i+l.If.n):Ao9 l w i=[]:=by
 unfold Ao9
 rw [List.filter_eq_nil_iff.2 fun j hj hb=>by
  have:=List.mem_range'_1.1 hj
  have:=(hitB_iff.1 hb).1
  omega]
 rfl
theorem AJ8 {l:Law} {w:Sl Sound} {i:Nat} (hi:i<=w.n) (h:BW5 l w i):Ao9 l w i=(i:Int) :: Ao9 l w (i+1):=by
 unfold Ao9
 rw [show w.n+1 - i=(w.n+1 - (i+1))+1 by omega,List.range'_succ,List.filter_cons_of_pos (hitB_iff.2 h)]
 rfl
theorem AJ9 {l:Law} {w:Sl Sound} {i:Nat} (h:¬ BW5 l w i):Ao9 l w i=Ao9 l w (i+1):=by
 unfold Ao9
 by_cases hi:i<=w.n
 ·rw [show w.n+1 - i=(w.n+1 - (i+1))+1 by omega,List.range'_succ,List.filter_cons_of_neg fun hb=>h (hitB_iff.1 hb)]
 ·rw [show w.n+1 - i=0 by omega,show w.n+1 - (i+1)=0 by omega];rfl
theorem Cz8 {l:Law} {w:Sl Sound} {i:Nat} {y:Int} (h:y ∈ Ao9 l w i):(i:Int)<=y:=by
 obtain ⟨j,hj,rfl⟩:=List.mem_map.1 h
 have:=List.mem_range'_1.1 (List.mem_filter.1 hj).1
 omega
theorem BW6 {N:Nat} (hN:3000<=N) {l:Law} (hl:okL l) (hk:l.If.n<=4) {w:Sl Sound} (hw:okW w) (i:Nat) (hi:i < 1500):V6 N l w (i:Int)=some (Ao9 l w i):=by
 unfold V6
 show (some (l,w)).bind _=_
 rw [Option.bind_some]
 simp only []
 suffices h:∀ (k i:Nat),i < 1501->w.n+1 - i<=k->∀ F,k < F->∃ r,Ae3 F (fun (self3:Int->Option (List Int)) (x2:Int)=>
  if (decide ((IntKind.wrap .i64 (x2+(l.If.n:Int)))<=(w.n:Int)))=true then
   Ae3 N (fun (self4:Int->Option (List Int)) (x4:Int)=>
    if (decide (x4 < (l.If.n:Int)))=true then
     if ((0:Int)<=x4/\x4 < (l.If.n:Int)) then
      if ((0:Int)<=(IntKind.wrap .i64 (x2+x4))/\(IntKind.wrap .i64 (x2+x4)) < (w.n:Int)) then
       (I4 N (w.g (IntKind.wrap .i64 (x2+x4)).toNat) (l.If.g x4.toNat)).bind fun y12=>
       if (!y12)=true then
        self3 (IntKind.wrap .i64 (x2+1))
       else
        self4 (IntKind.wrap .i64 (x4+1))
      else none
     else none
    else
     (S2 N x2 l w).bind fun y13=>
     if y13=true then
      Ad1 x2 (
       self3 (IntKind.wrap .i64 (x2+1))
       )
     else
      self3 (IntKind.wrap .i64 (x2+1))
    ) 0
  else
   some []
  ) (i:Int)=some r/\r=Ao9 l w i by
  obtain ⟨r,h1,rfl⟩:=h (w.n+1 - i) i (by omega) (Nat.le_refl _) N (by have:=hw.1;omega)
  exact h1
 intro k
 induction k with
 | zero=>
  intro i hi hk2 F hF
  match F,hF with
  | F+1,_=>
   rw [R5,Am6 (by omega)]
   exact ifF (by simp;omega) ⟨_,rfl,(AM8 (by omega)).symm⟩
 | succ k ih=>
  intro i hi hk2 F hF
  match F,hF with
  | F+1,hF=>
   rw [R5,Am6 (by omega)]
   by_cases hn:i+l.If.n<=w.n
   case neg=>exact ifF (by simp;omega) ⟨_,rfl,(AM8 (by omega)).symm⟩
   refine ifT (by simp;omega) ?_
   have hw1:=hw.1
   obtain ⟨r,hr,hr2⟩:=ih (i+1) (by omega) (by omega) F (by omega)
   have hself:∀ (Q:List Int->Prop),Q (Ao9 l w (i+1))->∃ r,Ae3 F _ (IntKind.i64.wrap ((i:Int)+1))=some r/\Q r:=fun Q hQ=>⟨r,by rw [C7 (by omega)];exact hr,by rw [hr2];exact hQ⟩
   refine Av7 (fun j x1=>x1=(j:Int)/\∀ k,k < j->CN5 (w.g (i+k)) (l.If.g k)) l.If.n _ (by omega) ⟨rfl,fun k hk=>absurd hk (by omega)⟩ ?_
   rintro self j x1 hj ⟨rfl,h⟩ hs
   by_cases hlt:j < l.If.n
   ·rw [Am6 (by omega)]
    refine ifT (by simp;omega) (ifT (by omega) (ifT (by omega) ?_))
    obtain ⟨b,eb,hb⟩:=Cz6 (N:=N) (hw.2 (i+j) (by omega)) (hl.2.2 j hlt)
    refine B7 (by rw [Int.toNat_natCast,Int.toNat_natCast];exact eb) ?_
    cases b
    ·refine ifT rfl (hself _ ?_)
     exact (AJ9 fun h2=>by have:=hb.2 (h2.2.1 j hlt);cases this).symm
    ·refine ifF (by simp) (hs hlt _ ⟨C7 (by omega),fun k hk2=>?_⟩)
     by_cases e:k=j
     ·subst e;exact hb.1 rfl
     ·exact h k (by omega)
   ·refine ifF (by simp;omega) ?_
    obtain ⟨b,eb,hb⟩:=Ce3 hN hl hk hw i (by omega)
    refine B7 eb ?_
    cases b
    ·refine ifF (by simp) (hself _ ?_)
     exact (AJ9 fun h2=>by have:=hb.2 h2.2.2;cases this).symm
    ·refine ifT rfl ?_
     have hh:BW5 l w i:=⟨hn,fun k hk2=>h k (by omega),hb.1 rfl⟩
     refine ⟨(i:Int) :: Ao9 l w (i+1), ?_,(AJ8 (by omega) hh).symm⟩
     rw [C7 (by omega),hr,hr2];rfl
theorem Cp2 {N:Nat} (hN:3000<=N) {l:Law} (hl:okL l) (hk:l.If.n<=4) {w:Sl Sound} (hw:okW w) (i:Nat) (hi:i < 1500) :
 ∃ b,Ah9 N l w (i:Int)=some b/\(b=true ↔ BW5 l w i):=by
 unfold Ah9
 refine B7 (x:=(l,w,(i:Int))) rfl (B7 (BW6 hN hl hk hw i hi) ?_)
 by_cases h:BW5 l w i
 ·rw [AJ8 (by have:=h.1;omega) h]
  exact ⟨true,by simp [K4],by simp [h]⟩
 ·rw [AJ9 h]
  rcases hL:Ao9 l w (i+1) with _ | ⟨t,L⟩
  ·exact ⟨false,rfl,by simp [h]⟩
  ·have:((i+1:Nat):Int)<=t:=Cz8 (l:=l) (w:=w) (by rw [hL];simp)
   exact ⟨false,by show some (t == (i:Int))=some false;congr 1;simp;omega,by simp [h]⟩
end Go.AM
set_option linter.unusedVariables false
namespace Go.AM
open Go.Proofs
def okO (x:Ae4):Prop:=okS x.Set/\(∃ c:BitVec 32,x.Clear=(c.toNat:Int))/\∃ t:BitVec 32,x.Take=(t.toNat:Int)
theorem CD7 {p m a b s:BitVec 32} (h1:vB p m=true) (h2:vB a b=true):vB (Bt8 p a s) (Bt8 m b s)=true:=by
 rw [Av3] at *
 intro i hi
 have g1:=h1 i hi
 have g2:=h2 i hi
 simp only [Bt8,BitVec.getLsbD_or,BitVec.getLsbD_and,BitVec.getLsbD_not]
 revert g1 g2
 cases s.getLsbD i <;> cases p.getLsbD i <;> cases m.getLsbD i <;> cases a.getLsbD i <;> cases b.getLsbD i <;> simp [hi]
theorem vS0:vS (⟨0,0⟩:Sound):=⟨0#32,0#32,rfl,by decide +kernel⟩
theorem BQ1 {N:Nat} (hN:1000<=N) {s t:Sound} {c:Int} (hs:okS s) (hc:∃ b:BitVec 32,c=(b.toNat:Int)) (ht:okS t):∃ y,N1 N s c t=some y/\O8 N s c t=some y/\vS y.1:=by
 obtain ⟨p,m,rfl⟩:=hs
 obtain ⟨a,b,rfl⟩:=ht
 obtain ⟨d,rfl⟩:=hc
 refine ⟨_,Cd9 p m d a b,Ce0 p m d a b hN, ?_⟩
 unfold Cy7
 split
 ·rename_i h
  split
  ·exact ⟨_,_,rfl,CD7 h.1 h.2⟩
  ·exact vS0
 ·exact vS0
theorem Cp3 {N:Nat} (hN:1000<=N) {s t:Sound} {c:Int} (hs:okS s) (hc:∃ b:BitVec 32,c=(b.toNat:Int)) (ht:okS t):∃ y,Q7 N s t c=some y/\W4 N s t c=some y/\vS y.1:=by
 obtain ⟨p,m,rfl⟩:=hs
 obtain ⟨a,b,rfl⟩:=ht
 obtain ⟨d,rfl⟩:=hc
 refine ⟨_,Cy9 p m a b d,Cz0 p m a b d hN, ?_⟩
 unfold Cy8
 split
 ·rename_i h
  split
  ·exact ⟨_,_,rfl,CD7 h.1 h.2⟩
  ·exact vS0
 ·exact vS0
def CU8 (l:Law):Prop:=l.Out.n<=6/\∀ i,i < l.Out.n->okO (l.Out.g i)/\(l.Out.g i).From < l.If.n/\((l.Out.g i).Take ≠ 0->0<=(l.Out.g i).Of/\(l.Out.g i).Of < l.If.n)
theorem eqX {R:Type} {Q:R->Prop} {o o' : Option R} (h:o=o') (h2:∃ r,o' = some r/\Q r):∃ r,o=some r/\Q r:=by rw [h];exact h2
def Ae7 (f:Nat->Sound):Nat->Sl Sound
 | 0=>Sl.nil
 | m+1=>(Ae7 f m).push (f m)
theorem AF4 (f:Nat->Sound):∀ m,(Ae7 f m).n=m
 | 0=>rfl
 | m+1=>by show (Ae7 f m).n+1=_;rw [AF4 f m]
theorem BQ2 (f:Nat->Sound):∀ {m i:Nat},i < m->(Ae7 f m).g i=f i
 | 0,i,h=>by omega
 | m+1,i,h=>by
  show (if i < (Ae7 f m).n then (Ae7 f m).g i else f m)=f i
  rw [AF4]
  by_cases e:i < m
  ·rw [if_pos e,BQ2 f e]
  ·rw [if_neg e,show i=m by omega]
abbrev srcS (l:Law) (cut:Sl Sound) (i:Nat):Sound:=⟨(if (decide (0<=(l.Out.g i).From))=true then (cut.g (l.Out.g i).From.toNat).Plus else 0),(if (decide (0<=(l.Out.g i).From))=true then (cut.g (l.Out.g i).From.toNat).Minus else 0)⟩
theorem CL7 {N:Nat} (hN:1000<=N) {l:Law} (ho:CU8 l) {cut:Sl Sound} (hn:cut.n=l.If.n) (hc:∀ i,i < cut.n->okS (cut.g i)) :
 ∃ s,Q4 N l cut=some s/\Ad5 N l cut=some s/\s.n=l.Out.n/\∀ i,i < s.n->vS (s.g i):=by
 have one:∀ i,∃ y:Sound,i < l.Out.n->vS y/\∀ (R:Type) (k:Sound->Option R),
  (∀ (Ch:Nat->Sound->Int->Sound->Option (Sound × Int)) (Ta:Nat->Sound->Sound->Int->Option (Sound × Int)),(Ch=N1/\Ta=Q7) \/ (Ch=O8/\Ta=W4) ->
  (if ((decide (0<=(l.Out.g i).From))=true->((0:Int)<=(l.Out.g i).From/\(l.Out.g i).From < (cut.n:Int))) then
   (Ch N (⟨(if (decide (0<=(l.Out.g i).From))=true then (cut.g (l.Out.g i).From.toNat).Plus else 0),(if (decide (0<=(l.Out.g i).From))=true then (cut.g (l.Out.g i).From.toNat).Minus else 0)⟩:Sound) (l.Out.g i).Clear (l.Out.g i).Set).bind fun y5=>
   if ((l.Out.g i).Take != 0)=true then
    if ((0:Int)<=(l.Out.g i).Of/\(l.Out.g i).Of < (cut.n:Int)) then
     (Ta N y5.1 (cut.g (l.Out.g i).Of.toNat) (l.Out.g i).Take).bind fun y6=>k y6.1
    else none
   else k y5.1
   else none)=k y):=by
  intro i
  by_cases hi:i < l.Out.n
  case neg=>exact ⟨default,fun h=>absurd h hi⟩
  obtain ⟨⟨hset,hcl,hta⟩,hfr,hof⟩:=ho.2 i hi
  have hs:okS (⟨(if (decide (0<=(l.Out.g i).From))=true then (cut.g (l.Out.g i).From.toNat).Plus else 0),(if (decide (0<=(l.Out.g i).From))=true then (cut.g (l.Out.g i).From.toNat).Minus else 0)⟩:Sound):=by
   by_cases hf:0<=(l.Out.g i).From
   ·simp only [hf,decide_true,if_true]
    exact hc _ (by omega)
   ·simp only [hf,decide_false,Bool.false_eq_true,if_false]
    exact ⟨0#32,0#32,rfl⟩
  obtain ⟨y,e1,e2,hy⟩:=BQ1 hN hs hcl hset
  by_cases ht:(l.Out.g i).Take=0
  ·refine ⟨y.1,fun _=>⟨hy,fun R k Ch Ta h=>?_⟩⟩
   rw [if_pos (fun h=>by have:=of_decide_eq_true h;omega)]
   have:Ch N (srcS l cut i) (l.Out.g i).Clear (l.Out.g i).Set=some y:=by
    rcases h with ⟨rfl,rfl⟩ | ⟨rfl,rfl⟩
    ·exact e1
    ·exact e2
   rw [this,Option.bind_some,if_neg (by simp [ht])]
  ·obtain ⟨g1,g2⟩:=hof ht
   obtain ⟨z,e3,e4,hz⟩:=Cp3 hN hy.ok hta (hc (l.Out.g i).Of.toNat (by omega))
   refine ⟨z.1,fun _=>⟨hz,fun R k Ch Ta h=>?_⟩⟩
   rw [if_pos (fun h=>by have:=of_decide_eq_true h;omega)]
   have:Ch N (srcS l cut i) (l.Out.g i).Clear (l.Out.g i).Set=some y:=by
    rcases h with ⟨rfl,rfl⟩ | ⟨rfl,rfl⟩
    ·exact e1
    ·exact e2
   rw [this,Option.bind_some,if_pos (by simp [ht]),if_pos (by omega)]
   have:Ta N y.1 (cut.g (l.Out.g i).Of.toNat) (l.Out.g i).Take=some z:=by
    rcases h with ⟨rfl,rfl⟩ | ⟨rfl,rfl⟩
    ·exact e3
    ·exact e4
   rw [this,Option.bind_some]
 obtain ⟨out,hout⟩:=Classical.axiomOfChoice one
 have hn6:=ho.1
 have hbody:∀ (Ch:Nat->Sound->Int->Sound->Option (Sound × Int)) (Ta:Nat->Sound->Sound->Int->Option (Sound × Int)),(Ch=N1/\Ta=Q7) \/ (Ch=O8/\Ta=W4) ->
  ∀ (self:Sl Sound->Int->Option (Sl Sound)) (i:Nat),i < l.Out.n->(∃ r,self ((Ae7 out i).push (out i)) (IntKind.wrap .i64 ((i:Int)+1))=some r/\r=Ae7 out l.Out.n) ->
  ∃ r,(if ((decide (0<=(l.Out.g i).From))=true->((0:Int)<=(l.Out.g i).From/\(l.Out.g i).From < (cut.n:Int))) then
   (Ch N (srcS l cut i) (l.Out.g i).Clear (l.Out.g i).Set).bind fun y5=>
   if ((l.Out.g i).Take != 0)=true then
    if ((0:Int)<=(l.Out.g i).Of/\(l.Out.g i).Of < (cut.n:Int)) then
     (Ta N y5.1 (cut.g (l.Out.g i).Of.toNat) (l.Out.g i).Take).bind fun y6=>
     if (((Ae7 out i).n+(Sl.of [y6.1]:Sl Sound).n) * 8<=140737488355328/\(Ae7 out i).n+(Sl.of [y6.1]:Sl Sound).n<=140737488355328) then
      self ((Ae7 out i).push y6.1) (IntKind.wrap .i64 ((i:Int)+1))
     else none
    else none
   else
    if (((Ae7 out i).n+(Sl.of [y5.1]:Sl Sound).n) * 8<=140737488355328/\(Ae7 out i).n+(Sl.of [y5.1]:Sl Sound).n<=140737488355328) then
     self ((Ae7 out i).push y5.1) (IntKind.wrap .i64 ((i:Int)+1))
    else none
   else none)=some r/\r=Ae7 out l.Out.n:=by
  intro Ch Ta h self i hi hr
  have e:=(hout i hi).2 (Sl Sound) (fun y=>if (((Ae7 out i).n+(Sl.of [y]:Sl Sound).n) * 8<=140737488355328/\(Ae7 out i).n+(Sl.of [y]:Sl Sound).n<=140737488355328) then self ((Ae7 out i).push y) (IntKind.wrap .i64 ((i:Int)+1)) else none) Ch Ta h
  refine eqX e (ifT ?_ hr)
  have:=AF4 out i
  show ((Ae7 out i).n+1) * 8<=_/\(Ae7 out i).n+1<=_
  omega
 have h1:∃ r,Q4 N l cut=some r/\r=Ae7 out l.Out.n:=by
  unfold Q4
  refine Aa2 (fun i x1 x2=>x2=(i:Int)/\x1=Ae7 out i) l.Out.n _ (by omega) ⟨rfl,rfl⟩ ?_
  rintro self i x1 x2 hi ⟨rfl,rfl⟩ hs
  by_cases hlt:i < l.Out.n
  ·refine ifT (by simp;omega) (ifT (by omega) ?_)
   rw [Int.toNat_natCast]
   exact hbody _ _ (.inl ⟨rfl,rfl⟩) self i hlt (hs hlt _ _ ⟨C7 (by omega),rfl⟩)
  ·exact ifF (by simp;omega) ⟨_,rfl,by congr 1;omega⟩
 have h2:∃ r,Ad5 N l cut=some r/\r=Ae7 out l.Out.n:=by
  unfold Ad5
  refine Aa2 (fun i x1 x2=>x2=(i:Int)/\x1=Ae7 out i) l.Out.n _ (by omega) ⟨rfl,rfl⟩ ?_
  rintro self i x1 x2 hi ⟨rfl,rfl⟩ hs
  by_cases hlt:i < l.Out.n
  ·refine ifT (by simp;omega) (ifT (by omega) ?_)
   rw [Int.toNat_natCast]
   exact hbody _ _ (.inr ⟨rfl,rfl⟩) self i hlt (hs hlt _ _ ⟨C7 (by omega),rfl⟩)
  ·exact ifF (by simp;omega) ⟨_,rfl,by congr 1;omega⟩
 obtain ⟨r,e1,rfl⟩:=h1
 obtain ⟨r,e2,rfl⟩:=h2
 exact ⟨_,e1,e2,AF4 out _,fun i hi=>by
  rw [AF4] at hi
  rw [BQ2 out hi];exact (hout i hi).1⟩
end Go.AM
set_option linter.unusedVariables false
namespace Go.AM
open Go.Proofs
theorem ne0 (x:BitVec 32):((x.toNat:Int) != 0)=decide (x ≠ 0#32):=by
 rw [bne,eq0];simp
theorem or0 (x y:BitVec 32):x ||| y=0#32 ↔ x=0#32/\y=0#32:=by
 constructor
 ·intro h
  have h:=(z32 _).1 h
  exact ⟨(z32 _).2 fun i hi=>by have:=h i hi;rw [BitVec.getLsbD_or,Bool.or_eq_false_iff] at this;exact this.1,(z32 _).2 fun i hi=>by have:=h i hi;rw [BitVec.getLsbD_or,Bool.or_eq_false_iff] at this;exact this.2⟩
 ·rintro ⟨rfl,rfl⟩;rfl
theorem CT3 (x y z:BitVec 32):x &&& (y ||| z)=(x &&& y) ||| (x &&& z):=by
 apply BitVec.eq_of_getLsbD_eq;intro i hi
 simp only [BitVec.getLsbD_and,BitVec.getLsbD_or]
 cases x.getLsbD i <;> simp
theorem CT4 (x y z:BitVec 32):(x ||| y) &&& z=(x &&& z) ||| (y &&& z):=by
 apply BitVec.eq_of_getLsbD_eq;intro i hi
 simp only [BitVec.getLsbD_and,BitVec.getLsbD_or]
 cases z.getLsbD i <;> simp
theorem BW7 {N:Nat} (hN:1000<=N) {x:Ae4} (hx:okO x) (k:Int):∃ b,S1 N x k=some b/\Aq9 N x k=some b:=by
 obtain ⟨⟨a,b,hset⟩,⟨c,hc⟩,t,ht⟩:=hx
 have h24:(16777215:Int)=((16777215#32).toNat:Int):=rfl
 unfold S1 Aq9
 simp only [lt,hset,hc,ht,Ae2,X5 a b hN,Option.bind_some]
 rw [h24]
 simp only [As2,AO5,Aq0,ne0]
 by_cases h1:x.From < -1
 ·simp [h1]
 by_cases h2:k<=x.From
 ·simp [h1,h2]
 by_cases h3:vB a b=true
 case neg=>simp [h1,h2,h3]
 simp only [h1,h2,h3,decide_false,Bool.false_eq_true,if_false,Bool.not_true]
 rw [CT4,CT3 t]
 generalize ~~~16777215#32=M
 by_cases g1:c &&& M=0#32
 case neg=>simp [g1,or0]
 by_cases g2:t &&& M=0#32
 case neg=>simp [g1,g2,or0]
 by_cases g3:c &&& (a ||| b)=0#32
 case neg=>simp [g1,g2,g3,or0]
 by_cases g4:t &&& (a ||| b)=0#32
 case neg=>simp [g1,g2,g3,g4,or0]
 by_cases g5:t &&& c=0#32
 case neg=>simp [g1,g2,g3,g4,g5,or0]
 simp [g1,g2,g3,g4,g5,or0]
 by_cases g6:t.toNat=0
 ·simp only [g6,if_true];cases x.Of == 0 <;> simp
 ·simp only [g6,if_false];cases (decide (0<=x.Of) && decide (x.Of < k)) <;> simp
end Go.AM
set_option linter.unusedVariables false
namespace Go.AM
open Go.Proofs
abbrev nameC:Str:=[97,98,99,100,101,102,103,104,105,106,107,108,109,110,111,112,113,114,115,116,117,118,119,120,121,122,65,66,67,68,69,70,71,72,73,74,75,76,77,78,79,80,81,82,83,84,85,86,87,88,89,90,48,49,50,51,52,53,54,55,56,57,45]
theorem Cp4 {p:UInt8->Bool}:∀ {l:Str},l.dropWhile p=[] ↔ ∀ x ∈ l,p x=true
 | []=>by simp
 | a :: l=>by
  rw [List.dropWhile_cons]
  by_cases h:p a=true
  ·rw [if_pos h,Cp4];simp [h]
  ·rw [if_neg h];simp [h]
theorem Cz9 (l cs:Str):Lib.trimS l cs=[] ↔ ∀ b ∈ l,cs.contains b=true:=by
 unfold Lib.trimS Lib.trimLeftS Lib.trimRightS
 rw [Cp4]
 constructor
 ·intro h
  have h:∀ x ∈ l.reverse.dropWhile (cs.contains ·),cs.contains x=true:=fun x hx=>h x (List.mem_reverse.2 hx)
  have h2:l.reverse.dropWhile (cs.contains ·)=[]:=by
   rcases e:l.reverse.dropWhile (cs.contains ·) with _ | ⟨y,r⟩
   ·rfl
   ·have h3:=h y (by rw [e];simp)
    have h4:¬ cs.contains y=true:=by
     have:=List.head_dropWhile_not (cs.contains ·) (l:=l.reverse) (by rw [e];simp)
     simp only [e,List.head_cons] at this
     rw [this];exact Bool.false_ne_true
    exact absurd h3 h4
  rw [Cp4] at h2
  exact fun b hb=>h2 b (List.mem_reverse.2 hb)
 ·intro h x hx
  have hx:=List.mem_reverse.1 hx
  exact h x (List.mem_reverse.1 ((List.dropWhile_sublist _).mem hx))
abbrev CA0 (y:Int):Bool:=((((decide (97<=y)) && (decide (y<=122))) || ((decide (65<=y)) && (decide (y<=90)))) || ((decide (48<=y)) && (decide (y<=57)))) || (y == 45)
theorem Cp5:∀ k:Fin 256,nameC.contains (UInt8.ofNat k.val)=CA0 ((k.val:Nat):Int):=by decide +kernel
theorem Cp6 (b:UInt8):nameC.contains b=CA0 ((b.toNat:Nat):Int):=by
 have:=Cp5 ⟨b.toNat,b.toNat_lt⟩
 rw [show UInt8.ofNat b.toNat=b by simp] at this
 exact this
theorem BF0 {N:Nat} {s:Str} (hN:s.length < N) (hs:s.length < 1000000000):∃ b,Af8 N s=some b/\Af5 N s=some b:=by
 have h2:∃ b,Af5 N s=some b/\(b=true ↔ (∀ c ∈ s,nameC.contains c=true)/\1<=s.length/\s.length<=24):=by
  unfold Af5
  refine Av7 (fun i x1=>x1=(i:Int)/\∀ j (h:j < s.length),j < i->nameC.contains s[j]=true) s.length _ hN ⟨rfl,fun j _ hj=>absurd hj (by omega)⟩ ?_
  rintro self i x1 hi ⟨rfl,h⟩ hs2
  by_cases hl:i < s.length
  ·refine ifT (by simp;omega) (ifT (by omega) ?_)
   have eb:F8 s (i:Int)=((s[i].toNat:Nat):Int):=by simp [F8,hl]
   by_cases hb:nameC.contains s[i]=true
   ·refine ifF (by rw [eb];show ¬ (!(CA0 ((s[i].toNat:Nat):Int)))=true;rw [<- Cp6,hb];simp) (hs2 hl _ ⟨C7 (by omega),fun j hj hj2=>?_⟩)
    by_cases e:j=i
    ·subst e;exact hb
    ·exact h j hj (by omega)
   ·refine ifT ?_ ⟨false,rfl,by simp,fun hh=>absurd (hh.1 s[i] (List.getElem_mem hl)) hb⟩
    rw [eb]
    show (!(CA0 ((s[i].toNat:Nat):Int)))=true
    rw [<- Cp6]
    simpa using hb
  ·refine ifF (by simp;omega) ⟨_,rfl, ?_⟩
   simp only [Bool.and_eq_true,decide_eq_true_eq]
   constructor
   ·rintro ⟨g1,g2⟩
    refine ⟨fun c hc=>?_,by omega,by omega⟩
    obtain ⟨j,hj,rfl⟩:=List.getElem_of_mem hc
    exact h j hj (by omega)
   ·rintro ⟨_,g1,g2⟩;exact ⟨by omega,by omega⟩
 obtain ⟨b,e,hb⟩:=h2
 refine ⟨b, ?_,e⟩
 suffices h:∃ r,Af8 N s=some r/\(r=true ↔ (∀ c ∈ s,nameC.contains c=true)/\1<=s.length/\s.length<=24) by
  obtain ⟨r,hr,hr2⟩:=h
  rw [hr,show r=b by rw [Bool.eq_iff_iff,hr2,hb]]
 unfold Af8
 refine ltX ?_
 by_cases h0:s=[]
 ·exact ifF (by simp [h0]) ⟨false,rfl,by simp [h0]⟩
 refine ifT (by simp [h0]) ?_
 have hpos:0 < s.length:=List.length_pos_iff.2 h0
 by_cases h1:s.length<=24
 ·refine ifT (by simp;omega) (B7 (x:=Lib.trimS s nameC) ?_ ⟨_,rfl, ?_⟩)
  ·unfold Ao6
   rw [if_pos ⟨by omega,by decide,by decide⟩]
  ·rw [<- Cz9]
   constructor
   ·intro h
    exact ⟨by simpa using h,by omega,h1⟩
   ·rintro ⟨h,_⟩
    simp [h]
 ·exact ifF (by simp;omega) ⟨false,rfl,by simp;intro _ _;omega⟩
end Go.AM
set_option linter.unusedVariables false
namespace Go.AM
open Go.Proofs
theorem BF1 {N:Nat} {s:Sl Ae4} (hN:s.n < N) (hs:s.n < 1000000) {f:Ae4->Option Bool} {b:Nat->Bool} (hf:∀ i,i < s.n->f (s.g i)=some (b i)) :
 ∃ r,C4 N s f=some r/\(r=true ↔ ∃ i,i < s.n/\b i=true):=by
 unfold C4 E3
 have:∃ y,Ae3 N (fun (self1:Int->Option Int) (x1:Int)=>
  if (decide (x1 < (s.n:Int)))=true then
   if ((0:Int)<=x1/\x1 < (s.n:Int)) then
    (f (s.g x1.toNat)).bind fun y3=>
    if y3=true then
     some x1
    else
     self1 (IntKind.wrap .i64 (x1+1))
   else none
  else
   some (-1)) 0=some y/\(0<=y ↔ ∃ i,i < s.n/\b i=true):=by
  refine Av7 (fun i x1=>x1=(i:Int)/\∀ j,j < i->b j=false) s.n _ hN ⟨rfl,fun j hj=>absurd hj (by omega)⟩ ?_
  rintro self i x1 hi ⟨rfl,h⟩ hs2
  by_cases hl:i < s.n
  ·refine ifT (by simp;omega) (ifT (by omega) (B7 (by rw [Int.toNat_natCast];exact hf i hl) ?_))
   cases hb:b i
   ·refine ifF (by simp) (hs2 hl _ ⟨C7 (by omega),fun j hj=>?_⟩)
    by_cases e:j=i
    ·subst e;exact hb
    ·exact h j (by omega)
   ·exact ifT rfl ⟨i,rfl,fun _=>⟨i,hl,hb⟩,fun _=>by omega⟩
  ·refine ifF (by simp;omega) ⟨-1,rfl,fun h=>absurd h (by decide), ?_⟩
   rintro ⟨j,hj,hb⟩
   rw [h j (by omega)] at hb;cases hb
 obtain ⟨y,e,hy⟩:=this
 exact B7 e ⟨_,rfl,by rw [decide_eq_true_eq];exact hy⟩
def Bs8 (l:Law):Prop:=okL l/\l.Name.length < 1100000/\l.If.n < 1100000/\l.Out.n < 1100000/\∀ i,i < l.Out.n->okO (l.Out.g i)
theorem Ce4 {N:Nat} {s:Sound} (hs:okS s):∃ b,F5 N s=some b/\(b=true ↔ vS s):=by
 obtain ⟨p,m,e⟩:=hs
 exact ⟨vB p m,by rw [e];exact Ae2 p m,(BP6 e).symm⟩
theorem Ce5 {N:Nat} (hN:1000<=N) {s:Sound} (hs:okS s):∃ b,H2 N s=some b/\(b=true ↔ vS s):=by
 obtain ⟨p,m,e⟩:=hs
 exact ⟨vB p m,by rw [e];exact X5 p m hN,(BP6 e).symm⟩
theorem CA1 {N:Nat} {x:Ae4} (hx:okO x) {k:Int} (h:S1 N x k=some true):x.From < k/\(x.Take ≠ 0->0<=x.Of/\x.Of < k):=by
 obtain ⟨⟨a,b,hset⟩,_,_⟩:=hx
 unfold S1 at h
 simp only [lt,hset,Ae2,Option.bind_some] at h
 by_cases h1:x.From < -1
 ·simp [h1] at h
 by_cases h2:k<=x.From
 ·simp [h1,h2] at h
 refine ⟨by omega,fun ht=>?_⟩
 simp only [h1,h2,decide_false,Bool.false_eq_true,if_false] at h
 by_cases h3:(!vB a b)=true
 ·rw [if_pos h3] at h;cases h
 rw [if_neg h3] at h
 split at h
 ·cases h
 ·rw [if_neg (by simp [ht])] at h;simpa using h
def chkAll (N:Nat) (l:Law):Prop:=Af5 N l.Name=some true/\chk 40 [l.Left]/\chk 40 [l.Right]/\l.If.n<=4/\l.Out.n<=6/\l.If.n+l.Out.n ≠ 0/\1<=l.Mode/\l.Mode<=3/\(∀ i,i < l.If.n->vS (l.If.g i))/\∀ i,i < l.Out.n->S1 N (l.Out.g i) l.If.n=some true
def CT5 (N:Nat) (l:Law) (e:Int):Prop:=(e=0/\chkAll N l) \/ (e=17/\¬ chkAll N l)
def CU9 (l:Law):Prop:=okL l/\chk 40 [l.Left]/\chk 40 [l.Right]/\l.If.n<=4/\CU8 l/\l.If.n+l.Out.n ≠ 0/\1<=l.Mode/\l.Mode<=3
theorem chkAll.f {N:Nat} {l:Law} (hl:Bs8 l) (h:chkAll N l):CU9 l:=by
 obtain ⟨_,h1,h2,h3,h4,h5,h6,h7,h8,h9⟩:=h
 exact ⟨hl.1,h1,h2,h3,⟨h4,fun i hi=>⟨hl.2.2.2.2 i hi,CA1 (hl.2.2.2.2 i hi) (h9 i hi)⟩⟩,h5,h6,h7⟩
theorem Ce6 {N:Nat} (hN:3000000<=N) {l:Law} (hl:Bs8 l):∃ e,Ab5 N l=some e/\CT5 N l e:=by
 have hb1:=hl.2.1
 have hb2:=hl.2.2.1
 have hb3:=hl.2.2.2.1
 unfold Ab5
 obtain ⟨b0,e0,e0'⟩:=BF0 (N:=N) (s:=l.Name) (by omega) (by omega)
 refine B7 e0 ?_
 cases b0
 ·exact ifT rfl ⟨17,rfl, .inr ⟨rfl,fun h=>by have:=h.1;rw [e0'] at this;cases this⟩⟩
 refine ifF (by simp) ?_
 obtain ⟨y2,e2,h2⟩:=Bs6 (N:=N) (by omega) hl.1.1
 refine B7 e2 ?_
 by_cases c2:y2=0
 case neg=>exact ifT (by simpa using c2) ⟨17,rfl, .inr ⟨rfl,fun h=>c2 (h2.2 h.2.1)⟩⟩
 refine ifF (by simp [c2]) ?_
 obtain ⟨y3,e3,h3⟩:=Bs6 (N:=N) (by omega) hl.1.2.1
 refine B7 e3 ?_
 by_cases c3:y3=0
 case neg=>exact ifT (by simpa using c3) ⟨17,rfl, .inr ⟨rfl,fun h=>c3 (h3.2 h.2.2.1)⟩⟩
 refine ifF (by simp [c3]) ?_
 by_cases c4:4 < l.If.n
 ·exact ifT (by simp;omega) ⟨17,rfl, .inr ⟨rfl,fun h=>by have:=h.2.2.2.1;omega⟩⟩
 refine ifF (by simp;omega) ?_
 by_cases c5:6 < l.Out.n
 ·exact ifT (by simp;omega) ⟨17,rfl, .inr ⟨rfl,fun h=>by have:=h.2.2.2.2.1;omega⟩⟩
 refine ifF (by simp;omega) ?_
 rw [Am6 (by omega)]
 by_cases c6:l.If.n+l.Out.n=0
 ·exact ifT (by rw [c6];rfl) ⟨17,rfl, .inr ⟨rfl,fun h=>h.2.2.2.2.2.1 c6⟩⟩
 refine ifF (by simp;omega) ?_
 by_cases c7:l.Mode < 1 \/ 3 < l.Mode
 ·exact ifT (by simp;omega) ⟨17,rfl, .inr ⟨rfl,fun h=>by have g1:=h.2.2.2.2.2.2.1;have g2:=h.2.2.2.2.2.2.2.1;omega⟩⟩
 refine ifF (by simp;omega) ?_
 have hv:∀ i,∃ b,i < l.If.n->X0 N (l.If.g i)=some b/\(b=true ↔ ¬ vS (l.If.g i)):=by
  intro i
  by_cases hi:i < l.If.n
  ·obtain ⟨b,eb,hb⟩:=Ce4 (N:=N) (hl.1.2.2 i hi)
   refine ⟨!b,fun _=>⟨by unfold X0;rw [eb];rfl, ?_⟩⟩
   rw [<- hb];simp
  ·exact ⟨false,fun h=>absurd h hi⟩
 obtain ⟨f,hf⟩:=Classical.axiomOfChoice hv
 obtain ⟨y4,e4,h4⟩:=AR0 (N:=N) (w:=l.If) (by omega) (by omega) (f:=fun u1=>X0 N u1) (fun i hi=>(hf i hi).1)
 refine B7 e4 ?_
 cases hy4:y4
 case true=>
  obtain ⟨i,hi,hb⟩:=h4.1 hy4
  exact ifT rfl ⟨17,rfl, .inr ⟨rfl,fun h=>(hf i hi).2.1 hb (h.2.2.2.2.2.2.2.2.1 i hi)⟩⟩
 refine ifF (by simp) ?_
 have ho:∀ i,∃ b,i < l.Out.n->W9 N (l.Out.g i) (l.If.n:Int)=some b/\(b=true ↔ ¬ S1 N (l.Out.g i) l.If.n=some true):=by
  intro i
  by_cases hi:i < l.Out.n
  ·obtain ⟨b,eb,_⟩:=BW7 (N:=N) (by omega) (hl.2.2.2.2 i hi) (l.If.n:Int)
   refine ⟨!b,fun _=>⟨by unfold W9;rw [eb];rfl, ?_⟩⟩
   rw [eb];simp
  ·exact ⟨false,fun h=>absurd h hi⟩
 obtain ⟨g,hg⟩:=Classical.axiomOfChoice ho
 obtain ⟨y5,e5,h5⟩:=BF1 (N:=N) (s:=l.Out) (by omega) (by omega) (f:=fun u2=>W9 N u2 (l.If.n:Int)) (fun i hi=>(hg i hi).1)
 refine B7 e5 ?_
 cases hy5:y5
 case true=>
  obtain ⟨i,hi,hb⟩:=h5.1 hy5
  exact ifT rfl ⟨17,rfl, .inr ⟨rfl,fun h=>(hg i hi).2.1 hb (h.2.2.2.2.2.2.2.2.2 i hi)⟩⟩
 refine ifF (by simp) ⟨0,rfl, .inl ⟨rfl,e0',h2.1 c2,h3.1 c3,by omega,by omega,c6,by omega,by omega,fun i hi=>?_,fun i hi=>?_⟩⟩
 ·refine Classical.byContradiction fun hn=>?_
  have:=h4.2 ⟨i,hi,(hf i hi).2.2 hn⟩
  rw [hy4] at this;cases this
 ·refine Classical.byContradiction fun hn=>?_
  have:=h5.2 ⟨i,hi,(hg i hi).2.2 hn⟩
  rw [hy5] at this;cases this
theorem Ce7 {N:Nat} (hN:3000000<=N) {l:Law} (hl:Bs8 l):∃ e,Ab4 N l=some e/\CT5 N l e:=by
 have hb1:=hl.2.1
 have hb2:=hl.2.2.1
 have hb3:=hl.2.2.2.1
 unfold Ab4
 obtain ⟨b0,e0,e0'⟩:=BF0 (N:=N) (s:=l.Name) (by omega) (by omega)
 refine B7 e0' (ltX ?_)
 cases b0
 ·exact ifT rfl (ifT rfl ⟨17,rfl, .inr ⟨rfl,fun h=>by have:=h.1;rw [e0'] at this;cases this⟩⟩)
 refine ifF (by simp) ?_
 obtain ⟨y2,e2,h2⟩:=Bb8 (N:=N) (by omega) hl.1.1
 refine B7 e2 ?_
 by_cases c2:y2=0
 case neg=>exact ifT (by simpa using c2) (ifT rfl ⟨17,rfl, .inr ⟨rfl,fun h=>c2 (h2.2 h.2.1)⟩⟩)
 refine ifF (by simp [c2]) ?_
 obtain ⟨y3,e3,h3⟩:=Bb8 (N:=N) (by omega) hl.1.2.1
 refine B7 e3 ?_
 by_cases c3:y3=0
 case neg=>exact ifT (by simpa using c3) ⟨17,rfl, .inr ⟨rfl,fun h=>c3 (h3.2 h.2.2.1)⟩⟩
 refine ifF (by simp [c3]) ?_
 rw [Am6 (by omega)]
 by_cases hall:l.If.n<=4/\l.Out.n<=6/\l.If.n+l.Out.n ≠ 0/\1<=l.Mode/\l.Mode<=3
 case neg=>
  refine ifT ?_ ⟨17,rfl, .inr ⟨rfl,fun h=>hall ⟨h.2.2.2.1,h.2.2.2.2.1,h.2.2.2.2.2.1,h.2.2.2.2.2.2.1,h.2.2.2.2.2.2.2.1⟩⟩⟩
  simp only [Bool.or_eq_true,decide_eq_true_eq,beq_iff_eq]
  omega
 refine ifF (by simp only [Bool.or_eq_true,decide_eq_true_eq,beq_iff_eq];omega) ?_
 obtain ⟨c4,c5,c6,c7,c8⟩:=hall
 refine Av7 (fun i x1=>x1=(i:Int)/\∀ j,j < i->vS (l.If.g j)) l.If.n _ (by omega) ⟨rfl,fun j hj=>absurd hj (by omega)⟩ ?_
 rintro self i x1 hi ⟨rfl,h⟩ hs
 by_cases hlt:i < l.If.n
 ·obtain ⟨b,eb,hb⟩:=Ce5 (N:=N) (by omega) (hl.1.2.2 i hlt)
  refine ifT (by simp;omega) (ifT (by omega) (B7 (by rw [Int.toNat_natCast];exact eb) ?_))
  cases b
  ·exact ifT rfl ⟨17,rfl, .inr ⟨rfl,fun h=>by have:=hb.2 (h.2.2.2.2.2.2.2.2.1 i hlt);cases this⟩⟩
  ·refine ifF (by simp) (hs hlt _ ⟨C7 (by omega),fun j hj=>?_⟩)
   by_cases e:j=i
   ·subst e;exact hb.1 rfl
   ·exact h j (by omega)
 refine ifF (by simp;omega) ?_
 have hV:∀ j,j < l.If.n->vS (l.If.g j):=fun j hj=>h j (by omega)
 refine Av7 (fun i x1=>x1=(i:Int)/\∀ j,j < i->S1 N (l.Out.g j) l.If.n=some true) l.Out.n _ (by omega) ⟨rfl,fun j hj=>absurd hj (by omega)⟩ ?_
 rintro self2 k x2 hk ⟨rfl,h'⟩ hs2
 by_cases hlk:k < l.Out.n
 ·obtain ⟨b,eb,eb'⟩:=BW7 (N:=N) (by omega) (hl.2.2.2.2 k hlk) (l.If.n:Int)
  refine ifT (by simp;omega) (ifT (by omega) (B7 (by rw [Int.toNat_natCast];exact eb') ?_))
  cases b
  ·exact ifT rfl ⟨17,rfl, .inr ⟨rfl,fun h=>by have:=h.2.2.2.2.2.2.2.2.2 k hlk;rw [eb] at this;cases this⟩⟩
  ·refine ifF (by simp) (hs2 hlk _ ⟨C7 (by omega),fun j hj=>?_⟩)
   by_cases e:j=k
   ·subst e;exact eb
   ·exact h' j (by omega)
 ·exact ifF (by simp;omega) ⟨0,rfl, .inl ⟨rfl,e0',h2.1 c2,h3.1 c3,c4,c5,c6,c7,c8,hV,fun j hj=>h' j (by omega)⟩⟩
theorem Cp7 {N:Nat} {l:Law} {e e' : Int} (h:CT5 N l e) (h' : CT5 N l e'):e=e':=by
 rcases h with ⟨rfl,h⟩ | ⟨rfl,h⟩ <;> rcases h' with ⟨rfl,h'⟩ | ⟨rfl,h'⟩
 ·rfl
 ·exact absurd h h'
 ·exact absurd h' h
 ·rfl
theorem Bc0 {N:Nat} (hN:3000000<=N) {l:Law} (hl:Bs8 l):∃ e,Ab5 N l=some e/\Ab4 N l=some e/\CT5 N l e:=by
 obtain ⟨e,h,c⟩:=Ce6 hN hl
 obtain ⟨e',h',c'⟩:=Ce7 hN hl
 obtain rfl:=Cp7 c c'
 exact ⟨_,h,h',c⟩
end Go.AM
set_option linter.unusedVariables false
namespace Go.AM
open Go.Proofs
theorem nf:(!false)=true:=rfl
theorem CA2 {α : Type} {s t:Sl α} (h:s.n=0):s.app t=t:=by
 cases t;simp [Sl.app,h]
def Cp8 {α : Type} [Inhabited α] (s:Sl (Sl α)):Nat->Sl α
 | 0=>Sl.nil
 | k+1=>(Cp8 s k).app (s.g k)
theorem Cp9 {α : Type} [Inhabited α] (s:Sl (Sl α)) {B:Nat}:∀ k,(∀ i,i < k->(s.g i).n<=B)->(Cp8 s k).n<=k * B
 | 0,_=>by simp [Cp8]
 | k+1,h=>by
  have:=Cp9 s k fun i hi=>h i (by omega)
  have:=h k (by omega)
  show (Cp8 s k).n+(s.g k).n<=_
  rw [Nat.succ_mul];omega
theorem BQ3 {N:Nat} {s:Sl (Sl Sound)} (hn:s.n < 1000) (hN:1000<=N) (hs:∀ i,i < s.n->(s.g i).n<=3000000) :
 B5 N s=some (Cp8 s s.n):=by
 suffices h:∃ r,B5 N s=some r/\r=Cp8 s s.n by obtain ⟨r,h,rfl⟩:=h;exact h
 unfold B5
 refine Aa2 (fun (i:Nat) (x1 x2:Int)=>x2=(i:Int)/\0<=x1/\x1<=(i:Int) * 3000000) s.n _ (by omega) ⟨rfl,Int.le_refl 0,by simp⟩ ?_
 rintro self i x1 x2 hi ⟨rfl,h0,h1⟩ hs2
 by_cases hl:i < s.n
 ·have:=hs i hl
  refine ifT (by simp;omega) (ifT (by omega) ?_)
  rw [Int.toNat_natCast,F2 (by omega) (by omega)]
  exact ifF (by simp;omega) (hs2 hl _ _ ⟨C7 (by omega),by omega,by omega⟩)
 refine ifF (by simp;omega) (B7 (x:=Sl.nil) ?_ ?_)
 ·unfold G5
  rw [if_pos (by omega)]
 refine Aa2 (fun i x1 x2=>x2=(i:Int)/\x1=Cp8 s i) s.n _ (by omega) ⟨rfl,rfl⟩ ?_
 rintro self i x1 x2 hi ⟨rfl,rfl⟩ hs2
 by_cases hl:i < s.n
 ·have g1:=hs i hl
  have g2:=Cp9 s i (B:=3000000) fun j hj=>hs j (by omega)
  refine ifT (by simp;omega) (ifT ⟨by omega, ?_⟩ (hs2 hl _ _ ⟨C7 (by omega), ?_⟩))
  ·rw [Int.toNat_natCast];omega
  ·rw [Int.toNat_natCast];rfl
 ·exact ifF (by simp;omega) ⟨_,rfl,by congr 1;omega⟩
def CN6 (w:Sl Sound) (i k:Nat) (y:Sl Sound):Sl Sound:=((w.take i).app y).app (w.drop (i+k))
theorem Cq0 {w y:Sl Sound} {i k:Nat} (hi:i+k<=w.n) (hw:∀ j,j < w.n->vS (w.g j)) (hy:∀ j,j < y.n->vS (y.g j)):(CN6 w i k y).n=w.n - k+y.n/\∀ j,j < (CN6 w i k y).n->vS ((CN6 w i k y).g j):=by
 have hn:(CN6 w i k y).n=w.n - k+y.n:=by show i+y.n+(w.n - (i+k))=_;omega
 refine ⟨hn,fun j hj=>?_⟩
 rw [hn] at hj
 show vS (if j < i+y.n then (if j < i then w.g j else y.g (j - i)) else w.g (i+k+(j - (i+y.n))))
 split
 ·split
  ·exact hw _ (by omega)
  ·exact hy _ (by omega)
 ·exact hw _ (by omega)
def AB2 (N:Nat) (l:Law) (w:Sl Sound) (i:Nat):Sl Sound:=(Q4 N l (w.sub i (i+l.If.n))).getD Sl.nil
def V8 (N:Nat) (l:Law) (w:Sl Sound) (i:Nat):Sl Sound:=CN6 w i l.If.n (AB2 N l w i)
theorem vOk {w:Sl Sound} (h:wOk w):okW w:=⟨by have:=h.1;omega,fun i hi=>(h.2 i hi).ok⟩
theorem Az5 {N:Nat} (hN:1000<=N) {l:Law} (ho:CU8 l) {w:Sl Sound} (hw:∀ j,j < w.n->vS (w.g j)) {i:Nat} (hi:i+l.If.n<=w.n) :
 Q4 N l (w.sub i (i+l.If.n))=some (AB2 N l w i)/\Ad5 N l (w.sub i (i+l.If.n))=some (AB2 N l w i)/\(AB2 N l w i).n=l.Out.n/\∀ j,j < (AB2 N l w i).n->vS ((AB2 N l w i).g j):=by
 obtain ⟨s,h1,h2,h3,h4⟩:=CL7 hN ho (cut:=w.sub i (i+l.If.n)) (by show i+l.If.n - i=_;omega) fun j hj=>(hw (i+j) (by have:j < i+l.If.n - i:=hj;omega)).ok
 have e:AB2 N l w i=s:=by unfold AB2;rw [h1];rfl
 rw [e];exact ⟨h1,h2,h3,h4⟩
theorem cat3 (a b c:Sl Sound):Cp8 (Sl.of [a,b,c]:Sl (Sl Sound)) 3=(a.app b).app c:=by
 show (((Sl.nil:Sl Sound).app a).app b).app c=_
 rw [CA2 (s:=(Sl.nil:Sl Sound)) rfl]
theorem Cq1 {N:Nat} (hN:1000<=N) {a b c:Sl Sound} (ha:a.n<=3000000) (hb:b.n<=3000000) (hc:c.n<=3000000):B5 N (Sl.of [a,b,c]:Sl (Sl Sound))=some ((a.app b).app c):=by
 have h:=BQ3 (N:=N) (s:=(Sl.of [a,b,c]:Sl (Sl Sound))) (by show 3 < 1000;omega) hN fun i hi=>by
  match i,hi with
  | 0,_=>exact ha
  | 1,_=>exact hb
  | 2,_=>exact hc
 rw [h]
 exact congrArg some (cat3 a b c)
theorem Au2 {N:Nat} (hN:1000<=N) {l:Law} (ho:CU8 l) {w:Sl Sound} (hwn:w.n < 1000) (hw:∀ j,j < w.n->vS (w.g j)) {i:Nat} (hi:i+l.If.n<=w.n) :
 P0 N l w i=some (V8 N l w i)/\O9 N l w i=some (V8 N l w i):=by
 obtain ⟨h1,h2,h3,h4⟩:=Az5 hN ho hw hi
 have h6:=ho.1
 constructor
 ·unfold P0
  rw [Am6 (by omega),if_pos (by omega),Int.toNat_natCast,Int.toNat_natCast,h1,Option.bind_some,if_pos (by omega),
   Cq1 hN (by show i<=_;omega) (by omega) (by show w.n - (i+l.If.n)<=_;omega)]
  rfl
 ·unfold O9
  rw [Am6 (by omega),Int.toNat_natCast,Int.toNat_natCast,CA2 (s:=(Sl.of []:Sl Sound)) rfl,if_pos ⟨by omega,by show (0+i) * 8<=_/\0+i<=_;omega⟩,if_pos (by omega),h2,Option.bind_some,
   if_pos (by show (i+(AB2 N l w i).n) * 8<=_/\i+(AB2 N l w i).n<=_;omega),if_pos ⟨by omega,by show (i+(AB2 N l w i).n+(w.n - (i+l.If.n))) * 8<=_/\i+(AB2 N l w i).n+(w.n - (i+l.If.n))<=_;omega⟩]
  rfl
def SE {α : Type} (s t:Sl α):Prop:=s.n=t.n/\∀ i,i < s.n->s.g i=t.g i
theorem SE.refl {α : Type} (s:Sl α):SE s s:=⟨rfl,fun _ _=>rfl⟩
theorem SE.symm {α : Type} {s t:Sl α} (h:SE s t):SE t s:=⟨h.1.symm,fun i hi=>(h.2 i (by rw [h.1];exact hi)).symm⟩
theorem SE.trans {α : Type} {s t u:Sl α} (h:SE s t) (h' : SE t u):SE s u:=⟨h.1.trans h'.1,fun i hi=>(h.2 i hi).trans (h'.2 i (by rw [<- h.1];exact hi))⟩
theorem SE.app {α : Type} {s t u v:Sl α} (h:SE s t) (h' : SE u v):SE (s.app u) (t.app v):=⟨by show s.n+u.n=t.n+v.n;rw [h.1,h'.1],fun i hi=>by
 show (if i < s.n then s.g i else u.g (i - s.n))=if i < t.n then t.g i else v.g (i - t.n)
 have hi:i < s.n+u.n:=hi
 rw [<- h.1]
 split
 ·exact h.2 i (by assumption)
 ·exact h'.2 _ (by omega)⟩
theorem SE.drop {α : Type} {s t:Sl α} (h:SE s t) (k:Nat):SE (s.drop k) (t.drop k):=⟨by show s.n - k=t.n - k;rw [h.1],fun i hi=>by
 have hi:i < s.n - k:=hi
 exact h.2 _ (by omega)⟩
theorem SE.take {α : Type} {s t:Sl α} (h:SE s t) {k:Nat} (hk:k<=s.n):SE (s.take k) (t.take k):=⟨rfl,fun i hi=>h.2 i (by have hi:i < k:=hi;omega)⟩
theorem SE.sub {α : Type} {s t:Sl α} (h:SE s t) {a b:Nat} (hk:b<=s.n):SE (s.sub a b) (t.sub a b):=⟨rfl,fun i hi=>h.2 _ (by have hi:i < b - a:=hi;omega)⟩
theorem SE.v {s t:Sl Sound} (h:SE s t) (hv:∀ j,j < s.n->vS (s.g j)):∀ j,j < t.n->vS (t.g j):=fun j hj=>by rw [<- h.2 j (by rw [h.1];exact hj)];exact hv j (by rw [h.1];exact hj)
theorem SE.wOk {s t:Sl Sound} (h:SE s t) (hv:wOk s):wOk t:=⟨by rw [<- h.1];exact hv.1,h.v hv.2⟩
theorem Bs9 {w w' : Sl Sound} (h:SE w w'):∀ p:Pat,PR w p=PR w' p
 | .nil=>rfl
 | .mk kind is no mn mx m g=>by
  have ih:(fun i=>PR w (g i))=fun i=>PR w' (g i):=funext fun i=>Bs9 h (g i)
  have ih1:∀ i,PR w (g i)=PR w' (g i):=fun i=>congrFun ih i
  have e1:∀ a,(a < w.n ↔ a < w'.n):=fun a=>by rw [h.1]
  funext a b
  unfold PR
  rw [ih]
  simp only [ih1, <- h.1]
  by_cases ha:a < w.n
  ·rw [h.2 a ha]
  ·simp [ha]
theorem AM9 {l:Law} {w w' : Sl Sound} (h:SE w w') {i:Nat}:BW5 l w i ↔ BW5 l w' i:=by
 suffices H:∀ {w w' : Sl Sound},SE w w' -> BW5 l w i->BW5 l w' i by exact ⟨H h,H h.symm⟩
 intro w w' h
 rintro ⟨h1,h2,h3,h4,h5,h6,⟨a,ha,ha2⟩,b,hb,hb2⟩
 have hn:=h.1
 refine ⟨by omega,fun j hj=>?_,h3,h4,h.wOk h5,by omega,⟨a,by omega, ?_⟩,b,by omega, ?_⟩
 ·rw [<- h.2 (i+j) (by omega)];exact h2 j hj
 ·rw [<- Bs9 h];exact ha2
 ·rw [<- Bs9 h];exact hb2
theorem Cq2 {N:Nat} {l:Law} {c c' : Sl Sound} (h:SE c c'):Q4 N l c=Q4 N l c':=by
 unfold Q4
 congr 1
 funext self x1 x2
 by_cases h1:(decide (x2 < (l.Out.n:Int)))=true
 case neg=>rw [if_neg h1,if_neg h1]
 rw [if_pos h1,if_pos h1, <- h.1]
 have e1:∀ y:Int,(0:Int)<=y->y < (c.n:Int)->c.g y.toNat=c'.g y.toNat:=fun y h0 h1=>h.2 _ (by omega)
 by_cases h2:(0:Int)<=x2/\x2 < (l.Out.n:Int)
 case neg=>rw [if_neg h2,if_neg h2]
 rw [if_pos h2,if_pos h2]
 split
 ·rename_i h3
  have e2:(⟨(if (decide (0<=(l.Out.g x2.toNat).From))=true then (c.g (l.Out.g x2.toNat).From.toNat).Plus else 0),(if (decide (0<=(l.Out.g x2.toNat).From))=true then (c.g (l.Out.g x2.toNat).From.toNat).Minus else 0)⟩:Sound) =
   ⟨(if (decide (0<=(l.Out.g x2.toNat).From))=true then (c'.g (l.Out.g x2.toNat).From.toNat).Plus else 0),(if (decide (0<=(l.Out.g x2.toNat).From))=true then (c'.g (l.Out.g x2.toNat).From.toNat).Minus else 0)⟩:=by
   by_cases h4:decide (0<=(l.Out.g x2.toNat).From)=true
   ·have:=h3 h4
    rw [if_pos h4,if_pos h4,if_pos h4,if_pos h4,e1 _ this.1 this.2]
   ·rw [if_neg h4,if_neg h4,if_neg h4,if_neg h4]
  rw [e2]
  congr 1
  funext y5
  split
  ·split
   ·rename_i h5
    rw [e1 _ h5.1 h5.2]
   ·rfl
  ·rfl
 ·rfl
theorem Bc1 {N:Nat} {l:Law} {w w' : Sl Sound} (h:SE w w') {i:Nat} (hi:i+l.If.n<=w.n):AB2 N l w i=AB2 N l w' i:=by
 unfold AB2
 rw [Cq2 (h.sub hi)]
theorem AR1 {N:Nat} {l:Law} {w w' : Sl Sound} (h:SE w w') {i:Nat} (hi:i+l.If.n<=w.n):SE (V8 N l w i) (V8 N l w' i):=by
 unfold V8 CN6
 rw [Bc1 h hi]
 exact ((h.take (by omega)).app (SE.refl _)).app (h.drop _)
def RL:List (Int × Sl Sound)->List (Int × Sl Sound)->Prop
 | [], []=>True
 | (p,v) :: L,(q,u) :: M=>p=q/\SE v u/\RL L M
 | _,_=>False
def AN0:Sl Int->Sl (Sl Sound)->List (Int × Sl Sound)->Sl Int × Sl (Sl Sound) × Int
 | x,y, []=>(x,y,0)
 | x,y,(p,v) :: L=>if 32 < v.n then (Sl.nil,Sl.nil,11) else AN0 (x.push p) (y.push v) L
abbrev BF2:=List (Int × Sl Sound)
def vL (L:BF2):Prop:=∀ x ∈ L,∀ j,j < x.2.n->vS (x.2.g j)
theorem BF3:vL []:=fun x hx=>absurd hx (by simp)
theorem BQ4 {x:Int × Sl Sound} {L:BF2} (h:∀ j,j < x.2.n->vS (x.2.g j)) (hL:vL L):vL (x :: L):=fun y hy=>by
 rcases List.mem_cons.1 hy with rfl | hy
 ·exact h
 ·exact hL y hy
def BF4 (N:Nat) (l:Law) (self2:Sl Sound->Int->Option BF2) (x5:Sl Sound) (x6:Int):Option BF2:=
 if (decide ((IntKind.wrap .i64 (x6+(l.If.n:Int)))<=(x5.n:Int)))=true then
  (Ah9 N l x5 x6).bind fun y12=>
  if (!y12)=true then
   self2 x5 (IntKind.wrap .i64 (x6+1))
  else
   (P0 N l x5 x6).bind fun y13=>
   Ad1 (x6,y13) (
    if ((l.If.n:Int) == 0)=true then
     self2 y13 (IntKind.wrap .i64 ((IntKind.wrap .i64 (x6+(l.Out.n:Int)))+1))
    else
     self2 y13 (IntKind.wrap .i64 (x6+(l.Out.n:Int)))
    )
 else
  some []
abbrev CA3:=(Sl Int) × (Sl (Sl Sound)) × Int
def BF5 (N:Nat) (l:Law) (self1:Sl Sound->Sl Int->Sl (Sl Sound)->Int->Option CA3) (x1:Sl Sound) (x2:Sl Int) (x3:Sl (Sl Sound)) (x4:Int):Option CA3:=
 if (decide ((IntKind.wrap .i64 (x4+(l.If.n:Int)))<=(x1.n:Int)))=true then
  (Z4 N l x1 x4).bind fun y5=>
  if (!y5)=true then
   self1 x1 x2 x3 (IntKind.wrap .i64 (x4+1))
  else
   (O9 N l x1 x4).bind fun y6=>
   if (decide (32 < (y6.n:Int)))=true then
    some ((Sl.nil:Sl Int),(Sl.nil:Sl (Sl Sound)),11)
   else
    if (((x2.n+(Sl.of [x4]:Sl Int).n) * 8<=140737488355328/\x2.n+(Sl.of [x4]:Sl Int).n<=140737488355328)/\((x3.n+(Sl.of [y6]:Sl (Sl Sound)).n) * 24<=140737488355328/\x3.n+(Sl.of [y6]:Sl (Sl Sound)).n<=140737488355328)) then
     if ((l.If.n:Int) == 0)=true then
      self1 y6 (x2.push x4) (x3.push y6) (IntKind.wrap .i64 ((IntKind.wrap .i64 (x4+(l.Out.n:Int)))+1))
     else
      self1 y6 (x2.push x4) (x3.push y6) (IntKind.wrap .i64 (x4+(l.Out.n:Int)))
    else none
 else
  some (x2,x3,0)
theorem Cq3 {N:Nat} (hN:3000<=N) {l:Law} (hf:CU9 l):∀ (m:Nat) (w w' : Sl Sound) (i:Nat),SE w w' -> w.n<=100->(∀ j,j < w.n->vS (w.g j))->i<=200->w.n+1<=i+m ->
 ∃ L L',(∀ M,m < M->V9 M (BF4 N l) w i=some L)/\vL L/\L.length<=m/\RL L L' /\ ∀ M x2 x3,m < M->x2.n+m<=1000->x3.n+m<=1000->Cs2 M (BF5 N l) w' x2 x3 i=some (AN0 x2 x3 L'):=by
 obtain ⟨hl,_,_,hk,ho,hko,_,_⟩:=hf
 have h6:=ho.1
 intro m
 induction m with
 | zero=>
  intro w w' i hse hn hv hi hm
  have hn':=hse.1
  refine ⟨[], [],fun M hM=>?_,BF3,Nat.le_refl _,trivial,fun M x2 x3 hM _ _=>?_⟩
  ·obtain ⟨M,rfl⟩:∃ K,M=K+1:=⟨M - 1,by omega⟩
   rw [E8,BF4,Am6 (by omega),if_neg (by simp;omega)]
  ·obtain ⟨M,rfl⟩:∃ K,M=K+1:=⟨M - 1,by omega⟩
   rw [R6,BF5,Am6 (by omega),if_neg (by simp;omega),AN0]
 | succ m ih=>
  intro w w' i hse hn hv hi hm
  have hn':=hse.1
  by_cases hle:i+l.If.n<=w.n
  case neg=>
   refine ⟨[], [],fun M hM=>?_,BF3,by simp,trivial,fun M x2 x3 hM _ _=>?_⟩
   ·obtain ⟨M,rfl⟩:∃ K,M=K+1:=⟨M - 1,by omega⟩
    rw [E8,BF4,Am6 (by omega),if_neg (by simp;omega)]
   ·obtain ⟨M,rfl⟩:∃ K,M=K+1:=⟨M - 1,by omega⟩
    rw [R6,BF5,Am6 (by omega),if_neg (by simp;omega),AN0]
  have hw:okW w:=⟨by omega,fun j hj=>(hv j hj).ok⟩
  have hv':=hse.v hv
  have hw' : okW w':=⟨by omega,fun j hj=>(hv' j hj).ok⟩
  obtain ⟨b,e1,h1⟩:=Cp2 hN hl hk hw i (by omega)
  obtain ⟨b',e2,h2⟩:=Bs7 hN hl hk hw' i (by omega)
  obtain rfl:b' = b:=by rw [Bool.eq_iff_iff,h1,h2,AM9 hse]
  cases b'
  ·obtain ⟨L,L',g1,g2,g3,g5,g4⟩:=ih w w' (i+1) hse hn hv (by omega) (by omega)
   refine ⟨L,L',fun M hM=>?_,g2,by omega,g5,fun M x2 x3 hM hx hy=>?_⟩
   ·obtain ⟨M,rfl⟩:∃ K,M=K+1:=⟨M - 1,by omega⟩
    rw [E8,BF4,Am6 (by omega),if_pos (by simp;omega),e1,Option.bind_some,if_pos nf,C7 (by omega)]
    exact g1 M (by omega)
   ·obtain ⟨M,rfl⟩:∃ K,M=K+1:=⟨M - 1,by omega⟩
    rw [R6,BF5,Am6 (by omega),if_pos (by simp;omega),e2,Option.bind_some,if_pos nf,C7 (by omega)]
    exact g4 M x2 x3 (by omega) (by omega) (by omega)
  ·have hit:=h1.1 rfl
   have hw32:=hit.2.2.2.2.1.1
   have r1:=(Au2 (N:=N) (by omega) ho (by omega) hv hle).1
   have r2:=(Au2 (N:=N) (w:=w') (i:=i) (by omega) ho (by omega) hv' (by omega)).2
   have hrc:=AR1 (N:=N) hse hle
   have hrn:=hrc.1
   obtain ⟨_,_,p3,p4⟩:=Az5 (N:=N) (by omega) ho hv hle
   obtain ⟨q1,q2⟩:=Cq0 hle hv p4
   have q1:(V8 N l w i).n=w.n - l.If.n+l.Out.n:=by rw [<- p3];exact q1
   have q2:∀ j,j < (V8 N l w i).n->vS ((V8 N l w i).g j):=q2
   obtain ⟨L,L',g1,g2,g3,g5,g4⟩:=ih (V8 N l w i) (V8 N l w' i) (if l.If.n=0 then i+l.Out.n+1 else i+l.Out.n) hrc (by omega) q2 (by split <;> omega) (by split <;> omega)
   refine ⟨((i:Int),V8 N l w i) :: L,((i:Int),V8 N l w' i) :: L',fun M hM=>?_,BQ4 q2 g2,by simp;omega,⟨rfl,hrc,g5⟩,fun M x2 x3 hM hx hy=>?_⟩
   ·obtain ⟨M,rfl⟩:∃ K,M=K+1:=⟨M - 1,by omega⟩
    rw [E8,BF4,Am6 (by omega),if_pos (by simp;omega),e1,Option.bind_some,if_neg (by simp),r1,Option.bind_some,Am6 (by omega),C7 (by omega)]
    have g1:=g1 M (by omega)
    by_cases h0:l.If.n=0
    ·rw [if_pos h0] at g1
     rw [if_pos (by simp [h0]),g1];rfl
    ·rw [if_neg h0] at g1
     rw [if_neg (by simp [h0]),g1];rfl
   ·obtain ⟨M,rfl⟩:∃ K,M=K+1:=⟨M - 1,by omega⟩
    rw [R6,BF5,Am6 (by omega),if_pos (by simp;omega),e2,Option.bind_some,if_neg (by simp),r2,Option.bind_some,Am6 (by omega),C7 (by omega),AN0]
    by_cases h32:32 < (V8 N l w' i).n
    ·rw [if_pos (by simp;omega),if_pos h32]
    rw [if_neg (by simp;omega),if_neg h32,if_pos (by show ((x2.n+1) * 8<=_/\x2.n+1<=_)/\(x3.n+1) * 24<=_/\x3.n+1<=_;omega)]
    have g4:=g4 M (x2.push (i:Int)) (x3.push (V8 N l w' i)) (by omega) (by show x2.n+1+m<=_;omega) (by show x3.n+1+m<=_;omega)
    by_cases h0:l.If.n=0
    ·rw [if_pos h0] at g4
     rw [if_pos (by simp [h0]),g4]
    ·rw [if_neg h0] at g4
     rw [if_neg (by simp [h0]),g4]
def Cq4 (N:Nat) (l:Law) (self3:Sl Sound->Int->Option BF2) (x7:Sl Sound) (x8:Int):Option BF2:=
 if (decide (0<=x8))=true then
  (Ah9 N l x7 x8).bind fun y18=>
  if (!y18)=true then
   self3 x7 (IntKind.wrap .i64 (x8 - 1))
  else
   (P0 N l x7 x8).bind fun y19=>
   Ad1 (x8,y19) (
    self3 y19 (IntKind.wrap .i64 (x8 - (if (l.If.n:Int) < 1 then 1 else (l.If.n:Int))))
    )
 else
  some []
def Cq5 (N:Nat) (l:Law) (self1:Sl Sound->Sl Int->Sl (Sl Sound)->Int->Option CA3) (x1:Sl Sound) (x2:Sl Int) (x3:Sl (Sl Sound)) (x4:Int):Option CA3:=
 if (decide (0<=x4))=true then
  (Z4 N l x1 x4).bind fun y5=>
  if (!y5)=true then
   self1 x1 x2 x3 (IntKind.wrap .i64 (x4 - 1))
  else
   (O9 N l x1 x4).bind fun y6=>
   if (decide (32 < (y6.n:Int)))=true then
    some ((Sl.nil:Sl Int),(Sl.nil:Sl (Sl Sound)),11)
   else
    if (((x2.n+(Sl.of [x4]:Sl Int).n) * 8<=140737488355328/\x2.n+(Sl.of [x4]:Sl Int).n<=140737488355328)/\((x3.n+(Sl.of [y6]:Sl (Sl Sound)).n) * 24<=140737488355328/\x3.n+(Sl.of [y6]:Sl (Sl Sound)).n<=140737488355328)) then
     if ((l.If.n:Int) == 0)=true then
      self1 y6 (x2.push x4) (x3.push y6) (IntKind.wrap .i64 ((IntKind.wrap .i64 (x4 - (l.If.n:Int))) - 1))
     else
      self1 y6 (x2.push x4) (x3.push y6) (IntKind.wrap .i64 (x4 - (l.If.n:Int)))
    else none
 else
  some (x2,x3,0)
theorem CA4 {N:Nat} (hN:3000<=N) {l:Law} (hf:CU9 l):∀ (m:Nat) (w w' : Sl Sound) (i:Int),SE w w' -> w.n<=100->(∀ j,j < w.n->vS (w.g j)) -> -100<=i->i+1<=m->m<=200 ->
 ∃ L L',(∀ M,m < M->V9 M (Cq4 N l) w i=some L)/\vL L/\L.length<=m/\RL L L' /\ ∀ M x2 x3,m < M->x2.n+m<=1000->x3.n+m<=1000->Cs2 M (Cq5 N l) w' x2 x3 i=some (AN0 x2 x3 L'):=by
 obtain ⟨hl,_,_,hk,ho,hko,_,_⟩:=hf
 have h6:=ho.1
 intro m
 induction m with
 | zero=>
  intro w w' i hse hn hv hi hm hm2
  have hn':=hse.1
  refine ⟨[], [],fun M hM=>?_,BF3,Nat.le_refl _,trivial,fun M x2 x3 hM _ _=>?_⟩
  ·obtain ⟨M,rfl⟩:∃ K,M=K+1:=⟨M - 1,by omega⟩
   rw [E8,Cq4,if_neg (by simp;omega)]
  ·obtain ⟨M,rfl⟩:∃ K,M=K+1:=⟨M - 1,by omega⟩
   rw [R6,Cq5,if_neg (by simp;omega),AN0]
 | succ m ih=>
  intro w w' i hse hn hv hi hm hm2
  have hn':=hse.1
  by_cases hle:0<=i
  case neg=>
   refine ⟨[], [],fun M hM=>?_,BF3,by simp,trivial,fun M x2 x3 hM _ _=>?_⟩
   ·obtain ⟨M,rfl⟩:∃ K,M=K+1:=⟨M - 1,by omega⟩
    rw [E8,Cq4,if_neg (by simp;omega)]
   ·obtain ⟨M,rfl⟩:∃ K,M=K+1:=⟨M - 1,by omega⟩
    rw [R6,Cq5,if_neg (by simp;omega),AN0]
  obtain ⟨k,rfl⟩:∃ k:Nat,i=(k:Int):=⟨i.toNat,by omega⟩
  have hw:okW w:=⟨by omega,fun j hj=>(hv j hj).ok⟩
  have hv':=hse.v hv
  have hw' : okW w':=⟨by omega,fun j hj=>(hv' j hj).ok⟩
  obtain ⟨b,e1,h1⟩:=Cp2 hN hl hk hw k (by omega)
  obtain ⟨b',e2,h2⟩:=Bs7 hN hl hk hw' k (by omega)
  obtain rfl:b' = b:=by rw [Bool.eq_iff_iff,h1,h2,AM9 hse]
  cases b'
  ·obtain ⟨L,L',g1,g2,g3,g5,g4⟩:=ih w w' ((k:Int) - 1) hse hn hv (by omega) (by omega) (by omega)
   refine ⟨L,L',fun M hM=>?_,g2,by omega,g5,fun M x2 x3 hM hx hy=>?_⟩
   ·obtain ⟨M,rfl⟩:∃ K,M=K+1:=⟨M - 1,by omega⟩
    rw [E8,Cq4,if_pos (by simp),e1,Option.bind_some,if_pos nf,F2 (by omega) (by omega)]
    exact g1 M (by omega)
   ·obtain ⟨M,rfl⟩:∃ K,M=K+1:=⟨M - 1,by omega⟩
    rw [R6,Cq5,if_pos (by simp),e2,Option.bind_some,if_pos nf,F2 (by omega) (by omega)]
    exact g4 M x2 x3 (by omega) (by omega) (by omega)
  ·have hit:=h1.1 rfl
   have hle:=hit.1
   have hw32:=hit.2.2.2.2.1.1
   have r1:=(Au2 (N:=N) (by omega) ho (by omega) hv hle).1
   have r2:=(Au2 (N:=N) (w:=w') (i:=k) (by omega) ho (by omega) hv' (by omega)).2
   have hrc:=AR1 (N:=N) hse hle
   have hrn:=hrc.1
   obtain ⟨_,_,p3,p4⟩:=Az5 (N:=N) (by omega) ho hv hle
   obtain ⟨q1,q2⟩:=Cq0 hle hv p4
   have q1:(V8 N l w k).n=w.n - l.If.n+l.Out.n:=by rw [<- p3];exact q1
   have q2:∀ j,j < (V8 N l w k).n->vS ((V8 N l w k).g j):=q2
   obtain ⟨L,L',g1,g2,g3,g5,g4⟩:=ih (V8 N l w k) (V8 N l w' k) (if l.If.n=0 then (k:Int) - 1 else (k:Int) - l.If.n) hrc (by omega) q2 (by split <;> omega) (by split <;> omega) (by omega)
   refine ⟨((k:Int),V8 N l w k) :: L,((k:Int),V8 N l w' k) :: L',fun M hM=>?_,BQ4 q2 g2,by simp;omega,⟨rfl,hrc,g5⟩,fun M x2 x3 hM hx hy=>?_⟩
   ·obtain ⟨M,rfl⟩:∃ K,M=K+1:=⟨M - 1,by omega⟩
    rw [E8,Cq4,if_pos (by simp),e1,Option.bind_some,if_neg (by simp),r1,Option.bind_some]
    have g1:=g1 M (by omega)
    by_cases h0:l.If.n=0
    ·rw [if_pos h0] at g1
     rw [if_pos (by omega),F2 (by omega) (by omega),g1];rfl
    ·rw [if_neg h0] at g1
     rw [if_neg (by omega),F2 (by omega) (by omega),g1];rfl
   ·obtain ⟨M,rfl⟩:∃ K,M=K+1:=⟨M - 1,by omega⟩
    rw [R6,Cq5,if_pos (by simp),e2,Option.bind_some,if_neg (by simp),r2,Option.bind_some,AN0]
    by_cases h32:32 < (V8 N l w' k).n
    ·rw [if_pos (by simp;omega),if_pos h32]
    rw [if_neg (by simp;omega),if_neg h32,if_pos (by show ((x2.n+1) * 8<=_/\x2.n+1<=_)/\(x3.n+1) * 24<=_/\x3.n+1<=_;omega)]
    have g4:=g4 M (x2.push (k:Int)) (x3.push (V8 N l w' k)) (by omega) (by show x2.n+1+m<=_;omega) (by show x3.n+1+m<=_;omega)
    rw [F2 (n:=(k:Int) - (l.If.n:Int)) (by omega) (by omega)]
    by_cases h0:l.If.n=0
    ·rw [if_pos h0] at g4
     rw [if_pos (by simp [h0]),F2 (by omega) (by omega),show (k:Int) - (l.If.n:Int) - 1=(k:Int) - 1 by omega,g4]
    ·rw [if_neg h0] at g4
     rw [if_neg (by simp [h0]),g4]
end Go.AM
set_option linter.unusedVariables false
namespace Go.AM
open Go.Proofs
abbrev AllS:=Sl Sound × Int × Int
def AS4 (N:Nat) (l:Law) (q0:Sl Sound) (self1:AllS->Option BF2) (x1:Int) (z1:AllS):Option BF2:=
 if (decide (x1 < z1.2.1))=true then
  self1 (z1.1,z1.2.1,z1.2.2)
 else
  if (((0:Int)<=(IntKind.wrap .i64 (x1+z1.2.2))/\(IntKind.wrap .i64 (x1+z1.2.2))<=(z1.1.n:Int))/\((0:Int)<=x1/\x1<=(IntKind.wrap .i64 (x1+(l.If.n:Int)))/\(IntKind.wrap .i64 (x1+(l.If.n:Int)))<=(q0.n:Int))) then
   (Q4 N l (q0.sub x1.toNat (IntKind.wrap .i64 (x1+(l.If.n:Int))).toNat)).bind fun y6=>
   if ((0:Int)<=(IntKind.wrap .i64 (x1+(l.If.n:Int)))/\(IntKind.wrap .i64 (x1+(l.If.n:Int)))<=(q0.n:Int)) then
    (B5 N (Sl.of [(z1.1.take (IntKind.wrap .i64 (x1+z1.2.2)).toNat),y6,(q0.drop (IntKind.wrap .i64 (x1+(l.If.n:Int))).toNat)]:Sl (Sl Sound))).bind fun y7=>
    Ad1 (x1,y7) (
     self1 (y7,IntKind.wrap .i64 (x1+(if (l.If.n:Int) < 1 then 1 else (l.If.n:Int))),IntKind.wrap .i64 ((IntKind.wrap .i64 (z1.2.2+(l.Out.n:Int))) - (l.If.n:Int)))
     )
   else none
  else none
def CN7 (N:Nat) (p_l:Law) (p_w:Sl Sound) (self1:Sl Int->Sl (Sl Sound)->Sl Sound->Int->Option CA3) (x2:Sl Int) (x3:Sl (Sl Sound)) (x4:Sl Sound) (x5:Int):Option CA3:=
 if (decide (x5<=(p_w.n:Int)))=true then
  (Z4 N p_l p_w x5).bind fun y5=>
  if (!y5)=true then
   lt (fun (z3:Sl Sound)=>
    self1 x2 x3 z3 (IntKind.wrap .i64 (x5+1))
    ) fun k3=>
    if (decide (x5 < (p_w.n:Int)))=true then
     if (((0:Int)<=x5/\x5 < (p_w.n:Int))/\((x4.n+(Sl.of [(p_w.g x5.toNat)]:Sl Sound).n) * 8<=140737488355328/\x4.n+(Sl.of [(p_w.g x5.toNat)]:Sl Sound).n<=140737488355328)) then
      k3 (x4.push (p_w.g x5.toNat))
     else none
    else
     k3 x4
  else
   if ((0:Int)<=x5/\x5<=(IntKind.wrap .i64 (x5+(p_l.If.n:Int)))/\(IntKind.wrap .i64 (x5+(p_l.If.n:Int)))<=(p_w.n:Int)) then
    (Ad5 N p_l (p_w.sub x5.toNat (IntKind.wrap .i64 (x5+(p_l.If.n:Int))).toNat)).bind fun y6=>
    if ((x4.n+y6.n) * 8<=140737488355328/\x4.n+y6.n<=140737488355328) then
     if ((x2.n+(Sl.of [x5]:Sl Int).n) * 8<=140737488355328/\x2.n+(Sl.of [x5]:Sl Int).n<=140737488355328) then
      if (((((Sl.of []:Sl Sound).n+(x4.app y6).n) * 8<=140737488355328/\(Sl.of []:Sl Sound).n+(x4.app y6).n<=140737488355328)/\((0:Int)<=(IntKind.wrap .i64 (x5+(p_l.If.n:Int)))/\(IntKind.wrap .i64 (x5+(p_l.If.n:Int)))<=(p_w.n:Int)))/\((((Sl.of []:Sl Sound).app (x4.app y6)).n+(p_w.drop (IntKind.wrap .i64 (x5+(p_l.If.n:Int))).toNat).n) * 8<=140737488355328/\((Sl.of []:Sl Sound).app (x4.app y6)).n+(p_w.drop (IntKind.wrap .i64 (x5+(p_l.If.n:Int))).toNat).n<=140737488355328)) then
       if (decide (32 < ((((Sl.of []:Sl Sound).app (x4.app y6)).app (p_w.drop (IntKind.wrap .i64 (x5+(p_l.If.n:Int))).toNat)).n:Int)))=true then
        some ((Sl.nil:Sl Int),(Sl.nil:Sl (Sl Sound)),11)
       else
        if ((x3.n+(Sl.of [(((Sl.of []:Sl Sound).app (x4.app y6)).app (p_w.drop (IntKind.wrap .i64 (x5+(p_l.If.n:Int))).toNat))]:Sl (Sl Sound)).n) * 24<=140737488355328/\x3.n+(Sl.of [(((Sl.of []:Sl Sound).app (x4.app y6)).app (p_w.drop (IntKind.wrap .i64 (x5+(p_l.If.n:Int))).toNat))]:Sl (Sl Sound)).n<=140737488355328) then
         if ((p_l.If.n:Int) == 0)=true then
          if (decide ((IntKind.wrap .i64 (x5+(p_l.If.n:Int))) < (p_w.n:Int)))=true then
           if (((0:Int)<=(IntKind.wrap .i64 (x5+(p_l.If.n:Int)))/\(IntKind.wrap .i64 (x5+(p_l.If.n:Int))) < (p_w.n:Int))/\(((x4.app y6).n+(Sl.of [(p_w.g (IntKind.wrap .i64 (x5+(p_l.If.n:Int))).toNat)]:Sl Sound).n) * 8<=140737488355328/\(x4.app y6).n+(Sl.of [(p_w.g (IntKind.wrap .i64 (x5+(p_l.If.n:Int))).toNat)]:Sl Sound).n<=140737488355328)) then
            self1 (x2.push x5) (x3.push (((Sl.of []:Sl Sound).app (x4.app y6)).app (p_w.drop (IntKind.wrap .i64 (x5+(p_l.If.n:Int))).toNat))) ((x4.app y6).push (p_w.g (IntKind.wrap .i64 (x5+(p_l.If.n:Int))).toNat)) (IntKind.wrap .i64 ((IntKind.wrap .i64 (x5+(p_l.If.n:Int)))+1))
           else none
          else
           self1 (x2.push x5) (x3.push (((Sl.of []:Sl Sound).app (x4.app y6)).app (p_w.drop (IntKind.wrap .i64 (x5+(p_l.If.n:Int))).toNat))) (x4.app y6) (IntKind.wrap .i64 ((IntKind.wrap .i64 (x5+(p_l.If.n:Int)))+1))
         else
          self1 (x2.push x5) (x3.push (((Sl.of []:Sl Sound).app (x4.app y6)).app (p_w.drop (IntKind.wrap .i64 (x5+(p_l.If.n:Int))).toNat))) (x4.app y6) (IntKind.wrap .i64 (x5+(p_l.If.n:Int)))
        else none
      else none
     else none
    else none
   else none
 else
  some (x2,x3,0)
abbrev vW (s:Sl Sound):Prop:=∀ j,j < s.n->vS (s.g j)
theorem CD8 {s t:Sl Sound} (h:vW s) (h' : vW t):vW (s.app t):=fun j hj=>by
 have hj:j < s.n+t.n:=hj
 show vS (if j < s.n then s.g j else t.g (j - s.n))
 split
 ·exact h j (by assumption)
 ·exact h' _ (by omega)
theorem CL8 {s:Sl Sound} (h:vW s) (k:Nat):vW (s.drop k):=fun j hj=>h _ (by have hj:j < s.n - k:=hj;omega)
theorem CL9 {s:Sl Sound} (h:vW s) {k:Nat} (hk:k<=s.n):vW (s.take k):=fun j hj=>h _ (by have hj:j < k:=hj;omega)
theorem BF6 {x s:Sl Sound} {i:Nat} (hi:i < s.n):SE (x.app (s.drop i)) ((x.push (s.g i)).app (s.drop (i+1))):=⟨by show x.n+(s.n - i)=x.n+1+(s.n - (i+1));omega,fun j _=>by
 show (if j < x.n then x.g j else s.g (i+(j - x.n)))=if j < x.n+1 then (if j < x.n then x.g j else s.g i) else s.g (i+1+(j - (x.n+1)))
 by_cases h1:j < x.n
 ·rw [if_pos h1,if_pos (by omega),if_pos h1]
 ·rw [if_neg h1]
  by_cases h2:j=x.n
  ·rw [if_pos (by omega),if_neg h1,h2];simp
  ·rw [if_neg (by omega)];congr 1;omega⟩
theorem CA5 {a x t:Sl Sound} (h:SE a (x.app t)):SE (a.take x.n) x:=⟨rfl,fun j hj=>by
 have hj:j < x.n:=hj
 have hn:a.n=x.n+t.n:=h.1
 have e:a.g j=if j < x.n then x.g j else t.g (j - x.n):=h.2 j (by omega)
 rw [if_pos hj] at e;exact e⟩
theorem BW8 {N:Nat} {l:Law} {w:Sl Sound} {K:AllS->Option BF2} {acc:Sl Sound} {next sh:Int}:∀ (d i:Nat),((i+d:Nat):Int)<=next->K4 (Ao9 l w i) (AS4 N l w) K (acc,next,sh)=K4 (Ao9 l w (i+d)) (AS4 N l w) K (acc,next,sh)
 | 0,i,_=>rfl
 | d+1,i,h=>by
  have ih:=BW8 (N:=N) (l:=l) (w:=w) (K:=K) (acc:=acc) (next:=next) (sh:=sh) d (i+1) (by omega)
  rw [show i+(d+1)=i+1+d by omega, <- ih]
  by_cases hh:BW5 l w i
  ·rw [AJ8 (by have:=hh.1;omega) hh]
   show AS4 N l w (K4 (Ao9 l w (i+1)) (AS4 N l w) K) (i:Int) (acc,next,sh)=_
   unfold AS4
   rw [if_pos (by simp;omega)]
  ·rw [AJ9 hh]
theorem CM0 {N:Nat} (hN:3000<=N) {l:Law} (hf:CU9 l) {w w' : Sl Sound} (hse:SE w w') (hn:w.n<=32) (hv:vW w):∀ (m i:Nat) (x4 acc:Sl Sound) (sh next:Int),i<=w.n+1->w.n+1<=i+m ->
 (i<=w.n->SE acc (x4.app (w'.drop i))/\(x4.n:Int)=i+sh)->next<=i->x4.n<=7 * i->vW acc -> -1000<=sh->sh<=1000 ->
 ∃ L L',K4 (Ao9 l w i) (AS4 N l w) (fun _=>some []) (acc,next,sh)=some L/\vL L/\L.length<=m/\RL L L' /\ ∀ M x2 x3,m < M->x2.n+m<=1000->x3.n+m<=1000->Cs2 M (CN7 N l w') x2 x3 x4 i=some (AN0 x2 x3 L'):=by
 obtain ⟨hl,_,_,hk,ho,hko,_,_⟩:=hf
 have h6:=ho.1
 have hn':=hse.1
 have hw:okW w:=⟨by omega,fun j hj=>(hv j hj).ok⟩
 have hv' : vW w':=hse.v hv
 have hw' : okW w':=⟨by omega,fun j hj=>(hv' j hj).ok⟩
 have fin:∀ (m i:Nat) (x4 acc:Sl Sound) (sh next:Int),w.n < i->∃ L L',K4 (Ao9 l w i) (AS4 N l w) (fun _=>some []) (acc,next,sh)=some L/\vL L/\L.length<=m/\RL L L' /\ ∀ M x2 x3,m < M->x2.n+m<=1000->x3.n+m<=1000->Cs2 M (CN7 N l w') x2 x3 x4 i=some (AN0 x2 x3 L'):=by
  intro m i x4 acc sh next hi
  refine ⟨[], [],by rw [AM8 (by omega)];rfl,BF3,by simp,trivial,fun M x2 x3 hM _ _=>?_⟩
  obtain ⟨M,rfl⟩:∃ K,M=K+1:=⟨M - 1,by omega⟩
  rw [R6,CN7,if_neg (by simp;omega),AN0]
 intro m
 induction m with
 | zero=>exact fun i x4 acc sh next h1 h2 _ _ _ _ _ _=>fin 0 i x4 acc sh next (by omega)
 | succ m ih=>
  intro i x4 acc sh next hi hm hx hnx h7 hva hs1 hs2
  by_cases hle:i<=w.n
  case neg=>exact fin _ i x4 acc sh next (by omega)
  obtain ⟨hsx,hnn⟩:=hx hle
  have han:acc.n=x4.n+(w.n - i):=by rw [hsx.1];show x4.n+(w'.n - i)=_;omega
  obtain ⟨b',e2,h2⟩:=Bs7 hN hl hk hw' i (by omega)
  have h2:=h2.trans (AM9 hse).symm
  cases b'
  ·have hno:¬ BW5 l w i:=fun h=>by have:=h2.2 h;cases this
   rw [AJ9 hno]
   by_cases hlt:i < w.n
   ·obtain ⟨L,L',g1,g2,g3,g5,g4⟩:=ih (i+1) (x4.push (w'.g i)) acc sh next (by omega) (by omega) (fun _=>⟨hsx.trans (BF6 (by omega)),by show ((x4.n+1:Nat):Int)=_;omega⟩) (by omega) (by show x4.n+1<=_;omega) hva hs1 hs2
    refine ⟨L,L',g1,g2,by omega,g5,fun M x2 x3 hM hx hy=>?_⟩
    obtain ⟨M,rfl⟩:∃ K,M=K+1:=⟨M - 1,by omega⟩
    rw [R6,CN7,if_pos (by simp;omega),e2,Option.bind_some,if_pos nf,lt,if_pos (by simp;omega),if_pos ⟨by omega,by show (x4.n+1) * 8<=_/\x4.n+1<=_;omega⟩,C7 (by omega),Int.toNat_natCast]
    exact g4 M x2 x3 (by omega) (by omega) (by omega)
   ·obtain ⟨L,L',g1,g2,g3,g5,g4⟩:=ih (i+1) x4 acc sh next (by omega) (by omega) (fun h=>by omega) (by omega) (by omega) hva hs1 hs2
    refine ⟨L,L',g1,g2,by omega,g5,fun M x2 x3 hM hx hy=>?_⟩
    obtain ⟨M,rfl⟩:∃ K,M=K+1:=⟨M - 1,by omega⟩
    rw [R6,CN7,if_pos (by simp;omega),e2,Option.bind_some,if_pos nf,lt,if_neg (by simp;omega),C7 (by omega)]
    exact g4 M x2 x3 (by omega) (by omega) (by omega)
  ·have hit:=h2.1 rfl
   have hik:=hit.1
   rw [AJ8 hle hit]
   obtain ⟨p1,_,p3,p4⟩:=Az5 (N:=N) (by omega) ho hv hik
   obtain ⟨_,p2,_,_⟩:=Az5 (N:=N) (i:=i) (by omega) ho hv' (by omega)
   rw [<- Bc1 hse hik] at p2
   generalize hY:AB2 N l w i=Y at p1 p2 p3 p4
   have hYw:SE (((acc.take x4.n).app Y).app (w.drop (i+l.If.n))) ((x4.app Y).app (w'.drop (i+l.If.n))):=((CA5 hsx).app (SE.refl _)).app (hse.drop _)
   have hvY:vW (((acc.take x4.n).app Y).app (w.drop (i+l.If.n))):=CD8 (CD8 (CL9 hva (by omega)) p4) (CL8 hv _)
   generalize hZ:(((acc.take x4.n).app Y).app (w.drop (i+l.If.n)))=Z at hYw hvY
   have hZn:Z.n=x4.n+Y.n+(w.n - (i+l.If.n)):=by rw [<- hZ]
   obtain ⟨L,L',g1,g2,g3,g5,g4⟩:=ih (if l.If.n=0 then i+1 else i+l.If.n) (if l.If.n=0/\i < w.n then (x4.app Y).push (w'.g i) else x4.app Y) Z (sh+l.Out.n - l.If.n) (if l.If.n=0 then i+1 else i+l.If.n:Nat)
    (by split <;> omega) (by split <;> omega)
    (fun h=>by
     by_cases h0:l.If.n=0
     ·rw [if_pos h0] at h
      rw [if_pos h0,if_pos ⟨h0,by omega⟩]
      rw [h0] at hYw
      exact ⟨hYw.trans (BF6 (by omega)),by show ((x4.n+Y.n+1:Nat):Int)=_;omega⟩
     ·rw [if_neg h0,if_neg (by omega)]
      exact ⟨hYw,by show ((x4.n+Y.n:Nat):Int)=_;omega⟩)
    (by omega)
    (by
     by_cases h0:l.If.n=0
     ·rw [if_pos h0]
      split
      ·show x4.n+Y.n+1<=_;omega
      ·show x4.n+Y.n<=_;omega
     ·rw [if_neg h0,if_neg (by omega)];show x4.n+Y.n<=_;omega)
    hvY (by omega) (by omega)
   refine ⟨((i:Int),Z) :: L,((i:Int),(x4.app Y).app (w'.drop (i+l.If.n))) :: L', ?_,BQ4 hvY g2,by simp;omega,⟨rfl,hYw,g5⟩,fun M x2 x3 hM hx hy=>?_⟩
   ·show AS4 N l w (K4 (Ao9 l w (i+1)) (AS4 N l w) fun _=>some []) (i:Int) (acc,next,sh)=_
    unfold AS4
    have es:IntKind.wrap .i64 ((i:Int)+sh)=((x4.n:Nat):Int):=by rw [F2 (by omega) (by omega),hnn]
    simp only [es]
    rw [Am6 (by omega),if_neg (by simp;omega),if_pos (by omega)]
    simp only [Int.toNat_natCast]
    rw [p1,Option.bind_some,if_pos (by omega),Cq1 (by omega) (by show x4.n<=_;omega) (by omega) (by show w.n - (i+l.If.n)<=_;omega),Option.bind_some,hZ]
    have en:IntKind.wrap .i64 ((i:Int)+(if (l.If.n:Int) < 1 then 1 else (l.If.n:Int)))=((if l.If.n=0 then i+1 else i+l.If.n:Nat):Int):=by
     by_cases h0:l.If.n=0
     ·rw [if_pos (by omega),if_pos h0,F2 (by omega) (by omega)];omega
     ·rw [if_neg (by omega),if_neg h0,F2 (by omega) (by omega)];omega
    have eh:IntKind.wrap .i64 ((IntKind.wrap .i64 (sh+(l.Out.n:Int))) - (l.If.n:Int))=sh+l.Out.n - l.If.n:=by
     rw [F2 (n:=sh+(l.Out.n:Int)) (by omega) (by omega),F2 (by omega) (by omega)]
    rw [en,eh]
    have sk:=BW8 (N:=N) (l:=l) (w:=w) (K:=fun _=>some []) (acc:=Z) (next:=((if l.If.n=0 then i+1 else i+l.If.n:Nat):Int)) (sh:=sh+l.Out.n - l.If.n) (if l.If.n=0 then 0 else l.If.n - 1) (i+1) (by split <;> omega)
    rw [show i+1+(if l.If.n=0 then 0 else l.If.n - 1)=(if l.If.n=0 then i+1 else i+l.If.n) by split <;> omega] at sk
    show Ad1 _ (K4 (Ao9 l w (i+1)) (AS4 N l w) (fun _=>some []) (Z,_,_))=_
    rw [sk,g1];rfl
   ·obtain ⟨M,rfl⟩:∃ K,M=K+1:=⟨M - 1,by omega⟩
    have hdn:((x4.app Y).app (w'.drop (i+l.If.n))).n=x4.n+Y.n+(w'.n - (i+l.If.n)):=rfl
    rw [R6,CN7,if_pos (by simp;omega),e2,Option.bind_some,if_neg (by simp),Am6 (by omega),if_pos (by omega)]
    simp only [Int.toNat_natCast]
    rw [p2,Option.bind_some,if_pos (by omega),if_pos (by show (x2.n+1) * 8<=_/\x2.n+1<=_;omega)]
    rw [if_pos ⟨⟨by show (0+(x4.n+Y.n)) * 8<=_/\0+(x4.n+Y.n)<=_;omega,by omega⟩,by simp only [List.length_nil];omega⟩,AN0]
    by_cases h32:32 < ((x4.app Y).app (w'.drop (i+l.If.n))).n
    ·rw [if_pos (by simp only [decide_eq_true_eq,List.length_nil];omega),if_pos h32]
    rw [if_neg (by simp only [decide_eq_true_eq,List.length_nil];omega),if_neg h32,CA2 (s:=(Sl.of []:Sl Sound)) rfl,if_pos (by show (x3.n+1) * 24<=_/\x3.n+1<=_;omega)]
    have g4:=g4 M (x2.push (i:Int)) (x3.push ((x4.app Y).app (w'.drop (i+l.If.n)))) (by omega) (by show x2.n+1+m<=_;omega) (by show x3.n+1+m<=_;omega)
    by_cases h0:l.If.n=0
    ·rw [if_pos (by simp [h0])]
     rw [if_pos h0] at g4
     by_cases hlt:i < w.n
     ·rw [if_pos ⟨h0,hlt⟩] at g4
      rw [if_pos (by simp only [decide_eq_true_eq];omega),if_pos ⟨by omega,by show (x4.n+Y.n+1) * 8<=_/\x4.n+Y.n+1<=_;omega⟩,C7 (by omega),show w'.g (i+l.If.n)=w'.g i by rw [h0];rfl,show i+l.If.n+1=i+1 by omega]
      exact g4
     ·rw [if_neg (by omega)] at g4
      rw [if_neg (by simp only [decide_eq_true_eq];omega),C7 (by omega),show i+l.If.n+1=i+1 by omega]
      exact g4
    ·rw [if_neg (by simp [h0])]
     rw [if_neg h0,if_neg (by omega)] at g4
     exact g4
def trS (r r' : CA3):Prop:=r.1=r'.1/\r.2.1.n=r'.2.1.n/\(∀ i,i < r.2.1.n->SE (r.2.1.g i) (r'.2.1.g i))/\r.2.2=r'.2.2
theorem CD9:∀ (L L' : BF2) (x:Sl Int) (y y' : Sl (Sl Sound)),RL L L' -> y.n=y'.n->(∀ i,i < y.n->SE (y.g i) (y'.g i))->trS (AN0 x y L) (AN0 x y' L')
 | [], [],x,y,y',_,h1,h2=>⟨rfl,h1,h2,rfl⟩
 | (p,v) :: L,(q,u) :: M,x,y,y',⟨h3,h4,h5⟩,h1,h2=>by
  subst h3
  unfold AN0
  rw [<- h4.1]
  split
  ·exact ⟨rfl,rfl,fun i hi=>absurd hi (Nat.not_lt_zero i),rfl⟩
  ·refine CD9 L M _ _ _ h5 (by show y.n+1=y'.n+1;omega) fun i hi=>?_
   have hi:i < y.n+1:=hi
   show SE (if i < y.n then y.g i else v) (if i < y'.n then y'.g i else u)
   rw [<- h1]
   split
   ·exact h2 i (by assumption)
   ·exact h4
 | [],_ :: _,_,_,_,h,_,_=>h.elim
 | _ :: _, [],_,_,_,h,_,_=>h.elim
theorem Cq6:∀ (L:BF2) (x:Sl Int) (y:Sl (Sl Sound)),vL L->(∀ i,i < y.n->wOk (y.g i))->(AN0 x y L).2.2=11 \/ ((AN0 x y L).2.2=0/\(AN0 x y L).2.1.n<=y.n+L.length/\∀ i,i < (AN0 x y L).2.1.n->wOk ((AN0 x y L).2.1.g i))
 | [],x,y,_,h=>.inr ⟨rfl,Nat.le_refl _,h⟩
 | (p,v) :: L,x,y,hv,h=>by
  unfold AN0
  split
  ·exact .inl rfl
  ·have:=Cq6 L (x.push p) (y.push v) (fun z hz=>hv z (List.mem_cons_of_mem _ hz)) fun i hi=>by
    show wOk (if i < y.n then y.g i else v)
    split
    ·exact h i (by assumption)
    ·exact ⟨by omega,hv (p,v) (by simp)⟩
   rcases this with h | ⟨h1,h2,h3⟩
   ·exact .inl h
   ·refine .inr ⟨h1, ?_,h3⟩
    have h2:_<=y.n+1+L.length:=h2
    simp only [List.length_cons];omega
theorem BF7:∀ (L:BF2) (x:Sl Int) (y:Sl (Sl Sound)),x.n+L.length<=100000->y.n+L.length<=100000 ->
 K4 L (fun (self1:Sl Int × Sl (Sl Sound)->Option CA3) (x1:Int × (Sl Sound)) (z1:(Sl Int) × (Sl (Sl Sound)))=>
  if (decide (32 < (x1.2.n:Int)))=true then
   some ((Sl.nil:Sl Int),(Sl.nil:Sl (Sl Sound)),11)
  else
   if ((z1.1.n+(Sl.of [x1.1]:Sl Int).n) * 8<=140737488355328/\z1.1.n+(Sl.of [x1.1]:Sl Int).n<=140737488355328) then
    if ((z1.2.n+(Sl.of [x1.2]:Sl (Sl Sound)).n) * 24<=140737488355328/\z1.2.n+(Sl.of [x1.2]:Sl (Sl Sound)).n<=140737488355328) then
     self1 ((z1.1.push x1.1),(z1.2.push x1.2))
    else none
   else none
  ) (fun (z1:(Sl Int) × (Sl (Sl Sound)))=>
   some (z1.1,z1.2,0)
  ) (x,y)=some (AN0 x y L)
 | [],x,y,_,_=>rfl
 | (p,v) :: L,x,y,hx,hy=>by
  simp only [List.length_cons] at hx hy
  have ih:=BF7 L (x.push p) (y.push v) (by show x.n+1+_<=_;omega) (by show y.n+1+_<=_;omega)
  rw [K4,AN0]
  by_cases h:32 < v.n
  ·rw [if_pos (by simp;omega),if_pos h]
  ·rw [if_neg (by simp;omega),if_neg h,if_pos (by show (x.n+1) * 8<=_/\x.n+1<=_;omega),if_pos (by show (y.n+1) * 24<=_/\y.n+1<=_;omega)]
   exact ih
def trE (N:Nat) (l:Law) (w:Sl Sound) (r:CA3):Prop:=(r.2.2=17/\¬ chkAll N l) \/ (chkAll N l/\BW3 w r.2.2/\r.2.2 ≠ 0) \/ (chkAll N l/\wOk w/\(r.2.2=11 \/ (r.2.2=0/\r.2.1.n<=1000/\∀ i,i < r.2.1.n->wOk (r.2.1.g i))))
theorem Cq7 (e:Int):trS ((Sl.nil:Sl Int),(Sl.nil:Sl (Sl Sound)),e) ((Sl.nil:Sl Int),(Sl.nil:Sl (Sl Sound)),e):=⟨rfl,rfl,fun i hi=>absurd hi (Nat.not_lt_zero i),rfl⟩
theorem CE0 {w w' : Sl Sound} (h:SE w w') {e:Int} (hw:BW3 w e):BW3 w' e:=by
 rcases hw with ⟨h1,h2⟩ | ⟨h1,⟨i,hi,h2⟩,h3⟩ | ⟨h1,h2⟩
 ·exact .inl ⟨by rw [<- h.1];exact h1,h2⟩
 ·exact .inr (.inl ⟨by rw [<- h.1];exact h1,⟨i,by rw [<- h.1];exact hi,by rw [<- h.2 i hi];exact h2⟩,h3⟩)
 ·exact .inr (.inr ⟨h.wOk h1,h2⟩)
theorem CT6 {w w' : Sl Sound} (h:SE w w') (hw:∀ i,i < w.n->okS (w.g i)):∀ i,i < w'.n->okS (w'.g i):=fun i hi=>by
 rw [<- h.2 i (by rw [h.1];exact hi)];exact hw i (by rw [h.1];exact hi)
theorem Cq8 {N:Nat} (hN:3000000<=N) {l:Law} (hl:Bs8 l) {w w' : Sl Sound} (hse:SE w w') (hw:∀ i,i < w.n->okS (w.g i)) :
 ∃ r r',Am2 N l w=some r/\Am0 N l w' = some r' /\ trS r r' /\ trE N l w r:=by
 obtain ⟨e,e1,e2,he⟩:=Bc0 hN hl
 unfold Am2 Am0 At9 At7
 rw [e1,e2,Option.bind_some,Option.bind_some]
 rcases he with ⟨rfl,hc⟩ | ⟨rfl,hc⟩
 case inr=>
  rw [if_pos (by decide),if_pos (by decide)]
  exact ⟨_,_,rfl,rfl,Cq7 17, .inl ⟨rfl,hc⟩⟩
 rw [if_neg (by decide),if_neg (by decide)]
 obtain ⟨e',e3,he'⟩:=BE9 (N:=N) (by omega) hw
 obtain ⟨e'',e4,he''⟩:=Ar4 (N:=N) (by omega) (CT6 hse hw)
 obtain rfl:=AJ7 (CE0 hse he') he''
 rw [e3,e4]
 simp only [Option.bind_some]
 by_cases h0:e' = 0
 case neg=>
  rw [if_pos (by simpa using h0),if_pos (by simpa using h0)]
  exact ⟨_,_,rfl,rfl,Cq7 e', .inr (.inl ⟨hc,he',h0⟩)⟩
 rw [if_neg (by simp [h0]),if_neg (by simp [h0])]
 have hok:wOk w:=(Aa3 he').1 h0
 have hf:=hc.f hl
 obtain ⟨hol,_,_,hk,ho,hko,hm1,hm3⟩:=id hf
 have hn:=hok.1
 have hn':=hse.1
 have key:∃ L L',Af9 N w l (l.If.n:Int) (l.Out.n:Int)=some L/\vL L/\L.length<=100/\RL L L' /\
  (if (l.Mode == 1)=true then (Ay5 N l w').bind fun y2=>some (y2.1,y2.2.1,y2.2.2)
   else if (l.Mode == 2)=true then (Al9 N l w').bind fun y3=>some (y3.1,y3.2.1,y3.2.2)
   else (Ak2 N l w').bind fun y4=>some (y4.1,y4.2.1,y4.2.2))=some (AN0 (Sl.nil:Sl Int) (Sl.nil:Sl (Sl Sound)) L'):=by
  unfold Af9
  by_cases c1:l.Mode=1
  ·rw [if_pos (show (l.Mode == 1)=true by simp [c1]),if_pos (show (l.Mode == 1)=true by simp [c1])]
   obtain ⟨L,L',g1,g2,g3,g5,g4⟩:=CM0 (N:=N) (by omega) hf hse hn hok.2 (w.n+1) 0 (Sl.nil:Sl Sound) w 0 0 (by omega) (by omega) (fun _=>⟨by rw [CA2 rfl];exact ⟨hse.1,fun i hi=>by rw [hse.2 i hi];show _=w'.g (0+i);rw [Nat.zero_add]⟩,rfl⟩) (by omega) (by show 0<=_;omega) hok.2 (by omega) (by omega)
   have hh:=BW6 (N:=N) (by omega) hol hk (w:=w) (vOk hok) 0 (by omega)
   refine ⟨L,L', ?_,g2,by omega,g5, ?_⟩
   ·show ((V6 N l w ((0:Nat):Int)).bind fun L1=>K4 L1 (AS4 N l w) (fun _=>some []) (w,0,0))=_
    rw [hh,Option.bind_some];exact g1
   ·have:Ay5 N l w' = some _:=g4 N (Sl.nil:Sl Int) (Sl.nil:Sl (Sl Sound)) (by omega) (by show 0+_<=_;omega) (by show 0+_<=_;omega)
    rw [this];rfl
  rw [if_neg (show ¬ (l.Mode == 1)=true by simp [c1]),if_neg (show ¬ (l.Mode == 1)=true by simp [c1])]
  by_cases c2:l.Mode=2
  ·rw [if_pos (show (l.Mode == 2)=true by simp [c2]),if_pos (show (l.Mode == 2)=true by simp [c2])]
   obtain ⟨L,L',g1,g2,g3,g5,g4⟩:=Cq3 (N:=N) (by omega) hf (w.n+1) w w' 0 hse (by omega) hok.2 (by omega) (by omega)
   refine ⟨L,L',g1 N (by omega),g2,by omega,g5, ?_⟩
   have:Al9 N l w' = some _:=g4 N (Sl.nil:Sl Int) (Sl.nil:Sl (Sl Sound)) (by omega) (by show 0+_<=_;omega) (by show 0+_<=_;omega)
   rw [this];rfl
  ·have c3:l.Mode=3:=by omega
   rw [if_neg (show ¬ (l.Mode == 2)=true by simp [c2]),if_neg (show ¬ (l.Mode == 2)=true by simp [c2]),if_pos (show (l.Mode == 3)=true by simp [c3])]
   obtain ⟨L,L',g1,g2,g3,g5,g4⟩:=CA4 (N:=N) (by omega) hf (w.n+1) w w' ((w.n:Int) - (l.If.n:Int)) hse (by omega) hok.2 (by omega) (by omega) (by omega)
   refine ⟨L,L', ?_,g2,by omega,g5, ?_⟩
   ·rw [F2 (by omega) (by omega)];exact g1 N (by omega)
   ·have g4:=g4 N (Sl.nil:Sl Int) (Sl.nil:Sl (Sl Sound)) (by omega) (by show 0+_<=_;omega) (by show 0+_<=_;omega)
    have:Ak2 N l w' = some (AN0 (Sl.nil:Sl Int) (Sl.nil:Sl (Sl Sound)) L'):=by
     unfold Ak2
     rw [<- hn',F2 (by omega) (by omega)];exact g4
    rw [this];rfl
 obtain ⟨L,L',g1,g2,g3,g5,g4⟩:=key
 refine ⟨AN0 (Sl.nil:Sl Int) (Sl.nil:Sl (Sl Sound)) L,_, ?_,g4,CD9 L L' _ _ _ g5 rfl fun i hi=>absurd hi (Nat.not_lt_zero i), .inr (.inr ⟨hc,hok, ?_⟩)⟩
 ·rw [AJ3,Option.bind_some]
  show ((Af9 N w l (l.If.n:Int) (l.Out.n:Int)).bind _)=_
  rw [g1,Option.bind_some]
  exact BF7 L _ _ (by show 0+_<=_;omega) (by show 0+_<=_;omega)
 ·rcases Cq6 L (Sl.nil:Sl Int) (Sl.nil:Sl (Sl Sound)) g2 fun i hi=>absurd hi (Nat.not_lt_zero i) with h | ⟨h1,h2,h3⟩
  ·exact .inl h
  ·exact .inr ⟨h1,by have h2:_<=0+L.length:=h2;omega,h3⟩
end Go.AM
set_option linter.unusedVariables false
namespace Go.AM
open Go.Proofs
def apE (N:Nat) (l:Law) (w:Sl Sound) (r:Sl Sound × Int):Prop:=(r.2=17/\¬ chkAll N l) \/ (chkAll N l/\BW3 w r.2/\r.2 ≠ 0) \/ (chkAll N l/\wOk w/\(r.2=11 \/ (r.2=0/\wOk r.1)))
theorem Cq9 {N:Nat} (hN:3000000<=N) {l:Law} (hl:Bs8 l) {w w' : Sl Sound} (hse:SE w w') (hw:∀ i,i < w.n->okS (w.g i)) :
 ∃ r r',Ab6 N l w=some r/\Af7 N l w' = some r' /\ SE r.1 r'.1/\r.2=r'.2/\apE N l w r:=by
 obtain ⟨⟨x,y,e⟩,⟨x',y',e'⟩,h1,h2,⟨_,hn,hs,he⟩,ht⟩:=Cq8 hN hl hse hw
 dsimp only at hn hs he
 subst he
 have hn':=hse.1
 unfold trE at ht
 dsimp only at ht
 unfold Ab6 Af7
 rw [h1,h2,Option.bind_some,Option.bind_some]
 dsimp only
 by_cases h0:e=0
 case neg=>
  rw [if_pos (show (e != 0)=true by simpa using h0),if_pos (show (e != 0)=true by simpa using h0)]
  refine ⟨_,_,rfl,rfl,SE.refl _,rfl, ?_⟩
  rcases ht with h | h | ⟨h3,h4,h5⟩
  ·exact .inl h
  ·exact .inr (.inl h)
  ·exact .inr (.inr ⟨h3,h4, .inl (h5.resolve_right fun h=>h0 h.1)⟩)
 rw [if_neg (show ¬ (e != 0)=true by simp [h0]),if_neg (show ¬ (e != 0)=true by simp [h0])]
 rcases ht with h | h | ⟨h3,h4,h5⟩
 ·exact absurd (h.1.symm.trans h0) (by decide)
 ·exact absurd h0 h.2.2
 rcases h5 with h5 | ⟨_,h6,h7⟩
 ·exact absurd (h5.symm.trans h0) (by decide)
 have h32:=h4.1
 by_cases hy:y.n=0
 ·rw [if_neg (show ¬ decide ((0:Int) < (y.n:Int))=true by simp [hy]),if_pos (show ((y'.n:Int) == 0)=true by simp [<- hn,hy]),if_pos (by show (0+w'.n) * 8<=_/\0+w'.n<=_;omega),CA2 (s:=(Sl.of []:Sl Sound)) rfl]
  unfold B9
  rw [if_pos (by omega)]
  exact ⟨_,_,rfl,rfl,hse,rfl, .inr (.inr ⟨h3,h4, .inr ⟨rfl,h4⟩⟩)⟩
 ·have hk:=h7 (y.n - 1) (by omega)
  have hk2:=hs (y.n - 1) (by omega)
  have hb:=hk.1
  have hb2:=hk2.1
  have e1:IntKind.wrap .i64 ((y.n:Int) - 1)=((y.n - 1:Nat):Int):=CS8 (by omega) (by omega)
  have e2:IntKind.wrap .i64 ((y'.n:Int) - 1)=((y.n - 1:Nat):Int):=by rw [<- hn];exact e1
  rw [e1,e2,Int.toNat_natCast,if_pos (show decide ((0:Int) < (y.n:Int))=true by simp;omega),if_pos (by omega),if_neg (show ¬ ((y'.n:Int) == 0)=true by simp;omega),if_pos ⟨by omega,by show (0+(y'.g (y.n - 1)).n) * 8<=_/\0+(y'.g (y.n - 1)).n<=_;omega⟩,CA2 (s:=(Sl.of []:Sl Sound)) rfl]
  exact ⟨_,_,rfl,rfl,hk2,rfl, .inr (.inr ⟨h3,h4, .inr ⟨rfl,hk⟩⟩)⟩
theorem BF8 {N:Nat} {s:Sl Law} (hN:s.n < N) (hs:s.n < 1000000) {f:Law->Option Bool} {b:Nat->Bool} (hf:∀ i,i < s.n->f (s.g i)=some (b i)) :
 ∃ r,C5 N s f=some r/\(r=true ↔ ∃ i,i < s.n/\b i=true):=by
 unfold C5 E4
 have:∃ y,Ae3 N (fun (self1:Int->Option Int) (x1:Int)=>
  if (decide (x1 < (s.n:Int)))=true then
   if ((0:Int)<=x1/\x1 < (s.n:Int)) then
    (f (s.g x1.toNat)).bind fun y3=>
    if y3=true then
     some x1
    else
     self1 (IntKind.wrap .i64 (x1+1))
   else none
  else
   some (-1)) 0=some y/\(0<=y ↔ ∃ i,i < s.n/\b i=true):=by
  refine Av7 (fun i x1=>x1=(i:Int)/\∀ j,j < i->b j=false) s.n _ hN ⟨rfl,fun j hj=>absurd hj (by omega)⟩ ?_
  rintro self i x1 hi ⟨rfl,h⟩ hs2
  by_cases hl:i < s.n
  ·refine ifT (by simp;omega) (ifT (by omega) (B7 (by rw [Int.toNat_natCast];exact hf i hl) ?_))
   cases hb:b i
   ·refine ifF (by simp) (hs2 hl _ ⟨C7 (by omega),fun j hj=>?_⟩)
    by_cases e:j=i
    ·subst e;exact hb
    ·exact h j (by omega)
   ·exact ifT rfl ⟨i,rfl,fun _=>⟨i,hl,hb⟩,fun _=>by omega⟩
  ·refine ifF (by simp;omega) ⟨-1,rfl,fun h=>absurd h (by decide), ?_⟩
   rintro ⟨j,hj,hb⟩
   rw [h j (by omega)] at hb;cases hb
 obtain ⟨y,e,hy⟩:=this
 exact B7 e ⟨_,rfl,by rw [decide_eq_true_eq];exact hy⟩
def AS5 (N:Nat) (laws:Sl Law) (e:Int):Prop:=(64 < laws.n/\e=12) \/ (laws.n<=64/\(∃ i,i < laws.n/\¬ chkAll N (laws.g i))/\e=17) \/ ((laws.n<=64/\∀ i,i < laws.n->chkAll N (laws.g i))/\e=0)
theorem Ar5 {N:Nat} {laws:Sl Law} {e e' : Int} (h:AS5 N laws e) (h' : AS5 N laws e'):e=e':=by
 rcases h with ⟨h,rfl⟩ | ⟨h,⟨i,hi,h2⟩,rfl⟩ | ⟨⟨h,h2⟩,rfl⟩ <;> rcases h' with ⟨g,rfl⟩ | ⟨g,⟨j,hj,g2⟩,rfl⟩ | ⟨⟨g,g2⟩,rfl⟩ <;> first | rfl | (exfalso;omega) | exact absurd (g2 i hi) h2 | exact absurd (h2 j hj) g2
theorem Cr0 {N:Nat} {laws laws' : Sl Law} (h:SE laws laws') {e:Int} (hw:AS5 N laws e):AS5 N laws' e:=by
 have hn:=h.1
 rcases hw with ⟨h1,h2⟩ | ⟨h1,⟨i,hi,h2⟩,h3⟩ | ⟨⟨h1,h2⟩,h3⟩
 ·exact .inl ⟨by omega,h2⟩
 ·exact .inr (.inl ⟨by omega,⟨i,by omega,by rw [<- h.2 i hi];exact h2⟩,h3⟩)
 ·exact .inr (.inr ⟨⟨by omega,fun i hi=>by rw [<- h.2 i (by omega)];exact h2 i (by omega)⟩,h3⟩)
def P5 (laws:Sl Law):Prop:=∀ i,i < laws.n->Bs8 (laws.g i)
theorem CA6 {laws laws' : Sl Law} (h:SE laws laws') (hl:P5 laws):P5 laws':=fun i hi=>by
 rw [<- h.2 i (by rw [h.1];exact hi)];exact hl i (by rw [h.1];exact hi)
theorem AA8 {N:Nat} (hN:3000000<=N) {laws:Sl Law} (hl:P5 laws):∃ e,N3 N laws=some e/\U9 N laws=some e/\AS5 N laws e:=by
 have h1:∃ e,N3 N laws=some e/\AS5 N laws e:=by
  unfold N3
  by_cases hn:64 < laws.n
  ·exact ifT (by simp;omega) ⟨12,rfl, .inl ⟨hn,rfl⟩⟩
  refine ifF (by simp;omega) ?_
  have hv:∀ i,∃ b,i < laws.n->O4 N (laws.g i)=some b/\(b=true ↔ ¬ chkAll N (laws.g i)):=by
   intro i
   by_cases hi:i < laws.n
   ·obtain ⟨e,e1,_,he⟩:=Bc0 hN (hl i hi)
    refine ⟨e != 0,fun _=>⟨by unfold O4;rw [e1];rfl, ?_⟩⟩
    rcases he with ⟨rfl,h⟩ | ⟨rfl,h⟩
    ·exact ⟨fun h=>absurd h (by decide),fun g=>absurd h g⟩
    ·exact ⟨fun _=>h,fun _=>by decide⟩
   ·exact ⟨false,fun h=>absurd h hi⟩
  obtain ⟨f,hf⟩:=Classical.axiomOfChoice hv
  obtain ⟨r,e1,h1⟩:=BF8 (N:=N) (s:=laws) (by omega) (by omega) (f:=fun u1=>O4 N u1) (fun i hi=>(hf i hi).1)
  refine B7 e1 ?_
  cases hr:r
  ·refine ifF (by simp) ⟨0,rfl, .inr (.inr ⟨⟨by omega,fun i hi=>Classical.byContradiction fun hn=>?_⟩,rfl⟩)⟩
   have:=h1.2 ⟨i,hi,(hf i hi).2.2 hn⟩
   rw [hr] at this;cases this
  ·obtain ⟨i,hi,hb⟩:=h1.1 hr
   exact ifT rfl ⟨17,rfl, .inr (.inl ⟨by omega,⟨i,hi,(hf i hi).2.1 hb⟩,rfl⟩)⟩
 have h2:∃ e,U9 N laws=some e/\AS5 N laws e:=by
  unfold U9
  by_cases hn:64 < laws.n
  ·exact ifT (by simp;omega) ⟨12,rfl, .inl ⟨hn,rfl⟩⟩
  refine ifF (by simp;omega) ?_
  refine Av7 (fun i x1=>x1=(i:Int)/\∀ j,j < i->chkAll N (laws.g j)) laws.n _ (by omega) ⟨rfl,fun j hj=>absurd hj (by omega)⟩ ?_
  rintro self i x1 hi ⟨rfl,h⟩ hs
  by_cases hlt:i < laws.n
  ·obtain ⟨e,_,e1,he⟩:=Bc0 hN (hl i hlt)
   refine ifT (by simp;omega) (ifT (by omega) (B7 (by rw [Int.toNat_natCast];exact e1) ?_))
   rcases he with ⟨rfl,hc⟩ | ⟨rfl,hc⟩
   ·refine ifF (by decide) (hs hlt _ ⟨C7 (by omega),fun j hj=>?_⟩)
    by_cases e:j=i
    ·subst e;exact hc
    ·exact h j (by omega)
   ·exact ifT (by decide) ⟨17,rfl, .inr (.inl ⟨by omega,⟨i,hlt,hc⟩,rfl⟩)⟩
  ·exact ifF (by simp;omega) ⟨0,rfl, .inr (.inr ⟨⟨by omega,fun j hj=>h j (by omega)⟩,rfl⟩)⟩
 obtain ⟨e,e1,g1⟩:=h1
 obtain ⟨e',e2,g2⟩:=h2
 obtain rfl:=Ar5 g1 g2
 exact ⟨_,e1,e2,g1⟩
def CE1 (l:Sl (Sl Sound)) (e:Int):Prop:=(e=0/\∀ i,i < l.n->wOk (l.g i)) \/ (∃ i,i < l.n/\(∀ j,j < i->wOk (l.g j))/\BW3 (l.g i) e/\e ≠ 0)
theorem Bm6 {N:Nat} (hN:3000000<=N) {l:Sl (Sl Sound)} (hn:l.n < 2000000) (hw:∀ i,i < l.n->∀ j,j < (l.g i).n->okS ((l.g i).g j)) :
 ∃ e,Ae3 N (fun (self1:Int->Option Int) (x1:Int)=>
  if (decide (x1 < (l.n:Int)))=true then
   if ((0:Int)<=x1/\x1 < (l.n:Int)) then
    (U5 N (l.g x1.toNat)).bind fun y4=>
    if (y4 != 0)=true then
     some y4
    else
     self1 (IntKind.wrap .i64 (x1+1))
   else none
  else
   some 0
  ) 0=some e/\CE1 l e:=by
 refine Av7 (fun i x1=>x1=(i:Int)/\∀ j,j < i->wOk (l.g j)) l.n _ (by omega) ⟨rfl,fun j hj=>absurd hj (by omega)⟩ ?_
 rintro self i x1 hi ⟨rfl,h⟩ hs
 by_cases hlt:i < l.n
 ·obtain ⟨e,e1,he⟩:=BE9 (N:=N) (by omega) (hw i hlt)
  refine ifT (by simp;omega) (ifT (by omega) (B7 (by rw [Int.toNat_natCast];exact e1) ?_))
  by_cases h0:e=0
  ·refine ifF (by simp [h0]) (hs hlt _ ⟨C7 (by omega),fun j hj=>?_⟩)
   by_cases e:j=i
   ·subst e;exact (Aa3 he).1 h0
   ·exact h j (by omega)
  ·exact ifT (by simpa using h0) ⟨e,rfl, .inr ⟨i,hlt,h,he,h0⟩⟩
 ·exact ifF (by simp;omega) ⟨0,rfl, .inl ⟨rfl,fun j hj=>h j (by omega)⟩⟩
theorem CM1 {w:Sl Sound} {e:Int} (h:CE1 (Sl.of [w]:Sl (Sl Sound)) e):BW3 w e:=by
 rcases h with ⟨rfl,h⟩ | ⟨i,hi,_,h,_⟩
 ·exact .inr (.inr ⟨h 0 (by show 0 < 1;omega),rfl⟩)
 ·match i,hi with
  | 0,_=>exact h
theorem BQ5 {N:Nat} (hN:3000000<=N) {laws:Sl Law} (hl:P5 laws) {w:Sl Sound} (hw:∀ i,i < w.n->okS (w.g i)) :
 ∃ e,Aa0 N laws (Sl.of [w]:Sl (Sl Sound))=some e/\((AS5 N laws e/\e ≠ 0) \/ (AS5 N laws 0/\BW3 w e)):=by
 unfold Aa0
 obtain ⟨e,e1,_,h1⟩:=AA8 hN hl
 refine B7 e1 ?_
 by_cases h0:e=0
 case neg=>exact ifT (by simpa using h0) ⟨e,rfl, .inl ⟨h1,h0⟩⟩
 refine ifF (by simp [h0]) (ifF (by show ¬ decide ((256:Int) < ((1:Nat):Int))=true;decide) ?_)
 obtain ⟨e2,e3,h3⟩:=Bm6 (N:=N) hN (l:=(Sl.of [w]:Sl (Sl Sound))) (by show 1 < _;omega) fun i hi=>by
  match i,hi with
  | 0,_=>exact hw
 exact ⟨e2,e3, .inr ⟨h0 ▸ h1,CM1 h3⟩⟩
def An9 (N:Nat) (c:Int) (q1:Sl Law) (self1:Sl Sound->Int->Option BF2) (x1:Sl Sound) (x2:Int):Option BF2:=
 if (decide (x2 < (q1.n:Int)))=true then
  if ((0:Int)<=x2/\x2 < (q1.n:Int)) then
   (Ab6 N (q1.g x2.toNat) x1).bind fun y4=>
   if (y4.2 != 0)=true then
    if y4.2=c then some [] else none
   else
    Ad1 (IntKind.wrap .i64 (x2+1),y4.1) (
     self1 y4.1 (IntKind.wrap .i64 (x2+1))
     )
  else none
 else
  if c=0 then some [] else none
theorem Am5 {N:Nat} {c:Int} {laws:Sl Law} {self1:Sl Sound->Int->Option BF2} {w:Sl Sound} {i:Nat} (hi:i < laws.n) (h64:laws.n<=64) {y:Sl Sound × Int} (h:Ab6 N (laws.g i) w=some y) :
 An9 N c laws self1 w (i:Int)=if (y.2 != 0)=true then (if y.2=c then some [] else none) else Ad1 (((i+1:Nat):Int),y.1) (self1 y.1 ((i+1:Nat):Int)):=by
 unfold An9
 rw [if_pos (show decide ((i:Int) < (laws.n:Int))=true by simp;omega),if_pos (by omega),Int.toNat_natCast,h,Option.bind_some,C7 (by omega)]
abbrev CT7:=(Sl (Sl Sound)) × Int
def Az6 (N:Nat) (p_laws:Sl Law) (self1:Sl (Sl Sound)->Int->Option CT7) (x2:Sl (Sl Sound)) (x3:Int):Option CT7:=
 if (decide (x3 < (p_laws.n:Int)))=true then
  if ((((0:Int)<=x3/\x3 < (p_laws.n:Int))/\((0:Int)<=x3/\x3 < (x2.n:Int)))/\x3.toNat < x2.n) then
   (Af7 N (p_laws.g x3.toNat) (x2.g x3.toNat)).bind fun y7=>
   if (y7.2 != 0)=true then
    some ((Sl.nil:Sl (Sl Sound)),y7.2)
   else
    if ((x2.n+(Sl.of [y7.1]:Sl (Sl Sound)).n) * 24<=140737488355328/\x2.n+(Sl.of [y7.1]:Sl (Sl Sound)).n<=140737488355328) then
     self1 (x2.push y7.1) (IntKind.wrap .i64 (x3+1))
    else none
  else none
 else
  some (x2,0)
def BQ6:Sl Sound->BF2->Sl Sound
 | w, []=>w
 | _,(_,v) :: L=>BQ6 v L
theorem Bt0:∀ (L:BF2) (w:Sl Sound),K4 L (fun (self1:Sl Sound->Option (Sl Sound)) (x1:Int × (Sl Sound)) (z1:Sl Sound)=>self1 x1.2) (fun (z1:Sl Sound)=>some z1) w=some (BQ6 w L)
 | [],w=>rfl
 | (p,v) :: L,w=>Bt0 L v
def Av4 (N:Nat) (laws:Sl Law):Prop:=laws.n<=64/\∀ i,i < laws.n->chkAll N (laws.g i)
theorem Cr1 {N:Nat} (hN:3000000<=N) {laws laws' : Sl Law} (hl:P5 laws) (hls:SE laws laws') (hok:Av4 N laws):∀ (m i:Nat) (w w' : Sl Sound),SE w w' -> wOk w->i<=laws.n->laws.n<=i+m ->
 (∃ L v',SE (BQ6 w L) v' /\ wOk (BQ6 w L)/\(∀ M,m < M->V9 M (An9 N 0 laws) w i=some L)/\∀ M x2,m < M->x2.n=i+1->x2.g i=w' -> ∃ y,V9 M (Az6 N laws') x2 i=some (y,0)/\y.n=laws.n+1/\y.g laws.n=v') \/
 ((∃ L,∀ M,m < M->V9 M (An9 N 0 laws) w i=none/\V9 M (An9 N 11 laws) w i=some L)/\∀ M x2,m < M->x2.n=i+1->x2.g i=w' -> V9 M (Az6 N laws') x2 i=some ((Sl.nil:Sl (Sl Sound)),11)):=by
 have hn':=hls.1
 have h64:=hok.1
 intro m
 induction m with
 | zero=>
  intro i w w' hse hw hi hm
  refine .inl ⟨[],w',hse,hw,fun M hM=>?_,fun M x2 hM hx hg=>⟨x2, ?_,by omega,by rw [<- hg];congr 1;omega⟩⟩
  ·obtain ⟨M,rfl⟩:∃ K,M=K+1:=⟨M - 1,by omega⟩
   rw [E8,An9,if_neg (by simp;omega),if_pos rfl]
  ·obtain ⟨M,rfl⟩:∃ K,M=K+1:=⟨M - 1,by omega⟩
   rw [E8,Az6,if_neg (by simp;omega)]
 | succ m ih=>
  intro i w w' hse hw hi hm
  by_cases hlt:i < laws.n
  case neg=>
   refine .inl ⟨[],w',hse,hw,fun M hM=>?_,fun M x2 hM hx hg=>⟨x2, ?_,by omega,by rw [<- hg];congr 1;omega⟩⟩
   ·obtain ⟨M,rfl⟩:∃ K,M=K+1:=⟨M - 1,by omega⟩
    rw [E8,An9,if_neg (by simp;omega),if_pos rfl]
   ·obtain ⟨M,rfl⟩:∃ K,M=K+1:=⟨M - 1,by omega⟩
    rw [E8,Az6,if_neg (by simp;omega)]
  obtain ⟨⟨v,e⟩,⟨v',e'⟩,h1,h2,h3,h4,h5⟩:=Cq9 hN (hl i hlt) hse fun j hj=>(hw.2 j hj).ok
  simp only at h3 h4
  subst h4
  rcases h5 with ⟨_,h5⟩ | ⟨_,h5,h6⟩ | ⟨_,_,h5⟩
  ·exact absurd (hok.2 i hlt) h5
  ·exact absurd ((Aa3 h5).2 hw) h6
  rw [hls.2 i hlt] at h2
  rcases h5 with rfl | ⟨rfl,hv⟩
  ·refine .inr ⟨⟨[],fun M hM=>?_⟩,fun M x2 hM hx hg=>?_⟩
   ·obtain ⟨M,rfl⟩:∃ K,M=K+1:=⟨M - 1,by omega⟩
    rw [E8,E8,Am5 hlt h64 h1,Am5 hlt h64 h1]
    exact ⟨rfl,rfl⟩
   ·obtain ⟨M,rfl⟩:∃ K,M=K+1:=⟨M - 1,by omega⟩
    rw [E8,Az6,if_pos (by simp;omega),if_pos (by omega),Int.toNat_natCast,hg,h2,Option.bind_some,if_pos (by simp)]
  ·rcases ih (i+1) v v' h3 hv (by omega) (by omega) with ⟨L,u,g1,g2,g3,g4⟩ | ⟨⟨L,g1⟩,g2⟩
   ·refine .inl ⟨((i+1:Nat),v) :: L,u,g1,g2,fun M hM=>?_,fun M x2 hM hx hg=>?_⟩
    ·obtain ⟨M,rfl⟩:∃ K,M=K+1:=⟨M - 1,by omega⟩
     rw [E8,Am5 hlt h64 h1,if_neg (by simp)]
     show Ad1 _ (V9 M (An9 N 0 laws) v _)=_
     rw [g3 M (by omega)];rfl
    ·obtain ⟨M,rfl⟩:∃ K,M=K+1:=⟨M - 1,by omega⟩
     rw [E8,Az6,if_pos (by simp;omega),if_pos (by omega),Int.toNat_natCast,hg,h2,Option.bind_some,if_neg (by simp),if_pos (by show (x2.n+1) * 24<=_/\x2.n+1<=_;omega),C7 (by omega)]
     exact g4 M (x2.push v') (by omega) (by show x2.n+1=_;omega) (by show (if i+1 < x2.n then x2.g (i+1) else v')=v';rw [if_neg (by omega)])
   ·refine .inr ⟨⟨((i+1:Nat),v) :: L,fun M hM=>?_⟩,fun M x2 hM hx hg=>?_⟩
    ·obtain ⟨M,rfl⟩:∃ K,M=K+1:=⟨M - 1,by omega⟩
     obtain ⟨a1,a2⟩:=g1 M (by omega)
     rw [E8,E8,Am5 hlt h64 h1,Am5 hlt h64 h1,if_neg (by simp),if_neg (by simp)]
     refine ⟨?_, ?_⟩
     ·show Ad1 _ (V9 M (An9 N 0 laws) v _)=_
      rw [a1];rfl
     ·show Ad1 _ (V9 M (An9 N 11 laws) v _)=_
      rw [a2];rfl
    ·obtain ⟨M,rfl⟩:∃ K,M=K+1:=⟨M - 1,by omega⟩
     rw [E8,Az6,if_pos (by simp;omega),if_pos (by omega),Int.toNat_natCast,hg,h2,Option.bind_some,if_neg (by simp),if_pos (by show (x2.n+1) * 24<=_/\x2.n+1<=_;omega),C7 (by omega)]
     exact g2 M (x2.push v') (by omega) (by show x2.n+1=_;omega) (by show (if i+1 < x2.n then x2.g (i+1) else v')=v';rw [if_neg (by omega)])
theorem CA7 {N:Nat} {w:Sl Sound} (hN:w.n < N) (hs:w.n < 10000000):∃ y,Aj7 N w=some y/\SE w y:=by
 suffices h:∃ y,Aj7 N w=some y/\y=Ae7 w.g w.n by
  obtain ⟨y,h,rfl⟩:=h
  exact ⟨_,h,(AF4 _ _).symm,fun i hi=>(BQ2 w.g hi).symm⟩
 unfold Aj7
 refine Aa2 (fun i x1 x2=>x2=(i:Int)/\x1=Ae7 w.g i) w.n _ hN ⟨rfl,rfl⟩ ?_
 rintro self i x1 x2 hi ⟨rfl,rfl⟩ hs2
 by_cases hl:i < w.n
 ·have:=AF4 w.g i
  refine ifT (by simp;omega) (ifT ⟨by omega,by show ((Ae7 w.g i).n+1) * 8<=_/\(Ae7 w.g i).n+1<=_;omega⟩ (hs2 hl _ _ ⟨C7 (by omega),by rw [Int.toNat_natCast];rfl⟩))
 ·exact ifF (by simp;omega) ⟨_,rfl,by congr 1;omega⟩
def deE (N:Nat) (laws:Sl Law) (w:Sl Sound) (r:Sl Sound × Int):Prop:=(AS5 N laws r.2/\r.2 ≠ 0) \/ (AS5 N laws 0/\BW3 w r.2/\r.2 ≠ 0) \/ (Av4 N laws/\wOk w/\(r.2=11 \/ (r.2=0/\wOk r.1)))
theorem lawsE_zero {N:Nat} {laws:Sl Law}:AS5 N laws 0 ↔ Av4 N laws:=by
 constructor
 ·rintro (⟨_,h⟩ | ⟨_,_,h⟩ | ⟨h,_⟩)
  ·cases h
  ·cases h
  ·exact h
 ·exact fun h=>.inr (.inr ⟨h,rfl⟩)
theorem Ce8 {N:Nat} (hN:3000000<=N) {laws laws' : Sl Law} (hl:P5 laws) (hls:SE laws laws') {w w' : Sl Sound} (hse:SE w w') (hw:∀ i,i < w.n->okS (w.g i)) :
 ∃ r r',O0 N laws w=some r/\Ah6 N laws' w' = some r' /\ SE r.1 r'.1/\r.2=r'.2/\deE N laws w r:=by
 obtain ⟨e,e1,h1⟩:=BQ5 hN hl hw
 obtain ⟨a,_,a1,ha⟩:=AA8 hN (CA6 hls hl)
 unfold O0 Ah6 At8
 rw [e1,a1,Option.bind_some,Option.bind_some]
 rcases h1 with ⟨h1,h0⟩ | ⟨h1,h2⟩
 ·obtain rfl:=Ar5 (Cr0 hls h1) ha
  have hne:(e != 0)=true:=by simpa using h0
  have hnz:¬ (e == 0)=true:=by simpa using h0
  rw [if_pos hne,lt,if_neg hnz]
  dsimp only
  rw [if_pos hne,Option.bind_some]
  dsimp only
  rw [if_pos hne]
  exact ⟨_,_,rfl,rfl,SE.refl _,rfl, .inl ⟨h1,h0⟩⟩
 obtain rfl:=Ar5 (Cr0 hls h1) ha
 rw [lt,if_pos (show ((0:Int) == 0)=true from rfl)]
 obtain ⟨b,b1,hb⟩:=Ar4 (N:=N) (by omega) (CT6 hse hw)
 obtain rfl:=AJ7 (CE0 hse h2) hb
 rw [b1,Option.bind_some]
 dsimp only
 by_cases h0:e=0
 case neg=>
  have hne:(e != 0)=true:=by simpa using h0
  rw [if_pos hne,if_pos hne,Option.bind_some]
  dsimp only
  rw [if_pos hne]
  exact ⟨_,_,rfl,rfl,SE.refl _,rfl, .inr (.inl ⟨h1,h2,h0⟩)⟩
 have hnz:¬ (e != 0)=true:=by simp [h0]
 rw [if_neg hnz,if_neg hnz]
 have hok:=lawsE_zero.1 h1
 have hwk:wOk w:=(Aa3 h2).1 h0
 have h32:=hwk.1
 have hnn:=hse.1
 have h64:=hok.1
 have hn':=hls.1
 obtain ⟨y4,c1,c2⟩:=CA7 (N:=N) (w:=w') (by omega) (by omega)
 have hclone:B9 N w=some w:=by
  unfold B9
  rw [if_pos (by omega)]
 have hout:∀ c,E5 N c laws w=(Ad1 (0,w) (V9 N (An9 N c laws) w 0)).bind fun L1=>K4 L1 (fun (self1:Sl Sound->Option (Sl Sound)) (x1:Int × (Sl Sound)) (z1:Sl Sound)=>self1 x1.2) (fun (z1:Sl Sound)=>some z1) (Sl.nil:Sl Sound):=by
  intro c
  unfold E5 Ag6 Aa8
  rw [Option.bind_some,hclone,Option.bind_some]
  rfl
 have hdoc:∀ (x2:Sl (Sl Sound)),(V9 N (fun self1 (x2:Sl (Sl Sound)) (x3:Int)=>Az6 N laws' self1 x2 x3) x2 0)=V9 N (Az6 N laws') x2 ((0:Nat):Int):=fun _=>rfl
 rw [c1,Option.bind_some]
 rcases Cr1 hN hl hls hok laws.n 0 w y4 (hse.trans c2) hwk (by omega) (by omega) with ⟨L,v',g1,g2,g3,g4⟩ | ⟨⟨L,g1⟩,g2⟩
 ·obtain ⟨y,d1,d2,d3⟩:=g4 N (Sl.of [y4]:Sl (Sl Sound)) (by omega) rfl rfl
  have:K0 N laws w=some (BQ6 w L,true):=by
   have e0:E5 N 0 laws w=some (BQ6 w L):=by
    rw [hout]
    have g3:V9 N (An9 N 0 laws) w 0=some L:=g3 N (by omega)
    rw [g3]
    exact Bt0 _ _
   unfold K0
   rw [e0]
  rw [this,Option.bind_some,if_neg (by simp)]
  refine ⟨_,(v',0),rfl, ?_,g1,rfl, .inr (.inr ⟨hok,hwk, .inr ⟨rfl,g2⟩⟩)⟩
  show Option.bind (V9 N (Az6 N laws') (Sl.of [y4]:Sl (Sl Sound)) ((0:Nat):Int)) _=_
  rw [d1,Option.bind_some,if_neg (by simp)]
  have ew:IntKind.wrap .i64 ((y.n:Int) - 1)=((laws.n:Nat):Int):=by rw [d2,F2 (by omega) (by omega)];omega
  simp only [ew,Int.toNat_natCast]
  rw [if_pos (by omega),d3]
 ·have:K0 N laws w=some ((Sl.nil:Sl Sound),false):=by
   obtain ⟨g3,g4⟩:=g1 N (by omega)
   have g3:V9 N (An9 N 0 laws) w 0=none:=g3
   have g4:V9 N (An9 N 11 laws) w 0=some L:=g4
   have e0:E5 N 0 laws w=none:=by rw [hout,g3];rfl
   have e11:E5 N 11 laws w=some (BQ6 w L):=by rw [hout,g4];exact Bt0 _ _
   unfold K0
   rw [e0,e11];rfl
  rw [this,Option.bind_some,if_pos (by simp)]
  refine ⟨_,((Sl.nil:Sl Sound),11),rfl, ?_,SE.refl _,rfl, .inr (.inr ⟨hok,hwk, .inl rfl⟩)⟩
  show Option.bind (V9 N (Az6 N laws') (Sl.of [y4]:Sl (Sl Sound)) ((0:Nat):Int)) _=_
  rw [g2 N (Sl.of [y4]:Sl (Sl Sound)) (by omega) rfl rfl,Option.bind_some,if_pos (by decide)]
end Go.AM
set_option linter.unusedVariables false
namespace Go.AM
open Go.Proofs
theorem Bc2 {α : Type} (s:Sl α) (a : α):(s.push a).toList=s.toList ++ [a]:=by
 show (List.range (s.n+1)).map (fun i=>if i < s.n then s.g i else a)=_
 rw [List.range_succ,List.map_append]
 congr 1
 ·exact List.map_congr_left fun i hi=>if_pos (List.mem_range.1 hi)
 ·simp
theorem tl_eq {α : Type} {s t:Sl α}:s.toList=t.toList ↔ SE s t:=by
 constructor
 ·intro h
  have hn:s.n=t.n:=by rw [<- S8 s,h,S8]
  refine ⟨hn,fun i hi=>?_⟩
  have:=congrArg (fun l=>l[i]?) h
  simpa [Sl.toList,hi,hn ▸ hi] using this
 ·rintro ⟨h1,h2⟩
  unfold Sl.toList
  rw [<- h1]
  exact List.map_congr_left fun i hi=>h2 i (List.mem_range.1 hi)
theorem sEq (x y:Sound):((x.Plus == y.Plus) && (x.Minus == y.Minus))=decide (x=y):=by
 cases x;cases y;rw [Bool.eq_iff_iff];simp
theorem Cr2 {N:Nat} {x y:Sl Sound} (hN:x.n < N) (hs:x.n < 10000000) :
 ∃ b,(if ((x.n:Int) != (y.n:Int))=true then
 some false
 else
  Ae3 N (fun (self1:Int->Option Bool) (x1:Int)=>
   if (decide (x1 < (x.n:Int)))=true then
    if (((0:Int)<=x1/\x1 < (x.n:Int))/\((0:Int)<=x1/\x1 < (y.n:Int))) then
     if ((((x.g x1.toNat).Plus == (y.g x1.toNat).Plus) && ((x.g x1.toNat).Minus == (y.g x1.toNat).Minus)) != true)=true then
      some false
     else
      self1 (IntKind.wrap .i64 (x1+1))
    else none
   else
    some true
   ) 0)=some b/\(b=true ↔ SE x y):=by
 by_cases hn:x.n=y.n
 case neg=>exact ifT (by simp;omega) ⟨false,rfl,by simp,fun h=>absurd h.1 hn⟩
 refine ifF (by simp [hn]) ?_
 refine Av7 (fun i x1=>x1=(i:Int)/\∀ j,j < i->x.g j=y.g j) x.n _ hN ⟨rfl,fun j hj=>absurd hj (by omega)⟩ ?_
 rintro self i x1 hi ⟨rfl,h⟩ hs2
 by_cases hl:i < x.n
 ·refine ifT (by simp;omega) (ifT (by omega) ?_)
  rw [Int.toNat_natCast,sEq]
  by_cases e:x.g i=y.g i
  ·refine ifF (by simp [e]) (hs2 hl _ ⟨C7 (by omega),fun j hj=>?_⟩)
   by_cases e2:j=i
   ·subst e2;exact e
   ·exact h j (by omega)
  ·exact ifT (by simp [e]) ⟨false,rfl,by simp,fun h=>absurd (h.2 i hl) e⟩
 ·exact ifF (by simp;omega) ⟨true,rfl,fun _=>⟨hn,fun j hj=>h j (by omega)⟩,fun _=>rfl⟩
theorem CM2 {N:Nat} {x y:Sl Sound} (hN:x.n < N) (hs:x.n < 10000000):∃ b,Ah4 N x y=some b/\(b=true ↔ SE x y):=by
 obtain ⟨b,h,hb⟩:=Cr2 (N:=N) (x:=x) (y:=y) hN hs
 exact ⟨b,by unfold Ah4;rw [show E2 N x y=some b from h];rfl,hb⟩
theorem CM3 {N:Nat} {x y:Sl Sound} (hN:x.n < N) (hs:x.n < 10000000):∃ b,At6 N x y=some b/\(b=true ↔ SE x y):=Cr2 hN hs
abbrev okA (w:Sl Sound):Prop:=∀ i,i < w.n->okS (w.g i)
theorem Cr3 {N:Nat} (hN:3000000<=N) {laws laws' : Sl Law} (hl:P5 laws) (hls:SE laws laws') {v v' w w' : Sl Sound} (hv:SE v v') (hvo:okA v) (hw:SE w w') :
 ∃ b,F6 N laws v w=some b/\F9 N laws' v' w' = some b/\(b=true ↔ ∃ r,O0 N laws v=some r/\r.2=0/\SE r.1 w):=by
 obtain ⟨r,r',h1,h2,h3,h4,h5⟩:=Ce8 hN hl hls hv hvo
 unfold F6 F9
 rw [h1,h2,Option.bind_some,Option.bind_some,lt,lt, <- h4]
 by_cases h0:r.2=0
 ·rw [if_pos (by simp [h0]),if_pos (by simp [h0])]
  have hk:wOk r.1:=by
   rcases h5 with ⟨_,h⟩ | ⟨_,_,h⟩ | ⟨_,_,h | ⟨_,h⟩⟩
   ·exact absurd h0 h
   ·exact absurd h0 h
   ·rw [h] at h0;cases h0
   ·exact h
  have h32:=hk.1
  have hn:=h3.1
  obtain ⟨b,e1,hb⟩:=CM2 (N:=N) (x:=r.1) (y:=w) (by omega) (by omega)
  obtain ⟨b',e2,hb'⟩:=CM3 (N:=N) (x:=r'.1) (y:=w') (by omega) (by omega)
  have:b=b':=by
   rw [Bool.eq_iff_iff,hb,hb']
   exact ⟨fun h=>h3.symm.trans (h.trans hw),fun h=>h3.trans (h.trans hw.symm)⟩
  subst this
  rw [e1,e2]
  refine ⟨b,rfl,rfl,hb.trans ⟨fun h=>⟨r,rfl,h0,h⟩, ?_⟩⟩
  rintro ⟨q,hq,_,hq2⟩
  obtain rfl:=Option.some.inj hq
  exact hq2
 ·rw [if_neg (by simp [h0]),if_neg (by simp [h0])]
  refine ⟨false,rfl,rfl,by simp, ?_⟩
  rintro ⟨q,hq,hq1,_⟩
  obtain rfl:=Option.some.inj hq
  exact absurd hq1 h0
def gv (N:Nat) (laws:Sl Law) (v w:Sl Sound):Bool:=(F6 N laws v w).getD false
theorem Bm7 {N:Nat} (hN:3000000<=N) {laws laws' : Sl Law} (hl:P5 laws) (hls:SE laws laws') {v v' w w' : Sl Sound} (hv:SE v v') (hvo:okA v) (hw:SE w w') :
 F6 N laws v w=some (gv N laws v w)/\F9 N laws' v' w' = some (gv N laws v w)/\(gv N laws v w=true ↔ ∃ r,O0 N laws v=some r/\r.2=0/\SE r.1 w):=by
 obtain ⟨b,h1,h2,h3⟩:=Cr3 hN hl hls hv hvo hw
 have e:gv N laws v w=b:=by unfold gv;rw [h1];rfl
 rw [e];exact ⟨h1,h2,h3⟩
def Bm8 (P:Nat->Bool) (n i:Nat):List Int:=((List.range' i (n - i)).filter P).map fun (j:Nat)=>(j:Int)
theorem AT2 {P:Nat->Bool} {n i:Nat} (h:n<=i):Bm8 P n i=[]:=by
 unfold Bm8;rw [show n - i=0 by omega];rfl
theorem BW9 {P:Nat->Bool} {n i:Nat} (h:i < n) (hp:P i=true):Bm8 P n i=(i:Int) :: Bm8 P n (i+1):=by
 unfold Bm8
 rw [show n - i=n - (i+1)+1 by omega,List.range'_succ,List.filter_cons_of_pos hp]
 rfl
theorem Cr4 {P:Nat->Bool} {n i:Nat} (h:i < n) (hp:P i=false):Bm8 P n i=Bm8 P n (i+1):=by
 unfold Bm8
 rw [show n - i=n - (i+1)+1 by omega,List.range'_succ,List.filter_cons_of_neg (by simp [hp])]
theorem Ce9 {P Q:Nat->Bool} {n i:Nat} (h:∀ j,i<=j->j < n->P j=Q j):Bm8 P n i=Bm8 Q n i:=by
 unfold Bm8
 congr 1
 exact List.filter_congr fun j hj=>h j (List.mem_range'_1.1 hj).1 (by have:=List.mem_range'_1.1 hj;omega)
theorem Bt1 (P:Nat->Bool) (n i:Nat):(Bm8 P n i).length<=n - i:=by
 unfold Bm8
 rw [List.length_map]
 have:=List.length_filter_le P (List.range' i (n - i))
 rw [List.length_range'] at this
 exact this
theorem filI {P:Nat->Bool} {n:Nat} {body:(Int->Option (List Int))->Int->Option (List Int)}
 (hend:∀ self i,n<=i->body self ((i:Nat):Int)=some []) (hyes:∀ self i,i < n->P i=true->body self ((i:Nat):Int)=Ad1 (i:Int) (self ((i+1:Nat):Int))) (hno:∀ self i,i < n->P i=false->body self ((i:Nat):Int)=self ((i+1:Nat):Int)) :
 ∀ (m i N:Nat),n<=i+m->m < N->Ae3 N body (i:Int)=some (Bm8 P n i)
 | 0,i,N,h,hN=>by
  obtain ⟨M,rfl⟩:∃ K,N=K+1:=⟨N - 1,by omega⟩
  rw [R5,hend _ i (by omega),AT2 (by omega)]
 | m+1,i,N,h,hN=>by
  obtain ⟨M,rfl⟩:∃ K,N=K+1:=⟨N - 1,by omega⟩
  rw [R5]
  by_cases hi:i < n
  ·have ih:=filI hend hyes hno m (i+1) M (by omega) (by omega)
   cases hp:P i
   ·rw [hno _ i hi hp,ih,Cr4 hi hp]
   ·rw [hyes _ i hi hp,ih,BW9 hi hp];rfl
  ·rw [hend _ i (by omega),AT2 (by omega)]
theorem CT8 {R:Type} {P:Nat->Bool} {n:Nat} {body:(Sl Int->Int->Option R)->Sl Int->Int->Option R} {k:Sl Int->Option R}
 (hend:∀ self x i,n<=i->x.n<=3000000->body self x ((i:Nat):Int)=k x) (hyes:∀ self x i,i < n->x.n<=3000000->P i=true->body self x ((i:Nat):Int)=self (x.push (i:Int)) ((i+1:Nat):Int)) (hno:∀ self x i,i < n->x.n<=3000000->P i=false->body self x ((i:Nat):Int)=self x ((i+1:Nat):Int)) :
 ∀ (m i:Nat) (x:Sl Int) (N:Nat),n<=i+m->m < N->x.n+m<=3000000->∃ y,V9 N body x (i:Int)=k y/\y.toList=x.toList ++ Bm8 P n i
 | 0,i,x,N,h,hN,hx=>by
  obtain ⟨M,rfl⟩:∃ K,N=K+1:=⟨N - 1,by omega⟩
  exact ⟨x,by rw [E8,hend _ x i (by omega) (by omega)],by rw [AT2 (by omega),List.append_nil]⟩
 | m+1,i,x,N,h,hN,hx=>by
  obtain ⟨M,rfl⟩:∃ K,N=K+1:=⟨N - 1,by omega⟩
  rw [E8]
  by_cases hi:i < n
  ·cases hp:P i
   ·obtain ⟨y,h1,h2⟩:=CT8 hend hyes hno m (i+1) x M (by omega) (by omega) (by omega)
    exact ⟨y,by rw [hno _ x i hi (by omega) hp,h1],by rw [h2,Cr4 hi hp]⟩
   ·obtain ⟨y,h1,h2⟩:=CT8 hend hyes hno m (i+1) (x.push (i:Int)) M (by omega) (by omega) (by show x.n+1+m<=_;omega)
    exact ⟨y,by rw [hyes _ x i hi (by omega) hp,h1],by rw [h2,Bc2,BW9 hi hp];simp⟩
  ·exact ⟨x,by rw [hend _ x i (by omega) (by omega)],by rw [AT2 (by omega),List.append_nil]⟩
theorem CA8 {N:Nat} {l m:Sl Int} (hN:l.n < N) (hs:l.n < 10000000):∃ b,S6 N l m=some b/\(b=true ↔ l.toList=m.toList):=by
 rw [tl_eq]
 unfold S6
 by_cases hn:l.n=m.n
 case neg=>exact ifT (by simp;omega) ⟨false,rfl,by simp,fun h=>absurd h.1 hn⟩
 refine ifF (by simp [hn]) ?_
 refine Av7 (fun i x1=>x1=(i:Int)/\∀ j,j < i->l.g j=m.g j) l.n _ hN ⟨rfl,fun j hj=>absurd hj (by omega)⟩ ?_
 rintro self i x1 hi ⟨rfl,h⟩ hs2
 by_cases hl:i < l.n
 ·refine ifT (by simp;omega) (ifT (by omega) ?_)
  rw [Int.toNat_natCast]
  by_cases e:l.g i=m.g i
  ·refine ifF (by simp [e]) (hs2 hl _ ⟨C7 (by omega),fun j hj=>?_⟩)
   by_cases e2:j=i
   ·subst e2;exact e
   ·exact h j (by omega)
  ·exact ifT (by simp [e]) ⟨false,rfl,by simp,fun h=>absurd (h.2 i hl) e⟩
 ·exact ifF (by simp;omega) ⟨true,rfl,fun _=>⟨hn,fun j hj=>h j (by omega)⟩,fun _=>rfl⟩
theorem Bc3 {N:Nat} {l m:Sl Int} (hN:l.n < N) (hs:l.n < 10000000) (h:l.toList=m.toList):S6 N l m=some true:=by
 obtain ⟨b,e,hb⟩:=CA8 (m:=m) hN hs
 rw [e,hb.2 h]
theorem AR2 {N:Nat} (L:List Int) (hL:L.length < 100000):∃ s,I9 N L=some s/\s.toList=L:=by
 have:∀ (L:List Int) (x:Sl Int),x.n+L.length < 100000->∃ s,K4 L (fun (self1:Sl Int->Option (Sl Int)) (x1:Int) (z1:Sl Int)=>
  if ((z1.n+(Sl.of [x1]:Sl Int).n) * 8<=140737488355328/\z1.n+(Sl.of [x1]:Sl Int).n<=140737488355328) then
   self1 (z1.push x1)
  else none
  ) (fun (z1:Sl Int)=>some z1) x=some s/\s.toList=x.toList ++ L:=by
  intro L
  induction L with
  | nil=>exact fun x _=>⟨x,rfl,by simp⟩
  | cons a L ih=>
   intro x hx
   simp only [List.length_cons] at hx
   obtain ⟨s,h1,h2⟩:=ih (x.push a) (by show x.n+1+_ < _;omega)
   refine ⟨s, ?_,by rw [h2,Bc2];simp⟩
   rw [K4,if_pos (by show (x.n+1) * 8<=_/\x.n+1<=_;omega)]
   exact h1
 obtain ⟨s,h1,h2⟩:=this L (Sl.nil:Sl Int) (by show 0+_ < _;omega)
 refine ⟨s, ?_,by rw [h2];rfl⟩
 unfold I9 G2
 rw [h1];rfl
theorem BF9 {N:Nat} (L:List Int) (hL:L.length < 100000):∃ s,P1 N L=some s/\s.toList=L:=AR2 (N:=N) L hL
def Ap0:List Int->Int × Int × Bool
 | []=>(0,0,false)
 | a :: l=>(a,(a :: l).getLast (by simp),true)
theorem BG0 {N:Nat} (L:List Int):X1 N L=some ((⟨(Ap0 L).1,(Ap0 L).2.1⟩:G3),(Ap0 L).2.2):=by
 have h:∀ (L:List Int) (a b:Int),K4 L (fun (self1:Int × Int × Bool->Option (G3 × Bool)) (x1:Int) (z1:Int × Int × Bool)=>
  if (!z1.2.2)=true then
   self1 (x1,x1,true)
  else
   self1 (z1.1,x1,z1.2.2)
  ) (fun (z1:Int × Int × Bool)=>
   some ((⟨z1.1,z1.2.1⟩:G3),z1.2.2)
  ) (a,b,true)=some ((⟨a,(b :: L).getLast (by simp)⟩:G3),true):=by
  intro L
  induction L with
  | nil=>exact fun a b=>rfl
  | cons c L ih=>
   intro a b
   rw [K4,if_neg (by simp),ih a c]
   simp
 unfold X1
 cases L with
 | nil=>rfl
 | cons a L=>
  rw [K4,if_pos (by simp),h L a a]
  rfl
theorem Bc4 {N:Nat} (s:Sl Int) (hs:s.n < 1000000):S7 N s=some ((⟨(Ap0 s.toList).1,(Ap0 s.toList).2.1⟩:O5),(Ap0 s.toList).2.2):=by
 unfold S7
 by_cases h0:s.n=0
 ·rw [if_pos (by simp [h0]),show s.toList=[] by unfold Sl.toList;rw [h0];rfl];rfl
 ·rw [if_neg (by simp [h0]),show IntKind.wrap .i64 ((s.n:Int) - 1)=((s.n - 1:Nat):Int) from CS8 (by omega) (by omega),if_pos (by omega),Int.toNat_natCast]
  have h2:=S8 s
  have hg:∀ i (h:i < s.toList.length),s.toList[i]=s.g i:=fun i h=>by simp [Sl.toList]
  rcases e:s.toList with _ | ⟨a,l⟩
  ·rw [e] at h2;exact absurd h2.symm h0
  ·have e0:s.g 0=a:=by rw [<- hg 0 (by omega)];simp [e]
   have e1:s.g (s.n - 1)=(a :: l).getLast (by simp):=by
    rw [<- hg (s.n - 1) (by omega),List.getLast_eq_getElem]
    simp only [e] at h2 ⊢
    congr 1
    omega
   rw [e0,e1];rfl
end Go.AM
set_option linter.unusedVariables false
namespace Go.AM
open Go.Proofs
def dep:Nat->Pat->Prop
 | 0,_=>False
 | d+1,p=>p.L.n<=40/\∀ i,i < p.L.n->dep d (p.L.g i)
theorem CE2:∀ (d:Nat) (p:Pat),dep d p->∀ e,d<=e->dep e p
 | 0,_,h,_,_=>h.elim
 | d+1,p,h,0,he=>by omega
 | d+1,p,h,e+1,he=>⟨h.1,fun i hi=>CE2 d _ (h.2 i hi) e (by omega)⟩
theorem BG1 {N:Nat} (hN:1000<=N):∀ (d:Nat),d<=40->∀ (p:Pat) (M:Nat),N+d+2<=M->∃ r:Nat,Ab2 M p ((40 - d:Nat):Int)=some (r:Int)/\40 - d < r/\r<=41/\(r<=40->dep (d+1) p)
 | d,hd,p,0,hM=>by omega
 | d,hd,p,M+1,hM=>by
  have:∃ x,Ab2 (M+1) p ((40 - d:Nat):Int)=some x/\∃ r:Nat,x=(r:Int)/\40 - d < r/\r<=41/\(r<=40->dep (d+1) p):=by
   show ∃ x,Ad3 (Ab2 M) M p _=some x/\_
   unfold Ad3
   rw [C7 (by omega)]
   refine Aa2 (fun i x1 x2=>x2=(i:Int)/\∃ k:Nat,x1=(k:Int)/\40 - d+1+i<=k/\k<=41/\i<=p.L.n/\(k<=40->∀ j,j < i->dep d (p.L.g j))) 41 _ (by omega) ⟨rfl,40 - d+1,rfl,by omega,by omega,by omega,fun _ j hj=>absurd hj (by omega)⟩ ?_
   rintro self i x1 x2 hi ⟨rfl,k,rfl,h1,h2,h3,h4⟩ hs
   by_cases hc:i < p.L.n/\k<=40
   ·refine ifT (by simp only [Bool.and_eq_true,decide_eq_true_eq];omega) (ifT (by omega) ?_)
    obtain ⟨r,hr,r1,r2,r3⟩:=BG1 hN (40 - k) (by omega) (p.L.g i) M (by omega)
    rw [show ((40 - (40 - k):Nat):Int)=(k:Int) by omega] at hr
    refine B7 (by rw [Int.toNat_natCast];exact hr) (hs (by omega) _ _ ⟨C7 (by omega),r,rfl,by omega,r2,by omega,fun hr40 j hj=>?_⟩)
    by_cases e:j=i
    ·subst e;exact CE2 _ _ (r3 hr40) d (by omega)
    ·exact h4 hc.2 j (by omega)
   ·refine ifF (by simp only [Bool.and_eq_true,decide_eq_true_eq];omega) ⟨_,rfl,k,rfl,by omega,h2,fun hk=>⟨by omega,fun j hj=>h4 hk j (by omega)⟩⟩
  obtain ⟨x,h1,r,rfl,h2⟩:=this
  exact ⟨r,h1,h2⟩
theorem Bc5:∀ (d:Nat) (p:Pat),dep d p->∀ M,100+d<=M->∃ r,W6 M p=some r
 | 0,p,h,M,_=>h.elim
 | d+1,p,h,0,hM=>by omega
 | d+1,p,h,M+1,hM=>by
  suffices ∃ r,W6 (M+1) p=some r/\True by obtain ⟨r,h,_⟩:=this;exact ⟨r,h⟩
  show ∃ x,U7 (W6 M) M p=some x/\_
  unfold U7
  have hn:=h.1
  refine Aa2 (fun i x1 x2=>x2=(i:Int)) p.L.n _ (by omega) rfl ?_
  rintro self i x1 x2 hi rfl hs
  by_cases hl:i < p.L.n
  ·obtain ⟨r,hr⟩:=Bc5 d (p.L.g i) (h.2 i hl) M (by omega)
   exact ifT (by simp;omega) (ifT (by omega) (B7 (by rw [Int.toNat_natCast];exact hr) (hs hl _ _ (C7 (by omega)))))
  ·exact ifF (by simp;omega) ⟨_,rfl,trivial⟩
theorem CA9 {N:Nat} (hN:2000<=N) (p:Pat):∃ r:Nat,Aq8 N p=some (r:Int)/\(r<=40->dep 41 p):=by
 obtain ⟨r,h1,_,_,h2⟩:=BG1 (N:=1000) (by omega) 40 (by omega) p N (by omega)
 exact ⟨r,by unfold Aq8;rw [show Ab2 N p 0=some (r:Int) from h1];rfl,h2⟩
theorem Bt2 {N:Nat} (hN:2000<=N) (laws:Sl Law):∃ r,Ac3 N laws=some r:=by
 suffices ∃ r,Ac3 N laws=some r/\True by obtain ⟨r,h,_⟩:=this;exact ⟨r,h⟩
 unfold Ac3
 refine Aa2 (fun i x1 x2=>x2=(i:Int)) 301 _ (by omega) rfl ?_
 rintro self i x1 x2 hi rfl hs
 by_cases hc:i < laws.n/\i<=300
 ·refine ifT (by simp only [Bool.and_eq_true,decide_eq_true_eq];omega) (ifT (by omega) ?_)
  refine Aa2 (fun j x7 x8=>x8=(j:Int)) 2 _ (by omega) rfl ?_
  rintro self2 j x7 x8 hj rfl hs2
  by_cases hl:j < 2
  ·refine ifT (by show decide ((j:Int) < ((2:Nat):Int))=true;simp;omega) (ifT (by show (0:Int)<=(j:Int)/\(j:Int) < ((2:Nat):Int);omega) ?_)
   obtain ⟨r,hr,hd⟩:=CA9 hN ((Sl.of [(laws.g (i:Int).toNat).Left,(laws.g (i:Int).toNat).Right]:Sl Pat).g (j:Int).toNat)
   refine B7 hr ?_
   by_cases h40:r<=40
   ·obtain ⟨q,hq⟩:=Bc5 41 _ (hd h40) N (by omega)
    exact ifT (by simp;omega) (B7 hq (hs2 hl _ _ (C7 (by omega))))
   ·exact ifF (by simp;omega) (hs2 hl _ _ (C7 (by omega)))
  ·exact ifF (by show ¬ decide ((j:Int) < ((2:Nat):Int))=true;simp;omega) (hs (by omega) _ _ (C7 (by omega)))
 ·exact ifF (by simp only [Bool.and_eq_true,decide_eq_true_eq];omega) ⟨_,rfl,trivial⟩
theorem Ar6 {N:Nat} (hN:3000000<=N) {laws:Sl Law} (hl:P5 laws) {v w:Sl Sound} (hv:okA v) (hw:okA w) :
 ∃ e,H8 N laws (Sl.of [v,w]:Sl (Sl Sound))=some e/\P4 N laws v w=some e/\(e=0 ↔ Av4 N laws/\wOk v/\wOk w):=by
 obtain ⟨e,e1,e2,he⟩:=AA8 hN hl
 unfold H8 P4
 rw [e1,e2,Option.bind_some,Option.bind_some]
 by_cases h0:e=0
 case neg=>
  rw [if_pos (by simpa using h0),if_pos (by simpa using h0)]
  exact ⟨e,rfl,rfl,fun h=>absurd h h0,fun h=>absurd (Ar5 he (lawsE_zero.2 h.1)) h0⟩
 rw [if_neg (by simp [h0]),if_neg (by simp [h0])]
 subst h0
 have hok:=lawsE_zero.1 he
 obtain ⟨a,a1,ha⟩:=Bm6 (N:=N) hN (l:=(Sl.of [v,w]:Sl (Sl Sound))) (by show 2 < _;omega) fun i hi=>by
  match i,hi with
  | 0,_=>exact hv
  | 1,_=>exact hw
 obtain ⟨b,b1,hb⟩:=Ar4 (N:=N) (by omega) hv
 obtain ⟨c,c1,hc⟩:=Ar4 (N:=N) (by omega) hw
 rw [b1,c1,Option.bind_some]
 refine ⟨a,a1, ?_, ?_⟩
 ·rcases ha with ⟨rfl,h⟩ | ⟨i,hi,h1,h2,h3⟩
  ·rw [if_neg (by rw [(Aa3 hb).2 (h 0 (by show 0 < 2;omega))];decide),Option.bind_some,(Aa3 hc).2 (h 1 (by show 1 < 2;omega))]
  ·match i,hi with
   | 0,_=>
    obtain rfl:a=b:=AJ7 h2 hb
    rw [if_pos (by simpa using h3)]
   | 1,_=>
    obtain rfl:a=c:=AJ7 h2 hc
    rw [if_neg (by rw [(Aa3 hb).2 (h1 0 (by omega))];decide),Option.bind_some]
 ·rcases ha with ⟨rfl,h⟩ | ⟨i,hi,h1,h2,h3⟩
  ·exact ⟨fun _=>⟨hok,h 0 (by show 0 < 2;omega),h 1 (by show 1 < 2;omega)⟩,fun _=>rfl⟩
  ·refine ⟨fun h=>absurd h h3,fun ⟨_,h4,h5⟩=>?_⟩
   match i,hi with
   | 0,_=>exact (Aa3 h2).2 h4
   | 1,_=>exact (Aa3 h2).2 h5
theorem AF5 {laws:Sl Law} (hl:P5 laws) (k:Nat):P5 (laws.drop k):=fun i hi=>hl _ (by have hi:i < laws.n - k:=hi;omega)
abbrev CM4 (l:Sl T3):Prop:=∀ j,j < l.n->okA (l.g j).From/\okA (l.g j).To
def BQ7 (N:Nat) (laws:Sl Law) (l:Sl T3) (i:Nat):Bool:=decide (∀ j,j < l.n->gv N (laws.drop i) (l.g j).From (l.g j).To=true)
theorem AA9 {N:Nat} (hN:3000000<=N) {laws:Sl Law} (hl:P5 laws) (hn:laws.n<=1000) {l:Sl T3} (ho:CM4 l) (hln:l.n<=1000) :
 D5 N laws l=some (Bm8 (BQ7 N laws l) (laws.n+1) 0):=by
 have inner:∀ (self3:Int->Option (List Int)) (i:Nat),i<=laws.n->∀ (m j M:Nat),l.n<=j+m->m < M->(∀ q,q < j->gv N (laws.drop i) (l.g q).From (l.g q).To=true) ->
  Ae3 M (fun (self4:Int->Option (List Int)) (x4:Int)=>
   if (decide (x4 < (l.n:Int)))=true then
    if ((0:Int)<=x4/\x4 < (l.n:Int)) then
     if ((0:Int)<=(i:Int)/\(i:Int)<=(laws.n:Int)) then
      (F6 N (laws.drop (i:Int).toNat) (l.g x4.toNat).From (l.g x4.toNat).To).bind fun y9=>
      if (!y9)=true then
       self3 (IntKind.wrap .i64 ((i:Int)+1))
      else
       self4 (IntKind.wrap .i64 (x4+1))
     else none
    else none
   else
    Ad1 (i:Int) (
     self3 (IntKind.wrap .i64 ((i:Int)+1))
     )
   ) (j:Int)=if BQ7 N laws l i=true then Ad1 (i:Int) (self3 ((i+1:Nat):Int)) else self3 ((i+1:Nat):Int):=by
  intro self3 i hi m
  induction m with
  | zero=>
   intro j M h hM hq
   obtain ⟨M,rfl⟩:∃ K,M=K+1:=⟨M - 1,by omega⟩
   rw [R5,if_neg (by simp;omega),if_pos (by unfold BQ7;exact decide_eq_true fun q hq2=>hq q (by omega)),C7 (by omega)]
  | succ m ih=>
   intro j M h hM hq
   obtain ⟨M,rfl⟩:∃ K,M=K+1:=⟨M - 1,by omega⟩
   by_cases hj:j < l.n
   case neg=>rw [R5,if_neg (by simp;omega),if_pos (by unfold BQ7;exact decide_eq_true fun q hq2=>hq q (by omega)),C7 (by omega)]
   have hg:=(Bm7 (N:=N) hN (AF5 hl i) (SE.refl _) (SE.refl (l.g j).From) (ho j hj).1 (SE.refl (l.g j).To)).1
   rw [R5,if_pos (by simp;omega),if_pos (by omega),if_pos (by omega),Int.toNat_natCast,Int.toNat_natCast,hg,Option.bind_some]
   cases hb:gv N (laws.drop i) (l.g j).From (l.g j).To
   ·rw [if_pos nf,if_neg,C7 (by omega)]
    unfold BQ7
    intro h
    have:=of_decide_eq_true h j hj
    rw [hb] at this;cases this
   ·rw [if_neg (by simp),C7 (i:=j) (by omega)]
    exact ih (j+1) M (by omega) (by omega) fun q hq2=>by
     by_cases e:q=j
     ·subst e;exact hb
     ·exact hq q (by omega)
 unfold D5
 rw [C7 (by omega)]
 refine filI (P:=BQ7 N laws l) (n:=laws.n+1) ?_ ?_ ?_ (laws.n+1) 0 N (by omega) (by omega)
 ·intro self i hi
  rw [if_neg (by simp;omega)]
 ·intro self i hi hp
  have e:=inner self i (by omega) l.n 0 N (by omega) (by omega) fun q hq=>absurd hq (by omega)
  rw [if_pos hp] at e
  rw [if_pos (by simp;omega)];exact e
 ·intro self i hi hp
  have e:=inner self i (by omega) l.n 0 N (by omega) (by omega) fun q hq=>absurd hq (by omega)
  rw [if_neg (by simp [hp])] at e
  rw [if_pos (by simp;omega)];exact e
def plL (N:Nat) (laws:Sl Law) (v w:Sl Sound):List Int:=Bm8 (fun i=>gv N (laws.drop i) v w) (laws.n+1) 0
theorem BQ8 (N:Nat) (laws:Sl Law) (l:Sl T3) (h:l.n=1):Bm8 (BQ7 N laws l) (laws.n+1) 0=plL N laws (l.g 0).From (l.g 0).To:=by
 refine Ce9 fun i _ _=>?_
 unfold BQ7
 rw [Bool.eq_iff_iff,decide_eq_true_eq]
 constructor
 ·exact fun g=>g 0 (by omega)
 ·intro g j hj
  obtain rfl:j=0:=by omega
  exact g
theorem Bc6 {N:Nat} (hN:3000000<=N) {laws:Sl Law} (hl:P5 laws) (hn:laws.n<=1000) {v w:Sl Sound} (hv:okA v) :
 ∃ s,V7 N laws v w=some s/\s.toList=plL N laws v w:=by
 have hg:=fun i=>(Bm7 (N:=N) hN (AF5 hl i) (SE.refl _) (SE.refl v) hv (SE.refl w)).2.1
 unfold V7
 obtain ⟨y,h1,h2⟩:=CT8 (P:=fun i=>gv N (laws.drop i) v w) (n:=laws.n+1) (k:=fun x=>some x) (body:=fun self1 (x1:Sl Int) (x2:Int)=>
  if (decide (x2<=(laws.n:Int)))=true then
   if ((0:Int)<=x2/\x2<=(laws.n:Int)) then
    (F9 N (laws.drop x2.toNat) v w).bind fun y3=>
    if y3=true then
     if ((x1.n+(Sl.of [x2]:Sl Int).n) * 8<=140737488355328/\x1.n+(Sl.of [x2]:Sl Int).n<=140737488355328) then
      self1 (x1.push x2) (IntKind.wrap .i64 (x2+1))
     else none
    else
     self1 x1 (IntKind.wrap .i64 (x2+1))
   else none
  else
   some x1) (fun self x i hi _=>by rw [if_neg (by simp;omega)])
  (fun self x i hi hx hp=>by
   rw [if_pos (by simp;omega),if_pos (by omega),Int.toNat_natCast,hg i,Option.bind_some,if_pos hp,if_pos (by show (x.n+1) * 8<=_/\x.n+1<=_;omega),C7 (by omega)])
  (fun self x i hi hx hp=>by
   have hp:gv N (laws.drop i) v w=false:=hp
   rw [if_pos (by simp;omega),if_pos (by omega),Int.toNat_natCast,hg i,Option.bind_some,if_neg (by simp [hp]),C7 (by omega)])
  (laws.n+1) 0 (Sl.nil:Sl Int) N (by omega) (by omega) (by show 0+_<=_;omega)
 exact ⟨y,h1,h2⟩
theorem Cr5 (N:Nat) (laws:Sl Law) (v w:Sl Sound):(plL N laws v w).length<=laws.n+1:=Bt1 _ _ 0
theorem CE3 {s:Sl Int} {L:List Int} (h:s.toList=L):s.n=L.length:=by rw [<- h,S8]
abbrev oneP (v w:Sl Sound):Sl T3:=Sl.of [(⟨v,w⟩:T3)]
theorem BX0 {v w:Sl Sound} (hv:okA v) (hw:okA w):CM4 (oneP v w):=fun j hj=>by
 match j,hj with
 | 0,_=>exact ⟨hv,hw⟩
theorem Bm9 {N:Nat} (hN:3000000<=N) {laws:Sl Law} (hl:P5 laws) {v w:Sl Sound} (hv:okA v) (hw:okA w) :
 ∃ e s s',S3 N laws v w=some (s,e)/\Q8 N laws v w=some (s',e)/\(e=0 ↔ Av4 N laws/\wOk v/\wOk w)/\s.toList=(if e=0 then plL N laws v w else [])/\s'.toList=(if e=0 then plL N laws v w else [])/\s.n<=1000/\s'.n<=1000:=by
 obtain ⟨e,e1,e2,he⟩:=Ar6 hN hl hv hw
 unfold S3 Q8
 rw [e1,e2,Option.bind_some,Option.bind_some]
 by_cases h0:e=0
 case neg=>
  rw [if_pos (by simpa using h0),if_pos (by simpa using h0)]
  exact ⟨e,_,_,rfl,rfl,he,(if_neg h0).symm,(if_neg h0).symm,Nat.zero_le _,Nat.zero_le _⟩
 have h64:=(he.1 h0).1.1
 rw [if_neg (by simp [h0]),if_neg (by simp [h0]),G7,Option.bind_some]
 have hp:=AA9 hN hl (by omega) (BX0 hv hw) (by show 1<=_;omega)
 rw [BQ8 _ _ _ rfl] at hp
 have hlen:=Cr5 N laws v w
 obtain ⟨s,s1,s2⟩:=AR2 (N:=N) (plL N laws v w) (by omega)
 obtain ⟨s',t1,t2⟩:=Bc6 (N:=N) (w:=w) hN hl (by omega) hv
 have hp:D5 N laws (Sl.of [(⟨v,w⟩:T3)])=some (plL N laws v w):=hp
 rw [hp,Option.bind_some,s1,t1]
 exact ⟨e,s,s',by rw [h0];rfl,by rw [h0];rfl,he,s2.trans (if_pos h0).symm,t2.trans (if_pos h0).symm,by rw [CE3 s2];omega,by rw [CE3 t2];omega⟩
theorem CB0 {N:Nat} (hN:3000000<=N) {laws:Sl Law} (hl:P5 laws) {v w:Sl Sound} (hv:okA v) (hw:okA w) :
 ∃ e L,Ac4 N laws v w=some ((⟨(Ap0 L).1,(Ap0 L).2.1⟩:G3),(Ap0 L).2.2,e)/\Ar3 N laws v w=some ((⟨(Ap0 L).1,(Ap0 L).2.1⟩:O5),(Ap0 L).2.2,e)/\(e=0 ↔ Av4 N laws/\wOk v/\wOk w)/\L=(if e=0 then plL N laws v w else []):=by
 obtain ⟨e,s,s',_,p2,he,_,hs',_,hs'n⟩:=Bm9 hN hl hv hw
 obtain ⟨e',e1,e2,he'⟩:=Ar6 hN hl hv hw
 refine ⟨e,_, ?_, ?_,he,rfl⟩
 ·unfold Ac4
  rw [e1,Option.bind_some]
  have hee:e' = e:=by
   have:Q8 N laws v w=some (s',e):=p2
   unfold Q8 at this
   rw [e2,Option.bind_some] at this
   by_cases h0:e' = 0
   ·rw [h0];exact (he.2 (he'.1 h0)).symm
   ·rw [if_pos (by simpa using h0)] at this
    exact congrArg Prod.snd (Option.some.inj this)
  subst hee
  by_cases h0:e' = 0
  case neg=>
   rw [if_pos (by simpa using h0),if_neg h0];rfl
  have h64:=(he.1 h0).1.1
  have hp:=AA9 hN hl (by omega) (BX0 hv hw) (by show 1<=_;omega)
  rw [BQ8 _ _ _ rfl] at hp
  have hp:D5 N laws (Sl.of [(⟨v,w⟩:T3)])=some (plL N laws v w):=hp
  rw [if_neg (by simp [h0]),if_pos h0,G7,Option.bind_some,hp,Option.bind_some,BG0,Option.bind_some,h0]
 ·unfold Ar3
  rw [p2,Option.bind_some,Bc4 s' (by omega),hs',Option.bind_some]
theorem Cf0 {N:Nat} (hN:3000000<=N) {laws:Sl Law} (hl:P5 laws) {v w:Sl Sound} (hv:okA v) (hw:okA w) :
 ∃ e b,S4 N laws v w=some (b,e)/\Ai2 N laws v w=some (b,e)/\(e=0 ↔ Av4 N laws/\wOk v/\wOk w)/\b=(if e=0 then gv N laws v w else false):=by
 obtain ⟨e,e1,e2,he⟩:=Ar6 hN hl hv hw
 unfold S4 Ai2
 rw [e1,e2,Option.bind_some,Option.bind_some]
 by_cases h0:e=0
 case neg=>
  rw [if_pos (by simpa using h0),if_pos (by simpa using h0)]
  exact ⟨e,_,rfl,rfl,he,(if_neg h0).symm⟩
 obtain ⟨g1,g2,_⟩:=Bm7 (N:=N) hN hl (SE.refl _) (SE.refl v) hv (SE.refl w)
 rw [if_neg (by simp [h0]),if_neg (by simp [h0]),g1,g2]
 exact ⟨e,_,by rw [h0];rfl,by rw [h0];rfl,he,(if_pos h0).symm⟩
def Cs3 (laws:Sl Law) (i:Nat):Sl Law:=(laws.take i).app (laws.drop (i+1))
theorem Cf1 {laws:Sl Law} (hl:P5 laws) {i:Nat} (hi:i < laws.n):P5 (Cs3 laws i):=fun j hj=>by
 have hj:j < i+(laws.n - (i+1)):=hj
 show Bs8 (if j < i then laws.g j else laws.g (i+1+(j - i)))
 split
 ·exact hl _ (by omega)
 ·exact hl _ (by omega)
theorem BQ9 {N:Nat} {s:Sl (Sl Law)} (hn:s.n < 1000) (hN:1000<=N) (hs:∀ i,i < s.n->(s.g i).n<=3000000) :
 C0 N s=some (Cp8 s s.n):=by
 suffices h:∃ r,C0 N s=some r/\r=Cp8 s s.n by obtain ⟨r,h,rfl⟩:=h;exact h
 unfold C0
 refine Aa2 (fun (i:Nat) (x1 x2:Int)=>x2=(i:Int)/\0<=x1/\x1<=(i:Int) * 3000000) s.n _ (by omega) ⟨rfl,Int.le_refl 0,by simp⟩ ?_
 rintro self i x1 x2 hi ⟨rfl,h0,h1⟩ hs2
 by_cases hl:i < s.n
 ·have:=hs i hl
  refine ifT (by simp;omega) (ifT (by omega) ?_)
  rw [Int.toNat_natCast,F2 (by omega) (by omega)]
  exact ifF (by simp;omega) (hs2 hl _ _ ⟨C7 (by omega),by omega,by omega⟩)
 refine ifF (by simp;omega) (B7 (x:=Sl.nil) ?_ ?_)
 ·unfold I1
  rw [if_pos (by omega)]
 refine Aa2 (fun i x1 x2=>x2=(i:Int)/\x1=Cp8 s i) s.n _ (by omega) ⟨rfl,rfl⟩ ?_
 rintro self i x1 x2 hi ⟨rfl,rfl⟩ hs2
 by_cases hl:i < s.n
 ·have g1:=hs i hl
  have g2:=Cp9 s i (B:=3000000) fun j hj=>hs j (by omega)
  refine ifT (by simp;omega) (ifT ⟨by omega, ?_⟩ (hs2 hl _ _ ⟨C7 (by omega), ?_⟩))
  ·rw [Int.toNat_natCast];omega
  ·rw [Int.toNat_natCast];rfl
 ·exact ifF (by simp;omega) ⟨_,rfl,by congr 1;omega⟩
theorem BX1 {N:Nat} (hN:1000<=N) {a b:Sl Law} (ha:a.n<=3000000) (hb:b.n<=3000000):C0 N (Sl.of [a,b]:Sl (Sl Law))=some (a.app b):=by
 rw [BQ9 (by show 2 < 1000;omega) hN]
 ·show some (((Sl.nil:Sl Law).app a).app b)=_
  rw [CA2 (s:=(Sl.nil:Sl Law)) rfl]
 ·intro i hi
  match i,hi with
  | 0,_=>exact ha
  | 1,_=>exact hb
def miL (N:Nat) (laws:Sl Law) (v w:Sl Sound):List Int:=if gv N laws v w=true then [] else Bm8 (fun i=>gv N (Cs3 laws i) v w) laws.n 0
theorem Cf2 {N:Nat} (hN:3000000<=N) {laws:Sl Law} (hl:P5 laws) (hn:laws.n<=1000) {v w:Sl Sound} (hv:okA v) :
 R9 N laws v w=some (miL N laws v w)/\∃ s,Ai3 N laws v w=some s/\s.toList=miL N laws v w:=by
 obtain ⟨g1,g2,_⟩:=Bm7 (N:=N) hN hl (SE.refl _) (SE.refl v) hv (SE.refl w)
 have hg:=fun i (hi:i < laws.n)=>Bm7 (N:=N) hN (Cf1 hl hi) (SE.refl _) (SE.refl v) hv (SE.refl w)
 unfold R9 Ai3 miL
 rw [g1,g2,Option.bind_some,Option.bind_some]
 by_cases h0:gv N laws v w=true
 ·rw [if_pos h0,if_pos h0,if_pos h0]
  exact ⟨rfl,_,rfl,rfl⟩
 rw [if_neg h0,if_neg h0,if_neg h0]
 constructor
 ·refine filI (P:=fun i=>gv N (Cs3 laws i) v w) (n:=laws.n) ?_ ?_ ?_ laws.n 0 N (by omega) (by omega)
  ·intro self i hi
   rw [if_neg (by simp;omega)]
  ·intro self i hi hp
   rw [if_pos (by simp;omega),C7 (by omega),if_pos (by omega),Int.toNat_natCast,Int.toNat_natCast,BX1 (by omega) (by show i<=_;omega) (by show laws.n - (i+1)<=_;omega),Option.bind_some]
   show (F6 N (Cs3 laws i) v w).bind _=_
   rw [(hg i hi).1,Option.bind_some,if_pos hp]
  ·intro self i hi hp
   have hp:gv N (Cs3 laws i) v w=false:=hp
   rw [if_pos (by simp;omega),C7 (by omega),if_pos (by omega),Int.toNat_natCast,Int.toNat_natCast,BX1 (by omega) (by show i<=_;omega) (by show laws.n - (i+1)<=_;omega),Option.bind_some]
   show (F6 N (Cs3 laws i) v w).bind _=_
   rw [(hg i hi).1,Option.bind_some,if_neg (by simp [hp])]
 ·obtain ⟨y,h1,h2⟩:=CT8 (P:=fun i=>gv N (Cs3 laws i) v w) (n:=laws.n) (k:=fun x=>some x) (body:=fun self1 (x1:Sl Int) (x2:Int)=>
   if (decide (x2 < (laws.n:Int)))=true then
    if (((((0:Int)<=x2/\x2<=(laws.n:Int))/\(((Sl.of []:Sl Law).n+(laws.take x2.toNat).n) * 200<=140737488355328/\(Sl.of []:Sl Law).n+(laws.take x2.toNat).n<=140737488355328))/\((0:Int)<=(IntKind.wrap .i64 (x2+1))/\(IntKind.wrap .i64 (x2+1))<=(laws.n:Int)))/\((((Sl.of []:Sl Law).app (laws.take x2.toNat)).n+(laws.drop (IntKind.wrap .i64 (x2+1)).toNat).n) * 200<=140737488355328/\((Sl.of []:Sl Law).app (laws.take x2.toNat)).n+(laws.drop (IntKind.wrap .i64 (x2+1)).toNat).n<=140737488355328)) then
     (F9 N (((Sl.of []:Sl Law).app (laws.take x2.toNat)).app (laws.drop (IntKind.wrap .i64 (x2+1)).toNat)) v w).bind fun y4=>
     if y4=true then
      if ((x1.n+(Sl.of [x2]:Sl Int).n) * 8<=140737488355328/\x1.n+(Sl.of [x2]:Sl Int).n<=140737488355328) then
       self1 (x1.push x2) (IntKind.wrap .i64 (x2+1))
      else none
     else
      self1 x1 (IntKind.wrap .i64 (x2+1))
    else none
   else
    some x1) (fun self x i hi _=>by rw [if_neg (by simp;omega)])
   (fun self x i hi hx hp=>by
    rw [if_pos (by simp;omega),C7 (by omega),CA2 (s:=(Sl.of []:Sl Law)) rfl,Int.toNat_natCast,Int.toNat_natCast,if_pos ⟨⟨⟨by omega,by show (0+i) * 200<=_/\0+i<=_;omega⟩,by omega⟩,by show (i+(laws.n - (i+1))) * 200<=_/\i+(laws.n - (i+1))<=_;omega⟩]
    show (F9 N (Cs3 laws i) v w).bind _=_
    rw [(hg i hi).2.1,Option.bind_some,if_pos hp,if_pos (by show (x.n+1) * 8<=_/\x.n+1<=_;omega)])
   (fun self x i hi hx hp=>by
    have hp:gv N (Cs3 laws i) v w=false:=hp
    rw [if_pos (by simp;omega),C7 (by omega),CA2 (s:=(Sl.of []:Sl Law)) rfl,Int.toNat_natCast,Int.toNat_natCast,if_pos ⟨⟨⟨by omega,by show (0+i) * 200<=_/\0+i<=_;omega⟩,by omega⟩,by show (i+(laws.n - (i+1))) * 200<=_/\i+(laws.n - (i+1))<=_;omega⟩]
    show (F9 N (Cs3 laws i) v w).bind _=_
    rw [(hg i hi).2.1,Option.bind_some,if_neg (by simp [hp])])
   laws.n 0 (Sl.nil:Sl Int) N (by omega) (by omega) (by show 0+_<=_;omega)
  exact ⟨y,h1,h2⟩
theorem CM5 (N:Nat) (laws:Sl Law) (v w:Sl Sound):(miL N laws v w).length<=laws.n:=by
 unfold miL
 split
 ·exact Nat.zero_le _
 ·exact Bt1 _ _ 0
theorem Cf3 {N:Nat} (hN:3000000<=N) {laws:Sl Law} (hl:P5 laws) {v w:Sl Sound} (hv:okA v) (hw:okA w) :
 ∃ e s s',S5 N laws v w=some (s,e)/\Ai4 N laws v w=some (s',e)/\(e=0 ↔ Av4 N laws/\wOk v/\wOk w)/\s.toList=(if e=0 then miL N laws v w else [])/\s'.toList=(if e=0 then miL N laws v w else [])/\s.n<=1000:=by
 obtain ⟨e,e1,e2,he⟩:=Ar6 hN hl hv hw
 unfold S5 Ai4
 rw [e1,e2,Option.bind_some,Option.bind_some]
 by_cases h0:e=0
 case neg=>
  rw [if_pos (by simpa using h0),if_pos (by simpa using h0)]
  exact ⟨e,_,_,rfl,rfl,he,(if_neg h0).symm,(if_neg h0).symm,Nat.zero_le _⟩
 have h64:=(he.1 h0).1.1
 rw [if_neg (by simp [h0]),if_neg (by simp [h0]),Ag8,Option.bind_some]
 obtain ⟨hp,s',t1,t2⟩:=Cf2 (N:=N) (w:=w) hN hl (by omega) hv
 have hlen:=CM5 N laws v w
 obtain ⟨s,s1,s2⟩:=BF9 (N:=N) (miL N laws v w) (by omega)
 rw [hp,Option.bind_some,s1,t1]
 exact ⟨e,s,s',by rw [h0];rfl,by rw [h0];rfl,he,s2.trans (if_pos h0).symm,t2.trans (if_pos h0).symm,by rw [CE3 s2];omega⟩
end Go.AM
