/- What a law's walk and its plain proof need, part 9: no condition of its own. -/
import Derived.Test.YtegikiijkjlikaaGreatDoorBmH
import Derived.Test.YtegikiijkjlikaaGreatDoorBmG
set_option linter.unusedSimpArgs false
set_option linter.unusedVariables false
set_option linter.unusedSectionVars false
set_option linter.unusedVariables false
namespace Go.AM
open Go.Proofs
theorem Cf4:P5 (Sl.nil:Sl Law):=fun i hi=>absurd hi (Nat.not_lt_zero i)
theorem Cf5 (N:Nat):Av4 N (Sl.nil:Sl Law):=⟨Nat.zero_le _,fun i hi=>absurd hi (Nat.not_lt_zero i)⟩
def Bt3 (l:Sl T3):Prop:=∀ j,j < l.n->wOk (l.g j).From/\wOk (l.g j).To
theorem BG2 {N:Nat} (hN:3000000<=N) {laws:Sl Law} (hl:P5 laws) {l:Sl T3} (ho:CM4 l) :
 ∃ e,J6 N laws l=some e/\Ag1 N laws l=some e/\(e=0 ↔ Av4 N laws/\l.n<=256/\Bt3 l):=by
 obtain ⟨e,e1,e2,he⟩:=AA8 hN hl
 unfold J6 Ag1
 rw [e1,e2,Option.bind_some,Option.bind_some]
 by_cases h0:e=0
 case neg=>
  rw [if_pos (by simpa using h0),if_pos (by simpa using h0)]
  exact ⟨e,rfl,rfl,fun h=>absurd h h0,fun h=>absurd (Ar5 he (lawsE_zero.2 h.1)) h0⟩
 rw [if_neg (show ¬ (e != 0)=true by simp [h0]),if_neg (show ¬ (e != 0)=true by simp [h0])]
 subst h0
 have hok:=lawsE_zero.1 he
 by_cases hn:256 < l.n
 ·have hc:decide ((256:Int) < (l.n:Int))=true:=by simp;omega
  rw [if_pos hc,if_pos hc]
  exact ⟨12,rfl,rfl,fun h=>absurd h (by decide),fun h=>by have:=h.2.1;omega⟩
 have hc:¬ decide ((256:Int) < (l.n:Int))=true:=by simp;omega
 rw [if_neg hc,if_neg hc]
 clear hc
 have hc:∀ j,∃ a,j < l.n->H8 N (Sl.nil:Sl Law) (Sl.of [(l.g j).From,(l.g j).To]:Sl (Sl Sound))=some a/\P4 N (Sl.nil:Sl Law) (l.g j).From (l.g j).To=some a/\(a=0 ↔ wOk (l.g j).From/\wOk (l.g j).To):=by
  intro j
  by_cases hj:j < l.n
  ·obtain ⟨a,h1,h2,h3⟩:=Ar6 hN Cf4 (ho j hj).1 (ho j hj).2
   exact ⟨a,fun _=>⟨h1,h2,h3.trans ⟨fun h=>h.2,fun h=>⟨Cf5 N,h⟩⟩⟩⟩
  ·exact ⟨0,fun h=>absurd h hj⟩
 obtain ⟨f,hf⟩:=Classical.axiomOfChoice hc
 let Q:Int->Prop:=fun e=>(e=0/\Bt3 l) \/ (∃ i,i < l.n/\(∀ j,j < i->f j=0)/\e=f i/\e ≠ 0)
 have hQ:∀ a b,Q a->Q b->a=b:=by
  rintro a b (⟨rfl,h⟩ | ⟨i,hi,h1,rfl,h3⟩) (⟨rfl,h'⟩ | ⟨j,hj,h1',rfl,h3'⟩)
  ·rfl
  ·exact absurd ((hf j hj).2.2.2 (h j hj)) h3'
  ·exact absurd ((hf i hi).2.2.2 (h' i hi)) h3
  ·by_cases g:i < j
   ·exact absurd (h1' i g) h3
   ·by_cases g' : j < i
    ·exact absurd (h1 j g') h3'
    ·rw [show i=j by omega]
 have p1:∃ e,(Ae3 N (fun (self1:Int->Option Int) (x1:Int)=>
  if (decide (x1 < (l.n:Int)))=true then
   if ((0:Int)<=x1/\x1 < (l.n:Int)) then
    (H8 N (Sl.nil:Sl Law) (Sl.of [(l.g x1.toNat).From,(l.g x1.toNat).To]:Sl (Sl Sound))).bind fun y4=>
    if (y4 != 0)=true then
     some y4
    else
     self1 (IntKind.wrap .i64 (x1+1))
   else none
  else
   some 0
  ) 0)=some e/\Q e:=by
  refine Av7 (fun i x1=>x1=(i:Int)/\∀ j,j < i->f j=0) l.n _ (by omega) ⟨rfl,fun j hj=>absurd hj (by omega)⟩ ?_
  rintro self i x1 hi ⟨rfl,h⟩ hs
  by_cases hlt:i < l.n
  ·obtain ⟨a1,_,a3⟩:=hf i hlt
   refine ifT (by simp;omega) (ifT (by omega) (B7 (by rw [Int.toNat_natCast];exact a1) ?_))
   by_cases hz:f i=0
   ·refine ifF (by simp [hz]) (hs hlt _ ⟨C7 (by omega),fun j hj=>?_⟩)
    by_cases e:j=i
    ·subst e;exact hz
    ·exact h j (by omega)
   ·exact ifT (by simpa using hz) ⟨_,rfl, .inr ⟨i,hlt,h,rfl,hz⟩⟩
  ·exact ifF (by simp;omega) ⟨0,rfl, .inl ⟨rfl,fun j hj=>(hf j hj).2.2.1 (h j (by omega))⟩⟩
 have p2:∃ e,(Ae3 N (fun (self1:Int->Option Int) (x1:Int)=>
  if (decide (x1 < (l.n:Int)))=true then
   if (((0:Int)<=x1/\x1 < (l.n:Int))/\((0:Int)<=x1/\x1 < (l.n:Int))) then
    (P4 N (Sl.nil:Sl Law) (l.g x1.toNat).From (l.g x1.toNat).To).bind fun y4=>
    if (y4 != 0)=true then
     some y4
    else
     self1 (IntKind.wrap .i64 (x1+1))
   else none
  else
   some 0
  ) 0)=some e/\Q e:=by
  refine Av7 (fun i x1=>x1=(i:Int)/\∀ j,j < i->f j=0) l.n _ (by omega) ⟨rfl,fun j hj=>absurd hj (by omega)⟩ ?_
  rintro self i x1 hi ⟨rfl,h⟩ hs
  by_cases hlt:i < l.n
  ·obtain ⟨_,a1,a3⟩:=hf i hlt
   refine ifT (by simp;omega) (ifT (by omega) (B7 (by rw [Int.toNat_natCast];exact a1) ?_))
   by_cases hz:f i=0
   ·refine ifF (by simp [hz]) (hs hlt _ ⟨C7 (by omega),fun j hj=>?_⟩)
    by_cases e:j=i
    ·subst e;exact hz
    ·exact h j (by omega)
   ·exact ifT (by simpa using hz) ⟨_,rfl, .inr ⟨i,hlt,h,rfl,hz⟩⟩
  ·exact ifF (by simp;omega) ⟨0,rfl, .inl ⟨rfl,fun j hj=>(hf j hj).2.2.1 (h j (by omega))⟩⟩
 obtain ⟨a,h1,g1⟩:=p1
 obtain ⟨b,h2,g2⟩:=p2
 obtain rfl:=hQ a b g1 g2
 refine ⟨a,h1,h2, ?_⟩
 rcases g1 with ⟨rfl,h⟩ | ⟨i,hi,h3,rfl,h5⟩
 ·exact ⟨fun _=>⟨hok,by omega,h⟩,fun _=>rfl⟩
 ·exact ⟨fun h=>absurd h h5,fun h=>absurd ((hf i hi).2.2.2 (h.2.2 i hi)) h5⟩
theorem BG3 {R:Type} (k:Int->Option R):∀ (L:List Int) (z:Int),K4 L (fun (self4:Int->Option R) (x7:Int) (z3:Int)=>self4 x7) k z=k (L.getLastD z)
 | [],z=>rfl
 | a :: L,z=>by rw [K4,BG3 k L a];cases L <;> rfl
def lyF (N:Nat) (laws:Sl Law) (p:T3):Int:=(plL N laws p.From p.To).getLastD (-1)
def lyL (N:Nat) (laws:Sl Law) (l:Sl T3):List Int:=(List.range l.n).map fun i=>lyF N laws (l.g i)
theorem CM6 (L:List Int):L.getLastD (-1)=if (Ap0 L).2.2=true then (Ap0 L).2.1 else -1:=by
 cases L with
 | nil=>rfl
 | cons a L=>
  show _=(a :: L).getLast _
  rw [List.getLastD_eq_getLast?,List.getLast?_eq_some_getLast (by simp)];rfl
theorem Bt4 (N:Nat) (laws:Sl Law) (l:Sl T3) (i:Nat):(List.range (i+1)).map (fun i=>lyF N laws (l.g i))=(List.range i).map (fun i=>lyF N laws (l.g i)) ++ [lyF N laws (l.g i)]:=by
 rw [List.range_succ,List.map_append];rfl
theorem Cf6 {N:Nat} (hN:3000000<=N) {laws:Sl Law} (hl:P5 laws) {l:Sl T3} (ho:CM4 l) :
 ∃ e s s',Aa1 N laws l=some (s,e)/\Ai5 N laws l=some (s',e)/\(e=0 ↔ Av4 N laws/\l.n<=256/\Bt3 l)/\s.toList=(if e=0 then lyL N laws l else [])/\s'.toList=(if e=0 then lyL N laws l else [])/\s.n<=1000:=by
 obtain ⟨e,e1,e2,he⟩:=BG2 hN hl ho
 unfold Aa1 Ai5
 rw [e1,e2,Option.bind_some,Option.bind_some]
 by_cases h0:e=0
 case neg=>
  rw [if_pos (by simpa using h0),if_pos (by simpa using h0)]
  exact ⟨e,_,_,rfl,rfl,he,(if_neg h0).symm,(if_neg h0).symm,Nat.zero_le _⟩
 obtain ⟨hok,h256,hpo⟩:=he.1 h0
 have h64:=hok.1
 rw [if_neg (by simp [h0]),if_neg (by simp [h0])]
 have p1:∃ r,(V9 N (fun (self3:Sl Int->Int->Option ((Sl Int) × Int)) (x3:Sl Int) (x4:Int)=>
  if (decide (x4 < (l.n:Int)))=true then
   if ((0:Int)<=x4/\x4 < (l.n:Int)) then
    (G7 N laws (Sl.of [(l.g x4.toNat)]:Sl T3)).bind fun y4=>
    (D5 N y4.1 y4.2).bind fun L3=>
    K4 L3 (fun self4 (x7:Int) (z3:Int)=>
     self4 x7
     ) (fun (z3:Int)=>
      if ((x3.n+(Sl.of [z3]:Sl Int).n) * 8<=140737488355328/\x3.n+(Sl.of [z3]:Sl Int).n<=140737488355328) then
       self3 (x3.push z3) (IntKind.wrap .i64 (x4+1))
      else none
     ) (-1)
   else none
  else
   some (x3,0)
  ) (Sl.nil:Sl Int) 0)=some r/\r.2=0/\r.1.toList=lyL N laws l:=by
  refine Aa2 (fun i x3 x4=>x4=(i:Int)/\x3.toList=(List.range i).map fun i=>lyF N laws (l.g i)) l.n _ (by omega) ⟨rfl,rfl⟩ ?_
  rintro self i x3 x4 hi ⟨rfl,h⟩ hs
  by_cases hlt:i < l.n
  ·refine ifT (by simp;omega) (ifT (by omega) ?_)
   rw [Int.toNat_natCast,G7,Option.bind_some]
   have hp:=AA9 hN hl (by omega) (l:=(Sl.of [l.g i]:Sl T3)) (fun j hj=>by
    match j,hj with
    | 0,_=>exact ho i hlt) (by show 1<=_;omega)
   rw [BQ8 _ _ _ rfl] at hp
   have hp:D5 N laws (Sl.of [l.g i]:Sl T3)=some (plL N laws (l.g i).From (l.g i).To):=hp
   have hx:=CE3 h
   rw [List.length_map,List.length_range] at hx
   refine B7 hp ?_
   rw [BG3]
   exact ifT (by show (x3.n+1) * 8<=_/\x3.n+1<=_;omega) (hs hlt _ _ ⟨C7 (by omega),by rw [Bc2,h,Bt4];rfl⟩)
  ·exact ifF (by simp;omega) ⟨_,rfl,rfl,by rw [h,show i=l.n by omega];rfl⟩
 have p2:∃ r,(V9 N (fun (self1:Sl Int->Int->Option ((Sl Int) × Int)) (x1:Sl Int) (x2:Int)=>
  if (decide (x2 < (l.n:Int)))=true then
   if (((0:Int)<=x2/\x2 < (l.n:Int))/\((0:Int)<=x2/\x2 < (l.n:Int))) then
    (V7 N laws (l.g x2.toNat).From (l.g x2.toNat).To).bind fun y6=>
    (S7 N y6).bind fun y7=>
    if (!y7.2)=true then
     if ((x1.n+(Sl.of [(-1)]:Sl Int).n) * 8<=140737488355328/\x1.n+(Sl.of [(-1)]:Sl Int).n<=140737488355328) then
      self1 (x1.push (-1)) (IntKind.wrap .i64 (x2+1))
     else none
    else
     if ((x1.n+(Sl.of [y7.1.Last]:Sl Int).n) * 8<=140737488355328/\x1.n+(Sl.of [y7.1.Last]:Sl Int).n<=140737488355328) then
      self1 (x1.push y7.1.Last) (IntKind.wrap .i64 (x2+1))
     else none
   else none
  else
   some (x1,0)
  ) (Sl.nil:Sl Int) 0)=some r/\r.2=0/\r.1.toList=lyL N laws l:=by
  refine Aa2 (fun i x3 x4=>x4=(i:Int)/\x3.toList=(List.range i).map fun i=>lyF N laws (l.g i)) l.n _ (by omega) ⟨rfl,rfl⟩ ?_
  rintro self i x3 x4 hi ⟨rfl,h⟩ hs
  by_cases hlt:i < l.n
  ·refine ifT (by simp;omega) (ifT (by omega) ?_)
   rw [Int.toNat_natCast]
   obtain ⟨s,s1,s2⟩:=Bc6 (N:=N) (w:=(l.g i).To) hN hl (by omega) (ho i hlt).1
   have hsn:=CE3 s2
   have hlen:=Cr5 N laws (l.g i).From (l.g i).To
   have hx:=CE3 h
   rw [List.length_map,List.length_range] at hx
   refine B7 s1 (B7 (Bc4 s (by omega)) ?_)
   have hla:=CM6 (plL N laws (l.g i).From (l.g i).To)
   rw [s2]
   cases hb:(Ap0 (plL N laws (l.g i).From (l.g i).To)).2.2
   ·rw [if_neg (by simp [hb])] at hla
    exact ifT (by simp) (ifT (by show (x3.n+1) * 8<=_/\x3.n+1<=_;omega) (hs hlt _ _ ⟨C7 (by omega),by rw [Bc2,h,Bt4];unfold lyF;rw [hla]⟩))
   ·rw [if_pos hb] at hla
    exact ifF (by simp) (ifT (by show (x3.n+1) * 8<=_/\x3.n+1<=_;omega) (hs hlt _ _ ⟨C7 (by omega),by rw [Bc2,h,Bt4];unfold lyF;rw [hla]⟩))
  ·exact ifF (by simp;omega) ⟨_,rfl,rfl,by rw [h,show i=l.n by omega];rfl⟩
 obtain ⟨⟨s,a⟩,h1,rfl,h2⟩:=p1
 obtain ⟨⟨s',b⟩,h3,rfl,h4⟩:=p2
 have hsn:s.n=(lyL N laws l).length:=CE3 h2
 refine ⟨e,s,s',by rw [h0];exact h1,by rw [h0];exact h3,he,h2.trans (if_pos h0).symm,h4.trans (if_pos h0).symm, ?_⟩
 unfold lyL at hsn
 rw [List.length_map,List.length_range] at hsn
 omega
def daL (N:Nat) (laws:Sl Law) (l:Sl T3):List Int:=Bm8 (BQ7 N laws l) (laws.n+1) 0
theorem Cr6 {N:Nat} (hN:3000000<=N) {laws:Sl Law} (hl:P5 laws) {l:Sl T3} (ho:CM4 l) :
 ∃ e L,Ae1 N laws l=some ((⟨(Ap0 L).1,(Ap0 L).2.1⟩:G3),(Ap0 L).2.2,e)/\Am4 N laws l=some ((⟨(Ap0 L).1,(Ap0 L).2.1⟩:O5),(Ap0 L).2.2,e)/\(e=0 ↔ Av4 N laws/\l.n<=256/\Bt3 l)/\L=(if e=0 then daL N laws l else []):=by
 obtain ⟨e,e1,e2,he⟩:=BG2 hN hl ho
 unfold Ae1 Am4
 rw [e1,e2,Option.bind_some,Option.bind_some]
 refine ⟨e,_, ?_, ?_,he,rfl⟩
 ·by_cases h0:e=0
  case neg=>rw [if_pos (by simpa using h0),if_neg h0];rfl
  obtain ⟨hok,h256,hpo⟩:=he.1 h0
  have h64:=hok.1
  rw [if_neg (by simp [h0]),if_pos h0,G7,Option.bind_some]
  show ((D5 N laws l).bind _)=_
  rw [AA9 hN hl (by omega) ho (by omega),Option.bind_some,BG0,Option.bind_some,h0];rfl
 ·by_cases h0:e=0
  case neg=>rw [if_pos (by simpa using h0),if_neg h0];rfl
  obtain ⟨hok,h256,hpo⟩:=he.1 h0
  have h64:=hok.1
  rw [if_neg (by simp [h0]),if_pos h0]
  have inner:∀ (self3:Sl Int->Int->Option (O5 × Bool × Int)) (x3:Sl Int) (i:Nat),i<=laws.n->x3.n<=3000000->∀ (m j M:Nat) (b:Bool),l.n<=j+m->m < M->(b=true ↔ ∀ q,q < j->gv N (laws.drop i) (l.g q).From (l.g q).To=true)->j<=l.n ->
   V9 M (fun (self4:Bool->Int->Option (O5 × Bool × Int)) (x7:Bool) (x8:Int)=>
    if (decide (x8 < (l.n:Int)))=true then
     if x7=true then
      if ((((0:Int)<=(i:Int)/\(i:Int)<=(laws.n:Int))/\((0:Int)<=x8/\x8 < (l.n:Int)))/\((0:Int)<=x8/\x8 < (l.n:Int))) then
       (F9 N (laws.drop (i:Int).toNat) (l.g x8.toNat).From (l.g x8.toNat).To).bind fun y10=>
       self4 y10 (IntKind.wrap .i64 (x8+1))
      else none
     else
      self4 false (IntKind.wrap .i64 (x8+1))
    else
     if x7=true then
      if ((x3.n+(Sl.of [(i:Int)]:Sl Int).n) * 8<=140737488355328/\x3.n+(Sl.of [(i:Int)]:Sl Int).n<=140737488355328) then
       self3 (x3.push (i:Int)) (IntKind.wrap .i64 ((i:Int)+1))
      else none
     else
      self3 x3 (IntKind.wrap .i64 ((i:Int)+1))
    ) b (j:Int)=if BQ7 N laws l i=true then self3 (x3.push (i:Int)) ((i+1:Nat):Int) else self3 x3 ((i+1:Nat):Int):=by
   intro self3 x3 i hi hx m
   have fin:∀ (M:Nat) (b:Bool),(b=true ↔ ∀ q,q < l.n->gv N (laws.drop i) (l.g q).From (l.g q).To=true)->(if b=true then
    if ((x3.n+(Sl.of [(i:Int)]:Sl Int).n) * 8<=140737488355328/\x3.n+(Sl.of [(i:Int)]:Sl Int).n<=140737488355328) then
     self3 (x3.push (i:Int)) (IntKind.wrap .i64 ((i:Int)+1))
    else none
    else
     self3 x3 (IntKind.wrap .i64 ((i:Int)+1)))=if BQ7 N laws l i=true then self3 (x3.push (i:Int)) ((i+1:Nat):Int) else self3 x3 ((i+1:Nat):Int):=by
    intro M b hb
    have:BQ7 N laws l i=b:=by
     unfold BQ7
     rw [Bool.eq_iff_iff,hb,decide_eq_true_eq]
    rw [this,C7 (by omega),if_pos (show (x3.n+(Sl.of [(i:Int)]:Sl Int).n) * 8<=140737488355328/\x3.n+(Sl.of [(i:Int)]:Sl Int).n<=140737488355328 from by show (x3.n+1) * 8<=_/\x3.n+1<=_;omega)]
   induction m with
   | zero=>
    intro j M b h hM hb hj
    obtain ⟨M,rfl⟩:∃ K,M=K+1:=⟨M - 1,by omega⟩
    rw [E8,if_neg (by simp;omega)]
    exact fin M b (by rw [hb,show j=l.n by omega])
   | succ m ih=>
    intro j M b h hM hb hj
    obtain ⟨M,rfl⟩:∃ K,M=K+1:=⟨M - 1,by omega⟩
    by_cases hlt:j < l.n
    case neg=>
     rw [E8,if_neg (by simp;omega)]
     exact fin M b (by rw [hb,show j=l.n by omega])
    rw [E8,if_pos (by simp;omega),C7 (i:=j) (by omega)]
    cases b
    ·rw [if_neg (by simp)]
     refine ih (j+1) M false (by omega) (by omega) ?_ hlt
     have hb' : ¬ ∀ q,q < j->gv N (laws.drop i) (l.g q).From (l.g q).To=true:=fun h=>by have:=hb.2 h;cases this
     exact ⟨fun h=>(by cases h),fun h=>absurd (fun q hq=>h q (by omega)) hb'⟩
    ·have hg:=(Bm7 (N:=N) hN (AF5 hl i) (SE.refl _) (SE.refl (l.g j).From) (ho j hlt).1 (SE.refl (l.g j).To)).2.1
     rw [if_pos rfl,if_pos (by omega),Int.toNat_natCast,Int.toNat_natCast,hg,Option.bind_some]
     refine ih (j+1) M _ (by omega) (by omega) ?_ hlt
     have hb:=hb.1 rfl
     constructor
     ·intro h q hq
      by_cases e:q=j
      ·subst e;exact h
      ·exact hb q (by omega)
     ·exact fun h=>h j (by omega)
  obtain ⟨y,h1,h2⟩:=CT8 (P:=BQ7 N laws l) (n:=laws.n+1) (k:=fun x3=>(S7 N x3).bind fun y11=>some (y11.1,y11.2,(0:Int))) (body:=fun self3 (x3:Sl Int) (x4:Int)=>
   if (decide (x4<=(laws.n:Int)))=true then
    V9 N (fun self4 (x7:Bool) (x8:Int)=>
     if (decide (x8 < (l.n:Int)))=true then
      if x7=true then
       if ((((0:Int)<=x4/\x4<=(laws.n:Int))/\((0:Int)<=x8/\x8 < (l.n:Int)))/\((0:Int)<=x8/\x8 < (l.n:Int))) then
        (F9 N (laws.drop x4.toNat) (l.g x8.toNat).From (l.g x8.toNat).To).bind fun y10=>
        self4 y10 (IntKind.wrap .i64 (x8+1))
       else none
      else
       self4 false (IntKind.wrap .i64 (x8+1))
     else
      if x7=true then
       if ((x3.n+(Sl.of [x4]:Sl Int).n) * 8<=140737488355328/\x3.n+(Sl.of [x4]:Sl Int).n<=140737488355328) then
        self3 (x3.push x4) (IntKind.wrap .i64 (x4+1))
       else none
      else
       self3 x3 (IntKind.wrap .i64 (x4+1))
     ) true 0
   else
    (S7 N x3).bind fun y11=>
    some (y11.1,y11.2,0)) (fun self x i hi _=>by rw [if_neg (by simp;omega)])
   (fun self x i hi hx hp=>by
    have e:=inner self x i (by omega) hx l.n 0 N true (by omega) (by omega) ⟨fun _ q hq=>absurd hq (by omega),fun _=>rfl⟩ (by omega)
    rw [if_pos hp] at e
    rw [if_pos (by simp;omega)];exact e)
   (fun self x i hi hx hp=>by
    have e:=inner self x i (by omega) hx l.n 0 N true (by omega) (by omega) ⟨fun _ q hq=>absurd hq (by omega),fun _=>rfl⟩ (by omega)
    rw [if_neg (show ¬ BQ7 N laws l i=true by simp [hp])] at e
    rw [if_pos (by simp;omega)];exact e)
   (laws.n+1) 0 (Sl.nil:Sl Int) N (by omega) (by omega) (by show 0+_<=_;omega)
  have hyl:y.toList=daL N laws l:=h2
  have hyn:=CE3 hyl
  have hlen:(daL N laws l).length<=laws.n+1:=Bt1 _ _ 0
  show V9 N _ (Sl.nil:Sl Int) ((0:Nat):Int)=_
  rw [h1,Bc4 y (by omega),hyl,Option.bind_some,h0]
end Go.AM
set_option linter.unusedVariables false
namespace Go.AM
open Go.Proofs
abbrev isT (o:Option Bool):Prop:=∃ r,o=some r/\r=true
theorem isT.eq {o:Option Bool} (h:isT o):o=some true:=by obtain ⟨r,h,rfl⟩:=h;exact h
theorem Bc7 {N:Nat} (hN:3000000<=N) (hW:K3 N=some true) {laws:Sl Law} (hl:P5 laws) {v w:Sl Sound} (hv:okA v) (hw:okA w):X2 N laws v w=some true:=by
 refine isT.eq ?_
 unfold X2
 obtain ⟨r,hr⟩:=Bt2 (N:=N) (by omega) laws
 refine B7 hr ?_
 by_cases h0:((decide (4 < r)) || ((decide (8 < (laws.n:Int))) && (decide ((laws.n:Int)<=64))))=true
 ·exact ifT h0 (B7 hW ⟨true,rfl,rfl⟩)
 refine ifF h0 ?_
 obtain ⟨e,s,s',p1,p2,_,p3,p4,p5,p6⟩:=Bm9 hN hl hv hw
 obtain ⟨e2,L,q1,q2,_,_⟩:=CB0 hN hl hv hw
 obtain ⟨e3,b,n1,n2,_,_⟩:=Cf0 hN hl hv hw
 refine B7 p1 (B7 p2 (B7 q1 (B7 q2 (B7 n1 (B7 n2 (B7 (Bc3 (by show s.n < N;omega) (by show s.n < _;omega) (p3.trans p4.symm)) (ltX ?_)))))))
 refine ifT rfl (ifT (by simp) (B7 (x:=true) (by unfold Ak3;simp) (ifT rfl (ifT (by simp) (ifT (by simp) (ifT (by simp) (ifT (by simp) (B7 hW ⟨true,rfl,rfl⟩))))))))
theorem Bc8 {N:Nat} (hN:3000000<=N) (hW:K3 N=some true) {laws:Sl Law} (hl:P5 laws) {v w:Sl Sound} (hv:okA v) (hw:okA w):X3 N laws v w=some true:=by
 refine isT.eq ?_
 unfold X3
 obtain ⟨r,hr⟩:=Bt2 (N:=N) (by omega) laws
 refine B7 hr ?_
 by_cases h0:((decide (4 < r)) || ((decide (8 < (laws.n:Int))) && (decide ((laws.n:Int)<=64))))=true
 ·exact ifT h0 (B7 hW ⟨true,rfl,rfl⟩)
 refine ifF h0 ?_
 obtain ⟨e,s,s',p1,p2,_,p3,p4,p5⟩:=Cf3 hN hl hv hw
 exact B7 p1 (B7 p2 (B7 (Bc3 (by show s.n < N;omega) (by show s.n < _;omega) (p3.trans p4.symm)) (ltX (ifT rfl (ifT (by simp) (B7 hW ⟨true,rfl,rfl⟩))))))
theorem Bc9 {N:Nat} (hN:3000000<=N) (hW:K3 N=some true) {laws:Sl Law} (hl:P5 laws) {l:Sl T3} (ho:CM4 l):X4 N laws l=some true:=by
 refine isT.eq ?_
 unfold X4
 obtain ⟨r,hr⟩:=Bt2 (N:=N) (by omega) laws
 refine B7 hr ?_
 by_cases h0:(((decide (4 < r)) || ((decide (8 < (laws.n:Int))) && (decide ((laws.n:Int)<=64)))) || ((decide (20 < (l.n:Int))) && (decide ((l.n:Int)<=256))))=true
 ·exact ifT h0 (B7 hW ⟨true,rfl,rfl⟩)
 refine ifF h0 ?_
 obtain ⟨e,s,s',p1,p2,_,p3,p4,p5⟩:=Cf6 hN hl ho
 obtain ⟨e2,L,q1,q2,_,_⟩:=Cr6 hN hl ho
 refine B7 p1 (B7 p2 (B7 q1 (B7 q2 (B7 (Bc3 (by show s.n < N;omega) (by show s.n < _;omega) (p3.trans p4.symm)) (ltX ?_)))))
 exact ifT rfl (ifT (by simp) (B7 (x:=true) (by unfold Ak3;simp) (ifT rfl (ifT (by simp) (ifT (by simp) (B7 hW ⟨true,rfl,rfl⟩))))))
end Go.AM
set_option linter.unusedVariables false
namespace Go.AM
set_option maxRecDepth 1000000
theorem AN1:K3 4194304=some true:=by decide +kernel
end Go.AM
