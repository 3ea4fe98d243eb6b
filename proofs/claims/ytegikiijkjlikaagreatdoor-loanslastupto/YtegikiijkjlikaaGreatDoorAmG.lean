/- What a law's walk and its plain proof need, part 7: no condition of its own. -/
import Derived.Test.YtegikiijkjlikaaGreatDoorAmF
import Derived.Test.YtegikiijkjlikaaGreatDoorAmE
set_option linter.unusedSimpArgs false
set_option linter.unusedVariables false
set_option linter.unusedSectionVars false
set_option linter.unusedVariables false
namespace Go.AM
open Go.Proofs
def okP:Nat->Pat->Prop
 | 0,_=>False
 | d+1,p=>p.L.n<=40/\(p.Kind=5->p.L.n=1/\0<=p.Min/\p.Min<=32/\(p.Max = -1 \/ (p.Min<=p.Max/\p.Max<=32)))/\∀ i,i < p.L.n->okP d (p.L.g i)
theorem Be6 (w:Sl Sound) (p:Pat) (a b:Nat):PR w p a b ↔ (if p.Kind=0 then a=b
 else if p.Kind=1 then a < w.n/\b=a+1/\(BF1 (w.g a) p.Is != p.Not)=true
 else if p.Kind=2 then a=0/\b=0
 else if p.Kind=6 then a=w.n/\b=w.n
 else if p.Kind=3 then Cr2 w.n (fun i=>PR w (p.L.g i)) p.L.n a b
 else if p.Kind=4 then ∃ i,i < p.L.n/\PR w (p.L.g i) a b
 else if p.Kind=5 then ∃ k:Nat,p.Min<=k/\(p.Max = -1 \/ (k:Int)<=p.Max)/\AD1 w.n (PR w (p.L.g 0)) k a b
 else False):=by
 cases p with
 | nil=>simp [PR,Pat.Kind]
 | mk kind is no mn mx m g=>exact Iff.rfl
def R0 (w:Sl Sound) (p:Pat) (a b:Nat):Prop:=if p.Kind=0 then a=b
 else if p.Kind=1 then a < w.n/\b=a+1/\(BF1 (w.g a) p.Is != p.Not)=true
 else if p.Kind=2 then a=0/\b=0
 else if p.Kind=6 then a=w.n/\b=w.n
 else False
theorem Cr3 {n:Nat} {R:Nat->Nat->Prop} (hR:Fwd n R) {mn k:Nat} (hk:mn < k) (h:∀ a b,a<=n->b<=n->AD1 n R k a b->∃ j,mn<=j/\j < k/\AD1 n R j a b) {a:Nat} (ha:a<=n) :
 ∀ m b,mn<=m->AD1 n R m a b->∃ j,mn<=j/\j < k/\AD1 n R j a b
 | 0,b,hm,hp=>⟨0,hm,by omega,hp⟩
 | m+1,b,hm,hp=>by
  by_cases hmk:m+1 < k
  ·exact ⟨m+1,hm,hmk,hp⟩
  ·obtain ⟨c,hc,h1,h2⟩:=hp
   have hb:=(hR c b hc h2).2
   obtain ⟨j,g1,g2,g3⟩:=Cr3 hR hk h ha m c (by omega) h1
   by_cases e:j+1 < k
   ·exact ⟨j+1,by omega,e,c,hc,g3,h2⟩
   ·obtain rfl:k=j+1:=by omega
    exact h a b ha hb ⟨c,hc,g3,h2⟩
theorem AZ7 {N:Nat} (hN:1000<=N) {w:Sl Sound} (hw:w.n<=32):∀ (d:Nat) (p:Pat),okP d p->∀ M,N+d<=M->∃ t,Ak4 M p w=some t/\t.n=w.n+1/\TabR w.n (PR w p) t.g
 | 0,p,h,M,hM=>h.elim
 | d+1,p,⟨hc,h5,hch⟩,0,hM=>by omega
 | d+1,p,⟨hc,h5,hch⟩,M+1,hM=>by
  have ih:=fun i hi=>AZ7 hN hw d (p.L.g i) (hch i hi) M (by omega)
  show ∃ t,As2 (Ak4 M) M p w=some t/\_
  unfold As2
  rw [C0 (by omega)]
  refine ifT (by omega) ?_
  refine Z1 (fun i x1 x2=>x2=(i:Int)/\x1.n=w.n+1/\(∀ a,a < i->∃ z:BitVec 64,x1.g a=U z/\∀ b,b < 64->(z.getLsbD b=true ↔ b<=w.n/\R0 w p a b))/\∀ a,i<=a->x1.g a=0) (w.n+1) _ (by omega)
   ⟨rfl,by show (((w.n+1:Nat):Int)).toNat=w.n+1;omega,fun a ha=>absurd ha (by omega),fun _ _=>rfl⟩ ?_
  rintro self i x1 x2 hi ⟨rfl,h1,h2,h3⟩ hs
  have keep:(∀ b,b<=w.n->¬ R0 w p i b)->(∀ a,a < i+1->∃ z:BitVec 64,x1.g a=U z/\∀ b,b < 64->(z.getLsbD b=true ↔ b<=w.n/\R0 w p a b)):=by
   intro h a ha
   by_cases e:a=i
   ·subst e
    exact ⟨0#64,h3 a (Nat.le_refl _),fun b hb=>by simp;exact h b⟩
   ·exact h2 a (by omega)
  have put:∀ (z:BitVec 64) (v:Int),v=U z->(∀ b,b < 64->(z.getLsbD b=true ↔ b<=w.n/\R0 w p i b)) ->
   (∀ a,a < i+1->∃ z:BitVec 64,(x1.upd (i:Int).toNat v).g a=U z/\∀ b,b < 64->(z.getLsbD b=true ↔ b<=w.n/\R0 w p a b))/\∀ a,i+1<=a->(x1.upd (i:Int).toNat v).g a=0:=by
   intro z v hv hz
   refine ⟨fun a ha=>?_,fun a ha=>?_⟩
   ·by_cases e:a=i
    ·subst e;exact ⟨z,by show (if a=(a:Int).toNat then v else _)=_;rw [if_pos (by omega),hv],hz⟩
    ·obtain ⟨z',e1,e2⟩:=h2 a (by omega)
     exact ⟨z',by show (if a=(i:Int).toNat then v else x1.g a)=_;rw [if_neg (by omega)];exact e1,e2⟩
   ·show (if a=(i:Int).toNat then v else x1.g a)=0
    rw [if_neg (by omega)];exact h3 a (by omega)
  by_cases hl:i<=w.n
  ·refine ifT (by simp;omega) ?_
   by_cases k0:p.Kind=0
   ·refine ifT (by simp [k0]) (ifT (by omega) ?_)
    obtain ⟨p1,p2⟩:=put (1#64 <<< i) _ (Bw8 i (by omega)) (fun b hb=>by rw [Ax1 (by omega) hb,decide_eq_true_eq];simp only [R0,k0,if_true];omega)
    exact hs (by omega) _ _ ⟨C0 (by omega),h1,p1,p2⟩
   refine ifF (by simp [k0]) ?_
   by_cases k1:p.Kind=1
   ·refine ifT (by simp [k1]) ?_
    have e0:∀ b,R0 w p i b ↔ i < w.n/\b=i+1/\(BF1 (w.g i) p.Is != p.Not)=true:=fun b=>by simp only [R0,k1];simp
    by_cases hlt:i < w.n
    ·refine ifT (by simp;omega) (ifT (by omega) ?_)
     refine B0 (x:=BF1 (w.g i) p.Is) (by rw [Int.toNat_natCast];rfl) ?_
     by_cases hb:BF1 (w.g i) p.Is=p.Not
     ·refine ifF (by simp [hb]) (hs (by omega) _ _ ⟨C0 (by omega),h1,keep fun b _=>?_,fun a ha=>h3 a (by omega)⟩)
      rw [e0];simp [hb]
     ·refine ifT (by simp [hb]) ?_
      rw [C0 (by omega)]
      refine ifT (by omega) ?_
      obtain ⟨p1,p2⟩:=put (1#64 <<< (i+1)) _ (Bw8 (i+1) (by omega)) (fun b hb'=>by
       rw [Ax1 (by omega) hb',decide_eq_true_eq,e0]
       have:(BF1 (w.g i) p.Is != p.Not)=true:=by simp [hb]
       simp only [this,and_true];omega)
      exact hs (by omega) _ _ ⟨rfl,h1,p1,p2⟩
    ·refine ifF (by simp;omega) (hs (by omega) _ _ ⟨C0 (by omega),h1,keep fun b _=>?_,fun a ha=>h3 a (by omega)⟩)
     rw [e0];omega
   refine ifF (by simp [k1]) ?_
   by_cases k2:p.Kind=2
   ·refine ifT (by simp [k2]) ?_
    have e0:∀ b,R0 w p i b ↔ i=0/\b=0:=fun b=>by simp only [R0,k2];simp
    by_cases hz:i=0
    ·refine ifT (by simp;omega) (ifT (by omega) ?_)
     obtain ⟨p1,p2⟩:=put 1#64 _ CG4 (fun b hb'=>by rw [BF0,decide_eq_true_eq,e0];omega)
     exact hs (by omega) _ _ ⟨C0 (by omega),h1,p1,p2⟩
    ·refine ifF (by simp;omega) (hs (by omega) _ _ ⟨C0 (by omega),h1,keep fun b _=>?_,fun a ha=>h3 a (by omega)⟩)
     rw [e0];omega
   refine ifF (by simp [k2]) ?_
   by_cases k6:p.Kind=6
   ·refine ifT (by simp [k6]) ?_
    have e0:∀ b,R0 w p i b ↔ i=w.n/\b=w.n:=fun b=>by simp only [R0,k6];simp
    by_cases hz:i=w.n
    ·refine ifT (by simp;omega) (ifT (by omega) ?_)
     obtain ⟨p1,p2⟩:=put (1#64 <<< i) _ (Bw8 i (by omega)) (fun b hb=>by rw [Ax1 (by omega) hb,decide_eq_true_eq,e0];omega)
     exact hs (by omega) _ _ ⟨C0 (by omega),h1,p1,p2⟩
    ·refine ifF (by simp;omega) (hs (by omega) _ _ ⟨C0 (by omega),h1,keep fun b _=>?_,fun a ha=>h3 a (by omega)⟩)
     rw [e0];omega
   ·refine ifF (by simp [k6]) (hs (by omega) _ _ ⟨C0 (by omega),h1,keep fun b _=>?_,fun a ha=>h3 a (by omega)⟩)
    simp [R0,k0,k1,k2,k6]
  ·refine ifF (by simp;omega) ?_
   have t0:TabR w.n (R0 w p) x1.g:=fun a ha=>h2 a (by omega)
   by_cases k3:p.Kind=3
   ·refine ifT (by simp [k3]) ?_
    obtain ⟨s,es,hs1,hs2⟩:=BL7 (N:=M) hw (by omega)
    refine B0 es ?_
    refine Z1 (fun i (x3:Sl Int) x4=>x4=(i:Int)/\x3.n=w.n+1/\TabR w.n (Cr2 w.n (fun i=>PR w (p.L.g i)) i) x3.g) p.L.n _ (by omega) ⟨rfl,hs1,hs2.congr fun a b _ _=>Iff.rfl⟩ ?_
    rintro self2 j x3 x4 hj ⟨rfl,g1,g2⟩ hs3
    by_cases hl2:j < p.L.n
    ·obtain ⟨t,et,ht1,ht2⟩:=ih j hl2
     refine ifT (by simp;omega) (ifT (by omega) (B0 (by rw [Int.toNat_natCast];exact et) ?_))
     obtain ⟨f,ef,hf1,hf2⟩:=Bi6 (N:=M) hw (by omega) g1 ht1 g2 ht2
     exact B0 ef (hs3 hl2 _ _ ⟨C0 (by omega),hf1,hf2⟩)
    ·obtain rfl:j=p.L.n:=by omega
     exact ifF (by simp) ⟨x3,rfl,g1,g2.congr fun a b _ _=>by rw [Be6];simp [k3]⟩
   refine ifF (by simp [k3]) ?_
   by_cases k4:p.Kind=4
   ·refine ifT (by simp [k4]) ?_
    refine Z1 (fun i x3 x4=>x4=(i:Int)/\x3.n=w.n+1/\TabR w.n (fun a b=>∃ q,q < i/\PR w (p.L.g q) a b) x3.g) p.L.n _ (by omega) ⟨rfl,h1,t0.congr fun a b _ _=>by simp [R0,k4]⟩ ?_
    rintro self2 j x3 x4 hj ⟨rfl,g1,g2⟩ hs3
    by_cases hl2:j < p.L.n
    ·obtain ⟨t,et,ht1,ht2⟩:=ih j hl2
     refine ifT (by simp;omega) (ifT (by omega) (B0 (by rw [Int.toNat_natCast];exact et) ?_))
     obtain ⟨f,ef,hf1,hf2⟩:=BL8 (N:=M) hw (by omega) g1 ht1 g2 ht2
     refine B0 ef (hs3 hl2 _ _ ⟨C0 (by omega),hf1,hf2.congr fun a b _ _=>⟨?_, ?_⟩⟩)
     ·rintro (⟨q,h1,h2⟩ | h)
      ·exact ⟨q,by omega,h2⟩
      ·exact ⟨j,by omega,h⟩
     ·rintro ⟨q,h1,h2⟩
      by_cases e:q=j
      ·subst e;exact .inr h2
      ·exact .inl ⟨q,by omega,h2⟩
    ·obtain rfl:j=p.L.n:=by omega
     exact ifF (by simp) ⟨x3,rfl,g1,g2.congr fun a b _ _=>by rw [Be6];simp [k4]⟩
   refine ifF (by simp [k4]) ?_
   by_cases k5:p.Kind=5
   ·obtain ⟨hn1,hm0,hm1,hmx⟩:=h5 k5
    refine ifT (by simp [k5]) (ifT (by omega) ?_)
    obtain ⟨one,eo,ho1,ho2⟩:=ih 0 (by omega)
    obtain ⟨s,es,hs1,hs2⟩:=BL7 (N:=M) hw (by omega)
    refine B0 eo (B0 es ?_)
    have hF:=Bx1 w (p.L.g 0)
    have fin:∀ (t:Sl Int) (k:Nat),t.n=w.n+1->TabR w.n (fun a b=>∃ j:Nat,p.Min<=j/\j < k/\AD1 w.n (PR w (p.L.g 0)) j a b) t.g ->
     (∀ a b,a<=w.n->b<=w.n->((∃ j:Nat,p.Min<=j/\j < k/\AD1 w.n (PR w (p.L.g 0)) j a b) ↔ ∃ j:Nat,p.Min<=j/\(p.Max = -1 \/ (j:Int)<=p.Max)/\AD1 w.n (PR w (p.L.g 0)) j a b)) ->
     ∃ r,some t=some r/\r.n=w.n+1/\TabR w.n (PR w p) r.g:=by
     intro t k e1 e2 e3
     exact ⟨t,rfl,e1,e2.congr fun a b ha hb=>(e3 a b ha hb).trans (by rw [Be6];simp [k5])⟩
    refine Cm5 (fun k (x8 x9:Sl Int) x10=>x10=(k:Int)/\x8.n=w.n+1/\x9.n=w.n+1/\TabR w.n (fun a b=>∃ j:Nat,p.Min<=j/\j < k/\AD1 w.n (PR w (p.L.g 0)) j a b) x8.g/\TabR w.n (AD1 w.n (PR w (p.L.g 0)) k) x9.g/\(p.Max = -1 \/ (k:Int)<=p.Max)) 33 _ (by omega)
     ⟨rfl,h1,hs1,t0.congr fun a b _ _=>by simp [R0,k5],hs2.congr fun a b _ _=>Iff.rfl,by omega⟩ ?_
    rintro self2 k x8 x9 x10 hk ⟨rfl,g1,g2,g3,g4,g5⟩ hs3
    obtain ⟨f,ef,hf1,hf2⟩:=Bi6 (N:=M) hw (by omega) g2 ho1 g4 ho2
    have next:TabR w.n (AD1 w.n (PR w (p.L.g 0)) (k+1)) f.g:=hf2
    by_cases hmin:p.Min<=(k:Int)
    ·refine ifT (by simpa using hmin) ?_
     obtain ⟨j,ej,hj1,hj2⟩:=BL8 (N:=M) hw (by omega) g1 g2 g3 g4
     have hj3:TabR w.n (fun a b=>∃ j:Nat,p.Min<=j/\j < k+1/\AD1 w.n (PR w (p.L.g 0)) j a b) j.g:=hj2.congr fun a b _ _=>by
      constructor
      ·rintro (⟨q,h1,h2,h3⟩ | h)
       ·exact ⟨q,h1,by omega,h3⟩
       ·exact ⟨k,hmin,by omega,h⟩
      ·rintro ⟨q,h1,h2,h3⟩
       by_cases e:q=k
       ·subst e;exact .inr h3
       ·exact .inl ⟨q,h1,by omega,h3⟩
     refine B0 ej (ltX ?_)
     by_cases hmaxk:(k:Int)=p.Max
     ·refine ifT (by simp [hmaxk]) (ifT rfl (fin j (k+1) hj1 hj3 fun a b _ _=>⟨?_, ?_⟩))
      ·rintro ⟨q,h1,h2,h3⟩;exact ⟨q,h1, .inr (by omega),h3⟩
      ·rintro ⟨q,h1,h2,h3⟩;exact ⟨q,h1,by omega,h3⟩
     ·refine ifF (by simp [hmaxk]) ?_
      by_cases hgt:p.Min < (k:Int)
      ·refine ifT (by simpa using hgt) ?_
       obtain ⟨b,eb,hb⟩:=Cb3 (N:=M) (x:=x8) (y:=j) hw (by omega) g1 hj1
       refine B0 eb ?_
       by_cases hbt:b=true
       ·refine ifT hbt (fin j (k+1) hj1 hj3 fun a b ha hb'=>⟨?_, ?_⟩)
        ·rintro ⟨q,h1,h2,h3⟩;exact ⟨q,h1,by omega,h3⟩
        ·rintro ⟨q,h1,h2,h3⟩
         have heq:=hb.1 hbt
         obtain ⟨q',k1,k2,k3⟩:=Cr3 hF (mn:=p.Min.toNat) (k:=k) (by omega) (fun a b ha hb' hp=>by
          have e1:=hj3.bit ha (b:=b) (by omega)
          have e2:=g3.bit ha (b:=b) (by omega)
          rw [<- heq a ha] at e1
          obtain ⟨_,q,k1,k2,k3⟩:=e2.1 (e1.2 ⟨hb',k,hmin,by omega,hp⟩)
          exact ⟨q,by omega,k2,k3⟩) ha q b (by omega) h3
         exact ⟨q',by omega,by omega,k3⟩
       ·refine ifF hbt (B0 ef ?_)
        have hk33:k < 33:=by
         refine Nat.lt_of_le_of_ne hk fun e=>hbt (hb.2 fun a ha=>?_)
         subst e
         refine g3.uniq (hj3.congr fun a b ha hb'=>⟨?_, ?_⟩) ha
         ·rintro ⟨q,h1,h2,h3⟩
          by_cases e:q=33
          ·subst e;exact ⟨32,by omega,by omega,Bw9 hF ha hw h3⟩
          ·exact ⟨q,h1,by omega,h3⟩
         ·rintro ⟨q,h1,h2,h3⟩;exact ⟨q,h1,by omega,h3⟩
        exact hs3 hk33 _ _ _ ⟨C0 (by omega),hj1,hf1,hj3,next,by omega⟩
      ·refine ifF (by simpa using hgt) (ifF (by simp) (B0 ef (hs3 (by omega) _ _ _ ⟨C0 (by omega),hj1,hf1,hj3,next,by omega⟩)))
    ·refine ifF (by simpa using hmin) (B0 ef (hs3 (by omega) _ _ _ ⟨C0 (by omega),g1,hf1,g3.congr fun a b _ _=>⟨?_, ?_⟩,next,by omega⟩))
     ·rintro ⟨q,h1,h2,h3⟩;omega
     ·rintro ⟨q,h1,h2,h3⟩;omega
   ·refine ifF (by simp [k5]) ⟨x1,rfl,h1,t0.congr fun a b _ _=>?_⟩
    rw [Be6]
    simp [R0,k3,k4,k5]
end Go.AM
set_option linter.unusedVariables false
namespace Go.AM
open Go.Proofs
abbrev sOf (x y:BitVec 32):Sound:=⟨(x.toNat:Int),(y.toNat:Int)⟩
def okS (s:Sound):Prop:=∃ p m:BitVec 32,s=sOf p m
theorem eq0 (x:BitVec 32):((x.toNat:Int) == 0)=decide (x=0#32):=by
 rw [Bool.eq_iff_iff]
 simp only [beq_iff_eq,decide_eq_true_eq]
 constructor
 ·intro h;apply BitVec.eq_of_toNat_eq;show x.toNat=0;omega
 ·rintro rfl;rfl
theorem z32 (x:BitVec 32):x=0#32 ↔ ∀ i,i < 32->x.getLsbD i=false:=by
 constructor
 ·rintro rfl i hi;simp
 ·intro h;apply BitVec.eq_of_getLsbD_eq;intro i hi;rw [h i hi];simp
theorem AJ5 {x y:BitVec 32} (h:∀ b,b < 32->x.getLsbD b=y.getLsbD b):x=y:=BitVec.eq_of_getLsbD_eq h
theorem BL9 (x:BitVec 32) (i:Nat):(E7 .and .u32 (shI .shr .u32 (x.toNat:Int) (i:Int)) 1 == 1)=x.getLsbD i:=by
 rw [Cq4,show (1:Int)=((1#32).toNat:Int) from rfl,Aq8]
 have h:(x >>> i &&& 1#32)=(BitVec.ofBool (x.getLsbD i)).setWidth 32:=by
  apply BitVec.eq_of_getLsbD_eq
  intro j hj
  simp only [BitVec.getLsbD_and,BitVec.getLsbD_ushiftRight,BitVec.getLsbD_setWidth,BitVec.getLsbD_ofBool]
  by_cases h0:j=0
  ·subst h0;simp
  ·have:(1#32).getLsbD j=false:=by
    rw [BitVec.getLsbD_one];simp [h0]
   simp [this,h0]
 rw [h]
 cases x.getLsbD i <;> rfl
theorem Cy5 (i:Nat):shI .shl .u32 1 (i:Int)=((1#32 <<< i).toNat:Int):=by
 rw [show (1:Int)=((1#32).toNat:Int) from rfl,CD5]
theorem Cb4 {i j:Nat} (hj:j < 32):(1#32 <<< i).getLsbD j=decide (j=i):=by
 rw [BitVec.getLsbD_shiftLeft,BitVec.getLsbD_one]
 by_cases h:j=i
 ·subst h;simp [hj]
 ·by_cases h2:j < i
  ·simp [h,h2]
  ·have:j - i ≠ 0:=by omega
   simp [h,this]
theorem Ay5 (x:BitVec 32):x.toNat < 16777216 ↔ ∀ i,24<=i->i < 32->x.getLsbD i=false:=by
 constructor
 ·intro h i hi hi2
  exact Nat.testBit_lt_two_pow (Nat.lt_of_lt_of_le h (Nat.pow_le_pow_right (n:=2) (i:=24) (by omega) hi))
 ·intro h
  refine Nat.lt_pow_two_of_testBit (n:=24) _ fun i hi=>?_
  by_cases h2:i < 32
  ·exact h i hi h2
  ·exact Nat.testBit_lt_two_pow (Nat.lt_of_lt_of_le x.isLt (Nat.pow_le_pow_right (by omega) (by omega)))
def vB (p m:BitVec 32):Bool:=decide (∀ i:Fin 32, ¬ (p.getLsbD i=true/\m.getLsbD i=true)/\(24<=i.1->p.getLsbD i=false/\m.getLsbD i=false))
theorem Au1 (p m:BitVec 32):vB p m=true ↔ ∀ i,i < 32->¬ (p.getLsbD i=true/\m.getLsbD i=true)/\(24<=i->p.getLsbD i=false/\m.getLsbD i=false):=by
 rw [vB,decide_eq_true_eq]
 exact ⟨fun h i hi=>h ⟨i,hi⟩,fun h i=>h i.1 i.2⟩
theorem BM0 (p m:BitVec 32):p &&& m=0#32 ↔ ∀ i,i < 32->¬ (p.getLsbD i=true/\m.getLsbD i=true):=by
 rw [z32]
 refine forall_congr' fun i=>forall_congr' fun hi=>?_
 rw [BitVec.getLsbD_and,Bool.and_eq_false_iff]
 cases p.getLsbD i <;> cases m.getLsbD i <;> simp
theorem CG6 (p m:BitVec 32):vB p m=true ↔ p &&& m=0#32/\(p ||| m).toNat < 16777216:=by
 rw [Au1,BM0,Ay5]
 constructor
 ·intro h
  refine ⟨fun i hi=>(h i hi).1,fun i h1 h2=>?_⟩
  have:=(h i h2).2 h1
  rw [BitVec.getLsbD_or,this.1,this.2];rfl
 ·rintro ⟨h1,h2⟩ i hi
  refine ⟨h1 i hi,fun h24=>?_⟩
  have:=h2 i h24 hi
  rw [BitVec.getLsbD_or,Bool.or_eq_false_iff] at this
  exact this
theorem CG7 (p m:BitVec 32):vB p m=true ↔ p &&& m=0#32/\p.toNat < 16777216/\m.toNat < 16777216:=by
 rw [Au1,BM0,Ay5,Ay5]
 exact ⟨fun h=>⟨fun i hi=>(h i hi).1,fun i h1 h2=>((h i h2).2 h1).1,fun i h1 h2=>((h i h2).2 h1).2⟩,fun ⟨h1,h2,h3⟩ i hi=>⟨h1 i hi,fun h24=>⟨h2 i h24 hi,h3 i h24 hi⟩⟩⟩
theorem Ad4 {N:Nat} (p m:BitVec 32):F4 N (sOf p m)=some (vB p m):=by
 unfold F4
 rw [Aq8,AO8,eq0]
 congr 1
 rw [Bool.eq_iff_iff,CG6]
 simp only [Bool.and_eq_true,decide_eq_true_eq]
 exact ⟨fun h=>⟨h.1,by have:=h.2;omega⟩,fun h=>⟨h.1,by have:=h.2;omega⟩⟩
theorem shr24 (x:BitVec 32):(shI .shr .u32 (x.toNat:Int) 24 == 0)=decide (x.toNat < 16777216):=by
 rw [show (24:Int)=((24:Nat):Int) from rfl,Cq4,Bool.eq_iff_iff]
 simp only [beq_iff_eq,decide_eq_true_eq,BitVec.toNat_ushiftRight,Nat.shiftRight_eq_div_pow]
 have:=Nat.div_eq_zero_iff (a:=x.toNat) (b:=2 ^ 24)
 omega
theorem Bx8 {N:Nat} (p m:BitVec 32):Ab1 N (sOf p m)=some (vB p m):=by
 unfold Ab1
 rw [Aq8,AO8,eq0,shr24]
 congr 1
 rw [Bool.eq_iff_iff,CG6]
 simp only [Bool.and_eq_true,decide_eq_true_eq]
theorem Bx9 {N:Nat} (p m:BitVec 32):N0 N (sOf p m)=some (vB p m):=Bx8 (N:=N) p m
theorem Bi7 {N:Nat} (p m:BitVec 32):T7 N (sOf p m)=some (vB p m):=by
 unfold T7
 rw [Aq8,eq0]
 congr 1
 rw [Bool.eq_iff_iff,CG7]
 simp only [Bool.and_eq_true,decide_eq_true_eq]
 exact ⟨fun h=>⟨h.1.1,by have:=h.1.2;omega,by have:=h.2;omega⟩,fun h=>⟨⟨h.1,by have:=h.2.1;omega⟩,by have:=h.2.2;omega⟩⟩
theorem W5 {N:Nat} (p m:BitVec 32) (hN:1000<=N):I6 N (sOf p m)=some (vB p m):=by
 suffices h:∃ r,I6 N (sOf p m)=some r/\r=vB p m by obtain ⟨r,h,rfl⟩:=h;exact h
 unfold I6
 refine Ak9 (fun i x1=>x1=(i:Int)/\∀ j,j < i->¬ (p.getLsbD j=true/\m.getLsbD j=true)/\(24<=j->p.getLsbD j=false/\m.getLsbD j=false)) 32 _ (by omega) ⟨rfl,fun j hj=>absurd hj (by omega)⟩ ?_
 rintro self i x1 hi ⟨rfl,h1⟩ hs
 by_cases hl:i < 32
 ·refine ifT (by simp;omega) (ifT (by omega) ?_)
  simp only [BL9]
  have e24:decide ((24:Int)<=(i:Int))=decide (24<=i):=decide_eq_decide.2 (by omega)
  rw [e24]
  by_cases hb:¬ (p.getLsbD i=true/\m.getLsbD i=true)/\(24<=i->p.getLsbD i=false/\m.getLsbD i=false)
  ·refine ifF ?_ (hs hl _ ⟨C0 (by omega),fun j hj=>?_⟩)
   ·intro h
    obtain ⟨h2,h3⟩:=hb
    revert h h2 h3
    by_cases h24:24<=i
    ·intro h h2 h3
     obtain ⟨a,b⟩:=h3 h24
     simp [a,b] at h
    ·cases p.getLsbD i <;> cases m.getLsbD i <;> simp [h24]
   ·by_cases e:j=i
    ·subst e;exact hb
    ·exact h1 j (by omega)
  ·refine ifT ?_ ⟨false,rfl, ?_⟩
   ·revert hb
    by_cases h24:24<=i
    ·cases p.getLsbD i <;> cases m.getLsbD i <;> simp [h24]
    ·cases p.getLsbD i <;> cases m.getLsbD i <;> simp [h24]
   ·symm;rw [<- Bool.not_eq_true,Au1];exact fun h=>hb (h i hl)
 ·refine ifF (by simp;omega) ⟨true,rfl, ?_⟩
  symm;rw [Au1];exact fun j hj=>h1 j (by omega)
def gB (p m:BitVec 32) (f:Nat):Int:=if p.getLsbD f=true then 1 else if m.getLsbD f=true then -1 else 0
theorem BM1 {N:Nat} (p m:BitVec 32) (hv:vB p m=true) (f:Nat) (hf:f < 24) (hN:1000<=N):Ac4 N (sOf p m) (f:Int)=some (gB p m f):=by
 unfold Ac4
 rw [W5 p m hN]
 simp only [Option.bind_some,lt,AI7,BL9,gB,hv]
 rw [if_pos (by omega:(0:Int)<=(f:Int)),if_pos (by omega:(0:Int)<=(f:Int))]
 have e:(decide ((0:Int)<=(f:Int)) && decide ((f:Int) < 24))=true:=by simp;omega
 rw [e]
 cases h1:p.getLsbD f <;> cases h2:m.getLsbD f <;> simp
theorem gB_eq {p m a b:BitVec 32} (hv:vB p m=true) (hv' : vB a b=true) (f:Nat) (hf:f < 32):(gB a b f ≠ 0->gB p m f=gB a b f) ↔ ((a.getLsbD f=true->p.getLsbD f=true)/\(b.getLsbD f=true->m.getLsbD f=true)):=by
 have h1:=((Au1 p m).1 hv f hf).1
 have h2:=((Au1 a b).1 hv' f hf).1
 revert h1 h2
 simp only [gB]
 cases a.getLsbD f <;> cases b.getLsbD f <;> cases p.getLsbD f <;> cases m.getLsbD f <;> simp
def BU4 (p m a b:BitVec 32):Bool:=vB p m && (vB a b && decide (∀ i:Fin 32,(a.getLsbD i=true->p.getLsbD i=true)/\(b.getLsbD i=true->m.getLsbD i=true)))
theorem Cy6 (a p:BitVec 32):a &&& ~~~ p=0#32 ↔ ∀ i,i < 32->(a.getLsbD i=true->p.getLsbD i=true):=by
 rw [z32]
 refine forall_congr' fun i=>forall_congr' fun hi=>?_
 rw [BitVec.getLsbD_and,BitVec.getLsbD_not]
 cases a.getLsbD i <;> cases p.getLsbD i <;> simp [hi]
theorem Cy7 {N:Nat} (p m a b:BitVec 32):I5 N (sOf p m) (sOf a b)=some (BU4 p m a b):=by
 unfold I5
 rw [Ad4]
 simp only [Option.bind_some,lt,Ad4,Ao5,eq0,BU4]
 cases h1:vB p m
 ·simp
 cases h2:vB a b
 ·simp
 simp only [if_true,Bool.true_and]
 have key:(decide (∀ i:Fin 32,(a.getLsbD i=true->p.getLsbD i=true)/\(b.getLsbD i=true->m.getLsbD i=true)))=(decide (a &&& ~~~ p=0#32) && decide (b &&& ~~~ m=0#32)):=by
  rw [Bool.eq_iff_iff]
  simp only [Bool.and_eq_true,decide_eq_true_eq,Cy6]
  exact ⟨fun h=>⟨fun i hi=>(h ⟨i,hi⟩).1,fun i hi=>(h ⟨i,hi⟩).2⟩,fun h i=>⟨h.1 i.1 i.2,h.2 i.1 i.2⟩⟩
 rw [key]
 by_cases h:a &&& ~~~ p=0#32
 ·simp [h]
 ·simp [h]
theorem Cy8 {N:Nat} (p m a b:BitVec 32) (hN:1000<=N):T5 N (sOf p m) (sOf a b)=some (BU4 p m a b):=by
 suffices h:∃ r,T5 N (sOf p m) (sOf a b)=some r/\r=BU4 p m a b by obtain ⟨r,h,rfl⟩:=h;exact h
 unfold T5
 rw [W5 p m hN]
 refine B0 rfl (ltX ?_)
 cases h1:vB p m
 ·exact ifT (by simp) (ifT rfl ⟨false,rfl,by simp [BU4,h1]⟩)
 refine ifF (by simp) ?_
 rw [W5 a b hN]
 refine B0 rfl ?_
 cases h2:vB a b
 ·exact ifT (by simp) ⟨false,rfl,by simp [BU4,h2]⟩
 refine ifF (by simp) ?_
 refine Ak9 (fun i x3=>x3=(i:Int)/\∀ j,j < i->((a.getLsbD j=true->p.getLsbD j=true)/\(b.getLsbD j=true->m.getLsbD j=true))) 24 _ (by omega) ⟨rfl,fun j hj=>absurd hj (by omega)⟩ ?_
 rintro self i x3 hi ⟨rfl,h3⟩ hs
 by_cases hl:i < 24
 ·refine ifT (by simp;omega) (B0 (BM1 a b h2 i hl hN) (ltX ?_))
  have key:=gB_eq h1 h2 i (by omega)
  have fin:(¬ (gB a b i ≠ 0->gB p m i=gB a b i))->false=BU4 p m a b:=fun hn=>by
   symm;simp only [BU4,h1,h2,Bool.true_and]
   rw [<- Bool.not_eq_true,decide_eq_true_eq]
   intro h
   exact hn (key.2 (h ⟨i,by omega⟩))
  have go:(gB a b i ≠ 0->gB p m i=gB a b i)->∃ r,self (IntKind.wrap .i64 ((i:Int)+1))=some r/\r=BU4 p m a b:=fun hp=>hs hl _ ⟨C0 (by omega),fun j hj=>by
   by_cases e:j=i
   ·subst e;exact key.1 hp
   ·exact h3 j (by omega)⟩
  by_cases hz:gB a b i=0
  ·exact ifF (by simp [hz]) (ifF (by simp) (go fun h=>absurd hz h))
  ·refine ifT (by simp [hz]) (B0 (BM1 p m h1 i hl hN) ?_)
   by_cases he:gB p m i=gB a b i
   ·exact ifF (by simp [he]) (go fun _=>he)
   ·exact ifT (by simp [he]) ⟨false,rfl,fin fun h=>he (h hz)⟩
 ·refine ifF (by simp;omega) ⟨true,rfl, ?_⟩
  symm;simp only [BU4,h1,h2,Bool.true_and,decide_eq_true_eq]
  intro j
  by_cases hj:j.1 < 24
  ·exact h3 j.1 (by omega)
  ·have:=((Au1 a b).1 h2 j.1 j.2).2 (by omega)
   exact ⟨fun h=>by rw [this.1] at h;exact absurd h (by simp),fun h=>by rw [this.2] at h;exact absurd h (by simp)⟩
def Bp8 (x y s:BitVec 32):BitVec 32:=(x &&& ~~~ s) ||| (y &&& s)
theorem Cr4 {N:Nat} (p m a b s:BitVec 32):Ae2 N (sOf p m) (sOf a b) (s.toNat:Int)=some (sOf (Bp8 p a s) (Bp8 m b s)):=by
 unfold Ae2
 simp only [Ao5,Aq8,AO8,Bp8]
def CG8 (x:BitVec 32) (f:Nat) (on:Bool):BitVec 32:=if on=true then (x &&& ~~~ (1#32 <<< f)) ||| (1#32 <<< f) else x &&& ~~~ (1#32 <<< f)
theorem AA4 (x:BitVec 32) (f:Nat) (on:Bool) {j:Nat} (hj:j < 32):(CG8 x f on).getLsbD j=if j=f then on else x.getLsbD j:=by
 unfold CG8
 cases on
 ·rw [if_neg (by simp),BitVec.getLsbD_and,BitVec.getLsbD_not,Cb4 hj]
  by_cases e:j=f <;> simp [e,hj]
 ·rw [if_pos rfl,BitVec.getLsbD_or,BitVec.getLsbD_and,BitVec.getLsbD_not,Cb4 hj]
  by_cases e:j=f <;> simp [e,hj]
theorem Cb5 {N:Nat} (p m:BitVec 32) (f:Nat) (v:Int):Ap1 N (sOf p m) (f:Int) v=some (sOf (CG8 p f (v == 1)) (CG8 m f (v == -1))):=by
 unfold Ap1
 rw [if_pos (by omega)]
 simp only [Cy5,Ao5,AO8]
 cases h1:v == 1 <;> cases h2:v == -1 <;> simp [CG8]
def Cm7 (p m c a b:BitVec 32):Sound × Int:=if vB p m=true/\vB a b=true then (if c.toNat < 16777216/\c &&& (a ||| b)=0#32 then (sOf (Bp8 p a (c ||| (a ||| b))) (Bp8 m b (c ||| (a ||| b))),0) else (⟨0,0⟩,2)) else (⟨0,0⟩,14)
theorem BS0 {N:Nat} (p m c a b:BitVec 32):M9 N (sOf p m) (c.toNat:Int) (sOf a b)=some (Cm7 p m c a b):=by
 unfold M9 Cm7
 rw [Ad4]
 simp only [Option.bind_some,lt,Ad4,Ak0,AO8,Aq8,Cr4]
 cases h1:vB p m
 ·simp
 cases h2:vB a b
 ·simp
 by_cases h3:c.toNat < 16777216
 ·have e:((c &&& (a ||| b)).toNat:Int) != 0 ↔ ¬ (c &&& (a ||| b)=0#32):=by
   have:=eq0 (c &&& (a ||| b))
   simp only [bne_iff_ne,ne_eq]
   rw [<- decide_eq_true_eq (p:=c &&& (a ||| b)=0#32), <- this];simp
  by_cases h4:c &&& (a ||| b)=0#32
  ·simp [h3,h4];omega
  ·have e':=e.2 h4
   rw [if_neg (by simp <;> omega),e']
   simp [h3,h4]
 ·simp [h3];omega
theorem BS1 {N:Nat} (p m c a b:BitVec 32) (hN:1000<=N):T6 N (sOf p m) (c.toNat:Int) (sOf a b)=some (Cm7 p m c a b):=by
 suffices h:∃ r,T6 N (sOf p m) (c.toNat:Int) (sOf a b)=some r/\r=Cm7 p m c a b by obtain ⟨r,h,rfl⟩:=h;exact h
 unfold T6
 rw [W5 p m hN]
 refine B0 rfl (ltX ?_)
 cases h1:vB p m
 ·exact ifT (by simp) (ifT rfl ⟨_,rfl,by simp [Cm7,h1]⟩)
 refine ifF (by simp) ?_
 rw [W5 a b hN]
 refine B0 rfl ?_
 cases h2:vB a b
 ·exact ifT (by simp) ⟨_,rfl,by simp [Cm7,h2]⟩
 refine ifF (by simp) ?_
 rw [AO8,Aq8]
 by_cases hc:c.toNat < 16777216/\c &&& (a ||| b)=0#32
 ·obtain ⟨hc1,hc2⟩:=hc
  refine ifF (by rw [hc2];simp;omega) ?_
  have hd:∀ j,j < 32->¬ (c.getLsbD j=true/\(a.getLsbD j=true \/ b.getLsbD j=true)):=fun j hj=>by
   have:=(z32 _).1 hc2 j hj
   rw [BitVec.getLsbD_and,BitVec.getLsbD_or] at this
   revert this
   cases c.getLsbD j <;> cases a.getLsbD j <;> cases b.getLsbD j <;> simp
  refine Cm5 (fun i x2 x3 x4=>x4=(i:Int)/\∃ P M:BitVec 32,x2=(P.toNat:Int)/\x3=(M.toNat:Int)/\∀ j,j < 32 ->
   P.getLsbD j=(if j < i/\(c.getLsbD j=true \/ a.getLsbD j=true \/ b.getLsbD j=true) then a.getLsbD j else p.getLsbD j)/\M.getLsbD j=(if j < i/\(c.getLsbD j=true \/ a.getLsbD j=true \/ b.getLsbD j=true) then b.getLsbD j else m.getLsbD j)) 24 _ (by omega)
   ⟨rfl,p,m,rfl,rfl,fun j hj=>by simp⟩ ?_
  rintro self i x2 x3 x4 hi ⟨rfl,P,M,rfl,rfl,hPM⟩ hs
  by_cases hl:i < 24
  ·refine ifT (by simp;omega) (ifT (by omega) ?_)
   rw [BL9]
   have hG:=BM1 (N:=N) a b h2 i hl hN
   have hab:=((Au1 a b).1 h2 i (by omega)).1
   have hdi:=hd i (by omega)
   by_cases hci:c.getLsbD i=true
   ·refine ifT hci (B0 (Cb5 P M i 0) (B0 hG ?_))
    have ea:a.getLsbD i=false:=by cases e:a.getLsbD i <;> simp_all
    have eb:b.getLsbD i=false:=by cases e:b.getLsbD i <;> simp_all
    refine ifF (by simp [gB,ea,eb]) (hs hl _ _ _ ⟨C0 (by omega),_,_,rfl,rfl,fun j hj=>?_⟩)
    rw [AA4 _ _ _ hj,AA4 _ _ _ hj]
    by_cases e:j=i
    ·subst e;simp [hci,ea,eb]
    ·have:=hPM j hj
     have e2:j < i+1 ↔ j < i:=by omega
     simp only [e,if_false,e2];exact this
   ·refine ifF hci (B0 hG ?_)
    by_cases hz:gB a b i=0
    ·have ea:a.getLsbD i=false:=by revert hz;simp only [gB];cases a.getLsbD i <;> simp
     have eb:b.getLsbD i=false:=by revert hz;simp only [gB,ea];cases b.getLsbD i <;> simp
     refine ifF (by simp [hz]) (hs hl _ _ _ ⟨C0 (by omega),P,M,rfl,rfl,fun j hj=>?_⟩)
     by_cases e:j=i
     ·subst e;have:=hPM j hj;simpa [hci,ea,eb] using this
     ·have:=hPM j hj
      have e2:j < i+1 ↔ j < i:=by omega
      simp only [e2];exact this
    ·refine ifT (by simp [hz]) (B0 hG (B0 (Cb5 P M i _) (hs hl _ _ _ ⟨C0 (by omega),_,_,rfl,rfl,fun j hj=>?_⟩)))
     rw [AA4 _ _ _ hj,AA4 _ _ _ hj]
     by_cases e:j=i
     ·subst e
      revert hz hab
      simp only [gB]
      cases a.getLsbD j <;> cases b.getLsbD j <;> simp
     ·have:=hPM j hj
      have e2:j < i+1 ↔ j < i:=by omega
      simp only [e,if_false,e2];exact this
  ·obtain rfl:i=24:=by omega
   refine ifF (by simp) ⟨_,rfl, ?_⟩
   simp only [Cm7,h1,h2,hc1,hc2,and_self,if_true]
   have hp:=(Au1 p m).1 h1
   have hA:=(Au1 a b).1 h2
   have hcs:=(Ay5 c).1 hc1
   have eP:P=Bp8 p a (c ||| (a ||| b)):=AJ5 fun j hj=>by
    rw [(hPM j hj).1,Bp8,BitVec.getLsbD_or,BitVec.getLsbD_and,BitVec.getLsbD_and,BitVec.getLsbD_not,BitVec.getLsbD_or,BitVec.getLsbD_or]
    by_cases h24:j < 24
    ·cases c.getLsbD j <;> cases a.getLsbD j <;> cases b.getLsbD j <;> cases p.getLsbD j <;> simp [h24,hj]
    ·have g1:=(hp j hj).2 (by omega)
     have g2:=(hA j hj).2 (by omega)
     simp [h24,g1.1,g2.1]
   have eM:M=Bp8 m b (c ||| (a ||| b)):=AJ5 fun j hj=>by
    rw [(hPM j hj).2,Bp8,BitVec.getLsbD_or,BitVec.getLsbD_and,BitVec.getLsbD_and,BitVec.getLsbD_not,BitVec.getLsbD_or,BitVec.getLsbD_or]
    by_cases h24:j < 24
    ·cases c.getLsbD j <;> cases a.getLsbD j <;> cases b.getLsbD j <;> cases m.getLsbD j <;> simp [h24,hj]
    ·have g1:=(hp j hj).2 (by omega)
     have g2:=(hA j hj).2 (by omega)
     simp [h24,g1.2,g2.2]
   rw [eP,eM]
 ·refine ifT ?_ ⟨_,rfl, ?_⟩
  ·rw [Bool.or_eq_true,decide_eq_true_eq,bne_iff_ne]
   by_cases h:c.toNat < 16777216
   ·right
    intro h0
    exact hc ⟨h,BitVec.eq_of_toNat_eq (by show _=0;omega)⟩
   ·left;omega
  ·simp only [Cm7,h1,h2,and_self,if_true];rw [if_neg hc]
def Cm8 (p m a b s:BitVec 32):Sound × Int:=if vB p m=true/\vB a b=true then (if s.toNat < 16777216 then (sOf (Bp8 p a s) (Bp8 m b s),0) else (⟨0,0⟩,2)) else (⟨0,0⟩,14)
theorem Cm9 {N:Nat} (p m a b s:BitVec 32):Q3 N (sOf p m) (sOf a b) (s.toNat:Int)=some (Cm8 p m a b s):=by
 unfold Q3 Cm8
 rw [Ad4]
 simp only [Option.bind_some,lt,Ad4,Cr4]
 cases h1:vB p m
 ·simp
 cases h2:vB a b
 ·simp
 by_cases h3:s.toNat < 16777216
 ·simp [h3];omega
 ·simp [h3];omega
theorem Cn0 {N:Nat} (p m a b s:BitVec 32) (hN:1000<=N):Ae3 N (sOf p m) (sOf a b) (s.toNat:Int)=some (Cm8 p m a b s):=by
 suffices h:∃ r,Ae3 N (sOf p m) (sOf a b) (s.toNat:Int)=some r/\r=Cm8 p m a b s by obtain ⟨r,h,rfl⟩:=h;exact h
 unfold Ae3
 rw [W5 p m hN]
 refine B0 rfl (ltX ?_)
 cases h1:vB p m
 ·exact ifT (by simp) (ifT rfl ⟨_,rfl,by simp [Cm8,h1]⟩)
 refine ifF (by simp) ?_
 rw [W5 a b hN]
 refine B0 rfl ?_
 cases h2:vB a b
 ·exact ifT (by simp) ⟨_,rfl,by simp [Cm8,h2]⟩
 refine ifF (by simp) ?_
 by_cases hc:s.toNat < 16777216
 ·refine ifF (by simp;omega) ?_
  refine Cm5 (fun i x2 x3 x4=>x4=(i:Int)/\∃ P M:BitVec 32,x2=(P.toNat:Int)/\x3=(M.toNat:Int)/\∀ j,j < 32 ->
   P.getLsbD j=(if j < i/\s.getLsbD j=true then a.getLsbD j else p.getLsbD j)/\M.getLsbD j=(if j < i/\s.getLsbD j=true then b.getLsbD j else m.getLsbD j)) 24 _ (by omega)
   ⟨rfl,p,m,rfl,rfl,fun j hj=>by simp⟩ ?_
  rintro self i x2 x3 x4 hi ⟨rfl,P,M,rfl,rfl,hPM⟩ hs
  by_cases hl:i < 24
  ·refine ifT (by simp;omega) (ifT (by omega) ?_)
   rw [BL9]
   have hab:=((Au1 a b).1 h2 i (by omega)).1
   by_cases hci:s.getLsbD i=true
   ·refine ifT hci (B0 (BM1 (N:=N) a b h2 i hl hN) (B0 (Cb5 P M i _) (hs hl _ _ _ ⟨C0 (by omega),_,_,rfl,rfl,fun j hj=>?_⟩)))
    rw [AA4 _ _ _ hj,AA4 _ _ _ hj]
    by_cases e:j=i
    ·subst e
     revert hab
     simp only [gB,hci]
     cases a.getLsbD j <;> cases b.getLsbD j <;> simp
    ·have:=hPM j hj
     have e2:j < i+1 ↔ j < i:=by omega
     simp only [e,if_false,e2];exact this
   ·refine ifF hci (hs hl _ _ _ ⟨C0 (by omega),P,M,rfl,rfl,fun j hj=>?_⟩)
    by_cases e:j=i
    ·subst e;have:=hPM j hj;simpa [hci] using this
    ·have:=hPM j hj
     have e2:j < i+1 ↔ j < i:=by omega
     simp only [e2];exact this
  ·obtain rfl:i=24:=by omega
   refine ifF (by simp) ⟨_,rfl, ?_⟩
   simp only [Cm8,h1,h2,hc,and_self,if_true]
   have hcs:=(Ay5 s).1 hc
   have eP:P=Bp8 p a s:=AJ5 fun j hj=>by
    rw [(hPM j hj).1,Bp8,BitVec.getLsbD_or,BitVec.getLsbD_and,BitVec.getLsbD_and,BitVec.getLsbD_not]
    by_cases h24:j < 24
    ·cases s.getLsbD j <;> cases a.getLsbD j <;> cases p.getLsbD j <;> simp [h24,hj]
    ·rw [if_neg (by simp [h24]),hcs j (by omega) hj]
     simp [hj]
   have eM:M=Bp8 m b s:=AJ5 fun j hj=>by
    rw [(hPM j hj).2,Bp8,BitVec.getLsbD_or,BitVec.getLsbD_and,BitVec.getLsbD_and,BitVec.getLsbD_not]
    by_cases h24:j < 24
    ·cases s.getLsbD j <;> cases b.getLsbD j <;> cases m.getLsbD j <;> simp [h24,hj]
    ·rw [if_neg (by simp [h24]),hcs j (by omega) hj]
     simp [hj]
   rw [eP,eM]
 ·exact ifT (by simp;omega) ⟨_,rfl,by simp [Cm8,h1,h2,hc]⟩
end Go.AM
set_option linter.unusedVariables false
namespace Go.AM
open Go.Proofs
def vS (s:Sound):Prop:=∃ p m:BitVec 32,s=sOf p m/\vB p m=true
def AZ8 (p:Pat):Prop:=
 (0<=p.Kind/\p.Kind<=6)/\(p.Kind ≠ 1->(p.Is.Plus=0/\p.Is.Minus=0)/\p.Not=false)/\(p.Kind ≠ 3->p.Kind ≠ 4->p.Kind ≠ 5->p.L.n=0)/\(p.Kind ≠ 5->p.Min=0/\p.Max=0) /\
 (p.Kind=5->p.L.n=1/\0<=p.Min/\p.Min<=32/\(p.Max = -1 \/ (p.Min<=p.Max/\p.Max<=32)))/\vS p.Is
theorem BG3 {s:Sound} {p m:BitVec 32} (h:s=sOf p m):vS s ↔ vB p m=true:=by
 constructor
 ·rintro ⟨q,r,e,hv⟩
  rw [h] at e
  have e1:(p.toNat:Int)=q.toNat:=congrArg Sound.Plus e
  have e2:(m.toNat:Int)=r.toNat:=congrArg Sound.Minus e
  rw [BitVec.eq_of_toNat_eq (show p.toNat=q.toNat by omega),BitVec.eq_of_toNat_eq (show m.toNat=r.toNat by omega)];exact hv
 ·exact fun hv=>⟨p,m,h,hv⟩
def okPS:Pat->Prop
 | .nil=>True
 | .mk _ is _ _ _ n g=>okS is/\∀ i,i < n->okPS (g i)
theorem okPS.is {p:Pat} (h:okPS p):okS p.Is:=by
 cases p with
 | nil=>exact ⟨0#32,0#32,rfl⟩
 | mk _ is _ _ _ n g=>exact h.1
theorem okPS.L {p:Pat} (h:okPS p) {i:Nat} (hi:i < p.L.n):okPS (p.L.g i):=by
 cases p with
 | nil=>exact absurd hi (by show ¬ i < 0;omega)
 | mk _ is _ _ _ n g=>exact h.2 i hi
def chk:Nat->List Pat->Prop
 | 0,l=>l=[]
 | _+1, []=>True
 | k+1,p :: l=>AZ8 p/\chk k (p.L.toList ++ l)
theorem Cb6:∀ k,chk k []
 | 0=>rfl
 | _+1=>trivial
theorem AZ9:∀ (k:Nat) (l:List Pat),chk k l->l.length<=k
 | 0,l,h=>by rw [show l=[] from h];exact Nat.le_refl _
 | k+1, [],_=>Nat.zero_le _
 | k+1,p :: l,⟨_,h⟩=>by
  have:=AZ9 k _ h
  rw [List.length_append] at this
  simp only [List.length_cons];omega
theorem BM2:∀ (d:Nat) (p:Pat),okP d p->okP (d+1) p
 | 0,_,h=>h.elim
 | d+1,p,⟨h1,h2,h3⟩=>⟨h1,h2,fun i hi=>BM2 d _ (h3 i hi)⟩
theorem AM7 {α : Type} {s:Sl α} {i:Nat} (h:i < s.n):s.g i ∈ s.toList:=List.mem_map.2 ⟨i,List.mem_range.2 h,rfl⟩
theorem S1 {α : Type} (s:Sl α):s.toList.length=s.n:=by simp [Sl.toList]
theorem Cb7:∀ (k:Nat) (l:List Pat),k<=40->chk k l->∀ p ∈ l,okP k p
 | 0,l,_,h,p,hp=>by rw [show l=[] from h] at hp;cases hp
 | k+1, [],_,_,p,hp=>by cases hp
 | k+1,q :: l,hk,⟨hn,h⟩,p,hp=>by
  have ih:=Cb7 k _ (by omega) h
  rcases List.mem_cons.1 hp with rfl | hp
  ·have hl:=AZ9 k _ h
   rw [List.length_append,S1] at hl
   exact ⟨by omega,fun h5=>hn.2.2.2.2.1 h5,fun i hi=>ih _ (List.mem_append_left _ (AM7 hi))⟩
  ·exact BM2 k p (ih p (List.mem_append_right _ hp))
theorem Cn1 {N:Nat} {p:Pat} (hp:okS p.Is):∃ e,AM0 N p=some e/\(e=0 ↔ AZ8 p):=by
 obtain ⟨a,b,he⟩:=hp
 have hv:=BG3 he
 unfold AM0 AZ8
 by_cases h1:0<=p.Kind/\p.Kind<=6
 case neg=>exact ifT (by simp;omega) ⟨2,rfl,by simp;omega⟩
 refine ifF (by simp;omega) ?_
 have e0:((p.Is.Plus == 0) && (p.Is.Minus == 0))=decide (p.Is.Plus=0/\p.Is.Minus=0):=by
  rw [Bool.eq_iff_iff];simp
 rw [e0]
 by_cases h2:p.Kind ≠ 1->(p.Is.Plus=0/\p.Is.Minus=0)/\p.Not=false
 case neg=>
  refine ifT ?_ ⟨2,rfl,by simp [h2]⟩
  simp only [Bool.and_eq_true,Bool.or_eq_true,bne_iff_ne,ne_eq,Bool.not_eq_true,decide_eq_false_iff_not]
  rw [Classical.not_imp] at h2
  refine ⟨h2.1, ?_⟩
  by_cases h:p.Is.Plus=0/\p.Is.Minus=0
  ·right
   cases hn:p.Not
   ·exact absurd ⟨h,hn⟩ h2.2
   ·rfl
  ·exact .inl h
 refine ifF ?_ (ltX ?_)
 ·simp only [Bool.and_eq_true,Bool.or_eq_true,bne_iff_ne,ne_eq,Bool.not_eq_true,decide_eq_false_iff_not]
  rintro ⟨g1,g2⟩
  obtain ⟨g3,g4⟩:=h2 g1
  rcases g2 with g2 | g2
  ·exact g2 g3
  ·rw [g4] at g2;cases g2
 have rest:(p.Kind ≠ 3->p.Kind ≠ 4->p.Kind ≠ 5->p.L.n=0)->∃ e,(if ((p.Kind != 5) && ((p.Min != 0) || (p.Max != 0)))=true then some (2:Int) else
  lt (fun (z2:Bool)=>if z2=true then some 2 else (T7 N p.Is).bind fun y1=>if (!y1)=true then some 14 else some 0) fun k2=>
   if (p.Kind == 5)=true then if (((p.L.n:Nat):Int) != 1)=true then k2 true else if (decide (p.Min < 0))=true then k2 true else if (decide (32 < p.Min))=true then k2 true else
    if (p.Max != (-1))=true then if (decide (p.Max < p.Min))=true then k2 true else k2 (decide (32 < p.Max)) else k2 false else k2 false)=some e /\
  (e=0 ↔ (0<=p.Kind/\p.Kind<=6)/\(p.Kind ≠ 1->(p.Is.Plus=0/\p.Is.Minus=0)/\p.Not=false)/\(p.Kind ≠ 3->p.Kind ≠ 4->p.Kind ≠ 5->p.L.n=0)/\(p.Kind ≠ 5->p.Min=0/\p.Max=0) /\
   (p.Kind=5->p.L.n=1/\0<=p.Min/\p.Min<=32/\(p.Max = -1 \/ (p.Min<=p.Max/\p.Max<=32)))/\vS p.Is):=by
  intro h3
  by_cases h4:p.Kind ≠ 5->p.Min=0/\p.Max=0
  case neg=>
   refine ifT ?_ ⟨2,rfl,by simp [h4]⟩
   rw [Classical.not_imp] at h4
   simp only [Bool.and_eq_true,Bool.or_eq_true,bne_iff_ne,ne_eq]
   omega
  refine ifF ?_ (ltX ?_)
  ·simp only [Bool.and_eq_true,Bool.or_eq_true,bne_iff_ne,ne_eq]
   rintro ⟨g1,g2⟩
   have:=h4 g1
   omega
  have last:(p.Kind=5->p.L.n=1/\0<=p.Min/\p.Min<=32/\(p.Max = -1 \/ (p.Min<=p.Max/\p.Max<=32)))->∃ e,(if false=true then some (2:Int) else (T7 N p.Is).bind fun y1=>if (!y1)=true then some 14 else some 0)=some e /\
   (e=0 ↔ (0<=p.Kind/\p.Kind<=6)/\(p.Kind ≠ 1->(p.Is.Plus=0/\p.Is.Minus=0)/\p.Not=false)/\(p.Kind ≠ 3->p.Kind ≠ 4->p.Kind ≠ 5->p.L.n=0)/\(p.Kind ≠ 5->p.Min=0/\p.Max=0) /\
    (p.Kind=5->p.L.n=1/\0<=p.Min/\p.Min<=32/\(p.Max = -1 \/ (p.Min<=p.Max/\p.Max<=32)))/\vS p.Is):=by
   intro h5
   refine ifF (by simp) ?_
   rw [hv,he,Bi7]
   refine B0 rfl ?_
   cases hvb:vB a b
   ·exact ifT rfl ⟨14,rfl,by simp⟩
   ·exact ifF (by simp) ⟨0,rfl,by rw [<- he];exact ⟨fun _=>⟨h1,h2,h3,h4,h5,rfl⟩,fun _=>rfl⟩⟩
  have bad:¬ (p.Kind=5->p.L.n=1/\0<=p.Min/\p.Min<=32/\(p.Max = -1 \/ (p.Min<=p.Max/\p.Max<=32)))->∃ e,(if true=true then some (2:Int) else (T7 N p.Is).bind fun y1=>if (!y1)=true then some 14 else some 0)=some e /\
   (e=0 ↔ (0<=p.Kind/\p.Kind<=6)/\(p.Kind ≠ 1->(p.Is.Plus=0/\p.Is.Minus=0)/\p.Not=false)/\(p.Kind ≠ 3->p.Kind ≠ 4->p.Kind ≠ 5->p.L.n=0)/\(p.Kind ≠ 5->p.Min=0/\p.Max=0) /\
    (p.Kind=5->p.L.n=1/\0<=p.Min/\p.Min<=32/\(p.Max = -1 \/ (p.Min<=p.Max/\p.Max<=32)))/\vS p.Is):=fun h5=>ifT rfl ⟨2,rfl,⟨fun h=>absurd h (by decide),fun h=>absurd h.2.2.2.2.1 h5⟩⟩
  by_cases k5:p.Kind=5
  ·refine ifT (by simp [k5]) ?_
   by_cases g1:p.L.n=1
   case neg=>exact ifT (by simp;omega) (bad fun h=>g1 (h k5).1)
   refine ifF (by simp;omega) ?_
   by_cases g2:p.Min < 0
   ·exact ifT (by simpa using g2) (bad fun h=>by have:=h k5;omega)
   refine ifF (by simpa using g2) ?_
   by_cases g3:32 < p.Min
   ·exact ifT (by simpa using g3) (bad fun h=>by have:=h k5;omega)
   refine ifF (by simpa using g3) ?_
   by_cases g4:p.Max = -1
   ·exact ifF (by simp [g4]) (last fun _=>⟨g1,by omega,by omega, .inl g4⟩)
   refine ifT (by simp [g4]) ?_
   by_cases g5:p.Max < p.Min
   ·exact ifT (by simpa using g5) (bad fun h=>by have:=h k5;omega)
   refine ifF (by simpa using g5) ?_
   by_cases g6:32 < p.Max
   ·rw [decide_eq_true g6];exact bad fun h=>by have:=h k5;omega
   ·rw [decide_eq_false g6];exact last fun _=>⟨g1,by omega,by omega, .inr ⟨by omega,by omega⟩⟩
  ·exact ifF (by simp [k5]) (last fun h=>absurd h k5)
 by_cases k3:p.Kind=3
 ·exact ifF (by simp [k3]) (ifF (by simp) (rest fun h=>absurd k3 h))
 refine ifT (by simp [k3]) ?_
 by_cases k4:p.Kind=4
 ·exact ifF (by simp [k4]) (ifF (by simp) (rest fun _ h=>absurd k4 h))
 refine ifT (by simp [k4]) ?_
 by_cases k5:p.Kind=5
 ·exact ifF (by simp [k5]) (ifF (by simp) (rest fun _ _ h=>absurd k5 h))
 refine ifT (by simp [k5]) ?_
 by_cases hn:p.L.n=0
 ·exact ifF (by simp;omega) (rest fun _ _ _=>hn)
 ·exact ifT (by simp;omega) ⟨2,rfl,⟨fun h=>absurd h (by decide),fun h=>absurd (h.2.2.1 k3 k4 k5) hn⟩⟩
theorem AE9 {α : Type} (s:Sl α) {i:Nat} (h:i < s.n):s.toList.drop i=s.g i :: s.toList.drop (i+1):=by
 have hl:i < s.toList.length:=by rw [S1];exact h
 rw [List.drop_eq_getElem_cons hl]
 simp [Sl.toList]
theorem Ay6 {α : Type} (s:Sl α):s.toList.drop s.n=[]:=List.drop_eq_nil_of_le (by rw [S1];exact Nat.le_refl _)
theorem Cb8 {N:Nat} (hN:1000<=N):∀ (d:Nat),d<=40->∀ (p:Pat),okPS p->∀ M,N+d+1<=M->∃ r,Ap4 M p ((40 - d:Nat):Int)=some r /\
 ∃ k:Nat,r.1=(k:Int)/\40 - d<=k/\k<=40/\(r.2=0->40 - d < k/\∀ l,chk d (p :: l) ↔ chk (40 - k) l)/\(r.2 ≠ 0->∀ l, ¬ chk d (p :: l))
 | d,hd,p,hp,0,hM=>by omega
 | 0,hd,p,hp,M+1,hM=>by
  show ∃ r,Ag4 (Ap4 M) M p _=some r/\_
  unfold Ag4
  exact ifT (by simp) ⟨_,rfl,40,rfl,by omega,by omega,fun h=>absurd h (by decide),fun _ l h=>by cases h⟩
 | d+1,hd,p,hp,M+1,hM=>by
  show ∃ r,Ag4 (Ap4 M) M p _=some r/\_
  unfold Ag4
  refine ifF (by simp;omega) ?_
  obtain ⟨e,he,hn⟩:=Cn1 (N:=M) hp.is
  refine B0 he ?_
  by_cases h0:e=0
  case neg=>exact ifT (by simp [h0]) ⟨_,rfl,40 - (d+1),rfl,Nat.le_refl _,by omega,fun h=>absurd h h0,fun _ l h=>h0 (hn.2 h.1)⟩
  refine ifF (by simp [h0]) ?_
  have hnode:=hn.1 h0
  rw [C0 (by omega)]
  refine Z1 (fun i x1 x2=>x2=(i:Int)/\∃ k:Nat,x1=(k:Int)/\40 - (d+1)+1+i<=k/\k<=40/\i<=p.L.n/\∀ l,chk (d+1) (p :: l) ↔ chk (40 - k) (p.L.toList.drop i ++ l)) 41 _ (by omega)
   ⟨rfl,40 - (d+1)+1,rfl,by omega,by omega,by omega,fun l=>by
    rw [show 40 - (40 - (d+1)+1)=d by omega]
    exact ⟨fun h=>h.2,fun h=>⟨hnode,h⟩⟩⟩ ?_
  rintro self i x1 x2 hi ⟨rfl,k,rfl,h1,h2,h3,h4⟩ hs
  by_cases hl:i < p.L.n
  ·refine ifT (by simp;omega) (ifT (by omega) ?_)
   obtain ⟨r,hr,k',r1,r2,r3,r4,r5⟩:=Cb8 hN (40 - k) (by omega) (p.L.g i) (hp.L hl) M (by omega)
   rw [show ((40 - (40 - k):Nat):Int)=(k:Int) by omega] at hr
   refine B0 (by rw [Int.toNat_natCast];exact hr) ?_
   by_cases hz:r.2=0
   ·refine ifF (by simp [hz]) (hs (by omega) _ _ ⟨C0 (by omega),k',r1,by have:=(r4 hz).1;omega,r3,by omega,fun l=>?_⟩)
    rw [h4,AE9 _ hl,List.cons_append]
    exact (r4 hz).2 _
   ·refine ifT (by simp [hz]) ⟨_,rfl,k',r1,by omega,r3,fun h=>absurd h hz,fun _ l hc=>?_⟩
    rw [h4,AE9 _ hl,List.cons_append] at hc
    exact r5 hz _ hc
  ·obtain rfl:i=p.L.n:=by omega
   refine ifF (by simp) ⟨_,rfl,k,rfl,by omega,h2,fun _=>⟨by omega,fun l=>?_⟩,fun h=>absurd rfl h⟩
   rw [h4,Ay6];rfl
theorem Ba0 {N:Nat} (hN:2000<=N) {p:Pat} (hp:okPS p):∃ e,Ak2 N p=some e/\(e=0 ↔ chk 40 [p]):=by
 obtain ⟨r,hr,k,h1,h2,h3,h4,h5⟩:=Cb8 (N:=1500) (by omega) 40 (Nat.le_refl _) p hp N (by omega)
 unfold Ak2
 refine B0 hr ⟨_,rfl,fun h=>?_,fun h=>?_⟩
 ·exact ((h4 h).2 []).2 (Cb6 _)
 ·by_cases hz:r.2=0
  ·exact hz
  ·exact absurd h (h5 hz [])
end Go.AM
set_option linter.unusedVariables false
namespace Go.AM
open Go.Proofs
theorem Cb9 (x:BitVec 64) (h:x ≠ 0#64):Lib.ctz 64 x.toNat < 64/\x.getLsbD (Lib.ctz 64 x.toNat)=true/\∀ j,j < Lib.ctz 64 x.toNat->x.getLsbD j=false:=by
 have h0:x.toNat ≠ 0:=fun e=>h (BitVec.eq_of_toNat_eq (by simpa using e))
 obtain ⟨m,hm,hlt⟩:=Lib.ctzFrom_spec 64 x.toNat (by omega) x.isLt
 have e:Lib.ctz 64 x.toNat=Lib.ctzFrom 64 x.toNat:=by unfold Lib.ctz;rw [if_neg h0]
 rw [e]
 refine ⟨hlt, ?_,fun j hj=>?_⟩
 ·show x.toNat.testBit _=true
  rw [hm,Nat.testBit_two_pow_mul]
  simp [<- hm,Nat.testBit_zero]
 ·show x.toNat.testBit _=false
  rw [hm,Nat.testBit_two_pow_mul]
  simp [<- hm];omega
def As6 (x:BitVec 64) (i:Nat):List Int:=((List.range' i (64 - i)).filter fun j=>x.getLsbD j).map fun (j:Nat)=>(j:Int)
theorem AM8 {x:BitVec 64} {i:Nat} (h:∀ j,j < 64->x.getLsbD j=false):As6 x i=[]:=by
 unfold As6
 rw [List.filter_eq_nil_iff.2 fun j hj=>by
  have:=List.mem_range'.1 hj
  simp;exact h j (by omega)]
 rfl
theorem Bi8 {x:BitVec 64} {t:Nat}:∀ (k i:Nat),t=i+k->t < 64->x.getLsbD t=true->(∀ j,j < t->x.getLsbD j=false)->As6 x i=(t:Int) :: As6 x (t+1)
 | 0,i,h,ht,hb,hl=>by
  obtain rfl:t=i:=by omega
  unfold As6
  rw [show 64 - t=(64 - (t+1))+1 by omega,List.range'_succ,List.filter_cons_of_pos hb]
  rfl
 | k+1,i,h,ht,hb,hl=>by
  rw [<- Bi8 k (i+1) (by omega) ht hb hl]
  unfold As6
  rw [show 64 - i=(64 - (i+1))+1 by omega,List.range'_succ,List.filter_cons_of_neg (by simp;exact hl i (by omega))]
theorem BG4 {x y:BitVec 64} {i:Nat} (h:∀ j,i<=j->x.getLsbD j=y.getLsbD j):As6 x i=As6 y i:=by
 unfold As6
 rw [List.filter_congr fun j hj=>h j (by have:=List.mem_range'.1 hj;omega)]
def CI6 (M:Nat) (self:Int->Option (List Int)) (x1:Int):Option (List Int):=
 if (x1 != 0)=true then
  (F3 M x1).bind fun y3=>
  if (0:Int)<=y3 then
   Ab4 y3 (
    self (E7 .andNot .u64 x1 (shI .shl .u64 1 y3))
    )
  else none
 else
  some []
theorem Cc0 {x:BitVec 64} {M:Nat} {self:Int->Option (List Int)} (hx:x ≠ 0#64):CI6 M self (U x)=Ab4 ((Lib.ctz 64 x.toNat:Nat):Int) (self (U (x &&& ~~~(1#64 <<< Lib.ctz 64 x.toNat)))):=by
 have h0:x.toNat ≠ 0:=fun e=>hx (BitVec.eq_of_toNat_eq (by simpa using e))
 have hlt:=x.isLt
 unfold CI6
 rw [if_pos (by simp;omega)]
 have:F3 M (U x)=some ((Lib.ctz 64 x.toNat:Nat):Int):=by
  unfold F3
  rw [if_pos ⟨show (0:Int)<=(x.toNat:Int) by omega,show (x.toNat:Int) < 18446744073709551616 by omega⟩]
  rfl
 rw [this,Option.bind_some,if_pos (by omega),Bw8 _ (Cb9 x hx).1,Cl9]
theorem By0 {M:Nat} {self:Int->Option (List Int)}:CI6 M self (U 0#64)=some []:=rfl
theorem Cy9 (M:Nat):∀ (k i:Nat) (x:BitVec 64),64 - i<=k->(∀ j,j < i->x.getLsbD j=false)->∀ N,k < N->Aa9 N (CI6 M) (U x)=some (As6 x i):=by
 intro k
 induction k with
 | zero=>
  intro i x hk hl N hN
  have hz:x=0#64:=BitVec.eq_of_getLsbD_eq fun j hj=>by simp;exact hl j (by omega)
  subst hz
  match N,hN with
  | N+1,_=>
   rw [AM8 fun j hj=>by simp,Q6,By0]
 | succ k ih=>
  intro i x hk hl N hN
  match N,hN with
  | N+1,hN=>
   by_cases hx:x=0#64
   ·subst hx
    rw [AM8 fun j hj=>by simp,Q6,By0]
   ·obtain ⟨h1,h2,h3⟩:=Cb9 x hx
    have hi:i<=Lib.ctz 64 x.toNat:=by
     by_cases hh:Lib.ctz 64 x.toNat < i
     ·rw [hl _ hh] at h2;cases h2
     ·omega
    rw [Bi8 (Lib.ctz 64 x.toNat - i) i (by omega) h1 h2 h3,Q6,Cc0 hx]
    generalize Lib.ctz 64 x.toNat=t at h1 h2 h3 hi
    have hb:∀ j,j < 64->(x &&& ~~~(1#64 <<< t)).getLsbD j=(x.getLsbD j && !decide (j=t)):=fun j hj=>by
     rw [BitVec.getLsbD_and,BitVec.getLsbD_not,Ax1 h1 hj];simp [hj]
    have hc:As6 x (t+1)=As6 (x &&& ~~~(1#64 <<< t)) (t+1):=BG4 fun j hj=>by
     by_cases hj2:j < 64
     ·rw [hb j hj2];have:¬ j=t:=by omega
      simp [this]
     ·rw [BitVec.getLsbD_of_ge _ _ (by omega),BitVec.getLsbD_of_ge _ _ (by omega)]
    rw [ih (t+1) (x &&& ~~~(1#64 <<< t)) (by omega) (fun j hj=>by
     rw [hb j (by omega)]
     by_cases e:j=t
     ·simp [e]
     ·rw [h3 j (by omega)];rfl) N (by omega), <- hc]
    rfl
theorem AF0 (x:BitVec 64) {N:Nat} (hN:100<=N):O3 N (U x)=some (As6 x 0):=
 Cy9 N 64 0 x (by omega) (fun j hj=>absurd hj (by omega)) N (by omega)
theorem mem_bitsF {x:BitVec 64} {i:Nat} {y:Int}:y ∈ As6 x i ↔ ∃ j:Nat,y=(j:Int)/\i<=j/\j < 64/\x.getLsbD j=true:=by
 unfold As6
 simp only [List.mem_map,List.mem_filter,List.mem_range'_1]
 constructor
 ·rintro ⟨j,⟨h1,h2⟩,rfl⟩;exact ⟨j,rfl,h1.1,by omega,h2⟩
 ·rintro ⟨j,rfl,h1,h2,h3⟩;exact ⟨j,⟨⟨h1,by omega⟩,h3⟩,rfl⟩
theorem Cn2 {T A R:Type} {body:(A->Option R)->T->A->Option R} {k:A->Option R} {J5:R->Prop} (J:List T->A->Prop) (hnil:∀ a,J [] a->∃ r,k a=some r/\J5 r)
 (hcons:∀ t L a self,J (t :: L) a->(∀ a',J L a' -> ∃ r,self a' = some r/\J5 r)->∃ r,body self t a=some r/\J5 r):∀ (L:List T) (a:A),J L a->∃ r,K4 L body k a=some r/\J5 r
 | [],a,h=>hnil a h
 | t :: L,a,h=>hcons t L a _ h fun a' h'=>Cn2 J hnil hcons L a' h'
def TabA (n:Nat) (R:Nat->Nat->Prop) (f:Nat->Int):Prop:=TabR n R f/\∀ a,n < a->f a=0
theorem TabA.congr {n:Nat} {R R' : Nat->Nat->Prop} {f:Nat->Int} (h:TabA n R f) (hr:∀ a b,a<=n->b<=n->(R a b ↔ R' a b)):TabA n R' f:=⟨h.1.congr hr,h.2⟩
theorem zeroA (n:Nat):TabA n (fun _ _=>False) (fun _=>0):=⟨Cm6 fun _ _=>rfl,fun _ _=>rfl⟩
theorem Am4 (f:Nat->Int) (i:Nat) (v:Int) (a:Nat):AW5 f i v a=if a=i then v else f a:=rfl
theorem Cr5 {N n:Nat} {R S:Nat->Nat->Prop} {x y:Nat->Int} (hn:n<=32) (hN:1000<=N) (hR:TabA n R x) (hS:TabA n S y) :
 ∃ s,J8 N x y=some s/\TabA n (fun a b=>R a b \/ S a b) s:=by
 unfold J8
 refine Z1 (fun i x1 x2=>x2=(i:Int)/\∀ a,x1 a=if a < i then E7 .or .u64 (x a) (y a) else x a) 33 _ (by omega) ⟨rfl,fun a=>by rw [if_neg (by omega)]⟩ ?_
 rintro self i x1 x2 hi ⟨rfl,h2⟩ hs
 by_cases hl:i < 33
 ·refine ifT (by simp;omega) (ifT (by omega) (ifT (by omega) (hs (by omega) _ _ ⟨C0 (by omega),fun a=>?_⟩)))
  rw [Am4,Int.toNat_natCast,Nat.zero_add,Nat.mul_one]
  by_cases e:a=i
  ·subst e;rw [if_pos rfl,if_pos (by omega),h2 a,if_neg (by omega)]
  ·rw [if_neg e,h2 a]
   by_cases e2:a < i
   ·rw [if_pos e2,if_pos (by omega)]
   ·rw [if_neg e2,if_neg (by omega)]
 ·refine ifF (by simp;omega) ⟨x1,rfl,fun a ha=>?_,fun a ha=>?_⟩
  ·obtain ⟨u,e1,g1⟩:=hR.1 a ha
   obtain ⟨v,e2,g2⟩:=hS.1 a ha
   refine ⟨u ||| v,by rw [h2 a,if_pos (by omega),e1,e2,CI5],fun b hb=>?_⟩
   rw [BitVec.getLsbD_or,Bool.or_eq_true,g1 b hb,g2 b hb]
   constructor
   ·rintro (⟨h1,h2⟩ | ⟨h1,h2⟩)
    ·exact ⟨h1, .inl h2⟩
    ·exact ⟨h1, .inr h2⟩
   ·rintro ⟨h1,h2 | h2⟩
    ·exact .inl ⟨h1,h2⟩
    ·exact .inr ⟨h1,h2⟩
  ·rw [h2 a]
   split
   ·rw [hR.2 a ha,hS.2 a ha];rfl
   ·exact hR.2 a ha
theorem Ay7 {N n:Nat} (hn:n<=32) (hN:1000<=N):∃ s,N8 N (n:Int)=some s/\TabA n (fun a b=>a=b) s:=by
 unfold N8
 rw [C0 (by omega)]
 refine Z1 (fun i x1 x2=>x2=(i:Int)/\∀ a,x1 a=if a < i then U (1#64 <<< a) else 0) (n+1) _ (by omega) ⟨rfl,fun a=>rfl⟩ ?_
 rintro self i x1 x2 hi ⟨rfl,h2⟩ hs
 by_cases hl:i<=n
 ·refine ifT (by simp;omega) (ifT (by omega) (hs (by omega) _ _ ⟨C0 (by omega),fun a=>?_⟩))
  rw [Am4,Int.toNat_natCast,Nat.zero_add,Nat.mul_one]
  by_cases e:a=i
  ·subst e;rw [if_pos rfl,if_pos (by omega),Bw8 _ (by omega)]
  ·rw [if_neg e,h2 a]
   by_cases e2:a < i
   ·rw [if_pos e2,if_pos (by omega)]
   ·rw [if_neg e2,if_neg (by omega)]
 ·refine ifF (by simp;omega) ⟨x1,rfl,fun a ha=>⟨1#64 <<< a,by rw [h2 a,if_pos (by omega)],fun b hb=>?_⟩,fun a ha=>by rw [h2 a,if_neg (by omega)]⟩
  rw [Ax1 (by omega) hb,decide_eq_true_eq];omega
theorem AS9 {N n:Nat} {R S:Nat->Nat->Prop} {x y:Nat->Int} (hn:n<=32) (hN:1000<=N) (hR:TabA n R x) (hS:TabA n S y) :
 ∃ s,D3 N x y=some s/\TabA n (fun a b=>∃ c,c<=n/\R a c/\S c b) s:=by
 unfold D3
 refine Z1 (fun i x3 x4=>x4=(i:Int)/\(∀ a,a < i->a<=n->∃ z:BitVec 64,x3 a=U z/\∀ b,b < 64->(z.getLsbD b=true ↔ b<=n/\∃ c,c<=n/\R a c/\S c b))/\∀ a,i<=a \/ n < a->x3 a=0) 33 _ (by omega)
  ⟨rfl,fun a ha=>absurd ha (by omega),fun a _=>rfl⟩ ?_
 rintro self i x3 x4 hi ⟨rfl,h2,h3⟩ hs
 by_cases hl:i < 33
 ·refine ifT (by simp;omega) (ifT (by omega) ?_)
  rw [Int.toNat_natCast,Nat.zero_add,Nat.mul_one]
  refine B0 (x:=x i) rfl ?_
  by_cases hin:i<=n
  ·obtain ⟨u,e1,g1⟩:=hR.1 i hin
   refine B0 (x:=As6 u 0) (by rw [e1];exact AF0 u (by omega)) ?_
   refine Cn2 (fun L z=>(∀ a,a ≠ i->z a=x3 a)/\(∀ t ∈ L,∃ c:Nat,t=(c:Int)/\c<=n/\R i c)/\∃ v:BitVec 64,z i=U v/\∀ b,b < 64->((v.getLsbD b=true \/ ∃ c:Nat,(c:Int) ∈ L/\b<=n/\S c b) ↔ (b<=n/\∃ c,c<=n/\R i c/\S c b))) ?_ ?_ _ _ ?_
   ·rintro z ⟨k1,k2,v,k3,k4⟩
    refine hs (by omega) _ _ ⟨C0 (by omega),fun a ha han=>?_,fun a ha=>?_⟩
    ·by_cases e:a=i
     ·subst e
      exact ⟨v,k3,fun b hb=>by rw [<- k4 b hb];simp⟩
     ·obtain ⟨z',p1,p2⟩:=h2 a (by omega) han
      exact ⟨z',by rw [k1 a e];exact p1,p2⟩
    ·rw [k1 a (by omega)];exact h3 a (by omega)
   ·rintro t L z self2 ⟨k1,k2,v,k3,k4⟩ hs2
    obtain ⟨c,rfl,hc,hRc⟩:=k2 t (by simp)
    refine ifT (by omega) (hs2 _ ⟨fun a ha=>?_,fun t ht=>k2 t (by simp [ht]), ?_⟩)
    ·rw [Am4,if_neg (by omega)];exact k1 a ha
    ·obtain ⟨yc,e2,g2⟩:=hS.1 c hc
     refine ⟨v ||| yc, ?_,fun b hb=>?_⟩
     ·rw [Am4,if_pos (by omega)]
      simp only [Int.toNat_natCast,Nat.zero_add,Nat.mul_one]
      rw [k3,e2,CI5]
     ·rw [<- k4 b hb,BitVec.getLsbD_or,Bool.or_eq_true,g2 b hb]
      constructor
      ·rintro ((h | ⟨h,h'⟩) | ⟨c',h,h'⟩)
       ·exact .inl h
       ·exact .inr ⟨c,by simp,h,h'⟩
       ·exact .inr ⟨c',by simp [h],h'⟩
      ·rintro (h | ⟨c',h,h',h''⟩)
       ·exact .inl (.inl h)
       ·rcases List.mem_cons.1 h with h | h
        ·have:c' = c:=by omega
         subst this;exact .inl (.inr ⟨h',h''⟩)
        ·exact .inr ⟨c',h,h',h''⟩
   ·refine ⟨fun _ _=>rfl,fun t ht=>?_,0#64,h3 i (.inl (Nat.le_refl _)),fun b hb=>?_⟩
    ·obtain ⟨j,rfl,_,hj,hb⟩:=mem_bitsF.1 ht
     exact ⟨j,rfl,((g1 j hj).1 hb).1,((g1 j hj).1 hb).2⟩
    ·simp only [BitVec.getLsbD_zero,Bool.false_eq_true,false_or]
     constructor
     ·rintro ⟨c,hc,h,h'⟩
      obtain ⟨j,hj,_,hj2,hb2⟩:=mem_bitsF.1 hc
      obtain rfl:c=j:=by omega
      exact ⟨h,c,((g1 c hj2).1 hb2).1,((g1 c hj2).1 hb2).2,h'⟩
     ·rintro ⟨h,c,hc,h',h''⟩
      exact ⟨c,mem_bitsF.2 ⟨c,rfl,by omega,by omega,(g1 c (by omega)).2 ⟨hc,h'⟩⟩,h,h''⟩
  ·refine B0 (x:=[]) (by rw [hR.2 i (by omega)];exact (AF0 0#64 (by omega)).trans (by rw [AM8 fun j hj=>by simp])) ?_
   exact hs (by omega) _ _ ⟨C0 (by omega),fun a ha han=>h2 a (by omega) han,fun a ha=>h3 a (by omega)⟩
 ·exact ifF (by simp;omega) ⟨x3,rfl,fun a ha=>h2 a (by omega) ha,fun a ha=>h3 a (.inr ha)⟩
theorem Cn3 (N:Nat) (x:Nat->Int):H0 N x=D3 N x x:=rfl
end Go.AM
set_option linter.unusedVariables false
namespace Go.AM
open Go.Proofs
theorem CG9:∀ m:Fin 33,(E7 .and .i64 ((m.val:Nat):Int) 1 == 1)=decide (m.val % 2=1)/\shI .shr .i64 ((m.val:Nat):Int) 1=((m.val / 2:Nat):Int):=by decide +kernel
theorem By1 {N n:Nat} {R:Nat->Nat->Prop} {x:Nat->Int} (hn:n<=32) (hN:1000<=N) (hf:Fwd n R) (hR:TabA n R x) {k:Nat} (hk:k<=32) :
 ∃ s,E4 N x (k:Int) (n:Int)=some s/\TabA n (AD1 n R k) s:=by
 unfold E4
 obtain ⟨y1,e1,h1⟩:=Ay7 (N:=N) hn hN
 refine B0 e1 ?_
 refine Cm5 (fun i x1 x2 x3=>x1=((k / 2 ^ i:Nat):Int)/\TabA n (AD1 n R (2 ^ i)) x2/\TabA n (AD1 n R (k % 2 ^ i)) x3) 6 _ (by omega) ⟨by simp, ?_, ?_⟩ ?_
 ·exact hR.congr fun a b ha hb=>⟨fun h=>⟨a,ha,rfl,h⟩,fun ⟨c,hc,(h:a=c),h'⟩=>h ▸ h'⟩
 ·rw [Nat.pow_zero,Nat.mod_one];exact h1
 ·rintro self i x1 x2 x3 hi ⟨rfl,h2,h3⟩ hs
  have hm:k / 2 ^ i<=32:=Nat.le_trans (Nat.div_le_self _ _) hk
  obtain ⟨b1,b2⟩:=CG9 ⟨k / 2 ^ i,by omega⟩
  simp only at b1 b2
  have hdiv:k / 2 ^ i / 2=k / 2 ^ (i+1):=by rw [Nat.div_div_eq_div_mul,Nat.pow_succ]
  have hmod:k % 2 ^ (i+1)=k % 2 ^ i+2 ^ i * (k / 2 ^ i % 2):=Nat.mod_pow_succ
  have hsq:∃ s,H0 N x2=some s/\TabA n (AD1 n R (2 ^ (i+1))) s:=by
   obtain ⟨s,e,h⟩:=AS9 hn hN h2 h2
   refine ⟨s,(Cn3 N x2).trans e,h.congr fun a b ha hb=>?_⟩
   rw [show 2 ^ (i+1)=2 ^ i+2 ^ i by rw [Nat.pow_succ];omega]
   exact (Al9 hf (2 ^ i) ha (2 ^ i) b).symm
  obtain ⟨sq,esq,hsq⟩:=hsq
  by_cases hz:k / 2 ^ i=0
  ·refine ifF (by simp [hz]) ⟨x3,rfl, ?_⟩
   have:k % 2 ^ i=k:=Nat.mod_eq_of_lt (by
    have:=Nat.div_eq_zero_iff.1 hz
    rcases this with h | h
    ·exact absurd h (Nat.ne_of_gt (Nat.two_pow_pos i))
    ·exact h)
   rw [this] at h3;exact h3
  ·have hi6:i < 6:=by
    by_cases h:i < 6
    ·exact h
    ·exact absurd (Nat.div_eq_of_lt (Nat.lt_of_le_of_lt hk (Nat.lt_of_lt_of_le (by decide:32 < 2 ^ 6) (Nat.pow_le_pow_right (by omega) (by omega))))) hz
   refine ifT (decide_eq_true (Int.natCast_pos.2 (Nat.pos_of_ne_zero hz))) ?_
   by_cases ho:k / 2 ^ i % 2=1
   ·refine ifT (by rw [b1];simp [ho]) ?_
    obtain ⟨t,et,ht⟩:=AS9 hn hN h3 h2
    refine B0 et (B0 esq (hs hi6 _ _ _ ⟨by rw [b2,hdiv],hsq,ht.congr fun a b ha hb=>?_⟩))
    rw [hmod,ho,Nat.mul_one]
    exact (Al9 hf (k % 2 ^ i) ha (2 ^ i) b).symm
   ·refine ifF (by rw [b1];simp [ho]) (B0 esq (hs hi6 _ _ _ ⟨by rw [b2,hdiv],hsq, ?_⟩))
    rw [hmod,show k / 2 ^ i % 2=0 by omega,Nat.mul_zero,Nat.add_zero];exact h3
theorem Cz0 {s c:Sound} (hs:okS s) (hc:okS c):((E7 .or .u32 (E7 .andNot .u32 c.Plus s.Plus) (E7 .andNot .u32 c.Minus s.Minus)) == 0)=BF1 s c:=by
 obtain ⟨p,m,rfl⟩:=hs
 obtain ⟨a,b,rfl⟩:=hc
 have e:∀ x y:BitVec 32,((E7 .and .u32 (x.toNat:Int) (y.toNat:Int)) == (y.toNat:Int))=decide (y &&& ~~~ x=0#32):=by
  intro x y
  rw [Aq8,Bool.eq_iff_iff]
  simp only [beq_iff_eq,decide_eq_true_eq]
  constructor
  ·intro h
   have h:x &&& y=y:=BitVec.eq_of_toNat_eq (by omega)
   refine (z32 _).2 fun i hi=>?_
   have:=congrArg (·.getLsbD i) h
   simp only [BitVec.getLsbD_and,BitVec.getLsbD_not,hi,decide_true,Bool.true_and] at this ⊢
   cases hx:x.getLsbD i <;> cases hy:y.getLsbD i <;> simp_all
  ·intro h
   have:x &&& y=y:=AJ5 fun i hi=>by
    have:=(z32 _).1 h i hi
    simp only [BitVec.getLsbD_and,BitVec.getLsbD_not,hi,decide_true,Bool.true_and] at this ⊢
    cases hx:x.getLsbD i <;> cases hy:y.getLsbD i <;> simp_all
   rw [this]
 unfold BF1
 simp only [e,Ao5,AO8,eq0]
 rw [Bool.eq_iff_iff]
 simp only [Bool.and_eq_true,decide_eq_true_eq]
 constructor
 ·intro h
  have h:=(z32 _).1 h
  exact ⟨(z32 _).2 fun i hi=>by have:=h i hi;rw [BitVec.getLsbD_or,Bool.or_eq_false_iff] at this;exact this.1,(z32 _).2 fun i hi=>by have:=h i hi;rw [BitVec.getLsbD_or,Bool.or_eq_false_iff] at this;exact this.2⟩
 ·rintro ⟨h1,h2⟩
  rw [h1,h2];rfl
theorem Cc1 {N:Nat} (hN:1000<=N) {w:Sl Sound} (hw:w.n<=32) (hws:∀ i,i < w.n->okS (w.g i)) {c:Sound} (hc:okS c) (no:Bool) :
 ∃ f,U2 N ⟨c,no⟩ w=some f/\TabA w.n (fun a b=>a < w.n/\b=a+1/\(BF1 (w.g a) c != no)=true) f:=by
 unfold U2
 refine Z1 (fun i x1 x2=>x2=(i:Int)/\∀ a,x1 a=if a < i/\(BF1 (w.g a) c != no)=true then U (1#64 <<< (a+1)) else 0) w.n _ (by omega) ⟨rfl,fun a=>by rw [if_neg (by omega)]⟩ ?_
 rintro self i x1 x2 hi ⟨rfl,h2⟩ hs
 by_cases hl:i < w.n
 ·refine ifT (by simp;omega) (ifT (by omega) ?_)
  rw [Int.toNat_natCast,Cz0 (hws i hl) hc]
  by_cases hb:(BF1 (w.g i) c != no)=true
  ·refine ifT (by revert hb;cases BF1 (w.g i) c <;> cases no <;> simp) ?_
   rw [C0 (by omega)]
   refine ifT (by omega) (hs hl _ _ ⟨rfl,fun a=>?_⟩)
   rw [Am4,Nat.zero_add,Nat.mul_one,Bw8 _ (by omega)]
   by_cases e:a=i
   ·subst e;rw [if_pos rfl,if_pos ⟨by omega,hb⟩]
   ·rw [if_neg e,h2 a]
    by_cases e2:a < i
    ·simp only [e2,show a < i+1 by omega,true_and]
    ·rw [if_neg (by omega),if_neg (by omega)]
  ·refine ifF (by revert hb;cases BF1 (w.g i) c <;> cases no <;> simp) (hs hl _ _ ⟨C0 (by omega),fun a=>?_⟩)
   rw [h2 a]
   by_cases e:a=i
   ·subst e;rw [if_neg (by omega),if_neg (fun h=>hb h.2)]
   ·by_cases e2:a < i
    ·simp only [e2,show a < i+1 by omega,true_and]
    ·rw [if_neg (by omega),if_neg (by omega)]
 ·refine ifF (by simp;omega) ⟨x1,rfl,fun a ha=>?_,fun a ha=>by rw [h2 a,if_neg (by omega)]⟩
  by_cases hb:a < w.n/\(BF1 (w.g a) c != no)=true
  ·refine ⟨1#64 <<< (a+1),by rw [h2 a,if_pos ⟨by omega,hb.2⟩],fun b hb2=>?_⟩
   rw [Ax1 (by omega) hb2,decide_eq_true_eq]
   exact ⟨fun h=>⟨by omega,hb.1,h,hb.2⟩,fun h=>h.2.2.1⟩
  ·refine ⟨0#64,by rw [h2 a,if_neg (fun h=>hb ⟨by omega,h.2⟩)];rfl,fun b hb2=>?_⟩
   simp only [BitVec.getLsbD_zero,Bool.false_eq_true,false_iff]
   rintro ⟨_,h1,h2,h3⟩
   exact hb ⟨h1,h3⟩
theorem Cc2 {n a0 b0:Nat} (ha:a0<=n) (hb:b0<=n) (hn:n<=32):TabA n (fun a b=>a=a0/\b=b0) (AW5 (fun _=>0) a0 (U (1#64 <<< b0))):=by
 refine ⟨fun a ha2=>?_,fun a ha2=>by rw [Am4,if_neg (by omega)]⟩
 by_cases e:a=a0
 ·refine ⟨1#64 <<< b0,by rw [Am4,if_pos e],fun b hb2=>?_⟩
  rw [Ax1 (by omega) hb2,decide_eq_true_eq];omega
 ·refine ⟨0#64,by rw [Am4,if_neg e];rfl,fun b hb2=>?_⟩
  simp only [BitVec.getLsbD_zero,Bool.false_eq_true,false_iff]
  exact fun h=>e h.2.1
theorem BM3 {N:Nat} {w:Sl Sound} (hw:w.n<=32) (e:Bool):∃ f,Y5 N ⟨e⟩ w=some f/\TabA w.n (fun a b=>a=(if e=true then w.n else 0)/\b=(if e=true then w.n else 0)) f:=by
 unfold Y5
 cases e
 ·refine ifF (by simp) (ifT (by decide) ⟨_,rfl, ?_⟩)
  exact Cc2 (n:=w.n) (a0:=0) (b0:=0) (by omega) (by omega) hw
 ·refine ifT rfl (ifT (by omega) ⟨_,rfl, ?_⟩)
  rw [Int.toNat_natCast,Nat.zero_add,Nat.mul_one,Bw8 _ (by omega)]
  exact Cc2 (Nat.le_refl _) (Nat.le_refl _) hw
theorem Cz1 {N:Nat} (hN:1000<=N) {w:Sl Sound} (hw:w.n<=32) {rec:Part->Sl Sound->Option (Nat->Int)} {m:Nat} (hm:m<=40) {g:Nat->Part} {Q:Nat->Nat->Nat->Prop}
 (hc:∀ i,i < m->∃ f,rec (g i) w=some f/\TabA w.n (Q i) f):∃ f,Ac6 rec N ⟨⟨m,g⟩⟩ w=some f/\TabA w.n (Cr2 w.n Q m) f:=by
 unfold Ac6
 obtain ⟨y1,e1,h1⟩:=Ay7 (N:=N) hw hN
 refine B0 e1 ?_
 refine Z1 (fun i x1 x2=>x2=(i:Int)/\i<=m/\TabA w.n (Cr2 w.n Q i) x1) m _ (by omega) ⟨rfl,by omega,h1⟩ ?_
 rintro self i x1 x2 hi ⟨rfl,hm2,h2⟩ hs
 by_cases hl:i < m
 ·refine ifT (by simp;omega) (ifT (by show (0:Int)<=i/\(i:Int) < m;omega) ?_)
  obtain ⟨f,e2,h3⟩:=hc i hl
  refine B0 (by rw [Int.toNat_natCast];exact e2) ?_
  obtain ⟨s,e3,h4⟩:=AS9 hw hN h2 h3
  exact B0 e3 (hs hl _ _ ⟨C0 (by omega),hl,h4⟩)
 ·obtain rfl:i=m:=by omega
  exact ifF (by simp) ⟨x1,rfl,h2⟩
theorem Cz2 {N:Nat} (hN:1000<=N) {w:Sl Sound} (hw:w.n<=32) {rec:Part->Sl Sound->Option (Nat->Int)} {m:Nat} (hm:m<=40) {g:Nat->Part} {Q:Nat->Nat->Nat->Prop}
 (hc:∀ i,i < m->∃ f,rec (g i) w=some f/\TabA w.n (Q i) f):∃ f,Ac7 rec N ⟨⟨m,g⟩⟩ w=some f/\TabA w.n (fun a b=>∃ i,i < m/\Q i a b) f:=by
 unfold Ac7
 refine Z1 (fun i x1 x2=>x2=(i:Int)/\i<=m/\TabA w.n (fun a b=>∃ j,j < i/\Q j a b) x1) m _ (by omega) ⟨rfl,by omega,(zeroA _).congr fun a b _ _=>⟨False.elim,fun ⟨j,h,_⟩=>absurd h (by omega)⟩⟩ ?_
 rintro self i x1 x2 hi ⟨rfl,hm2,h2⟩ hs
 by_cases hl:i < m
 ·refine ifT (by simp;omega) (ifT (by show (0:Int)<=i/\(i:Int) < m;omega) ?_)
  obtain ⟨f,e2,h3⟩:=hc i hl
  refine B0 (by rw [Int.toNat_natCast];exact e2) ?_
  obtain ⟨s,e3,h4⟩:=Cr5 hw hN h2 h3
  refine B0 e3 (hs hl _ _ ⟨C0 (by omega),hl,h4.congr fun a b _ _=>⟨?_, ?_⟩⟩)
  ·rintro (⟨j,h,h'⟩ | h)
   ·exact ⟨j,by omega,h'⟩
   ·exact ⟨i,by omega,h⟩
  ·rintro ⟨j,h,h'⟩
   by_cases e:j=i
   ·subst e;exact .inr h'
   ·exact .inl ⟨j,by omega,h'⟩
 ·obtain rfl:i=m:=by omega
  exact ifF (by simp) ⟨x1,rfl,h2⟩
end Go.AM
set_option linter.unusedVariables false
namespace Go.AM
open Go.Proofs
theorem Cz3 {N:Nat} (hN:1000<=N) {w:Sl Sound} (hw:w.n<=32) {rec:Part->Sl Sound->Option (Nat->Int)} {pt:Part} {Q:Nat->Nat->Prop} (hf:Fwd w.n Q) {f:Nat->Int} (hr:rec pt w=some f) (hQ:TabA w.n Q f)
 {mn mx:Int} (h0:0<=mn) (h1:mn<=32) (h2:mx = -1 \/ (mn<=mx/\mx<=32)) :
 ∃ s,Ac8 rec N ⟨pt,mn,mx⟩ w=some s/\TabA w.n (fun a b=>∃ k:Nat,mn<=k/\(mx = -1 \/ (k:Int)<=mx)/\AD1 w.n Q k a b) s:=by
 obtain ⟨m,rfl⟩:∃ m:Nat,mn=(m:Int):=⟨mn.toNat,by omega⟩
 unfold Ac8
 refine B0 hr ?_
 obtain ⟨y2,e2,t2⟩:=By1 hw hN hf hQ (k:=m) (by omega)
 refine B0 e2 ?_
 obtain ⟨y3,e3,t3⟩:=Ay7 (N:=N) hw hN
 refine B0 e3 ?_
 obtain ⟨y4,e4,t4⟩:=Cr5 hw hN hQ t3
 refine B0 e4 ?_
 have hf' : Fwd w.n (fun a b=>Q a b \/ a=b):=fun a b ha h=>by
  rcases h with h | h
  ·exact hf a b ha h
  ·omega
 have key:∀ (K:Nat),K<=32->∃ s,((E4 N y4 (K:Int) (w.n:Int)).bind fun y5=>(D3 N y2 y5).bind fun y6=>some y6)=some s/\TabA w.n (fun a b=>∃ j,j<=K/\AD1 w.n Q (m+j) a b) s:=by
  intro K hK
  obtain ⟨y5,e5,t5⟩:=By1 hw hN hf' t4 (k:=K) hK
  refine B0 e5 ?_
  obtain ⟨y6,e6,t6⟩:=AS9 hw hN t2 t5
  refine B0 e6 ⟨y6,rfl,t6.congr fun a b ha hb=>?_⟩
  constructor
  ·rintro ⟨c,hc,g1,g2⟩
   obtain ⟨j,hj,g3⟩:=(AY1 hf hc K b).1 g2
   exact ⟨j,hj,(Al9 hf m ha j b).2 ⟨c,hc,g1,g3⟩⟩
  ·rintro ⟨j,hj,g⟩
   obtain ⟨c,hc,g1,g3⟩:=(Al9 hf m ha j b).1 g
   exact ⟨c,hc,g1,(AY1 hf hc K b).2 ⟨j,hj,g3⟩⟩
 by_cases hx:mx < 0
 ·refine ifT (decide_eq_true hx) ?_
  obtain ⟨s,e,t⟩:=key w.n hw
  refine ⟨s,e,t.congr fun a b ha hb=>?_⟩
  constructor
  ·rintro ⟨j,hj,g⟩;exact ⟨m+j,by omega, .inl (by omega),g⟩
  ·rintro ⟨k,hk,_,g⟩
   obtain ⟨c,hc,g1,g3⟩:=(Al9 hf m ha (k - m) b).1 (by rw [show m+(k - m)=k by omega];exact g)
   obtain ⟨j,hj,g4⟩:=Bx0 hf hc (k - m) g3
   exact ⟨j,hj,(Al9 hf m ha j b).2 ⟨c,hc,g1,g4⟩⟩
 ·refine ifF (by simpa using hx) ?_
  obtain ⟨M,rfl⟩:∃ M:Nat,mx=(M:Int):=⟨mx.toNat,by omega⟩
  have hw2:IntKind.i64.wrap ((M:Int) - (m:Int))=((M - m:Nat):Int):=by rw [F2 (by omega) (by omega)];omega
  rw [show IntKind.i64.wrap ((⟨pt,(m:Int),(M:Int)⟩:CG1).max - (⟨pt,(m:Int),(M:Int)⟩:CG1).min)=((M - m:Nat):Int) from hw2]
  obtain ⟨s,e,t⟩:=key (M - m) (by omega)
  refine ⟨s,e,t.congr fun a b ha hb=>?_⟩
  constructor
  ·rintro ⟨j,hj,g⟩;exact ⟨m+j,by omega, .inr (by omega),g⟩
  ·rintro ⟨k,hk,hk2,g⟩
   exact ⟨k - m,by omega,by rw [show m+(k - m)=k by omega];exact g⟩
def okQ:Nat->Pat->Prop
 | 0,_=>False
 | d+1,p=>AZ8 p/\p.L.n<=40/\∀ i,i < p.L.n->okQ d (p.L.g i)
theorem BM4:∀ (d:Nat) (p:Pat),okQ d p->okQ (d+1) p
 | 0,_,h=>h.elim
 | d+1,p,⟨h1,h2,h3⟩=>⟨h1,h2,fun i hi=>BM4 d _ (h3 i hi)⟩
theorem Cc3:∀ (k:Nat) (l:List Pat),k<=40->chk k l->∀ p ∈ l,okQ k p
 | 0,l,_,h,p,hp=>by rw [show l=[] from h] at hp;cases hp
 | k+1, [],_,_,p,hp=>by cases hp
 | k+1,q :: l,hk,⟨hn,h⟩,p,hp=>by
  have ih:=Cc3 k _ (by omega) h
  rcases List.mem_cons.1 hp with rfl | hp
  ·have hl:=AZ9 k _ h
   rw [List.length_append,S1] at hl
   exact ⟨hn,by omega,fun i hi=>ih _ (List.mem_append_left _ (AM7 hi))⟩
  ·exact BM4 k p (ih p (List.mem_append_right _ hp))
theorem vS.ok {s:Sound} (h:vS s):okS s:=by
 obtain ⟨p,m,e,_⟩:=h;exact ⟨p,m,e⟩
def Cz4 (K:Nat) (p:Pat) (pt:Part):Prop:=∀ (w:Sl Sound),w.n<=32->(∀ i,i < w.n->okS (w.g i))->∀ M,K<=M->∃ f,Y7 M pt w=some f/\TabA w.n (PR w p) f
theorem Ba1 {N:Nat} (hN:1000<=N):∀ (d:Nat),d<=40->∀ (p:Pat),okQ d p->∀ M,N+d<=M->∃ pt,Y6 M p=some pt/\Cz4 (N+d) p pt
 | 0,_,p,h,_,_=>h.elim
 | d+1,hd,p,⟨hn,hc,hch⟩,0,hM=>by omega
 | d+1,hd,p,⟨hn,hc,hch⟩,M+1,hM=>by
  show ∃ pt,Q8 (Y6 M) M p=some pt/\_
  unfold Q8
  refine Z1 (fun i x1 x2=>x2=(i:Int)/\i<=p.L.n/\x1.n=i/\∀ j,j < i->Cz4 (N+d) (p.L.g j) (x1.g j)) p.L.n _ (by omega) ⟨rfl,by omega,rfl,fun j hj=>absurd hj (by omega)⟩ ?_
  rintro self i x1 x2 hi ⟨rfl,h1,h2,h3⟩ hs
  by_cases hl:i < p.L.n
  ·refine ifT (by simp;omega) (ifT (by omega) ?_)
   obtain ⟨pt,e,hg⟩:=Ba1 hN d (by omega) (p.L.g i) (hch i hl) M (by omega)
   refine B0 (by rw [Int.toNat_natCast];exact e) ?_
   refine ifT (by show (x1.n+1) * 16<=_/\x1.n+1<=_;omega) (hs hl _ _ ⟨C0 (by omega),hl,by show x1.n+1=i+1;omega,fun j hj=>?_⟩)
   by_cases e2:j=i
   ·subst e2
    have:(x1.push pt).g j=pt:=by simp [Sl.push,h2]
    rw [this];exact hg
   ·have:(x1.push pt).g j=x1.g j:=by
     simp [Sl.push];omega
    rw [this];exact h3 j (by omega)
  ·obtain rfl:i=p.L.n:=by omega
   have fin:∀ (pt:Part),(∀ (w:Sl Sound),w.n<=32->(∀ i,i < w.n->okS (w.g i))->∀ M,N+d<=M->∃ f,Y7 (M+1) pt w=some f/\TabA w.n (PR w p) f)->∃ r,some pt=some r/\Cz4 (N+(d+1)) p r:=by
    intro pt h
    refine ⟨pt,rfl,fun w hw hws M' hM'=>?_⟩
    obtain ⟨M'',rfl⟩:∃ M'',M' = M'' + 1:=⟨M' - 1,by omega⟩
    exact h w hw hws M'' (by omega)
   refine ifF (by simp) ?_
   obtain ⟨⟨k0,k6⟩,n1,n2,n3,n4,n5⟩:=hn
   by_cases k1:p.Kind=1
   ·refine ifT (by simp [k1]) (fin _ fun w hw hws M' hM'=>?_)
    obtain ⟨f,e,h⟩:=Cc1 (N:=M') (by omega) hw hws n5.ok p.Not
    refine ⟨f,e,h.congr fun a b _ _=>?_⟩
    rw [Be6];simp [k1]
   refine ifF (by simp [k1]) ?_
   by_cases k2:p.Kind=2
   ·refine ifT (by simp [k2]) (fin _ fun w hw hws M' hM'=>?_)
    obtain ⟨f,e,h⟩:=BM3 (N:=M') hw false
    refine ⟨f,e,h.congr fun a b _ _=>?_⟩
    rw [Be6];simp [k2]
   refine ifF (by simp [k2]) ?_
   by_cases k6:p.Kind=6
   ·refine ifT (by simp [k6]) (fin _ fun w hw hws M' hM'=>?_)
    obtain ⟨f,e,h⟩:=BM3 (N:=M') hw true
    refine ⟨f,e,h.congr fun a b _ _=>?_⟩
    rw [Be6];simp [k6]
   refine ifF (by simp [k6]) ?_
   by_cases k4:p.Kind=4
   ·refine ifT (by simp [k4]) (fin _ fun w hw hws M' hM'=>?_)
    obtain ⟨f,e,h⟩:=Cz2 (N:=M') (by omega) hw (rec:=Y7 M') (m:=x1.n) (g:=x1.g) (Q:=fun i=>PR w (p.L.g i)) (by omega) fun i hi=>h3 i (by omega) w hw hws M' (by omega)
    refine ⟨f,e,h.congr fun a b _ _=>?_⟩
    rw [Be6,h2];simp [k4]
   refine ifF (by simp [k4]) ?_
   by_cases k5:p.Kind=5
   ·obtain ⟨g1,g2,g3,g4⟩:=n4 k5
    refine ifT (by simp [k5]) (ifT (by omega) (fin _ fun w hw hws M' hM'=>?_))
    obtain ⟨f,e,h⟩:=h3 0 (by omega) w hw hws M' (by omega)
    obtain ⟨s,e2,h4⟩:=Cz3 (N:=M') (by omega) hw (rec:=Y7 M') (Bx1 w (p.L.g 0)) e h g2 g3 g4
    refine ⟨s,e2,h4.congr fun a b _ _=>?_⟩
    rw [Be6];simp [k5]
   ·refine ifF (by simp [k5]) (fin _ fun w hw hws M' hM'=>?_)
    obtain ⟨f,e,h⟩:=Cz1 (N:=M') (by omega) hw (rec:=Y7 M') (m:=x1.n) (g:=x1.g) (Q:=fun i=>PR w (p.L.g i)) (by omega) fun i hi=>h3 i (by omega) w hw hws M' (by omega)
    refine ⟨f,e,h.congr fun a b _ _=>?_⟩
    rw [Be6,h2]
    by_cases k3:p.Kind=3
    ·simp [k3]
    ·have k0' : p.Kind=0:=by omega
     rw [n2 k3 k4 k5];simp [k0',Cr2]
end Go.AM
set_option linter.unusedVariables false
namespace Go.AM
open Go.Proofs
theorem BS2 {N:Nat} {p:Pat} (hp:okS p.Is):∃ e,Y3 N p=some e/\(e=0 ↔ AZ8 p):=by
 obtain ⟨a,b,he⟩:=hp
 have hv:=BG3 he
 have V:N0 N p.Is=some (vB a b):=by rw [he];exact Bx9 a b
 have e0:((p.Is.Plus == 0) && (p.Is.Minus == 0))=decide (p.Is.Plus=0/\p.Is.Minus=0):=by
  rw [Bool.eq_iff_iff];simp
 have fin:(AZ8 p ↔ vS p.Is)->∃ e,((N0 N p.Is).bind fun y1=>if (!y1)=true then some (14:Int) else some 0)=some e/\(e=0 ↔ AZ8 p):=by
  intro hX
  rw [V]
  refine B0 rfl ?_
  rw [hX,hv]
  cases vB a b
  ·exact ifT rfl ⟨14,rfl,by simp⟩
  ·exact ifF (by simp) ⟨0,rfl,by simp⟩
 have bad:∀ {x:Int},x ≠ 0->¬ AZ8 p->∃ e,some x=some e/\(e=0 ↔ AZ8 p):=fun hx h=>⟨_,rfl,fun h2=>absurd h2 hx,fun h2=>absurd h2 h⟩
 unfold Y3
 by_cases hk:p.Kind=0 \/ p.Kind=2 \/ p.Kind=6
 ·refine ifT (by rcases hk with h | h | h <;> simp [h]) (ltX ?_)
  rw [e0]
  by_cases g1:p.Is.Plus=0/\p.Is.Minus=0
  case neg=>exact ifT (by simp [g1]) (ifT rfl (bad (by decide) fun h=>g1 (h.2.1 (by omega)).1))
  refine ifF (by simp [g1]) ?_
  by_cases g2:p.Not=true
  ·exact ifT g2 (ifT rfl (bad (by decide) fun h=>by have:=(h.2.1 (by omega)).2;rw [g2] at this;cases this))
  refine ifF g2 ?_
  by_cases g3:p.Min=0
  case neg=>exact ifT (by simp [g3]) (ifT rfl (bad (by decide) fun h=>g3 (h.2.2.2.1 (by omega)).1))
  refine ifF (by simp [g3]) ?_
  by_cases g4:p.Max=0
  case neg=>exact ifT (by simp [g4]) (ifT rfl (bad (by decide) fun h=>g4 (h.2.2.2.1 (by omega)).2))
  refine ifF (by simp [g4]) ?_
  by_cases g5:p.L.n=0
  case neg=>exact ifT (by simp;omega) (bad (by decide) fun h=>g5 (h.2.2.1 (by omega) (by omega) (by omega)))
  refine ifF (by simp;omega) (fin ?_)
  exact ⟨fun h=>h.2.2.2.2.2,fun h=>⟨by omega,fun _=>⟨g1,by simpa using g2⟩,fun _ _ _=>g5,fun _=>⟨g3,g4⟩,fun h5=>by omega,h⟩⟩
 refine ifF (by simp only [not_or] at hk;simp [hk]) ?_
 by_cases k1:p.Kind=1
 ·refine ifT (by simp [k1]) (ltX ?_)
  refine ifF (by simp) ?_
  by_cases g3:p.Min=0
  case neg=>exact ifT (by simp [g3]) (ifT rfl (bad (by decide) fun h=>g3 (h.2.2.2.1 (by omega)).1))
  refine ifF (by simp [g3]) ?_
  by_cases g4:p.Max=0
  case neg=>exact ifT (by simp [g4]) (ifT rfl (bad (by decide) fun h=>g4 (h.2.2.2.1 (by omega)).2))
  refine ifF (by simp [g4]) ?_
  by_cases g5:p.L.n=0
  case neg=>exact ifT (by simp;omega) (bad (by decide) fun h=>g5 (h.2.2.1 (by omega) (by omega) (by omega)))
  refine ifF (by simp;omega) (fin ?_)
  exact ⟨fun h=>h.2.2.2.2.2,fun h=>⟨by omega,fun h1=>absurd k1 h1,fun _ _ _=>g5,fun _=>⟨g3,g4⟩,fun h5=>by omega,h⟩⟩
 refine ifF (by simp [k1]) (ltX ?_)
 rw [e0]
 have tail:∀ (x y:Int),(AZ8 p ↔ (p.Is.Plus=0/\p.Is.Minus=0)/\p.Not=false/\x=0/\y=0/\vS p.Is)->∃ e,(if (((((decide (p.Is.Plus=0/\p.Is.Minus=0) != true) || p.Not) || (x != 0)) || (y != 0)) || (decide (0 < 0)))=true then some (2:Int) else
  (N0 N p.Is).bind fun y3=>if (!y3)=true then some 14 else some 0)=some e/\(e=0 ↔ AZ8 p):=by
  intro x y hX
  by_cases g:(p.Is.Plus=0/\p.Is.Minus=0)/\p.Not=false/\x=0/\y=0
  ·obtain ⟨g1,g2,g3,g4⟩:=g
   exact ifF (by simp [g1,g2,g3,g4]) (fin (hX.trans ⟨fun h=>h.2.2.2.2,fun h=>⟨g1,g2,g3,g4,h⟩⟩))
  ·refine ifT ?_ (bad (by decide) fun h=>g ⟨(hX.1 h).1,(hX.1 h).2.1,(hX.1 h).2.2.1,(hX.1 h).2.2.2.1⟩)
   simp only [Bool.or_eq_true,bne_iff_ne,ne_eq,decide_eq_true_eq]
   by_cases g1:p.Is.Plus=0/\p.Is.Minus=0
   ·by_cases g2:p.Not=true
    ·simp [g2]
    ·by_cases g3:x=0
     ·have:¬ y=0:=fun g4=>g ⟨g1,by simpa using g2,g3,g4⟩
      simp [this]
     ·simp [g3]
   ·simp [g1]
 by_cases k34:p.Kind=3 \/ p.Kind=4
 ·refine ifT (by rcases k34 with h | h <;> simp [h]) (tail _ _ ?_)
  constructor
  ·exact fun h=>⟨(h.2.1 k1).1,(h.2.1 k1).2,(h.2.2.2.1 (by omega)).1,(h.2.2.2.1 (by omega)).2,h.2.2.2.2.2⟩
  ·rintro ⟨h1,h2,h3,h4,h5⟩
   exact ⟨by omega,fun _=>⟨h1,h2⟩,fun h h'=>by omega,fun _=>⟨h3,h4⟩,fun h=>by omega,h5⟩
 refine ifF (by simp only [not_or] at k34;simp [k34]) ?_
 by_cases k5:p.Kind=5
 ·refine ifT (by simp [k5]) ?_
  by_cases g:p.L.n=1/\0<=p.Min/\p.Min<=32/\(p.Max = -1 \/ (p.Min<=p.Max/\p.Max<=32))
  ·refine ifF (by simp only [Bool.or_eq_true,Bool.and_eq_true,bne_iff_ne,ne_eq,decide_eq_true_eq];omega) (tail 0 0 ?_)
   constructor
   ·exact fun h=>⟨(h.2.1 k1).1,(h.2.1 k1).2,rfl,rfl,h.2.2.2.2.2⟩
   ·rintro ⟨h1,h2,h3,h4,h5⟩
    exact ⟨by omega,fun _=>⟨h1,h2⟩,fun _ _ h=>absurd k5 h,fun h=>absurd k5 h,fun _=>g,h5⟩
  ·exact ifT (by simp only [Bool.or_eq_true,Bool.and_eq_true,bne_iff_ne,ne_eq,decide_eq_true_eq];omega) (bad (by decide) fun h=>g (h.2.2.2.2.1 k5))
 ·exact ifF (by simp [k5]) (bad (by decide) fun h=>by have:=h.1;omega)
theorem Cc4 {x:Sl Pat} {m:Nat} (h:x.n=m+1):x.toList.reverse=x.g m :: (x.take m).toList.reverse:=by
 unfold Sl.toList
 rw [h,List.range_succ,List.map_append,List.reverse_append]
 rfl
theorem Cn4 (z:Sl Pat) (q:Pat):((z.push Pat.nil).upd z.n q).toList.reverse=q :: z.toList.reverse:=by
 rw [Cc4 (m:=z.n) rfl]
 have e1:((z.push Pat.nil).upd z.n q).g z.n=q:=by simp
 have e2:(((z.push Pat.nil).upd z.n q).take z.n).toList=z.toList:=by
  unfold Sl.toList
  refine List.map_congr_left fun i hi=>?_
  have:i < z.n:=List.mem_range.1 hi
  show (if i=z.n then q else if i < z.n then z.g i else Pat.nil)=z.g i
  rw [if_neg (by omega),if_pos this]
 rw [e1,e2]
theorem BG5 {N:Nat} (q:Sl Pat) (hq:q.n < N) (hs:q.n < 1000000):C7 N q=some ((List.range q.n).reverse.map fun (i:Nat)=>((i:Int),q.g i)):=by
 unfold C7
 have h:∀ (m:Nat),m<=q.n->∀ F,m < F->Aa9 F (fun (self1:Int->Option (List (Int × Pat))) (x1:Int)=>
  if (decide (0<=x1))=true then
   if ((0:Int)<=x1/\x1 < (q.n:Int)) then
    Ab4 (x1,(q.g x1.toNat)) (
     self1 (IntKind.wrap .i64 (x1 - 1))
     )
   else none
  else
   some []) ((m:Int) - 1)=some ((List.range m).reverse.map fun (i:Nat)=>((i:Int),q.g i)):=by
  intro m
  induction m with
  | zero=>
   intro _ F hF
   match F,hF with
   | F+1,_=>rfl
  | succ m ih=>
   intro hm F hF
   match F,hF with
   | F+1,hF=>
    rw [Q6]
    rw [show ((m+1:Nat):Int) - 1=(m:Int) by omega,if_pos (by simp),if_pos (by omega),F2 (by omega) (by omega),ih (by omega) F (by omega),Int.toNat_natCast,List.range_succ,List.reverse_append,List.reverse_singleton,List.singleton_append,List.map_cons]
    rfl
 rw [F2 (by omega) (by omega)]
 exact h q.n (Nat.le_refl _) N hq
theorem Cz5 {k:Nat} (hk:k<=40) {c:Sl Pat} {l:List Pat}:chk k ((c.take (min 41 c.n)).toList ++ l) ↔ chk k (c.toList ++ l):=by
 by_cases h:c.n<=41
 ·rw [Nat.min_eq_right h]
 ·constructor
  ·intro h2
   have:=AZ9 _ _ h2
   rw [List.length_append,S1] at this
   have:(c.take (min 41 c.n)).n=41:=Nat.min_eq_left (by omega)
   omega
  ·intro h2
   have:=AZ9 _ _ h2
   rw [List.length_append,S1] at this
   omega
theorem Bo4 {N:Nat} (hN:2000<=N) {p:Pat} (hp:okPS p):∃ e,U3 N p=some e/\(e=0 ↔ chk 40 [p]):=by
 unfold U3
 refine Z1 (fun i x3 x4=>x4=(i:Int)/\x3.n<=1+41 * i/\(∀ q ∈ x3.toList.reverse,okPS q)/\(chk 40 [p] ↔ chk (40 - i) x3.toList.reverse)) 40 _ (by omega)
  ⟨rfl,by show 1<=_;omega,fun q hq=>by rw [show (Sl.of [p]:Sl Pat).toList.reverse=[p] from rfl] at hq;rw [List.mem_singleton.1 hq];exact hp,Iff.rfl⟩ ?_
 rintro self i x3 x4 hi ⟨rfl,h1,hok,h2⟩ hs
 rcases hn:x3.n with _ | m
 ·refine ifF (by simp) ⟨0,rfl,fun _=>h2.2 ?_,fun _=>rfl⟩
  have:x3.toList.reverse=[]:=by unfold Sl.toList;rw [hn];rfl
  rw [this];exact Cb6 _
 ·rw [Cc4 hn] at h2 hok
  refine ifT (decide_eq_true (by omega)) ?_
  by_cases h40:i=40
  ·subst h40
   refine ifT (by simp) ⟨12,rfl,fun h=>absurd h (by decide),fun h=>?_⟩
   have:(x3.g m :: (x3.take m).toList.reverse)=[]:=h2.1 h
   cases this
  refine ifF (by simp;omega) ?_
  have hw:IntKind.i64.wrap (((m+1:Nat):Int) - 1)=(m:Int):=by rw [F2 (by omega) (by omega)];omega
  simp only [hw,Int.toNat_natCast]
  refine ifT (by omega) (ifT (by omega) ?_)
  obtain ⟨e,he,hnode⟩:=BS2 (N:=N) (hok (x3.g m) (by simp)).is
  refine B0 he ?_
  rw [show 40 - i=(39 - i)+1 by omega] at h2
  by_cases h0:e=0
  case neg=>exact ifT (by simp [h0]) ⟨e,rfl,fun h=>absurd h h0,fun h=>absurd (hnode.2 (h2.1 h).1) h0⟩
  refine ifF (by simp [h0]) ?_
  have hc:(if (41:Int) < ((x3.g m).L.n:Int) then (41:Int) else ((x3.g m).L.n:Int))=((min 41 (x3.g m).L.n:Nat):Int):=by
   split <;> omega
  simp only [hc,Int.toNat_natCast]
  refine ifT (by omega) (B0 rfl (B0 (BG5 _ (by show min 41 _ < N;omega) (by show min 41 _ < 1000000;omega)) ?_))
  generalize hC:(x3.g m).L.take (min 41 (x3.g m).L.n)=C
  have hCn:C.n<=41:=by rw [<- hC];exact Nat.min_le_left _ _
  refine Cn2 (fun L z=>∃ j,j<=C.n/\L=((List.range j).reverse.map fun (i:Nat)=>((i:Int),C.g i))/\z.n=m+(C.n - j)/\z.toList.reverse=C.toList.drop j ++ (x3.take m).toList.reverse) ?_ ?_ _ _ ⟨C.n,Nat.le_refl _,rfl,by show m=_;omega,by rw [Ay6];rfl⟩
  ·rintro z ⟨j,hj,hL,hz,hzr⟩
   have hj0:j=0:=by
    cases j with
    | zero=>rfl
    | succ j=>simp [List.range_succ] at hL
   subst hj0
   rw [List.drop_zero] at hzr
   refine hs (by omega) _ _ ⟨C0 (by omega),by omega,fun q hq=>?_, ?_⟩
   ·rw [hzr] at hq
    rcases List.mem_append.1 hq with h | h
    ·obtain ⟨i',hi',rfl⟩:=List.mem_map.1 h
     have hi':=List.mem_range.1 hi'
     rw [<- hC] at hi' ⊢
     exact (hok (x3.g m) (by simp)).L (Nat.lt_of_lt_of_le hi' (Nat.min_le_right _ _))
    ·exact hok q (by simp [h])
   ·rw [hzr,h2,show 40 - (i+1)=39 - i by omega, <- hC,Cz5 (by omega)]
    exact ⟨fun h=>h.2,fun h=>⟨hnode.1 h0,h⟩⟩
  ·rintro t L z self2 ⟨j,hj,hL,hz,hzr⟩ hs2
   cases j with
   | zero=>simp at hL
   | succ j=>
    rw [List.range_succ,List.reverse_append,List.reverse_singleton,List.singleton_append,List.map_cons] at hL
    obtain ⟨rfl,rfl⟩:=List.cons.inj hL
    have e1:(z.n:Int).toNat=z.n:=Int.toNat_natCast _
    refine ifT ⟨⟨⟨by show (z.n+1) * 64<=_;omega,by show z.n+1<=_;omega⟩,by show (0:Int)<=_/\(z.n:Int) < ((z.n+1:Nat):Int);omega⟩,by show z.n < z.n+1;omega⟩ ?_
    refine hs2 _ ⟨j,by omega,rfl,by show z.n+1=_;omega, ?_⟩
    rw [Cn4,hzr,AE9 C (i:=j) (by omega),List.cons_append]
end Go.AM
set_option linter.unusedVariables false
namespace Go.AM
open Go.Proofs
def wOk (w:Sl Sound):Prop:=w.n<=32/\∀ i,i < w.n->vS (w.g i)
theorem AQ3 {N:Nat} {w:Sl Sound} (hN:w.n < N) (hs:w.n < 1000000) {f:Sound->Option Bool} {b:Nat->Bool} (hf:∀ i,i < w.n->f (w.g i)=some (b i)) :
 ∃ r,B3 N w f=some r/\(r=true ↔ ∃ i,i < w.n/\b i=true):=by
 unfold B3 D1
 have:∃ y,Aa9 N (fun (self1:Int->Option Int) (x1:Int)=>
  if (decide (x1 < (w.n:Int)))=true then
   if ((0:Int)<=x1/\x1 < (w.n:Int)) then
    (f (w.g x1.toNat)).bind fun y3=>
    if y3=true then
     some x1
    else
     self1 (IntKind.wrap .i64 (x1+1))
   else none
  else
   some (-1)) 0=some y/\(0<=y ↔ ∃ i,i < w.n/\b i=true):=by
  refine Ak9 (fun i x1=>x1=(i:Int)/\∀ j,j < i->b j=false) w.n _ hN ⟨rfl,fun j hj=>absurd hj (by omega)⟩ ?_
  rintro self i x1 hi ⟨rfl,h⟩ hs2
  by_cases hl:i < w.n
  ·refine ifT (by simp;omega) (ifT (by omega) (B0 (by rw [Int.toNat_natCast];exact hf i hl) ?_))
   cases hb:b i
   ·refine ifF (by simp) (hs2 hl _ ⟨C0 (by omega),fun j hj=>?_⟩)
    by_cases e:j=i
    ·subst e;exact hb
    ·exact h j (by omega)
   ·exact ifT rfl ⟨i,rfl,fun _=>⟨i,hl,hb⟩,fun _=>by omega⟩
  ·refine ifF (by simp;omega) ⟨-1,rfl,fun h=>absurd h (by decide), ?_⟩
   rintro ⟨j,hj,hb⟩
   rw [h j (by omega)] at hb;cases hb
 obtain ⟨y,e,hy⟩:=this
 exact B0 e ⟨_,rfl,by rw [decide_eq_true_eq];exact hy⟩
theorem Bi9 {N:Nat} (hN:3000<=N) {p:Pat} (hp:okPS p) {w:Sl Sound} (hs:w.n < 1000000/\w.n+1000 < N) (hw:∀ i,i < w.n->okS (w.g i)) :
 ∃ r,W0 N p w=some r/\(r.2=0 ↔ chk 40 [p]/\wOk w)/\(r.2=0->TabA w.n (PR w p) r.1):=by
 unfold W0
 obtain ⟨e,he,hc⟩:=Bo4 (N:=N) (by omega) hp
 refine B0 he ?_
 by_cases h0:e=0
 case neg=>exact ifT (by simp [h0]) ⟨_,rfl,⟨fun h=>absurd h h0,fun h=>absurd (hc.2 h.1) h0⟩,fun h=>absurd h h0⟩
 refine ifF (by simp [h0]) ?_
 by_cases hn:32 < w.n
 ·exact ifT (by simp;omega) ⟨_,rfl,⟨fun h=>absurd h (by decide),fun h=>by have:=h.2.1;omega⟩,fun h=>absurd h (by decide)⟩
 refine ifF (by simp;omega) ?_
 have hv:∀ i,∃ b:Bool,i < w.n->P8 N (w.g i)=some b/\(b=true ↔ ¬ vS (w.g i)):=by
  intro i
  by_cases hi:i < w.n
  ·obtain ⟨x,y,he⟩:=hw i hi
   refine ⟨!vB x y,fun _=>⟨?_, ?_⟩⟩
   ·unfold P8
    rw [he,Bx9];rfl
   ·rw [BG3 he];cases vB x y <;> simp
  ·exact ⟨false,fun h=>absurd h hi⟩
 obtain ⟨b,hb⟩:=Classical.axiomOfChoice hv
 obtain ⟨r,hr,hr2⟩:=AQ3 (N:=N) (by omega) hs.1 (f:=fun u1=>P8 N u1) fun i hi=>(hb i hi).1
 refine B0 hr ?_
 by_cases hrt:r=true
 ·refine ifT hrt ⟨_,rfl,⟨fun h=>absurd h (by decide),fun h=>?_⟩,fun h=>absurd h (by decide)⟩
  obtain ⟨i,hi,hbi⟩:=hr2.1 hrt
  exact absurd (h.2.2 i hi) ((hb i hi).2.1 hbi)
 ·refine ifF hrt ?_
  have hok:wOk w:=⟨by omega,fun i hi=>Classical.byContradiction fun hnv=>hrt (hr2.2 ⟨i,hi,(hb i hi).2.2 hnv⟩)⟩
  obtain ⟨pt,ep,hg⟩:=Ba1 (N:=1000) (by omega) 40 (Nat.le_refl _) p (Cc3 40 [p] (Nat.le_refl _) (hc.1 h0) p (by simp)) N (by omega)
  refine B0 ep ?_
  obtain ⟨f,ef,hf⟩:=hg w (by omega) hw N (by omega)
  exact B0 ef ⟨_,rfl,⟨fun _=>⟨hc.1 h0,hok⟩,fun _=>rfl⟩,fun _=>hf⟩
end Go.AM
set_option linter.unusedVariables false
namespace Go.AM
open Go.Proofs
theorem BS3 {N:Nat} (hN:3000<=N) {p:Pat} (hp:okPS p) {w:Sl Sound} (hs:w.n < 1000000/\w.n+1000 < N) (hw:∀ i,i < w.n->okS (w.g i)) (at_:Int) :
 ∃ r,Ac9 N p w at_=some r/\(0 < r.1.n ↔ chk 40 [p]/\wOk w/\0<=at_/\at_<=w.n/\∃ a,a<=w.n/\PR w p a at_.toNat):=by
 unfold Ac9
 obtain ⟨y,e,h1,h2⟩:=Bi9 hN hp hs hw
 refine B0 e (ltX ?_)
 by_cases h0:y.2=0
 case neg=>
  refine ifF (by simp [h0]) (ifT (by simp [h0]) ⟨_,rfl,fun h=>absurd h (by show ¬ 0 < 0;omega),fun h=>absurd (h1.2 ⟨h.1,h.2.1⟩) h0⟩)
 refine ifT (by simp [h0]) ?_
 obtain ⟨hc,hok⟩:=h1.1 h0
 have hT:=h2 h0
 have hn:=hok.1
 unfold V6
 by_cases hat:at_ < 0 \/ (w.n:Int) < at_
 ·rw [if_pos (by simpa using hat)]
  refine B0 rfl (ifT (by decide) ⟨_,rfl,fun h=>absurd h (by show ¬ 0 < 0;omega),fun h=>by omega⟩)
 rw [if_neg (by simpa using hat)]
 refine B0 rfl (ifF (by simp) ?_)
 obtain ⟨k,rfl⟩:∃ k:Nat,at_=(k:Int):=⟨at_.toNat,by omega⟩
 rw [C0 (by omega),Int.toNat_natCast]
 refine Z1 (fun i x2 x3=>x3=(i:Int)/\x2.n<=i/\(0 < x2.n ↔ ∃ a,a < i/\PR w p a k)) (w.n+1) _ (by omega) ⟨rfl,Nat.le_refl _,fun h=>absurd h (by show ¬ 0 < 0;omega),fun ⟨a,h,_⟩=>absurd h (by omega)⟩ ?_
 rintro self i x2 x3 hi ⟨rfl,g1,g2⟩ hs2
 by_cases hl:i<=w.n
 ·refine ifT (by simp;omega) (ifT (by omega) ?_)
  rw [Int.toNat_natCast,Nat.zero_add,Nat.mul_one]
  have hb:=hT.1.bit hl (b:=k) (by omega)
  by_cases hP:PR w p i k
  ·refine ifT (hb.2 ⟨by omega,hP⟩) (ifT (by show (x2.n+1) * 8<=_/\x2.n+1<=_;omega) (hs2 (by omega) _ _ ⟨C0 (by omega),by show x2.n+1<=_;omega,fun _=>⟨i,by omega,hP⟩,fun _=>by show 0 < x2.n+1;omega⟩))
  ·refine ifF (fun h=>hP (hb.1 h).2) (hs2 (by omega) _ _ ⟨C0 (by omega),by omega,fun h=>?_,fun ⟨a,ha,h⟩=>?_⟩)
   ·obtain ⟨a,ha,h'⟩:=g2.1 h;exact ⟨a,by omega,h'⟩
   ·by_cases e2:a=i
    ·subst e2;exact absurd h hP
    ·exact g2.2 ⟨a,by omega,h⟩
 ·refine ifF (by simp;omega) ⟨_,rfl,fun h=>?_,fun h=>?_⟩
  ·obtain ⟨a,ha,h'⟩:=g2.1 h
   exact ⟨hc,hok,by omega,by omega,a,by omega,h'⟩
  ·obtain ⟨a,ha,h'⟩:=h.2.2.2.2
   exact g2.2 ⟨a,by omega,h'⟩
theorem BG6 {N:Nat} (L:List Int) (hL:L.length < 1000):∃ s,J2 N L=some s/\s.n=L.length:=by
 unfold J2 F8
 have:∃ s:Sl Int,K4 L (fun (self1:Sl Int->Option (Sl Int)) (x1:Int) (z1:Sl Int)=>
  if ((z1.n+(Sl.of [x1]:Sl Int).n) * 8<=140737488355328/\z1.n+(Sl.of [x1]:Sl Int).n<=140737488355328) then
   self1 (z1.push x1)
  else none
  ) (fun (z1:Sl Int)=>some z1) (Sl.nil:Sl Int)=some s/\s.n=L.length:=by
  refine Cn2 (fun l z=>z.n+l.length=L.length) (fun z h=>⟨z,rfl,by simpa using h⟩) (fun t l z self h hs=>?_) L _ (by simp)
  simp only [List.length_cons] at h
  exact ifT (by show (z.n+1) * 8<=_/\z.n+1<=_;omega) (hs _ (by show z.n+1+l.length=_;omega))
 obtain ⟨s,e,hn⟩:=this
 exact B0 e ⟨s,rfl,hn⟩
theorem Cn5 {N:Nat} (hN:3000<=N) {p:Pat} (hp:okPS p) {w:Sl Sound} (hs:w.n < 1000000/\w.n+1000 < N) (hw:∀ i,i < w.n->okS (w.g i)) (at_:Int) :
 ∃ r,Ak6 N p w at_=some r/\(0 < r.1.n ↔ chk 40 [p]/\wOk w/\0<=at_/\at_<=w.n/\∃ b,b<=w.n/\PR w p at_.toNat b):=by
 unfold Ak6
 obtain ⟨y,e,h1,h2⟩:=Bi9 hN hp hs hw
 refine B0 e (ltX ?_)
 by_cases h0:y.2=0
 case neg=>
  refine ifF (by simp [h0]) (ifT (by simp [h0]) ⟨_,rfl,fun h=>absurd h (by show ¬ 0 < 0;omega),fun h=>absurd (h1.2 ⟨h.1,h.2.1⟩) h0⟩)
 refine ifT (by simp [h0]) ?_
 obtain ⟨hc,hok⟩:=h1.1 h0
 have hT:=h2 h0
 have hn:=hok.1
 unfold V6
 by_cases hat:at_ < 0 \/ (w.n:Int) < at_
 ·rw [if_pos (by simpa using hat)]
  refine B0 rfl (ifT (by decide) ⟨_,rfl,fun h=>absurd h (by show ¬ 0 < 0;omega),fun h=>by omega⟩)
 rw [if_neg (by simpa using hat)]
 refine B0 rfl (ifF (by simp) ?_)
 obtain ⟨k,rfl⟩:∃ k:Nat,at_=(k:Int):=⟨at_.toNat,by omega⟩
 refine ifT (by omega) ?_
 rw [Int.toNat_natCast,Nat.zero_add,Nat.mul_one]
 obtain ⟨u,e1,g1⟩:=hT.1 k (by omega)
 refine B0 (x:=y.1 k) rfl (B0 (x:=As6 u 0) (by rw [e1];exact AF0 u (by omega)) ?_)
 obtain ⟨s,es,hsn⟩:=BG6 (N:=N) (As6 u 0) (by
  unfold As6
  rw [List.length_map]
  exact Nat.lt_of_le_of_lt (List.length_filter_le _ _) (by simp))
 refine B0 es ⟨_,rfl, ?_⟩
 show 0 < s.n ↔ _
 rw [hsn,List.length_pos_iff_exists_mem]
 constructor
 ·rintro ⟨t,ht⟩
  obtain ⟨b,rfl,_,hb,hbit⟩:=mem_bitsF.1 ht
  exact ⟨hc,hok,by omega,by omega,b,((g1 b hb).1 hbit).1,((g1 b hb).1 hbit).2⟩
 ·rintro ⟨_,_,_,_,b,hb,h⟩
  exact ⟨(b:Int),mem_bitsF.2 ⟨b,rfl,by omega,by omega,(g1 b (by omega)).2 ⟨hb,h⟩⟩⟩
end Go.AM
set_option linter.unusedVariables false
namespace Go.AM
open Go.Proofs
def BM5 (w:Sl Sound) (e:Int):Prop:=(32 < w.n/\e=11) \/ (w.n<=32/\(∃ i,i < w.n/\¬ vS (w.g i))/\e=14) \/ (wOk w/\e=0)
theorem AJ6 {w:Sl Sound} {e e' : Int} (h:BM5 w e) (h' : BM5 w e'):e=e':=by
 rcases h with ⟨h1,h2⟩ | ⟨h1,⟨i,hi,hv⟩,h2⟩ | ⟨h1,h2⟩ <;> rcases h' with ⟨g1,g2⟩ | ⟨g1,⟨j,hj,gv⟩,g2⟩ | ⟨g1,g2⟩
 ·omega
 ·omega
 ·have:=g1.1;omega
 ·omega
 ·omega
 ·exact absurd (g1.2 i hi) hv
 ·have:=h1.1;omega
 ·exact absurd (h1.2 j hj) gv
 ·omega
theorem R5 {w:Sl Sound} {e:Int} (h:BM5 w e):e=0 ↔ wOk w:=by
 rcases h with ⟨h1,h2⟩ | ⟨h1,⟨i,hi,hv⟩,h2⟩ | ⟨h1,h2⟩
 ·exact ⟨fun h=>by omega,fun h=>by have:=h.1;omega⟩
 ·exact ⟨fun h=>by omega,fun h=>absurd (h.2 i hi) hv⟩
 ·exact ⟨fun _=>h1,fun _=>h2⟩
theorem By2 {N:Nat} (hN:1000<=N) {w:Sl Sound} (hw:∀ i,i < w.n->okS (w.g i)) (V:Sound->Option Bool) (hV:∀ p m:BitVec 32,V (sOf p m)=some (vB p m)) :
 ∃ e,(if (decide (32 < (w.n:Int)))=true then
 some (11:Int)
 else
  Aa9 N (fun self1 (x1:Int)=>
   if (decide (x1 < (w.n:Int)))=true then
    if ((0:Int)<=x1/\x1 < (w.n:Int)) then
     (V (w.g x1.toNat)).bind fun y3=>
     if (!y3)=true then
      some 14
     else
      self1 (IntKind.wrap .i64 (x1+1))
    else none
   else
    some 0
   ) 0)=some e/\BM5 w e:=by
 by_cases hn:32 < w.n
 ·exact ifT (by simp;omega) ⟨11,rfl, .inl ⟨hn,rfl⟩⟩
 refine ifF (by simp;omega) ?_
 refine Ak9 (fun i x1=>x1=(i:Int)/\∀ j,j < i->vS (w.g j)) w.n _ (by omega) ⟨rfl,fun j hj=>absurd hj (by omega)⟩ ?_
 rintro self i x1 hi ⟨rfl,h⟩ hs
 by_cases hl:i < w.n
 ·obtain ⟨p,m,he⟩:=hw i hl
  refine ifT (by simp;omega) (ifT (by omega) (B0 (by rw [Int.toNat_natCast,he];exact hV p m) ?_))
  cases hb:vB p m
  ·refine ifT rfl ⟨14,rfl, .inr (.inl ⟨by omega,⟨i,hl,fun hv=>?_⟩,rfl⟩)⟩
   have:=(BG3 he).1 hv;rw [hb] at this;cases this
  ·refine ifF (by simp) (hs hl _ ⟨C0 (by omega),fun j hj=>?_⟩)
   by_cases e:j=i
   ·subst e;exact (BG3 he).2 hb
   ·exact h j (by omega)
 ·exact ifF (by simp;omega) ⟨0,rfl, .inr (.inr ⟨⟨by omega,fun j hj=>h j (by omega)⟩,rfl⟩)⟩
theorem By3 {N:Nat} (hN:1000<=N) {w:Sl Sound} (hw:∀ i,i < w.n->okS (w.g i)):∃ e,T8 N w=some e/\BM5 w e:=
 By2 hN hw (Ab1 N) fun p m=>Bx8 p m
theorem Ap9 {N:Nat} (hN:1000<=N) {w:Sl Sound} (hw:∀ i,i < w.n->okS (w.g i)):∃ e,Ae4 N w=some e/\BM5 w e:=
 By2 hN hw (T7 N) fun p m=>Bi7 p m
theorem BM6 {N:Nat} (hN:2000<=N) {p:Pat} (hp:okPS p) {w:Sl Sound} (hw:∀ i,i < w.n->okS (w.g i)):∃ e,AA0 N p w=some e/\(e=0 ↔ chk 40 [p]/\wOk w):=by
 unfold AA0
 obtain ⟨e,he,hc⟩:=Ba0 hN hp
 refine B0 he ?_
 by_cases h0:e=0
 ·obtain ⟨e2,he2,hw2⟩:=Ap9 (N:=N) (by omega) hw
  exact ifT (by simp [h0]) (B0 he2 ⟨e2,rfl,(R5 hw2).trans ⟨fun h=>⟨hc.1 h0,h⟩,fun h=>h.2⟩⟩)
 ·exact ifF (by simp [h0]) ⟨e,rfl,fun h=>absurd h h0,fun h=>absurd (hc.2 h.1) h0⟩
theorem BG7 {N:Nat} (hN:3000<=N) {p:Pat} (hp:okPS p) {w:Sl Sound} (hw:∀ i,i < w.n->okS (w.g i)) (at_:Int) :
 ∃ r,Ax4 N p w at_=some r/\(0 < r.1.n ↔ chk 40 [p]/\wOk w/\0<=at_/\at_<=w.n/\∃ a,a<=w.n/\PR w p a at_.toNat):=by
 unfold Ax4
 obtain ⟨e,he,h1⟩:=BM6 (N:=N) (by omega) hp hw
 refine B0 he ?_
 by_cases h0:e=0
 case neg=>exact ifT (by simp [h0]) ⟨_,rfl,fun h=>absurd h (by show ¬ 0 < 0;omega),fun h=>absurd (h1.2 ⟨h.1,h.2.1⟩) h0⟩
 refine ifF (by simp [h0]) ?_
 obtain ⟨hc,hok⟩:=h1.1 h0
 have hn:=hok.1
 by_cases hat:at_ < 0 \/ (w.n:Int) < at_
 ·exact ifT (by simpa using hat) ⟨_,rfl,fun h=>absurd h (by show ¬ 0 < 0;omega),fun h=>by omega⟩
 refine ifF (by simpa using hat) ?_
 obtain ⟨k,rfl⟩:∃ k:Nat,at_=(k:Int):=⟨at_.toNat,by omega⟩
 obtain ⟨t,et,tn,hT⟩:=AZ7 (N:=1000) (by omega) hn 40 p (Cb7 40 [p] (Nat.le_refl _) hc p (by simp)) N (by omega)
 refine B0 et ?_
 rw [Int.toNat_natCast]
 refine Z1 (fun i x2 x3=>x3=(i:Int)/\x2.n<=i/\(0 < x2.n ↔ ∃ a,a < i/\PR w p a k)) (w.n+1) _ (by omega) ⟨rfl,Nat.le_refl _,fun h=>absurd h (by show ¬ 0 < 0;omega),fun ⟨a,h,_⟩=>absurd h (by omega)⟩ ?_
 rintro self i x2 x3 hi ⟨rfl,g1,g2⟩ hs2
 by_cases hl:i<=w.n
 ·refine ifT (by simp;omega) (ifT (by omega) ?_)
  rw [Int.toNat_natCast]
  have hb:=hT.bit hl (b:=k) (by omega)
  by_cases hP:PR w p i k
  ·refine ifT (hb.2 ⟨by omega,hP⟩) (ifT (by show (x2.n+1) * 8<=_/\x2.n+1<=_;omega) (hs2 (by omega) _ _ ⟨C0 (by omega),by show x2.n+1<=_;omega,fun _=>⟨i,by omega,hP⟩,fun _=>by show 0 < x2.n+1;omega⟩))
  ·refine ifF (fun h=>hP (hb.1 h).2) (hs2 (by omega) _ _ ⟨C0 (by omega),by omega,fun h=>?_,fun ⟨a,ha,h⟩=>?_⟩)
   ·obtain ⟨a,ha,h'⟩:=g2.1 h;exact ⟨a,by omega,h'⟩
   ·by_cases e2:a=i
    ·subst e2;exact absurd h hP
    ·exact g2.2 ⟨a,by omega,h⟩
 ·refine ifF (by simp;omega) ⟨_,rfl,fun h=>?_,fun h=>?_⟩
  ·obtain ⟨a,ha,h'⟩:=g2.1 h
   exact ⟨hc,hok,by omega,by omega,a,by omega,h'⟩
  ·obtain ⟨a,ha,h'⟩:=h.2.2.2.2
   exact g2.2 ⟨a,by omega,h'⟩
theorem Cc5 {N:Nat} (hN:3000<=N) {p:Pat} (hp:okPS p) {w:Sl Sound} (hw:∀ i,i < w.n->okS (w.g i)) (at_:Int) :
 ∃ r,AM2 N p w at_=some r/\(0 < r.1.n ↔ chk 40 [p]/\wOk w/\0<=at_/\at_<=w.n/\∃ b,b<=w.n/\PR w p at_.toNat b):=by
 unfold AM2
 obtain ⟨e,he,h1⟩:=BM6 (N:=N) (by omega) hp hw
 refine B0 he ?_
 by_cases h0:e=0
 case neg=>exact ifT (by simp [h0]) ⟨_,rfl,fun h=>absurd h (by show ¬ 0 < 0;omega),fun h=>absurd (h1.2 ⟨h.1,h.2.1⟩) h0⟩
 refine ifF (by simp [h0]) ?_
 obtain ⟨hc,hok⟩:=h1.1 h0
 have hn:=hok.1
 by_cases hat:at_ < 0 \/ (w.n:Int) < at_
 ·exact ifT (by simpa using hat) ⟨_,rfl,fun h=>absurd h (by show ¬ 0 < 0;omega),fun h=>by omega⟩
 refine ifF (by simpa using hat) ?_
 obtain ⟨k,rfl⟩:∃ k:Nat,at_=(k:Int):=⟨at_.toNat,by omega⟩
 obtain ⟨t,et,tn,hT⟩:=AZ7 (N:=1000) (by omega) hn 40 p (Cb7 40 [p] (Nat.le_refl _) hc p (by simp)) N (by omega)
 refine B0 et ?_
 rw [Int.toNat_natCast]
 refine Z1 (fun i x2 x3=>x3=(i:Int)/\x2.n<=i/\(0 < x2.n ↔ ∃ b,b < i/\PR w p k b)) (w.n+1) _ (by omega) ⟨rfl,Nat.le_refl _,fun h=>absurd h (by show ¬ 0 < 0;omega),fun ⟨a,h,_⟩=>absurd h (by omega)⟩ ?_
 rintro self i x2 x3 hi ⟨rfl,g1,g2⟩ hs2
 by_cases hl:i<=w.n
 ·refine ifT (by simp;omega) (ifT (by omega) ?_)
  have hb:=hT.bit (a:=k) (by omega) (b:=i) (by omega)
  by_cases hP:PR w p k i
  ·refine ifT (hb.2 ⟨by omega,hP⟩) (ifT (by show (x2.n+1) * 8<=_/\x2.n+1<=_;omega) (hs2 (by omega) _ _ ⟨C0 (by omega),by show x2.n+1<=_;omega,fun _=>⟨i,by omega,hP⟩,fun _=>by show 0 < x2.n+1;omega⟩))
  ·refine ifF (fun h=>hP (hb.1 h).2) (hs2 (by omega) _ _ ⟨C0 (by omega),by omega,fun h=>?_,fun ⟨a,ha,h⟩=>?_⟩)
   ·obtain ⟨a,ha,h'⟩:=g2.1 h;exact ⟨a,by omega,h'⟩
   ·by_cases e2:a=i
    ·subst e2;exact absurd h hP
    ·exact g2.2 ⟨a,by omega,h⟩
 ·refine ifF (by simp;omega) ⟨_,rfl,fun h=>?_,fun h=>?_⟩
  ·obtain ⟨a,ha,h'⟩:=g2.1 h
   exact ⟨hc,hok,by omega,by omega,a,by omega,h'⟩
  ·obtain ⟨a,ha,h'⟩:=h.2.2.2.2
   exact g2.2 ⟨a,by omega,h'⟩
end Go.AM
set_option linter.unusedVariables false
namespace Go.AM
open Go.Proofs
def CB2 (s c:Sound):Prop:=∃ p m a b:BitVec 32,s=sOf p m/\c=sOf a b/\BU4 p m a b=true
theorem Cc6 {p m a b:BitVec 32} (h:sOf p m=sOf a b):p=a/\m=b:=by
 have e1:(p.toNat:Int)=a.toNat:=congrArg Sound.Plus h
 have e2:(m.toNat:Int)=b.toNat:=congrArg Sound.Minus h
 exact ⟨BitVec.eq_of_toNat_eq (by omega),BitVec.eq_of_toNat_eq (by omega)⟩
theorem satS_of {p m a b:BitVec 32}:CB2 (sOf p m) (sOf a b) ↔ BU4 p m a b=true:=by
 constructor
 ·rintro ⟨p',m',a',b',h1,h2,h3⟩
  obtain ⟨rfl,rfl⟩:=Cc6 h1
  obtain ⟨rfl,rfl⟩:=Cc6 h2
  exact h3
 ·exact fun h=>⟨_,_,_,_,rfl,rfl,h⟩
theorem Cn6 {N:Nat} {s c:Sound} (hs:okS s) (hc:okS c):∃ b,I5 N s c=some b/\(b=true ↔ CB2 s c):=by
 obtain ⟨p,m,rfl⟩:=hs
 obtain ⟨a,b,rfl⟩:=hc
 exact ⟨_,Cy7 p m a b,satS_of.symm⟩
theorem Cn7 {N:Nat} (hN:1000<=N) {s c:Sound} (hs:okS s) (hc:okS c):∃ b,T5 N s c=some b/\(b=true ↔ CB2 s c):=by
 obtain ⟨p,m,rfl⟩:=hs
 obtain ⟨a,b,rfl⟩:=hc
 exact ⟨_,Cy8 p m a b hN,satS_of.symm⟩
def okL (l:Law):Prop:=okPS l.Left/\okPS l.Right/\∀ i,i < l.If.n->okS (l.If.g i)
def arP (l:Law) (w:Sl Sound) (i:Nat):Prop:=chk 40 [l.Left]/\chk 40 [l.Right]/\wOk w/\i+l.If.n<=w.n/\(∃ a,a<=w.n/\PR w l.Left a i)/\∃ b,b<=w.n/\PR w l.Right (i+l.If.n) b
def BM7 (l:Law) (w:Sl Sound) (i:Nat):Prop:=i+l.If.n<=w.n/\(∀ j,j < l.If.n->CB2 (w.g (i+j)) (l.If.g j))/\arP l w i
def okW (w:Sl Sound):Prop:=w.n < 1000/\∀ i,i < w.n->okS (w.g i)
theorem BS4 {N:Nat} (hN:3000<=N) {l:Law} (hl:okL l) (hk:l.If.n<=4) {w:Sl Sound} (hw:okW w) (i:Nat) (hi:i < 2000) :
 ∃ b,R8 N (i:Int) l w=some b/\(b=true ↔ arP l w i):=by
 unfold R8
 obtain ⟨y1,e1,h1⟩:=BS3 (N:=N) hN hl.1 (w:=w) ⟨by have:=hw.1;omega,by have:=hw.1;omega⟩ hw.2 (i:Int)
 refine B0 e1 ?_
 rw [Int.toNat_natCast] at h1
 by_cases h0:y1.1.n=0
 ·refine ifT (by simp [h0]) ⟨false,rfl,by simp,fun h=>?_⟩
  have:=h1.2 ⟨h.1,h.2.2.1,by omega,by have:=h.2.2.2.1;omega,h.2.2.2.2.1⟩
  omega
 ·refine ifF (by simp;omega) ?_
  rw [Al0 (by omega)]
  obtain ⟨y2,e2,h2⟩:=Cn5 (N:=N) hN hl.2.1 (w:=w) ⟨by have:=hw.1;omega,by have:=hw.1;omega⟩ hw.2 ((i+l.If.n:Nat):Int)
  rw [Int.toNat_natCast] at h2
  refine B0 e2 ⟨_,rfl, ?_⟩
  have h1:=h1.1 (by omega)
  rw [decide_eq_true_eq]
  constructor
  ·intro h
   have h2:=h2.1 (by omega)
   exact ⟨h1.1,h2.1,h1.2.1,by omega,h1.2.2.2.2,h2.2.2.2.2⟩
  ·intro h
   have:=h2.2 ⟨h.2.1,h.2.2.1,by omega,by have:=h.2.2.2.1;omega,h.2.2.2.2.2⟩
   omega
theorem Bo5 {N:Nat} (hN:3000<=N) {l:Law} (hl:okL l) (hk:l.If.n<=4) {w:Sl Sound} (hw:okW w) (i:Nat) (hi:i < 2000) :
 ∃ b,Ag5 N l w (i:Int)=some b/\(b=true ↔ BM7 l w i):=by
 unfold Ag5
 rw [Al0 (by omega)]
 by_cases hn:w.n < i+l.If.n
 ·exact ifT (by simp;omega) ⟨false,rfl,by simp,fun h=>by have:=h.1;omega⟩
 refine ifF (by simp;omega) ?_
 refine Ak9 (fun j x1=>x1=(j:Int)/\∀ k,k < j->CB2 (w.g (i+k)) (l.If.g k)) l.If.n _ (by omega) ⟨rfl,fun k hk=>absurd hk (by omega)⟩ ?_
 rintro self j x1 hj ⟨rfl,h⟩ hs
 by_cases hlt:j < l.If.n
 ·rw [Al0 (by omega)]
  refine ifT (by simp;omega) (ifT (by omega) ?_)
  obtain ⟨b,eb,hb⟩:=Cn7 (N:=N) (by omega) (hw.2 (i+j) (by omega)) (hl.2.2 j hlt)
  refine B0 (by rw [Int.toNat_natCast,Int.toNat_natCast];exact eb) ?_
  cases b
  ·refine ifT rfl ⟨false,rfl,by simp,fun h2=>?_⟩
   have:=hb.2 (h2.2.1 j hlt);cases this
  ·refine ifF (by simp) (hs hlt _ ⟨C0 (by omega),fun k hk2=>?_⟩)
   by_cases e:k=j
   ·subst e;exact hb.1 rfl
   ·exact h k (by omega)
 ·refine ifF (by simp;omega) ?_
  obtain ⟨y1,e1,h1⟩:=BG7 (N:=N) hN hl.1 (w:=w) hw.2 (i:Int)
  obtain ⟨y2,e2,h2⟩:=Cc5 (N:=N) hN hl.2.1 (w:=w) hw.2 ((i+l.If.n:Nat):Int)
  rw [Int.toNat_natCast] at h1 h2
  refine B0 e1 (B0 e2 ⟨_,rfl, ?_⟩)
  simp only [Bool.and_eq_true,decide_eq_true_eq]
  constructor
  ·rintro ⟨g1,g2⟩
   have h1:=h1.1 (by omega)
   have h2:=h2.1 (by omega)
   exact ⟨by omega,fun k hk2=>h k (by omega),h1.1,h2.1,h1.2.1,by omega,h1.2.2.2.2,h2.2.2.2.2⟩
  ·intro g
   have a1:=h1.2 ⟨g.2.2.1,g.2.2.2.2.1,by omega,by omega,g.2.2.2.2.2.2.1⟩
   have a2:=h2.2 ⟨g.2.2.2.1,g.2.2.2.2.1,by omega,by omega,g.2.2.2.2.2.2.2⟩
   exact ⟨by omega,by omega⟩
end Go.AM
set_option linter.unusedVariables false
namespace Go.AM
open Go.Proofs
open Classical in
noncomputable def hitB (l:Law) (w:Sl Sound) (i:Nat):Bool:=decide (BM7 l w i)
theorem hitB_iff {l:Law} {w:Sl Sound} {i:Nat}:hitB l w i=true ↔ BM7 l w i:=by simp [hitB]
noncomputable def An4 (l:Law) (w:Sl Sound) (i:Nat):List Int:=((List.range' i (w.n+1 - i)).filter (hitB l w)).map fun (j:Nat)=>(j:Int)
theorem AM9 {l:Law} {w:Sl Sound} {i:Nat} (h:w.n < i+l.If.n):An4 l w i=[]:=by
 unfold An4
 rw [List.filter_eq_nil_iff.2 fun j hj hb=>by
  have:=List.mem_range'_1.1 hj
  have:=(hitB_iff.1 hb).1
  omega]
 rfl
theorem AJ7 {l:Law} {w:Sl Sound} {i:Nat} (hi:i<=w.n) (h:BM7 l w i):An4 l w i=(i:Int) :: An4 l w (i+1):=by
 unfold An4
 rw [show w.n+1 - i=(w.n+1 - (i+1))+1 by omega,List.range'_succ,List.filter_cons_of_pos (hitB_iff.2 h)]
 rfl
theorem AJ8 {l:Law} {w:Sl Sound} {i:Nat} (h:¬ BM7 l w i):An4 l w i=An4 l w (i+1):=by
 unfold An4
 by_cases hi:i<=w.n
 ·rw [show w.n+1 - i=(w.n+1 - (i+1))+1 by omega,List.range'_succ,List.filter_cons_of_neg fun hb=>h (hitB_iff.1 hb)]
 ·rw [show w.n+1 - i=0 by omega,show w.n+1 - (i+1)=0 by omega];rfl
theorem Cn8 {l:Law} {w:Sl Sound} {i:Nat} {y:Int} (h:y ∈ An4 l w i):(i:Int)<=y:=by
 obtain ⟨j,hj,rfl⟩:=List.mem_map.1 h
 have:=List.mem_range'_1.1 (List.mem_filter.1 hj).1
 omega
theorem BM8 {N:Nat} (hN:3000<=N) {l:Law} (hl:okL l) (hk:l.If.n<=4) {w:Sl Sound} (hw:okW w) (i:Nat) (hi:i < 1500):U4 N l w (i:Int)=some (An4 l w i):=by
 unfold U4
 show (some (l,w)).bind _=_
 rw [Option.bind_some]
 simp only []
 suffices h:∀ (k i:Nat),i < 1501->w.n+1 - i<=k->∀ F,k < F->∃ r,Aa9 F (fun (self3:Int->Option (List Int)) (x2:Int)=>
  if (decide ((IntKind.wrap .i64 (x2+(l.If.n:Int)))<=(w.n:Int)))=true then
   Aa9 N (fun (self4:Int->Option (List Int)) (x4:Int)=>
    if (decide (x4 < (l.If.n:Int)))=true then
     if ((0:Int)<=x4/\x4 < (l.If.n:Int)) then
      if ((0:Int)<=(IntKind.wrap .i64 (x2+x4))/\(IntKind.wrap .i64 (x2+x4)) < (w.n:Int)) then
       (I5 N (w.g (IntKind.wrap .i64 (x2+x4)).toNat) (l.If.g x4.toNat)).bind fun y12=>
       if (!y12)=true then
        self3 (IntKind.wrap .i64 (x2+1))
       else
        self4 (IntKind.wrap .i64 (x4+1))
      else none
     else none
    else
     (R8 N x2 l w).bind fun y13=>
     if y13=true then
      Ab4 x2 (
       self3 (IntKind.wrap .i64 (x2+1))
       )
     else
      self3 (IntKind.wrap .i64 (x2+1))
    ) 0
  else
   some []
  ) (i:Int)=some r/\r=An4 l w i by
  obtain ⟨r,h1,rfl⟩:=h (w.n+1 - i) i (by omega) (Nat.le_refl _) N (by have:=hw.1;omega)
  exact h1
 intro k
 induction k with
 | zero=>
  intro i hi hk2 F hF
  match F,hF with
  | F+1,_=>
   rw [Q6,Al0 (by omega)]
   exact ifF (by simp;omega) ⟨_,rfl,(AM9 (by omega)).symm⟩
 | succ k ih=>
  intro i hi hk2 F hF
  match F,hF with
  | F+1,hF=>
   rw [Q6,Al0 (by omega)]
   by_cases hn:i+l.If.n<=w.n
   case neg=>exact ifF (by simp;omega) ⟨_,rfl,(AM9 (by omega)).symm⟩
   refine ifT (by simp;omega) ?_
   have hw1:=hw.1
   obtain ⟨r,hr,hr2⟩:=ih (i+1) (by omega) (by omega) F (by omega)
   have hself:∀ (Q:List Int->Prop),Q (An4 l w (i+1))->∃ r,Aa9 F _ (IntKind.i64.wrap ((i:Int)+1))=some r/\Q r:=fun Q hQ=>⟨r,by rw [C0 (by omega)];exact hr,by rw [hr2];exact hQ⟩
   refine Ak9 (fun j x1=>x1=(j:Int)/\∀ k,k < j->CB2 (w.g (i+k)) (l.If.g k)) l.If.n _ (by omega) ⟨rfl,fun k hk=>absurd hk (by omega)⟩ ?_
   rintro self j x1 hj ⟨rfl,h⟩ hs
   by_cases hlt:j < l.If.n
   ·rw [Al0 (by omega)]
    refine ifT (by simp;omega) (ifT (by omega) (ifT (by omega) ?_))
    obtain ⟨b,eb,hb⟩:=Cn6 (N:=N) (hw.2 (i+j) (by omega)) (hl.2.2 j hlt)
    refine B0 (by rw [Int.toNat_natCast,Int.toNat_natCast];exact eb) ?_
    cases b
    ·refine ifT rfl (hself _ ?_)
     exact (AJ8 fun h2=>by have:=hb.2 (h2.2.1 j hlt);cases this).symm
    ·refine ifF (by simp) (hs hlt _ ⟨C0 (by omega),fun k hk2=>?_⟩)
     by_cases e:k=j
     ·subst e;exact hb.1 rfl
     ·exact h k (by omega)
   ·refine ifF (by simp;omega) ?_
    obtain ⟨b,eb,hb⟩:=BS4 hN hl hk hw i (by omega)
    refine B0 eb ?_
    cases b
    ·refine ifF (by simp) (hself _ ?_)
     exact (AJ8 fun h2=>by have:=hb.2 h2.2.2;cases this).symm
    ·refine ifT rfl ?_
     have hh:BM7 l w i:=⟨hn,fun k hk2=>h k (by omega),hb.1 rfl⟩
     refine ⟨(i:Int) :: An4 l w (i+1), ?_,(AJ7 (by omega) hh).symm⟩
     rw [C0 (by omega),hr,hr2];rfl
theorem Cc7 {N:Nat} (hN:3000<=N) {l:Law} (hl:okL l) (hk:l.If.n<=4) {w:Sl Sound} (hw:okW w) (i:Nat) (hi:i < 1500) :
 ∃ b,Ag8 N l w (i:Int)=some b/\(b=true ↔ BM7 l w i):=by
 unfold Ag8
 refine B0 (x:=(l,w,(i:Int))) rfl (B0 (BM8 hN hl hk hw i hi) ?_)
 by_cases h:BM7 l w i
 ·rw [AJ7 (by have:=h.1;omega) h]
  exact ⟨true,by simp [K4],by simp [h]⟩
 ·rw [AJ8 h]
  rcases hL:An4 l w (i+1) with _ | ⟨t,L⟩
  ·exact ⟨false,rfl,by simp [h]⟩
  ·have:((i+1:Nat):Int)<=t:=Cn8 (l:=l) (w:=w) (by rw [hL];simp)
   exact ⟨false,by show some (t == (i:Int))=some false;congr 1;simp;omega,by simp [h]⟩
end Go.AM
set_option linter.unusedVariables false
namespace Go.AM
open Go.Proofs
def okO (x:Ad8):Prop:=okS x.Set/\(∃ c:BitVec 32,x.Clear=(c.toNat:Int))/\∃ t:BitVec 32,x.Take=(t.toNat:Int)
theorem Cr6 {p m a b s:BitVec 32} (h1:vB p m=true) (h2:vB a b=true):vB (Bp8 p a s) (Bp8 m b s)=true:=by
 rw [Au1] at *
 intro i hi
 have g1:=h1 i hi
 have g2:=h2 i hi
 simp only [Bp8,BitVec.getLsbD_or,BitVec.getLsbD_and,BitVec.getLsbD_not]
 revert g1 g2
 cases s.getLsbD i <;> cases p.getLsbD i <;> cases m.getLsbD i <;> cases a.getLsbD i <;> cases b.getLsbD i <;> simp [hi]
theorem vS0:vS (⟨0,0⟩:Sound):=⟨0#32,0#32,rfl,by decide +kernel⟩
theorem BG8 {N:Nat} (hN:1000<=N) {s t:Sound} {c:Int} (hs:okS s) (hc:∃ b:BitVec 32,c=(b.toNat:Int)) (ht:okS t):∃ y,M9 N s c t=some y/\T6 N s c t=some y/\vS y.1:=by
 obtain ⟨p,m,rfl⟩:=hs
 obtain ⟨a,b,rfl⟩:=ht
 obtain ⟨d,rfl⟩:=hc
 refine ⟨_,BS0 p m d a b,BS1 p m d a b hN, ?_⟩
 unfold Cm7
 split
 ·rename_i h
  split
  ·exact ⟨_,_,rfl,Cr6 h.1 h.2⟩
  ·exact vS0
 ·exact vS0
theorem Cc8 {N:Nat} (hN:1000<=N) {s t:Sound} {c:Int} (hs:okS s) (hc:∃ b:BitVec 32,c=(b.toNat:Int)) (ht:okS t):∃ y,Q3 N s t c=some y/\Ae3 N s t c=some y/\vS y.1:=by
 obtain ⟨p,m,rfl⟩:=hs
 obtain ⟨a,b,rfl⟩:=ht
 obtain ⟨d,rfl⟩:=hc
 refine ⟨_,Cm9 p m a b d,Cn0 p m a b d hN, ?_⟩
 unfold Cm8
 split
 ·rename_i h
  split
  ·exact ⟨_,_,rfl,Cr6 h.1 h.2⟩
  ·exact vS0
 ·exact vS0
def CI7 (l:Law):Prop:=l.Out.n<=6/\∀ i,i < l.Out.n->okO (l.Out.g i)/\(l.Out.g i).From < l.If.n/\((l.Out.g i).Take ≠ 0->0<=(l.Out.g i).Of/\(l.Out.g i).Of < l.If.n)
theorem eqX {R:Type} {Q:R->Prop} {o o' : Option R} (h:o=o') (h2:∃ r,o' = some r/\Q r):∃ r,o=some r/\Q r:=by rw [h];exact h2
def Ad7 (f:Nat->Sound):Nat->Sl Sound
 | 0=>Sl.nil
 | m+1=>(Ad7 f m).push (f m)
theorem AF1 (f:Nat->Sound):∀ m,(Ad7 f m).n=m
 | 0=>rfl
 | m+1=>by show (Ad7 f m).n+1=_;rw [AF1 f m]
theorem BG9 (f:Nat->Sound):∀ {m i:Nat},i < m->(Ad7 f m).g i=f i
 | 0,i,h=>by omega
 | m+1,i,h=>by
  show (if i < (Ad7 f m).n then (Ad7 f m).g i else f m)=f i
  rw [AF1]
  by_cases e:i < m
  ·rw [if_pos e,BG9 f e]
  ·rw [if_neg e,show i=m by omega]
abbrev srcS (l:Law) (cut:Sl Sound) (i:Nat):Sound:=⟨(if (decide (0<=(l.Out.g i).From))=true then (cut.g (l.Out.g i).From.toNat).Plus else 0),(if (decide (0<=(l.Out.g i).From))=true then (cut.g (l.Out.g i).From.toNat).Minus else 0)⟩
theorem Cz6 {N:Nat} (hN:1000<=N) {l:Law} (ho:CI7 l) {cut:Sl Sound} (hn:cut.n=l.If.n) (hc:∀ i,i < cut.n->okS (cut.g i)) :
 ∃ s,P9 N l cut=some s/\Ak5 N l cut=some s/\s.n=l.Out.n/\∀ i,i < s.n->vS (s.g i):=by
 have one:∀ i,∃ y:Sound,i < l.Out.n->vS y/\∀ (R:Type) (k:Sound->Option R),
  (∀ (Ch:Nat->Sound->Int->Sound->Option (Sound × Int)) (Ta:Nat->Sound->Sound->Int->Option (Sound × Int)),(Ch=M9/\Ta=Q3) \/ (Ch=T6/\Ta=Ae3) ->
  (if ((decide (0<=(l.Out.g i).From))=true->((0:Int)<=(l.Out.g i).From/\(l.Out.g i).From < (cut.n:Int))) then
   (Ch N (⟨(if (decide (0<=(l.Out.g i).From))=true then (cut.g (l.Out.g i).From.toNat).Plus else 0),(if (decide (0<=(l.Out.g i).From))=true then (cut.g (l.Out.g i).From.toNat).Minus else 0)⟩:Sound) (l.Out.g i).Clear (l.Out.g i).Set).bind fun y5=>
   if ((l.Out.g i).Take != 0)=true then
    if ((0:Int)<=(l.Out.g i).Of/\(l.Out.g i).Of < (cut.n:Int)) then
     (Ta N y5.1 (cut.g (l.Out.g i).Of.toNat) (l.Out.g i).Take).bind fun y6=>k y6.1
    else none
   else k y5.1
   else none)=k y):=by
  intro i
  by_cases hi:i < l.Out.n
  case neg=>exact ⟨default,fun h=>absurd h hi⟩
  obtain ⟨⟨hset,hcl,hta⟩,hfr,hof⟩:=ho.2 i hi
  have hs:okS (⟨(if (decide (0<=(l.Out.g i).From))=true then (cut.g (l.Out.g i).From.toNat).Plus else 0),(if (decide (0<=(l.Out.g i).From))=true then (cut.g (l.Out.g i).From.toNat).Minus else 0)⟩:Sound):=by
   by_cases hf:0<=(l.Out.g i).From
   ·simp only [hf,decide_true,if_true]
    exact hc _ (by omega)
   ·simp only [hf,decide_false,Bool.false_eq_true,if_false]
    exact ⟨0#32,0#32,rfl⟩
  obtain ⟨y,e1,e2,hy⟩:=BG8 hN hs hcl hset
  by_cases ht:(l.Out.g i).Take=0
  ·refine ⟨y.1,fun _=>⟨hy,fun R k Ch Ta h=>?_⟩⟩
   rw [if_pos (fun h=>by have:=of_decide_eq_true h;omega)]
   have:Ch N (srcS l cut i) (l.Out.g i).Clear (l.Out.g i).Set=some y:=by
    rcases h with ⟨rfl,rfl⟩ | ⟨rfl,rfl⟩
    ·exact e1
    ·exact e2
   rw [this,Option.bind_some,if_neg (by simp [ht])]
  ·obtain ⟨g1,g2⟩:=hof ht
   obtain ⟨z,e3,e4,hz⟩:=Cc8 hN hy.ok hta (hc (l.Out.g i).Of.toNat (by omega))
   refine ⟨z.1,fun _=>⟨hz,fun R k Ch Ta h=>?_⟩⟩
   rw [if_pos (fun h=>by have:=of_decide_eq_true h;omega)]
   have:Ch N (srcS l cut i) (l.Out.g i).Clear (l.Out.g i).Set=some y:=by
    rcases h with ⟨rfl,rfl⟩ | ⟨rfl,rfl⟩
    ·exact e1
    ·exact e2
   rw [this,Option.bind_some,if_pos (by simp [ht]),if_pos (by omega)]
   have:Ta N y.1 (cut.g (l.Out.g i).Of.toNat) (l.Out.g i).Take=some z:=by
    rcases h with ⟨rfl,rfl⟩ | ⟨rfl,rfl⟩
    ·exact e3
    ·exact e4
   rw [this,Option.bind_some]
 obtain ⟨out,hout⟩:=Classical.axiomOfChoice one
 have hn6:=ho.1
 have hbody:∀ (Ch:Nat->Sound->Int->Sound->Option (Sound × Int)) (Ta:Nat->Sound->Sound->Int->Option (Sound × Int)),(Ch=M9/\Ta=Q3) \/ (Ch=T6/\Ta=Ae3) ->
  ∀ (self:Sl Sound->Int->Option (Sl Sound)) (i:Nat),i < l.Out.n->(∃ r,self ((Ad7 out i).push (out i)) (IntKind.wrap .i64 ((i:Int)+1))=some r/\r=Ad7 out l.Out.n) ->
  ∃ r,(if ((decide (0<=(l.Out.g i).From))=true->((0:Int)<=(l.Out.g i).From/\(l.Out.g i).From < (cut.n:Int))) then
   (Ch N (srcS l cut i) (l.Out.g i).Clear (l.Out.g i).Set).bind fun y5=>
   if ((l.Out.g i).Take != 0)=true then
    if ((0:Int)<=(l.Out.g i).Of/\(l.Out.g i).Of < (cut.n:Int)) then
     (Ta N y5.1 (cut.g (l.Out.g i).Of.toNat) (l.Out.g i).Take).bind fun y6=>
     if (((Ad7 out i).n+(Sl.of [y6.1]:Sl Sound).n) * 8<=140737488355328/\(Ad7 out i).n+(Sl.of [y6.1]:Sl Sound).n<=140737488355328) then
      self ((Ad7 out i).push y6.1) (IntKind.wrap .i64 ((i:Int)+1))
     else none
    else none
   else
    if (((Ad7 out i).n+(Sl.of [y5.1]:Sl Sound).n) * 8<=140737488355328/\(Ad7 out i).n+(Sl.of [y5.1]:Sl Sound).n<=140737488355328) then
     self ((Ad7 out i).push y5.1) (IntKind.wrap .i64 ((i:Int)+1))
    else none
   else none)=some r/\r=Ad7 out l.Out.n:=by
  intro Ch Ta h self i hi hr
  have e:=(hout i hi).2 (Sl Sound) (fun y=>if (((Ad7 out i).n+(Sl.of [y]:Sl Sound).n) * 8<=140737488355328/\(Ad7 out i).n+(Sl.of [y]:Sl Sound).n<=140737488355328) then self ((Ad7 out i).push y) (IntKind.wrap .i64 ((i:Int)+1)) else none) Ch Ta h
  refine eqX e (ifT ?_ hr)
  have:=AF1 out i
  show ((Ad7 out i).n+1) * 8<=_/\(Ad7 out i).n+1<=_
  omega
 have h1:∃ r,P9 N l cut=some r/\r=Ad7 out l.Out.n:=by
  unfold P9
  refine Z1 (fun i x1 x2=>x2=(i:Int)/\x1=Ad7 out i) l.Out.n _ (by omega) ⟨rfl,rfl⟩ ?_
  rintro self i x1 x2 hi ⟨rfl,rfl⟩ hs
  by_cases hlt:i < l.Out.n
  ·refine ifT (by simp;omega) (ifT (by omega) ?_)
   rw [Int.toNat_natCast]
   exact hbody _ _ (.inl ⟨rfl,rfl⟩) self i hlt (hs hlt _ _ ⟨C0 (by omega),rfl⟩)
  ·exact ifF (by simp;omega) ⟨_,rfl,by congr 1;omega⟩
 have h2:∃ r,Ak5 N l cut=some r/\r=Ad7 out l.Out.n:=by
  unfold Ak5
  refine Z1 (fun i x1 x2=>x2=(i:Int)/\x1=Ad7 out i) l.Out.n _ (by omega) ⟨rfl,rfl⟩ ?_
  rintro self i x1 x2 hi ⟨rfl,rfl⟩ hs
  by_cases hlt:i < l.Out.n
  ·refine ifT (by simp;omega) (ifT (by omega) ?_)
   rw [Int.toNat_natCast]
   exact hbody _ _ (.inr ⟨rfl,rfl⟩) self i hlt (hs hlt _ _ ⟨C0 (by omega),rfl⟩)
  ·exact ifF (by simp;omega) ⟨_,rfl,by congr 1;omega⟩
 obtain ⟨r,e1,rfl⟩:=h1
 obtain ⟨r,e2,rfl⟩:=h2
 exact ⟨_,e1,e2,AF1 out _,fun i hi=>by
  rw [AF1] at hi
  rw [BG9 out hi];exact (hout i hi).1⟩
end Go.AM
set_option linter.unusedVariables false
namespace Go.AM
open Go.Proofs
theorem ne0 (x:BitVec 32):((x.toNat:Int) != 0)=decide (x ≠ 0#32):=by
 rw [bne,eq0];simp
theorem or0 (x y:BitVec 32):x ||| y=0#32 ↔ x=0#32/\y=0#32:=by
 constructor
 ·intro h
  have h:=(z32 _).1 h
  exact ⟨(z32 _).2 fun i hi=>by have:=h i hi;rw [BitVec.getLsbD_or,Bool.or_eq_false_iff] at this;exact this.1,(z32 _).2 fun i hi=>by have:=h i hi;rw [BitVec.getLsbD_or,Bool.or_eq_false_iff] at this;exact this.2⟩
 ·rintro ⟨rfl,rfl⟩;rfl
theorem CH0 (x y z:BitVec 32):x &&& (y ||| z)=(x &&& y) ||| (x &&& z):=by
 apply BitVec.eq_of_getLsbD_eq;intro i hi
 simp only [BitVec.getLsbD_and,BitVec.getLsbD_or]
 cases x.getLsbD i <;> simp
theorem CH1 (x y z:BitVec 32):(x ||| y) &&& z=(x &&& z) ||| (y &&& z):=by
 apply BitVec.eq_of_getLsbD_eq;intro i hi
 simp only [BitVec.getLsbD_and,BitVec.getLsbD_or]
 cases z.getLsbD i <;> simp
theorem BM9 {N:Nat} (hN:1000<=N) {x:Ad8} (hx:okO x) (k:Int):∃ b,R7 N x k=some b/\AM1 N x k=some b:=by
 obtain ⟨⟨a,b,hset⟩,⟨c,hc⟩,t,ht⟩:=hx
 have h24:(16777215:Int)=((16777215#32).toNat:Int):=rfl
 unfold R7 AM1
 simp only [lt,hset,hc,ht,Ad4,W5 a b hN,Option.bind_some]
 rw [h24]
 simp only [Aq8,AO8,Ao5,ne0]
 by_cases h1:x.From < -1
 ·simp [h1]
 by_cases h2:k<=x.From
 ·simp [h1,h2]
 by_cases h3:vB a b=true
 case neg=>simp [h1,h2,h3]
 simp only [h1,h2,h3,decide_false,Bool.false_eq_true,if_false,Bool.not_true]
 rw [CH1,CH0 t]
 generalize ~~~16777215#32=M
 by_cases g1:c &&& M=0#32
 case neg=>simp [g1,or0]
 by_cases g2:t &&& M=0#32
 case neg=>simp [g1,g2,or0]
 by_cases g3:c &&& (a ||| b)=0#32
 case neg=>simp [g1,g2,g3,or0]
 by_cases g4:t &&& (a ||| b)=0#32
 case neg=>simp [g1,g2,g3,g4,or0]
 by_cases g5:t &&& c=0#32
 case neg=>simp [g1,g2,g3,g4,g5,or0]
 simp [g1,g2,g3,g4,g5,or0]
 by_cases g6:t.toNat=0
 ·simp only [g6,if_true];cases x.Of == 0 <;> simp
 ·simp only [g6,if_false];cases (decide (0<=x.Of) && decide (x.Of < k)) <;> simp
end Go.AM
set_option linter.unusedVariables false
namespace Go.AM
open Go.Proofs
abbrev nameC:Str:=[97,98,99,100,101,102,103,104,105,106,107,108,109,110,111,112,113,114,115,116,117,118,119,120,121,122,65,66,67,68,69,70,71,72,73,74,75,76,77,78,79,80,81,82,83,84,85,86,87,88,89,90,48,49,50,51,52,53,54,55,56,57,45]
theorem Cc9 {p:UInt8->Bool}:∀ {l:Str},l.dropWhile p=[] ↔ ∀ x ∈ l,p x=true
 | []=>by simp
 | a :: l=>by
  rw [List.dropWhile_cons]
  by_cases h:p a=true
  ·rw [if_pos h,Cc9];simp [h]
  ·rw [if_neg h];simp [h]
theorem Cn9 (l cs:Str):Lib.trimS l cs=[] ↔ ∀ b ∈ l,cs.contains b=true:=by
 unfold Lib.trimS Lib.trimLeftS Lib.trimRightS
 rw [Cc9]
 constructor
 ·intro h
  have h:∀ x ∈ l.reverse.dropWhile (cs.contains ·),cs.contains x=true:=fun x hx=>h x (List.mem_reverse.2 hx)
  have h2:l.reverse.dropWhile (cs.contains ·)=[]:=by
   rcases e:l.reverse.dropWhile (cs.contains ·) with _ | ⟨y,r⟩
   ·rfl
   ·have h3:=h y (by rw [e];simp)
    have h4:¬ cs.contains y=true:=by
     have:=List.head_dropWhile_not (cs.contains ·) (l:=l.reverse) (by rw [e];simp)
     simp only [e,List.head_cons] at this
     rw [this];exact Bool.false_ne_true
    exact absurd h3 h4
  rw [Cc9] at h2
  exact fun b hb=>h2 b (List.mem_reverse.2 hb)
 ·intro h x hx
  have hx:=List.mem_reverse.1 hx
  exact h x (List.mem_reverse.1 ((List.dropWhile_sublist _).mem hx))
abbrev Co0 (y:Int):Bool:=((((decide (97<=y)) && (decide (y<=122))) || ((decide (65<=y)) && (decide (y<=90)))) || ((decide (48<=y)) && (decide (y<=57)))) || (y == 45)
theorem Cd0:∀ k:Fin 256,nameC.contains (UInt8.ofNat k.val)=Co0 ((k.val:Nat):Int):=by decide +kernel
theorem Cd1 (b:UInt8):nameC.contains b=Co0 ((b.toNat:Nat):Int):=by
 have:=Cd0 ⟨b.toNat,b.toNat_lt⟩
 rw [show UInt8.ofNat b.toNat=b by simp] at this
 exact this
theorem By4 {N:Nat} {s:Str} (hN:s.length < N) (hs:s.length < 1000000000):∃ b,Ae6 N s=some b/\Ap5 N s=some b:=by
 have h2:∃ b,Ap5 N s=some b/\(b=true ↔ (∀ c ∈ s,nameC.contains c=true)/\1<=s.length/\s.length<=24):=by
  unfold Ap5
  refine Ak9 (fun i x1=>x1=(i:Int)/\∀ j (h:j < s.length),j < i->nameC.contains s[j]=true) s.length _ hN ⟨rfl,fun j _ hj=>absurd hj (by omega)⟩ ?_
  rintro self i x1 hi ⟨rfl,h⟩ hs2
  by_cases hl:i < s.length
  ·refine ifT (by simp;omega) (ifT (by omega) ?_)
   have eb:AG9 s (i:Int)=((s[i].toNat:Nat):Int):=by simp [AG9,hl]
   by_cases hb:nameC.contains s[i]=true
   ·refine ifF (by rw [eb];show ¬ (!(Co0 ((s[i].toNat:Nat):Int)))=true;rw [<- Cd1,hb];simp) (hs2 hl _ ⟨C0 (by omega),fun j hj hj2=>?_⟩)
    by_cases e:j=i
    ·subst e;exact hb
    ·exact h j hj (by omega)
   ·refine ifT ?_ ⟨false,rfl,by simp,fun hh=>absurd (hh.1 s[i] (List.getElem_mem hl)) hb⟩
    rw [eb]
    show (!(Co0 ((s[i].toNat:Nat):Int)))=true
    rw [<- Cd1]
    simpa using hb
  ·refine ifF (by simp;omega) ⟨_,rfl, ?_⟩
   simp only [Bool.and_eq_true,decide_eq_true_eq]
   constructor
   ·rintro ⟨g1,g2⟩
    refine ⟨fun c hc=>?_,by omega,by omega⟩
    obtain ⟨j,hj,rfl⟩:=List.getElem_of_mem hc
    exact h j hj (by omega)
   ·rintro ⟨_,g1,g2⟩;exact ⟨by omega,by omega⟩
 obtain ⟨b,e,hb⟩:=h2
 refine ⟨b, ?_,e⟩
 suffices h:∃ r,Ae6 N s=some r/\(r=true ↔ (∀ c ∈ s,nameC.contains c=true)/\1<=s.length/\s.length<=24) by
  obtain ⟨r,hr,hr2⟩:=h
  rw [hr,show r=b by rw [Bool.eq_iff_iff,hr2,hb]]
 unfold Ae6
 refine ltX ?_
 by_cases h0:s=[]
 ·exact ifF (by simp [h0]) ⟨false,rfl,by simp [h0]⟩
 refine ifT (by simp [h0]) ?_
 have hpos:0 < s.length:=List.length_pos_iff.2 h0
 by_cases h1:s.length<=24
 ·refine ifT (by simp;omega) (B0 (x:=Lib.trimS s nameC) ?_ ⟨_,rfl, ?_⟩)
  ·unfold An1
   rw [if_pos ⟨by omega,by decide,by decide⟩]
  ·rw [<- Cn9]
   constructor
   ·intro h
    exact ⟨by simpa using h,by omega,h1⟩
   ·rintro ⟨h,_⟩
    simp [h]
 ·exact ifF (by simp;omega) ⟨false,rfl,by simp;intro _ _;omega⟩
end Go.AM
set_option linter.unusedVariables false
namespace Go.AM
open Go.Proofs
theorem By5 {N:Nat} {s:Sl Ad8} (hN:s.n < N) (hs:s.n < 1000000) {f:Ad8->Option Bool} {b:Nat->Bool} (hf:∀ i,i < s.n->f (s.g i)=some (b i)) :
 ∃ r,C4 N s f=some r/\(r=true ↔ ∃ i,i < s.n/\b i=true):=by
 unfold C4 E1
 have:∃ y,Aa9 N (fun (self1:Int->Option Int) (x1:Int)=>
  if (decide (x1 < (s.n:Int)))=true then
   if ((0:Int)<=x1/\x1 < (s.n:Int)) then
    (f (s.g x1.toNat)).bind fun y3=>
    if y3=true then
     some x1
    else
     self1 (IntKind.wrap .i64 (x1+1))
   else none
  else
   some (-1)) 0=some y/\(0<=y ↔ ∃ i,i < s.n/\b i=true):=by
  refine Ak9 (fun i x1=>x1=(i:Int)/\∀ j,j < i->b j=false) s.n _ hN ⟨rfl,fun j hj=>absurd hj (by omega)⟩ ?_
  rintro self i x1 hi ⟨rfl,h⟩ hs2
  by_cases hl:i < s.n
  ·refine ifT (by simp;omega) (ifT (by omega) (B0 (by rw [Int.toNat_natCast];exact hf i hl) ?_))
   cases hb:b i
   ·refine ifF (by simp) (hs2 hl _ ⟨C0 (by omega),fun j hj=>?_⟩)
    by_cases e:j=i
    ·subst e;exact hb
    ·exact h j (by omega)
   ·exact ifT rfl ⟨i,rfl,fun _=>⟨i,hl,hb⟩,fun _=>by omega⟩
  ·refine ifF (by simp;omega) ⟨-1,rfl,fun h=>absurd h (by decide), ?_⟩
   rintro ⟨j,hj,hb⟩
   rw [h j (by omega)] at hb;cases hb
 obtain ⟨y,e,hy⟩:=this
 exact B0 e ⟨_,rfl,by rw [decide_eq_true_eq];exact hy⟩
def Bo6 (l:Law):Prop:=okL l/\l.Name.length < 1100000/\l.If.n < 1100000/\l.Out.n < 1100000/\∀ i,i < l.Out.n->okO (l.Out.g i)
theorem BS5 {N:Nat} {s:Sound} (hs:okS s):∃ b,F4 N s=some b/\(b=true ↔ vS s):=by
 obtain ⟨p,m,e⟩:=hs
 exact ⟨vB p m,by rw [e];exact Ad4 p m,(BG3 e).symm⟩
theorem BS6 {N:Nat} (hN:1000<=N) {s:Sound} (hs:okS s):∃ b,I6 N s=some b/\(b=true ↔ vS s):=by
 obtain ⟨p,m,e⟩:=hs
 exact ⟨vB p m,by rw [e];exact W5 p m hN,(BG3 e).symm⟩
theorem Co1 {N:Nat} {x:Ad8} (hx:okO x) {k:Int} (h:R7 N x k=some true):x.From < k/\(x.Take ≠ 0->0<=x.Of/\x.Of < k):=by
 obtain ⟨⟨a,b,hset⟩,_,_⟩:=hx
 unfold R7 at h
 simp only [lt,hset,Ad4,Option.bind_some] at h
 by_cases h1:x.From < -1
 ·simp [h1] at h
 by_cases h2:k<=x.From
 ·simp [h1,h2] at h
 refine ⟨by omega,fun ht=>?_⟩
 simp only [h1,h2,decide_false,Bool.false_eq_true,if_false] at h
 by_cases h3:(!vB a b)=true
 ·rw [if_pos h3] at h;cases h
 rw [if_neg h3] at h
 split at h
 ·cases h
 ·rw [if_neg (by simp [ht])] at h;simpa using h
def chkAll (N:Nat) (l:Law):Prop:=Ap5 N l.Name=some true/\chk 40 [l.Left]/\chk 40 [l.Right]/\l.If.n<=4/\l.Out.n<=6/\l.If.n+l.Out.n ≠ 0/\1<=l.Mode/\l.Mode<=3/\(∀ i,i < l.If.n->vS (l.If.g i))/\∀ i,i < l.Out.n->R7 N (l.Out.g i) l.If.n=some true
def CH2 (N:Nat) (l:Law) (e:Int):Prop:=(e=0/\chkAll N l) \/ (e=17/\¬ chkAll N l)
def CI8 (l:Law):Prop:=okL l/\chk 40 [l.Left]/\chk 40 [l.Right]/\l.If.n<=4/\CI7 l/\l.If.n+l.Out.n ≠ 0/\1<=l.Mode/\l.Mode<=3
theorem chkAll.f {N:Nat} {l:Law} (hl:Bo6 l) (h:chkAll N l):CI8 l:=by
 obtain ⟨_,h1,h2,h3,h4,h5,h6,h7,h8,h9⟩:=h
 exact ⟨hl.1,h1,h2,h3,⟨h4,fun i hi=>⟨hl.2.2.2.2 i hi,Co1 (hl.2.2.2.2 i hi) (h9 i hi)⟩⟩,h5,h6,h7⟩
theorem BS7 {N:Nat} (hN:3000000<=N) {l:Law} (hl:Bo6 l):∃ e,Aa3 N l=some e/\CH2 N l e:=by
 have hb1:=hl.2.1
 have hb2:=hl.2.2.1
 have hb3:=hl.2.2.2.1
 unfold Aa3
 obtain ⟨b0,e0,e0'⟩:=By4 (N:=N) (s:=l.Name) (by omega) (by omega)
 refine B0 e0 ?_
 cases b0
 ·exact ifT rfl ⟨17,rfl, .inr ⟨rfl,fun h=>by have:=h.1;rw [e0'] at this;cases this⟩⟩
 refine ifF (by simp) ?_
 obtain ⟨y2,e2,h2⟩:=Bo4 (N:=N) (by omega) hl.1.1
 refine B0 e2 ?_
 by_cases c2:y2=0
 case neg=>exact ifT (by simpa using c2) ⟨17,rfl, .inr ⟨rfl,fun h=>c2 (h2.2 h.2.1)⟩⟩
 refine ifF (by simp [c2]) ?_
 obtain ⟨y3,e3,h3⟩:=Bo4 (N:=N) (by omega) hl.1.2.1
 refine B0 e3 ?_
 by_cases c3:y3=0
 case neg=>exact ifT (by simpa using c3) ⟨17,rfl, .inr ⟨rfl,fun h=>c3 (h3.2 h.2.2.1)⟩⟩
 refine ifF (by simp [c3]) ?_
 by_cases c4:4 < l.If.n
 ·exact ifT (by simp;omega) ⟨17,rfl, .inr ⟨rfl,fun h=>by have:=h.2.2.2.1;omega⟩⟩
 refine ifF (by simp;omega) ?_
 by_cases c5:6 < l.Out.n
 ·exact ifT (by simp;omega) ⟨17,rfl, .inr ⟨rfl,fun h=>by have:=h.2.2.2.2.1;omega⟩⟩
 refine ifF (by simp;omega) ?_
 rw [Al0 (by omega)]
 by_cases c6:l.If.n+l.Out.n=0
 ·exact ifT (by rw [c6];rfl) ⟨17,rfl, .inr ⟨rfl,fun h=>h.2.2.2.2.2.1 c6⟩⟩
 refine ifF (by simp;omega) ?_
 by_cases c7:l.Mode < 1 \/ 3 < l.Mode
 ·exact ifT (by simp;omega) ⟨17,rfl, .inr ⟨rfl,fun h=>by have g1:=h.2.2.2.2.2.2.1;have g2:=h.2.2.2.2.2.2.2.1;omega⟩⟩
 refine ifF (by simp;omega) ?_
 have hv:∀ i,∃ b,i < l.If.n->W2 N (l.If.g i)=some b/\(b=true ↔ ¬ vS (l.If.g i)):=by
  intro i
  by_cases hi:i < l.If.n
  ·obtain ⟨b,eb,hb⟩:=BS5 (N:=N) (hl.1.2.2 i hi)
   refine ⟨!b,fun _=>⟨by unfold W2;rw [eb];rfl, ?_⟩⟩
   rw [<- hb];simp
  ·exact ⟨false,fun h=>absurd h hi⟩
 obtain ⟨f,hf⟩:=Classical.axiomOfChoice hv
 obtain ⟨y4,e4,h4⟩:=AQ3 (N:=N) (w:=l.If) (by omega) (by omega) (f:=fun u1=>W2 N u1) (fun i hi=>(hf i hi).1)
 refine B0 e4 ?_
 cases hy4:y4
 case true=>
  obtain ⟨i,hi,hb⟩:=h4.1 hy4
  exact ifT rfl ⟨17,rfl, .inr ⟨rfl,fun h=>(hf i hi).2.1 hb (h.2.2.2.2.2.2.2.2.1 i hi)⟩⟩
 refine ifF (by simp) ?_
 have ho:∀ i,∃ b,i < l.Out.n->W1 N (l.Out.g i) (l.If.n:Int)=some b/\(b=true ↔ ¬ R7 N (l.Out.g i) l.If.n=some true):=by
  intro i
  by_cases hi:i < l.Out.n
  ·obtain ⟨b,eb,_⟩:=BM9 (N:=N) (by omega) (hl.2.2.2.2 i hi) (l.If.n:Int)
   refine ⟨!b,fun _=>⟨by unfold W1;rw [eb];rfl, ?_⟩⟩
   rw [eb];simp
  ·exact ⟨false,fun h=>absurd h hi⟩
 obtain ⟨g,hg⟩:=Classical.axiomOfChoice ho
 obtain ⟨y5,e5,h5⟩:=By5 (N:=N) (s:=l.Out) (by omega) (by omega) (f:=fun u2=>W1 N u2 (l.If.n:Int)) (fun i hi=>(hg i hi).1)
 refine B0 e5 ?_
 cases hy5:y5
 case true=>
  obtain ⟨i,hi,hb⟩:=h5.1 hy5
  exact ifT rfl ⟨17,rfl, .inr ⟨rfl,fun h=>(hg i hi).2.1 hb (h.2.2.2.2.2.2.2.2.2 i hi)⟩⟩
 refine ifF (by simp) ⟨0,rfl, .inl ⟨rfl,e0',h2.1 c2,h3.1 c3,by omega,by omega,c6,by omega,by omega,fun i hi=>?_,fun i hi=>?_⟩⟩
 ·refine Classical.byContradiction fun hn=>?_
  have:=h4.2 ⟨i,hi,(hf i hi).2.2 hn⟩
  rw [hy4] at this;cases this
 ·refine Classical.byContradiction fun hn=>?_
  have:=h5.2 ⟨i,hi,(hg i hi).2.2 hn⟩
  rw [hy5] at this;cases this
theorem BS8 {N:Nat} (hN:3000000<=N) {l:Law} (hl:Bo6 l):∃ e,Ak3 N l=some e/\CH2 N l e:=by
 have hb1:=hl.2.1
 have hb2:=hl.2.2.1
 have hb3:=hl.2.2.2.1
 unfold Ak3
 obtain ⟨b0,e0,e0'⟩:=By4 (N:=N) (s:=l.Name) (by omega) (by omega)
 refine B0 e0' (ltX ?_)
 cases b0
 ·exact ifT rfl (ifT rfl ⟨17,rfl, .inr ⟨rfl,fun h=>by have:=h.1;rw [e0'] at this;cases this⟩⟩)
 refine ifF (by simp) ?_
 obtain ⟨y2,e2,h2⟩:=Ba0 (N:=N) (by omega) hl.1.1
 refine B0 e2 ?_
 by_cases c2:y2=0
 case neg=>exact ifT (by simpa using c2) (ifT rfl ⟨17,rfl, .inr ⟨rfl,fun h=>c2 (h2.2 h.2.1)⟩⟩)
 refine ifF (by simp [c2]) ?_
 obtain ⟨y3,e3,h3⟩:=Ba0 (N:=N) (by omega) hl.1.2.1
 refine B0 e3 ?_
 by_cases c3:y3=0
 case neg=>exact ifT (by simpa using c3) ⟨17,rfl, .inr ⟨rfl,fun h=>c3 (h3.2 h.2.2.1)⟩⟩
 refine ifF (by simp [c3]) ?_
 rw [Al0 (by omega)]
 by_cases hall:l.If.n<=4/\l.Out.n<=6/\l.If.n+l.Out.n ≠ 0/\1<=l.Mode/\l.Mode<=3
 case neg=>
  refine ifT ?_ ⟨17,rfl, .inr ⟨rfl,fun h=>hall ⟨h.2.2.2.1,h.2.2.2.2.1,h.2.2.2.2.2.1,h.2.2.2.2.2.2.1,h.2.2.2.2.2.2.2.1⟩⟩⟩
  simp only [Bool.or_eq_true,decide_eq_true_eq,beq_iff_eq]
  omega
 refine ifF (by simp only [Bool.or_eq_true,decide_eq_true_eq,beq_iff_eq];omega) ?_
 obtain ⟨c4,c5,c6,c7,c8⟩:=hall
 refine Ak9 (fun i x1=>x1=(i:Int)/\∀ j,j < i->vS (l.If.g j)) l.If.n _ (by omega) ⟨rfl,fun j hj=>absurd hj (by omega)⟩ ?_
 rintro self i x1 hi ⟨rfl,h⟩ hs
 by_cases hlt:i < l.If.n
 ·obtain ⟨b,eb,hb⟩:=BS6 (N:=N) (by omega) (hl.1.2.2 i hlt)
  refine ifT (by simp;omega) (ifT (by omega) (B0 (by rw [Int.toNat_natCast];exact eb) ?_))
  cases b
  ·exact ifT rfl ⟨17,rfl, .inr ⟨rfl,fun h=>by have:=hb.2 (h.2.2.2.2.2.2.2.2.1 i hlt);cases this⟩⟩
  ·refine ifF (by simp) (hs hlt _ ⟨C0 (by omega),fun j hj=>?_⟩)
   by_cases e:j=i
   ·subst e;exact hb.1 rfl
   ·exact h j (by omega)
 refine ifF (by simp;omega) ?_
 have hV:∀ j,j < l.If.n->vS (l.If.g j):=fun j hj=>h j (by omega)
 refine Ak9 (fun i x1=>x1=(i:Int)/\∀ j,j < i->R7 N (l.Out.g j) l.If.n=some true) l.Out.n _ (by omega) ⟨rfl,fun j hj=>absurd hj (by omega)⟩ ?_
 rintro self2 k x2 hk ⟨rfl,h'⟩ hs2
 by_cases hlk:k < l.Out.n
 ·obtain ⟨b,eb,eb'⟩:=BM9 (N:=N) (by omega) (hl.2.2.2.2 k hlk) (l.If.n:Int)
  refine ifT (by simp;omega) (ifT (by omega) (B0 (by rw [Int.toNat_natCast];exact eb') ?_))
  cases b
  ·exact ifT rfl ⟨17,rfl, .inr ⟨rfl,fun h=>by have:=h.2.2.2.2.2.2.2.2.2 k hlk;rw [eb] at this;cases this⟩⟩
  ·refine ifF (by simp) (hs2 hlk _ ⟨C0 (by omega),fun j hj=>?_⟩)
   by_cases e:j=k
   ·subst e;exact eb
   ·exact h' j (by omega)
 ·exact ifF (by simp;omega) ⟨0,rfl, .inl ⟨rfl,e0',h2.1 c2,h3.1 c3,c4,c5,c6,c7,c8,hV,fun j hj=>h' j (by omega)⟩⟩
theorem Cd2 {N:Nat} {l:Law} {e e' : Int} (h:CH2 N l e) (h' : CH2 N l e'):e=e':=by
 rcases h with ⟨rfl,h⟩ | ⟨rfl,h⟩ <;> rcases h' with ⟨rfl,h'⟩ | ⟨rfl,h'⟩
 ·rfl
 ·exact absurd h h'
 ·exact absurd h' h
 ·rfl
theorem Ba2 {N:Nat} (hN:3000000<=N) {l:Law} (hl:Bo6 l):∃ e,Aa3 N l=some e/\Ak3 N l=some e/\CH2 N l e:=by
 obtain ⟨e,h,c⟩:=BS7 hN hl
 obtain ⟨e',h',c'⟩:=BS8 hN hl
 obtain rfl:=Cd2 c c'
 exact ⟨_,h,h',c⟩
end Go.AM
set_option linter.unusedVariables false
namespace Go.AM
open Go.Proofs
theorem nf:(!false)=true:=rfl
theorem Cd3 {α : Type} {s t:Sl α} (h:s.n=0):s.app t=t:=by
 cases t;simp [Sl.app,h]
def Cd4 {α : Type} [Inhabited α] (s:Sl (Sl α)):Nat->Sl α
 | 0=>Sl.nil
 | k+1=>(Cd4 s k).app (s.g k)
theorem Cd5 {α : Type} [Inhabited α] (s:Sl (Sl α)) {B:Nat}:∀ k,(∀ i,i < k->(s.g i).n<=B)->(Cd4 s k).n<=k * B
 | 0,_=>by simp [Cd4]
 | k+1,h=>by
  have:=Cd5 s k fun i hi=>h i (by omega)
  have:=h k (by omega)
  show (Cd4 s k).n+(s.g k).n<=_
  rw [Nat.succ_mul];omega
theorem BH0 {N:Nat} {s:Sl (Sl Sound)} (hn:s.n < 1000) (hN:1000<=N) (hs:∀ i,i < s.n->(s.g i).n<=3000000) :
 B1 N s=some (Cd4 s s.n):=by
 suffices h:∃ r,B1 N s=some r/\r=Cd4 s s.n by obtain ⟨r,h,rfl⟩:=h;exact h
 unfold B1
 refine Z1 (fun (i:Nat) (x1 x2:Int)=>x2=(i:Int)/\0<=x1/\x1<=(i:Int) * 3000000) s.n _ (by omega) ⟨rfl,Int.le_refl 0,by simp⟩ ?_
 rintro self i x1 x2 hi ⟨rfl,h0,h1⟩ hs2
 by_cases hl:i < s.n
 ·have:=hs i hl
  refine ifT (by simp;omega) (ifT (by omega) ?_)
  rw [Int.toNat_natCast,F2 (by omega) (by omega)]
  exact ifF (by simp;omega) (hs2 hl _ _ ⟨C0 (by omega),by omega,by omega⟩)
 refine ifF (by simp;omega) (B0 (x:=Sl.nil) ?_ ?_)
 ·unfold G2
  rw [if_pos (by omega)]
 refine Z1 (fun i x1 x2=>x2=(i:Int)/\x1=Cd4 s i) s.n _ (by omega) ⟨rfl,rfl⟩ ?_
 rintro self i x1 x2 hi ⟨rfl,rfl⟩ hs2
 by_cases hl:i < s.n
 ·have g1:=hs i hl
  have g2:=Cd5 s i (B:=3000000) fun j hj=>hs j (by omega)
  refine ifT (by simp;omega) (ifT ⟨by omega, ?_⟩ (hs2 hl _ _ ⟨C0 (by omega), ?_⟩))
  ·rw [Int.toNat_natCast];omega
  ·rw [Int.toNat_natCast];rfl
 ·exact ifF (by simp;omega) ⟨_,rfl,by congr 1;omega⟩
def CB3 (w:Sl Sound) (i k:Nat) (y:Sl Sound):Sl Sound:=((w.take i).app y).app (w.drop (i+k))
theorem Cd6 {w y:Sl Sound} {i k:Nat} (hi:i+k<=w.n) (hw:∀ j,j < w.n->vS (w.g j)) (hy:∀ j,j < y.n->vS (y.g j)):(CB3 w i k y).n=w.n - k+y.n/\∀ j,j < (CB3 w i k y).n->vS ((CB3 w i k y).g j):=by
 have hn:(CB3 w i k y).n=w.n - k+y.n:=by show i+y.n+(w.n - (i+k))=_;omega
 refine ⟨hn,fun j hj=>?_⟩
 rw [hn] at hj
 show vS (if j < i+y.n then (if j < i then w.g j else y.g (j - i)) else w.g (i+k+(j - (i+y.n))))
 split
 ·split
  ·exact hw _ (by omega)
  ·exact hy _ (by omega)
 ·exact hw _ (by omega)
def AB1 (N:Nat) (l:Law) (w:Sl Sound) (i:Nat):Sl Sound:=(P9 N l (w.sub i (i+l.If.n))).getD Sl.nil
def U6 (N:Nat) (l:Law) (w:Sl Sound) (i:Nat):Sl Sound:=CB3 w i l.If.n (AB1 N l w i)
theorem vOk {w:Sl Sound} (h:wOk w):okW w:=⟨by have:=h.1;omega,fun i hi=>(h.2 i hi).ok⟩
theorem Ay8 {N:Nat} (hN:1000<=N) {l:Law} (ho:CI7 l) {w:Sl Sound} (hw:∀ j,j < w.n->vS (w.g j)) {i:Nat} (hi:i+l.If.n<=w.n) :
 P9 N l (w.sub i (i+l.If.n))=some (AB1 N l w i)/\Ak5 N l (w.sub i (i+l.If.n))=some (AB1 N l w i)/\(AB1 N l w i).n=l.Out.n/\∀ j,j < (AB1 N l w i).n->vS ((AB1 N l w i).g j):=by
 obtain ⟨s,h1,h2,h3,h4⟩:=Cz6 hN ho (cut:=w.sub i (i+l.If.n)) (by show i+l.If.n - i=_;omega) fun j hj=>(hw (i+j) (by have:j < i+l.If.n - i:=hj;omega)).ok
 have e:AB1 N l w i=s:=by unfold AB1;rw [h1];rfl
 rw [e];exact ⟨h1,h2,h3,h4⟩
theorem cat3 (a b c:Sl Sound):Cd4 (Sl.of [a,b,c]:Sl (Sl Sound)) 3=(a.app b).app c:=by
 show (((Sl.nil:Sl Sound).app a).app b).app c=_
 rw [Cd3 (s:=(Sl.nil:Sl Sound)) rfl]
theorem Cd7 {N:Nat} (hN:1000<=N) {a b c:Sl Sound} (ha:a.n<=3000000) (hb:b.n<=3000000) (hc:c.n<=3000000):B1 N (Sl.of [a,b,c]:Sl (Sl Sound))=some ((a.app b).app c):=by
 have h:=BH0 (N:=N) (s:=(Sl.of [a,b,c]:Sl (Sl Sound))) (by show 3 < 1000;omega) hN fun i hi=>by
  match i,hi with
  | 0,_=>exact ha
  | 1,_=>exact hb
  | 2,_=>exact hc
 rw [h]
 exact congrArg some (cat3 a b c)
theorem As7 {N:Nat} (hN:1000<=N) {l:Law} (ho:CI7 l) {w:Sl Sound} (hwn:w.n < 1000) (hw:∀ j,j < w.n->vS (w.g j)) {i:Nat} (hi:i+l.If.n<=w.n) :
 O6 N l w i=some (U6 N l w i)/\V8 N l w i=some (U6 N l w i):=by
 obtain ⟨h1,h2,h3,h4⟩:=Ay8 hN ho hw hi
 have h6:=ho.1
 constructor
 ·unfold O6
  rw [Al0 (by omega),if_pos (by omega),Int.toNat_natCast,Int.toNat_natCast,h1,Option.bind_some,if_pos (by omega),
   Cd7 hN (by show i<=_;omega) (by omega) (by show w.n - (i+l.If.n)<=_;omega)]
  rfl
 ·unfold V8
  rw [Al0 (by omega),Int.toNat_natCast,Int.toNat_natCast,Cd3 (s:=(Sl.of []:Sl Sound)) rfl,if_pos ⟨by omega,by show (0+i) * 8<=_/\0+i<=_;omega⟩,if_pos (by omega),h2,Option.bind_some,
   if_pos (by show (i+(AB1 N l w i).n) * 8<=_/\i+(AB1 N l w i).n<=_;omega),if_pos ⟨by omega,by show (i+(AB1 N l w i).n+(w.n - (i+l.If.n))) * 8<=_/\i+(AB1 N l w i).n+(w.n - (i+l.If.n))<=_;omega⟩]
  rfl
def SE {α : Type} (s t:Sl α):Prop:=s.n=t.n/\∀ i,i < s.n->s.g i=t.g i
theorem SE.refl {α : Type} (s:Sl α):SE s s:=⟨rfl,fun _ _=>rfl⟩
theorem SE.symm {α : Type} {s t:Sl α} (h:SE s t):SE t s:=⟨h.1.symm,fun i hi=>(h.2 i (by rw [h.1];exact hi)).symm⟩
theorem SE.trans {α : Type} {s t u:Sl α} (h:SE s t) (h' : SE t u):SE s u:=⟨h.1.trans h'.1,fun i hi=>(h.2 i hi).trans (h'.2 i (by rw [<- h.1];exact hi))⟩
theorem SE.app {α : Type} {s t u v:Sl α} (h:SE s t) (h' : SE u v):SE (s.app u) (t.app v):=⟨by show s.n+u.n=t.n+v.n;rw [h.1,h'.1],fun i hi=>by
 show (if i < s.n then s.g i else u.g (i - s.n))=if i < t.n then t.g i else v.g (i - t.n)
 have hi:i < s.n+u.n:=hi
 rw [<- h.1]
 split
 ·exact h.2 i (by assumption)
 ·exact h'.2 _ (by omega)⟩
theorem SE.drop {α : Type} {s t:Sl α} (h:SE s t) (k:Nat):SE (s.drop k) (t.drop k):=⟨by show s.n - k=t.n - k;rw [h.1],fun i hi=>by
 have hi:i < s.n - k:=hi
 exact h.2 _ (by omega)⟩
theorem SE.take {α : Type} {s t:Sl α} (h:SE s t) {k:Nat} (hk:k<=s.n):SE (s.take k) (t.take k):=⟨rfl,fun i hi=>h.2 i (by have hi:i < k:=hi;omega)⟩
theorem SE.sub {α : Type} {s t:Sl α} (h:SE s t) {a b:Nat} (hk:b<=s.n):SE (s.sub a b) (t.sub a b):=⟨rfl,fun i hi=>h.2 _ (by have hi:i < b - a:=hi;omega)⟩
theorem SE.v {s t:Sl Sound} (h:SE s t) (hv:∀ j,j < s.n->vS (s.g j)):∀ j,j < t.n->vS (t.g j):=fun j hj=>by rw [<- h.2 j (by rw [h.1];exact hj)];exact hv j (by rw [h.1];exact hj)
theorem SE.wOk {s t:Sl Sound} (h:SE s t) (hv:wOk s):wOk t:=⟨by rw [<- h.1];exact hv.1,h.v hv.2⟩
theorem Bo7 {w w' : Sl Sound} (h:SE w w'):∀ p:Pat,PR w p=PR w' p
 | .nil=>rfl
 | .mk kind is no mn mx m g=>by
  have ih:(fun i=>PR w (g i))=fun i=>PR w' (g i):=funext fun i=>Bo7 h (g i)
  have ih1:∀ i,PR w (g i)=PR w' (g i):=fun i=>congrFun ih i
  have e1:∀ a,(a < w.n ↔ a < w'.n):=fun a=>by rw [h.1]
  funext a b
  unfold PR
  rw [ih]
  simp only [ih1, <- h.1]
  by_cases ha:a < w.n
  ·rw [h.2 a ha]
  ·simp [ha]
theorem AN0 {l:Law} {w w' : Sl Sound} (h:SE w w') {i:Nat}:BM7 l w i ↔ BM7 l w' i:=by
 suffices H:∀ {w w' : Sl Sound},SE w w' -> BM7 l w i->BM7 l w' i by exact ⟨H h,H h.symm⟩
 intro w w' h
 rintro ⟨h1,h2,h3,h4,h5,h6,⟨a,ha,ha2⟩,b,hb,hb2⟩
 have hn:=h.1
 refine ⟨by omega,fun j hj=>?_,h3,h4,h.wOk h5,by omega,⟨a,by omega, ?_⟩,b,by omega, ?_⟩
 ·rw [<- h.2 (i+j) (by omega)];exact h2 j hj
 ·rw [<- Bo7 h];exact ha2
 ·rw [<- Bo7 h];exact hb2
theorem Cd8 {N:Nat} {l:Law} {c c' : Sl Sound} (h:SE c c'):P9 N l c=P9 N l c':=by
 unfold P9
 congr 1
 funext self x1 x2
 by_cases h1:(decide (x2 < (l.Out.n:Int)))=true
 case neg=>rw [if_neg h1,if_neg h1]
 rw [if_pos h1,if_pos h1, <- h.1]
 have e1:∀ y:Int,(0:Int)<=y->y < (c.n:Int)->c.g y.toNat=c'.g y.toNat:=fun y h0 h1=>h.2 _ (by omega)
 by_cases h2:(0:Int)<=x2/\x2 < (l.Out.n:Int)
 case neg=>rw [if_neg h2,if_neg h2]
 rw [if_pos h2,if_pos h2]
 split
 ·rename_i h3
  have e2:(⟨(if (decide (0<=(l.Out.g x2.toNat).From))=true then (c.g (l.Out.g x2.toNat).From.toNat).Plus else 0),(if (decide (0<=(l.Out.g x2.toNat).From))=true then (c.g (l.Out.g x2.toNat).From.toNat).Minus else 0)⟩:Sound) =
   ⟨(if (decide (0<=(l.Out.g x2.toNat).From))=true then (c'.g (l.Out.g x2.toNat).From.toNat).Plus else 0),(if (decide (0<=(l.Out.g x2.toNat).From))=true then (c'.g (l.Out.g x2.toNat).From.toNat).Minus else 0)⟩:=by
   by_cases h4:decide (0<=(l.Out.g x2.toNat).From)=true
   ·have:=h3 h4
    rw [if_pos h4,if_pos h4,if_pos h4,if_pos h4,e1 _ this.1 this.2]
   ·rw [if_neg h4,if_neg h4,if_neg h4,if_neg h4]
  rw [e2]
  congr 1
  funext y5
  split
  ·split
   ·rename_i h5
    rw [e1 _ h5.1 h5.2]
   ·rfl
  ·rfl
 ·rfl
theorem Ba3 {N:Nat} {l:Law} {w w' : Sl Sound} (h:SE w w') {i:Nat} (hi:i+l.If.n<=w.n):AB1 N l w i=AB1 N l w' i:=by
 unfold AB1
 rw [Cd8 (h.sub hi)]
theorem AQ4 {N:Nat} {l:Law} {w w' : Sl Sound} (h:SE w w') {i:Nat} (hi:i+l.If.n<=w.n):SE (U6 N l w i) (U6 N l w' i):=by
 unfold U6 CB3
 rw [Ba3 h hi]
 exact ((h.take (by omega)).app (SE.refl _)).app (h.drop _)
def RL:List (Int × Sl Sound)->List (Int × Sl Sound)->Prop
 | [], []=>True
 | (p,v) :: L,(q,u) :: M=>p=q/\SE v u/\RL L M
 | _,_=>False
def AN1:Sl Int->Sl (Sl Sound)->List (Int × Sl Sound)->Sl Int × Sl (Sl Sound) × Int
 | x,y, []=>(x,y,0)
 | x,y,(p,v) :: L=>if 32 < v.n then (Sl.nil,Sl.nil,11) else AN1 (x.push p) (y.push v) L
abbrev By6:=List (Int × Sl Sound)
def vL (L:By6):Prop:=∀ x ∈ L,∀ j,j < x.2.n->vS (x.2.g j)
theorem By7:vL []:=fun x hx=>absurd hx (by simp)
theorem BH1 {x:Int × Sl Sound} {L:By6} (h:∀ j,j < x.2.n->vS (x.2.g j)) (hL:vL L):vL (x :: L):=fun y hy=>by
 rcases List.mem_cons.1 hy with rfl | hy
 ·exact h
 ·exact hL y hy
def By8 (N:Nat) (l:Law) (self2:Sl Sound->Int->Option By6) (x5:Sl Sound) (x6:Int):Option By6:=
 if (decide ((IntKind.wrap .i64 (x6+(l.If.n:Int)))<=(x5.n:Int)))=true then
  (Ag8 N l x5 x6).bind fun y12=>
  if (!y12)=true then
   self2 x5 (IntKind.wrap .i64 (x6+1))
  else
   (O6 N l x5 x6).bind fun y13=>
   Ab4 (x6,y13) (
    if ((l.If.n:Int) == 0)=true then
     self2 y13 (IntKind.wrap .i64 ((IntKind.wrap .i64 (x6+(l.Out.n:Int)))+1))
    else
     self2 y13 (IntKind.wrap .i64 (x6+(l.Out.n:Int)))
    )
 else
  some []
abbrev Co2:=(Sl Int) × (Sl (Sl Sound)) × Int
def By9 (N:Nat) (l:Law) (self1:Sl Sound->Sl Int->Sl (Sl Sound)->Int->Option Co2) (x1:Sl Sound) (x2:Sl Int) (x3:Sl (Sl Sound)) (x4:Int):Option Co2:=
 if (decide ((IntKind.wrap .i64 (x4+(l.If.n:Int)))<=(x1.n:Int)))=true then
  (Ag5 N l x1 x4).bind fun y5=>
  if (!y5)=true then
   self1 x1 x2 x3 (IntKind.wrap .i64 (x4+1))
  else
   (V8 N l x1 x4).bind fun y6=>
   if (decide (32 < (y6.n:Int)))=true then
    some ((Sl.nil:Sl Int),(Sl.nil:Sl (Sl Sound)),11)
   else
    if (((x2.n+(Sl.of [x4]:Sl Int).n) * 8<=140737488355328/\x2.n+(Sl.of [x4]:Sl Int).n<=140737488355328)/\((x3.n+(Sl.of [y6]:Sl (Sl Sound)).n) * 24<=140737488355328/\x3.n+(Sl.of [y6]:Sl (Sl Sound)).n<=140737488355328)) then
     if ((l.If.n:Int) == 0)=true then
      self1 y6 (x2.push x4) (x3.push y6) (IntKind.wrap .i64 ((IntKind.wrap .i64 (x4+(l.Out.n:Int)))+1))
     else
      self1 y6 (x2.push x4) (x3.push y6) (IntKind.wrap .i64 (x4+(l.Out.n:Int)))
    else none
 else
  some (x2,x3,0)
theorem Cd9 {N:Nat} (hN:3000<=N) {l:Law} (hf:CI8 l):∀ (m:Nat) (w w' : Sl Sound) (i:Nat),SE w w' -> w.n<=100->(∀ j,j < w.n->vS (w.g j))->i<=200->w.n+1<=i+m ->
 ∃ L L',(∀ M,m < M->T0 M (By8 N l) w i=some L)/\vL L/\L.length<=m/\RL L L' /\ ∀ M x2 x3,m < M->x2.n+m<=1000->x3.n+m<=1000->Ck3 M (By9 N l) w' x2 x3 i=some (AN1 x2 x3 L'):=by
 obtain ⟨hl,_,_,hk,ho,hko,_,_⟩:=hf
 have h6:=ho.1
 intro m
 induction m with
 | zero=>
  intro w w' i hse hn hv hi hm
  have hn':=hse.1
  refine ⟨[], [],fun M hM=>?_,By7,Nat.le_refl _,trivial,fun M x2 x3 hM _ _=>?_⟩
  ·obtain ⟨M,rfl⟩:∃ K,M=K+1:=⟨M - 1,by omega⟩
   rw [E3,By8,Al0 (by omega),if_neg (by simp;omega)]
  ·obtain ⟨M,rfl⟩:∃ K,M=K+1:=⟨M - 1,by omega⟩
   rw [Q7,By9,Al0 (by omega),if_neg (by simp;omega),AN1]
 | succ m ih=>
  intro w w' i hse hn hv hi hm
  have hn':=hse.1
  by_cases hle:i+l.If.n<=w.n
  case neg=>
   refine ⟨[], [],fun M hM=>?_,By7,by simp,trivial,fun M x2 x3 hM _ _=>?_⟩
   ·obtain ⟨M,rfl⟩:∃ K,M=K+1:=⟨M - 1,by omega⟩
    rw [E3,By8,Al0 (by omega),if_neg (by simp;omega)]
   ·obtain ⟨M,rfl⟩:∃ K,M=K+1:=⟨M - 1,by omega⟩
    rw [Q7,By9,Al0 (by omega),if_neg (by simp;omega),AN1]
  have hw:okW w:=⟨by omega,fun j hj=>(hv j hj).ok⟩
  have hv':=hse.v hv
  have hw' : okW w':=⟨by omega,fun j hj=>(hv' j hj).ok⟩
  obtain ⟨b,e1,h1⟩:=Cc7 hN hl hk hw i (by omega)
  obtain ⟨b',e2,h2⟩:=Bo5 hN hl hk hw' i (by omega)
  obtain rfl:b' = b:=by rw [Bool.eq_iff_iff,h1,h2,AN0 hse]
  cases b'
  ·obtain ⟨L,L',g1,g2,g3,g5,g4⟩:=ih w w' (i+1) hse hn hv (by omega) (by omega)
   refine ⟨L,L',fun M hM=>?_,g2,by omega,g5,fun M x2 x3 hM hx hy=>?_⟩
   ·obtain ⟨M,rfl⟩:∃ K,M=K+1:=⟨M - 1,by omega⟩
    rw [E3,By8,Al0 (by omega),if_pos (by simp;omega),e1,Option.bind_some,if_pos nf,C0 (by omega)]
    exact g1 M (by omega)
   ·obtain ⟨M,rfl⟩:∃ K,M=K+1:=⟨M - 1,by omega⟩
    rw [Q7,By9,Al0 (by omega),if_pos (by simp;omega),e2,Option.bind_some,if_pos nf,C0 (by omega)]
    exact g4 M x2 x3 (by omega) (by omega) (by omega)
  ·have hit:=h1.1 rfl
   have hw32:=hit.2.2.2.2.1.1
   have r1:=(As7 (N:=N) (by omega) ho (by omega) hv hle).1
   have r2:=(As7 (N:=N) (w:=w') (i:=i) (by omega) ho (by omega) hv' (by omega)).2
   have hrc:=AQ4 (N:=N) hse hle
   have hrn:=hrc.1
   obtain ⟨_,_,p3,p4⟩:=Ay8 (N:=N) (by omega) ho hv hle
   obtain ⟨q1,q2⟩:=Cd6 hle hv p4
   have q1:(U6 N l w i).n=w.n - l.If.n+l.Out.n:=by rw [<- p3];exact q1
   have q2:∀ j,j < (U6 N l w i).n->vS ((U6 N l w i).g j):=q2
   obtain ⟨L,L',g1,g2,g3,g5,g4⟩:=ih (U6 N l w i) (U6 N l w' i) (if l.If.n=0 then i+l.Out.n+1 else i+l.Out.n) hrc (by omega) q2 (by split <;> omega) (by split <;> omega)
   refine ⟨((i:Int),U6 N l w i) :: L,((i:Int),U6 N l w' i) :: L',fun M hM=>?_,BH1 q2 g2,by simp;omega,⟨rfl,hrc,g5⟩,fun M x2 x3 hM hx hy=>?_⟩
   ·obtain ⟨M,rfl⟩:∃ K,M=K+1:=⟨M - 1,by omega⟩
    rw [E3,By8,Al0 (by omega),if_pos (by simp;omega),e1,Option.bind_some,if_neg (by simp),r1,Option.bind_some,Al0 (by omega),C0 (by omega)]
    have g1:=g1 M (by omega)
    by_cases h0:l.If.n=0
    ·rw [if_pos h0] at g1
     rw [if_pos (by simp [h0]),g1];rfl
    ·rw [if_neg h0] at g1
     rw [if_neg (by simp [h0]),g1];rfl
   ·obtain ⟨M,rfl⟩:∃ K,M=K+1:=⟨M - 1,by omega⟩
    rw [Q7,By9,Al0 (by omega),if_pos (by simp;omega),e2,Option.bind_some,if_neg (by simp),r2,Option.bind_some,Al0 (by omega),C0 (by omega),AN1]
    by_cases h32:32 < (U6 N l w' i).n
    ·rw [if_pos (by simp;omega),if_pos h32]
    rw [if_neg (by simp;omega),if_neg h32,if_pos (by show ((x2.n+1) * 8<=_/\x2.n+1<=_)/\(x3.n+1) * 24<=_/\x3.n+1<=_;omega)]
    have g4:=g4 M (x2.push (i:Int)) (x3.push (U6 N l w' i)) (by omega) (by show x2.n+1+m<=_;omega) (by show x3.n+1+m<=_;omega)
    by_cases h0:l.If.n=0
    ·rw [if_pos h0] at g4
     rw [if_pos (by simp [h0]),g4]
    ·rw [if_neg h0] at g4
     rw [if_neg (by simp [h0]),g4]
def Ce0 (N:Nat) (l:Law) (self3:Sl Sound->Int->Option By6) (x7:Sl Sound) (x8:Int):Option By6:=
 if (decide (0<=x8))=true then
  (Ag8 N l x7 x8).bind fun y18=>
  if (!y18)=true then
   self3 x7 (IntKind.wrap .i64 (x8 - 1))
  else
   (O6 N l x7 x8).bind fun y19=>
   Ab4 (x8,y19) (
    self3 y19 (IntKind.wrap .i64 (x8 - (if (l.If.n:Int) < 1 then 1 else (l.If.n:Int))))
    )
 else
  some []
def Ce1 (N:Nat) (l:Law) (self1:Sl Sound->Sl Int->Sl (Sl Sound)->Int->Option Co2) (x1:Sl Sound) (x2:Sl Int) (x3:Sl (Sl Sound)) (x4:Int):Option Co2:=
 if (decide (0<=x4))=true then
  (Ag5 N l x1 x4).bind fun y5=>
  if (!y5)=true then
   self1 x1 x2 x3 (IntKind.wrap .i64 (x4 - 1))
  else
   (V8 N l x1 x4).bind fun y6=>
   if (decide (32 < (y6.n:Int)))=true then
    some ((Sl.nil:Sl Int),(Sl.nil:Sl (Sl Sound)),11)
   else
    if (((x2.n+(Sl.of [x4]:Sl Int).n) * 8<=140737488355328/\x2.n+(Sl.of [x4]:Sl Int).n<=140737488355328)/\((x3.n+(Sl.of [y6]:Sl (Sl Sound)).n) * 24<=140737488355328/\x3.n+(Sl.of [y6]:Sl (Sl Sound)).n<=140737488355328)) then
     if ((l.If.n:Int) == 0)=true then
      self1 y6 (x2.push x4) (x3.push y6) (IntKind.wrap .i64 ((IntKind.wrap .i64 (x4 - (l.If.n:Int))) - 1))
     else
      self1 y6 (x2.push x4) (x3.push y6) (IntKind.wrap .i64 (x4 - (l.If.n:Int)))
    else none
 else
  some (x2,x3,0)
theorem Co3 {N:Nat} (hN:3000<=N) {l:Law} (hf:CI8 l):∀ (m:Nat) (w w' : Sl Sound) (i:Int),SE w w' -> w.n<=100->(∀ j,j < w.n->vS (w.g j)) -> -100<=i->i+1<=m->m<=200 ->
 ∃ L L',(∀ M,m < M->T0 M (Ce0 N l) w i=some L)/\vL L/\L.length<=m/\RL L L' /\ ∀ M x2 x3,m < M->x2.n+m<=1000->x3.n+m<=1000->Ck3 M (Ce1 N l) w' x2 x3 i=some (AN1 x2 x3 L'):=by
 obtain ⟨hl,_,_,hk,ho,hko,_,_⟩:=hf
 have h6:=ho.1
 intro m
 induction m with
 | zero=>
  intro w w' i hse hn hv hi hm hm2
  have hn':=hse.1
  refine ⟨[], [],fun M hM=>?_,By7,Nat.le_refl _,trivial,fun M x2 x3 hM _ _=>?_⟩
  ·obtain ⟨M,rfl⟩:∃ K,M=K+1:=⟨M - 1,by omega⟩
   rw [E3,Ce0,if_neg (by simp;omega)]
  ·obtain ⟨M,rfl⟩:∃ K,M=K+1:=⟨M - 1,by omega⟩
   rw [Q7,Ce1,if_neg (by simp;omega),AN1]
 | succ m ih=>
  intro w w' i hse hn hv hi hm hm2
  have hn':=hse.1
  by_cases hle:0<=i
  case neg=>
   refine ⟨[], [],fun M hM=>?_,By7,by simp,trivial,fun M x2 x3 hM _ _=>?_⟩
   ·obtain ⟨M,rfl⟩:∃ K,M=K+1:=⟨M - 1,by omega⟩
    rw [E3,Ce0,if_neg (by simp;omega)]
   ·obtain ⟨M,rfl⟩:∃ K,M=K+1:=⟨M - 1,by omega⟩
    rw [Q7,Ce1,if_neg (by simp;omega),AN1]
  obtain ⟨k,rfl⟩:∃ k:Nat,i=(k:Int):=⟨i.toNat,by omega⟩
  have hw:okW w:=⟨by omega,fun j hj=>(hv j hj).ok⟩
  have hv':=hse.v hv
  have hw' : okW w':=⟨by omega,fun j hj=>(hv' j hj).ok⟩
  obtain ⟨b,e1,h1⟩:=Cc7 hN hl hk hw k (by omega)
  obtain ⟨b',e2,h2⟩:=Bo5 hN hl hk hw' k (by omega)
  obtain rfl:b' = b:=by rw [Bool.eq_iff_iff,h1,h2,AN0 hse]
  cases b'
  ·obtain ⟨L,L',g1,g2,g3,g5,g4⟩:=ih w w' ((k:Int) - 1) hse hn hv (by omega) (by omega) (by omega)
   refine ⟨L,L',fun M hM=>?_,g2,by omega,g5,fun M x2 x3 hM hx hy=>?_⟩
   ·obtain ⟨M,rfl⟩:∃ K,M=K+1:=⟨M - 1,by omega⟩
    rw [E3,Ce0,if_pos (by simp),e1,Option.bind_some,if_pos nf,F2 (by omega) (by omega)]
    exact g1 M (by omega)
   ·obtain ⟨M,rfl⟩:∃ K,M=K+1:=⟨M - 1,by omega⟩
    rw [Q7,Ce1,if_pos (by simp),e2,Option.bind_some,if_pos nf,F2 (by omega) (by omega)]
    exact g4 M x2 x3 (by omega) (by omega) (by omega)
  ·have hit:=h1.1 rfl
   have hle:=hit.1
   have hw32:=hit.2.2.2.2.1.1
   have r1:=(As7 (N:=N) (by omega) ho (by omega) hv hle).1
   have r2:=(As7 (N:=N) (w:=w') (i:=k) (by omega) ho (by omega) hv' (by omega)).2
   have hrc:=AQ4 (N:=N) hse hle
   have hrn:=hrc.1
   obtain ⟨_,_,p3,p4⟩:=Ay8 (N:=N) (by omega) ho hv hle
   obtain ⟨q1,q2⟩:=Cd6 hle hv p4
   have q1:(U6 N l w k).n=w.n - l.If.n+l.Out.n:=by rw [<- p3];exact q1
   have q2:∀ j,j < (U6 N l w k).n->vS ((U6 N l w k).g j):=q2
   obtain ⟨L,L',g1,g2,g3,g5,g4⟩:=ih (U6 N l w k) (U6 N l w' k) (if l.If.n=0 then (k:Int) - 1 else (k:Int) - l.If.n) hrc (by omega) q2 (by split <;> omega) (by split <;> omega) (by omega)
   refine ⟨((k:Int),U6 N l w k) :: L,((k:Int),U6 N l w' k) :: L',fun M hM=>?_,BH1 q2 g2,by simp;omega,⟨rfl,hrc,g5⟩,fun M x2 x3 hM hx hy=>?_⟩
   ·obtain ⟨M,rfl⟩:∃ K,M=K+1:=⟨M - 1,by omega⟩
    rw [E3,Ce0,if_pos (by simp),e1,Option.bind_some,if_neg (by simp),r1,Option.bind_some]
    have g1:=g1 M (by omega)
    by_cases h0:l.If.n=0
    ·rw [if_pos h0] at g1
     rw [if_pos (by omega),F2 (by omega) (by omega),g1];rfl
    ·rw [if_neg h0] at g1
     rw [if_neg (by omega),F2 (by omega) (by omega),g1];rfl
   ·obtain ⟨M,rfl⟩:∃ K,M=K+1:=⟨M - 1,by omega⟩
    rw [Q7,Ce1,if_pos (by simp),e2,Option.bind_some,if_neg (by simp),r2,Option.bind_some,AN1]
    by_cases h32:32 < (U6 N l w' k).n
    ·rw [if_pos (by simp;omega),if_pos h32]
    rw [if_neg (by simp;omega),if_neg h32,if_pos (by show ((x2.n+1) * 8<=_/\x2.n+1<=_)/\(x3.n+1) * 24<=_/\x3.n+1<=_;omega)]
    have g4:=g4 M (x2.push (k:Int)) (x3.push (U6 N l w' k)) (by omega) (by show x2.n+1+m<=_;omega) (by show x3.n+1+m<=_;omega)
    rw [F2 (n:=(k:Int) - (l.If.n:Int)) (by omega) (by omega)]
    by_cases h0:l.If.n=0
    ·rw [if_pos h0] at g4
     rw [if_pos (by simp [h0]),F2 (by omega) (by omega),show (k:Int) - (l.If.n:Int) - 1=(k:Int) - 1 by omega,g4]
    ·rw [if_neg h0] at g4
     rw [if_neg (by simp [h0]),g4]
end Go.AM
set_option linter.unusedVariables false
namespace Go.AM
open Go.Proofs
abbrev AllS:=Sl Sound × Int × Int
def AS1 (N:Nat) (l:Law) (q0:Sl Sound) (self1:AllS->Option By6) (x1:Int) (z1:AllS):Option By6:=
 if (decide (x1 < z1.2.1))=true then
  self1 (z1.1,z1.2.1,z1.2.2)
 else
  if (((0:Int)<=(IntKind.wrap .i64 (x1+z1.2.2))/\(IntKind.wrap .i64 (x1+z1.2.2))<=(z1.1.n:Int))/\((0:Int)<=x1/\x1<=(IntKind.wrap .i64 (x1+(l.If.n:Int)))/\(IntKind.wrap .i64 (x1+(l.If.n:Int)))<=(q0.n:Int))) then
   (P9 N l (q0.sub x1.toNat (IntKind.wrap .i64 (x1+(l.If.n:Int))).toNat)).bind fun y6=>
   if ((0:Int)<=(IntKind.wrap .i64 (x1+(l.If.n:Int)))/\(IntKind.wrap .i64 (x1+(l.If.n:Int)))<=(q0.n:Int)) then
    (B1 N (Sl.of [(z1.1.take (IntKind.wrap .i64 (x1+z1.2.2)).toNat),y6,(q0.drop (IntKind.wrap .i64 (x1+(l.If.n:Int))).toNat)]:Sl (Sl Sound))).bind fun y7=>
    Ab4 (x1,y7) (
     self1 (y7,IntKind.wrap .i64 (x1+(if (l.If.n:Int) < 1 then 1 else (l.If.n:Int))),IntKind.wrap .i64 ((IntKind.wrap .i64 (z1.2.2+(l.Out.n:Int))) - (l.If.n:Int)))
     )
   else none
  else none
def CB4 (N:Nat) (p_l:Law) (p_w:Sl Sound) (self1:Sl Int->Sl (Sl Sound)->Sl Sound->Int->Option Co2) (x2:Sl Int) (x3:Sl (Sl Sound)) (x4:Sl Sound) (x5:Int):Option Co2:=
 if (decide (x5<=(p_w.n:Int)))=true then
  (Ag5 N p_l p_w x5).bind fun y5=>
  if (!y5)=true then
   lt (fun (z3:Sl Sound)=>
    self1 x2 x3 z3 (IntKind.wrap .i64 (x5+1))
    ) fun k3=>
    if (decide (x5 < (p_w.n:Int)))=true then
     if (((0:Int)<=x5/\x5 < (p_w.n:Int))/\((x4.n+(Sl.of [(p_w.g x5.toNat)]:Sl Sound).n) * 8<=140737488355328/\x4.n+(Sl.of [(p_w.g x5.toNat)]:Sl Sound).n<=140737488355328)) then
      k3 (x4.push (p_w.g x5.toNat))
     else none
    else
     k3 x4
  else
   if ((0:Int)<=x5/\x5<=(IntKind.wrap .i64 (x5+(p_l.If.n:Int)))/\(IntKind.wrap .i64 (x5+(p_l.If.n:Int)))<=(p_w.n:Int)) then
    (Ak5 N p_l (p_w.sub x5.toNat (IntKind.wrap .i64 (x5+(p_l.If.n:Int))).toNat)).bind fun y6=>
    if ((x4.n+y6.n) * 8<=140737488355328/\x4.n+y6.n<=140737488355328) then
     if ((x2.n+(Sl.of [x5]:Sl Int).n) * 8<=140737488355328/\x2.n+(Sl.of [x5]:Sl Int).n<=140737488355328) then
      if (((((Sl.of []:Sl Sound).n+(x4.app y6).n) * 8<=140737488355328/\(Sl.of []:Sl Sound).n+(x4.app y6).n<=140737488355328)/\((0:Int)<=(IntKind.wrap .i64 (x5+(p_l.If.n:Int)))/\(IntKind.wrap .i64 (x5+(p_l.If.n:Int)))<=(p_w.n:Int)))/\((((Sl.of []:Sl Sound).app (x4.app y6)).n+(p_w.drop (IntKind.wrap .i64 (x5+(p_l.If.n:Int))).toNat).n) * 8<=140737488355328/\((Sl.of []:Sl Sound).app (x4.app y6)).n+(p_w.drop (IntKind.wrap .i64 (x5+(p_l.If.n:Int))).toNat).n<=140737488355328)) then
       if (decide (32 < ((((Sl.of []:Sl Sound).app (x4.app y6)).app (p_w.drop (IntKind.wrap .i64 (x5+(p_l.If.n:Int))).toNat)).n:Int)))=true then
        some ((Sl.nil:Sl Int),(Sl.nil:Sl (Sl Sound)),11)
       else
        if ((x3.n+(Sl.of [(((Sl.of []:Sl Sound).app (x4.app y6)).app (p_w.drop (IntKind.wrap .i64 (x5+(p_l.If.n:Int))).toNat))]:Sl (Sl Sound)).n) * 24<=140737488355328/\x3.n+(Sl.of [(((Sl.of []:Sl Sound).app (x4.app y6)).app (p_w.drop (IntKind.wrap .i64 (x5+(p_l.If.n:Int))).toNat))]:Sl (Sl Sound)).n<=140737488355328) then
         if ((p_l.If.n:Int) == 0)=true then
          if (decide ((IntKind.wrap .i64 (x5+(p_l.If.n:Int))) < (p_w.n:Int)))=true then
           if (((0:Int)<=(IntKind.wrap .i64 (x5+(p_l.If.n:Int)))/\(IntKind.wrap .i64 (x5+(p_l.If.n:Int))) < (p_w.n:Int))/\(((x4.app y6).n+(Sl.of [(p_w.g (IntKind.wrap .i64 (x5+(p_l.If.n:Int))).toNat)]:Sl Sound).n) * 8<=140737488355328/\(x4.app y6).n+(Sl.of [(p_w.g (IntKind.wrap .i64 (x5+(p_l.If.n:Int))).toNat)]:Sl Sound).n<=140737488355328)) then
            self1 (x2.push x5) (x3.push (((Sl.of []:Sl Sound).app (x4.app y6)).app (p_w.drop (IntKind.wrap .i64 (x5+(p_l.If.n:Int))).toNat))) ((x4.app y6).push (p_w.g (IntKind.wrap .i64 (x5+(p_l.If.n:Int))).toNat)) (IntKind.wrap .i64 ((IntKind.wrap .i64 (x5+(p_l.If.n:Int)))+1))
           else none
          else
           self1 (x2.push x5) (x3.push (((Sl.of []:Sl Sound).app (x4.app y6)).app (p_w.drop (IntKind.wrap .i64 (x5+(p_l.If.n:Int))).toNat))) (x4.app y6) (IntKind.wrap .i64 ((IntKind.wrap .i64 (x5+(p_l.If.n:Int)))+1))
         else
          self1 (x2.push x5) (x3.push (((Sl.of []:Sl Sound).app (x4.app y6)).app (p_w.drop (IntKind.wrap .i64 (x5+(p_l.If.n:Int))).toNat))) (x4.app y6) (IntKind.wrap .i64 (x5+(p_l.If.n:Int)))
        else none
      else none
     else none
    else none
   else none
 else
  some (x2,x3,0)
abbrev vW (s:Sl Sound):Prop:=∀ j,j < s.n->vS (s.g j)
theorem Cr7 {s t:Sl Sound} (h:vW s) (h' : vW t):vW (s.app t):=fun j hj=>by
 have hj:j < s.n+t.n:=hj
 show vS (if j < s.n then s.g j else t.g (j - s.n))
 split
 ·exact h j (by assumption)
 ·exact h' _ (by omega)
theorem Cz7 {s:Sl Sound} (h:vW s) (k:Nat):vW (s.drop k):=fun j hj=>h _ (by have hj:j < s.n - k:=hj;omega)
theorem Cz8 {s:Sl Sound} (h:vW s) {k:Nat} (hk:k<=s.n):vW (s.take k):=fun j hj=>h _ (by have hj:j < k:=hj;omega)
theorem Bz0 {x s:Sl Sound} {i:Nat} (hi:i < s.n):SE (x.app (s.drop i)) ((x.push (s.g i)).app (s.drop (i+1))):=⟨by show x.n+(s.n - i)=x.n+1+(s.n - (i+1));omega,fun j _=>by
 show (if j < x.n then x.g j else s.g (i+(j - x.n)))=if j < x.n+1 then (if j < x.n then x.g j else s.g i) else s.g (i+1+(j - (x.n+1)))
 by_cases h1:j < x.n
 ·rw [if_pos h1,if_pos (by omega),if_pos h1]
 ·rw [if_neg h1]
  by_cases h2:j=x.n
  ·rw [if_pos (by omega),if_neg h1,h2];simp
  ·rw [if_neg (by omega)];congr 1;omega⟩
theorem Co4 {a x t:Sl Sound} (h:SE a (x.app t)):SE (a.take x.n) x:=⟨rfl,fun j hj=>by
 have hj:j < x.n:=hj
 have hn:a.n=x.n+t.n:=h.1
 have e:a.g j=if j < x.n then x.g j else t.g (j - x.n):=h.2 j (by omega)
 rw [if_pos hj] at e;exact e⟩
theorem BN0 {N:Nat} {l:Law} {w:Sl Sound} {K:AllS->Option By6} {acc:Sl Sound} {next sh:Int}:∀ (d i:Nat),((i+d:Nat):Int)<=next->K4 (An4 l w i) (AS1 N l w) K (acc,next,sh)=K4 (An4 l w (i+d)) (AS1 N l w) K (acc,next,sh)
 | 0,i,_=>rfl
 | d+1,i,h=>by
  have ih:=BN0 (N:=N) (l:=l) (w:=w) (K:=K) (acc:=acc) (next:=next) (sh:=sh) d (i+1) (by omega)
  rw [show i+(d+1)=i+1+d by omega, <- ih]
  by_cases hh:BM7 l w i
  ·rw [AJ7 (by have:=hh.1;omega) hh]
   show AS1 N l w (K4 (An4 l w (i+1)) (AS1 N l w) K) (i:Int) (acc,next,sh)=_
   unfold AS1
   rw [if_pos (by simp;omega)]
  ·rw [AJ8 hh]
theorem Cz9 {N:Nat} (hN:3000<=N) {l:Law} (hf:CI8 l) {w w' : Sl Sound} (hse:SE w w') (hn:w.n<=32) (hv:vW w):∀ (m i:Nat) (x4 acc:Sl Sound) (sh next:Int),i<=w.n+1->w.n+1<=i+m ->
 (i<=w.n->SE acc (x4.app (w'.drop i))/\(x4.n:Int)=i+sh)->next<=i->x4.n<=7 * i->vW acc -> -1000<=sh->sh<=1000 ->
 ∃ L L',K4 (An4 l w i) (AS1 N l w) (fun _=>some []) (acc,next,sh)=some L/\vL L/\L.length<=m/\RL L L' /\ ∀ M x2 x3,m < M->x2.n+m<=1000->x3.n+m<=1000->Ck3 M (CB4 N l w') x2 x3 x4 i=some (AN1 x2 x3 L'):=by
 obtain ⟨hl,_,_,hk,ho,hko,_,_⟩:=hf
 have h6:=ho.1
 have hn':=hse.1
 have hw:okW w:=⟨by omega,fun j hj=>(hv j hj).ok⟩
 have hv' : vW w':=hse.v hv
 have hw' : okW w':=⟨by omega,fun j hj=>(hv' j hj).ok⟩
 have fin:∀ (m i:Nat) (x4 acc:Sl Sound) (sh next:Int),w.n < i->∃ L L',K4 (An4 l w i) (AS1 N l w) (fun _=>some []) (acc,next,sh)=some L/\vL L/\L.length<=m/\RL L L' /\ ∀ M x2 x3,m < M->x2.n+m<=1000->x3.n+m<=1000->Ck3 M (CB4 N l w') x2 x3 x4 i=some (AN1 x2 x3 L'):=by
  intro m i x4 acc sh next hi
  refine ⟨[], [],by rw [AM9 (by omega)];rfl,By7,by simp,trivial,fun M x2 x3 hM _ _=>?_⟩
  obtain ⟨M,rfl⟩:∃ K,M=K+1:=⟨M - 1,by omega⟩
  rw [Q7,CB4,if_neg (by simp;omega),AN1]
 intro m
 induction m with
 | zero=>exact fun i x4 acc sh next h1 h2 _ _ _ _ _ _=>fin 0 i x4 acc sh next (by omega)
 | succ m ih=>
  intro i x4 acc sh next hi hm hx hnx h7 hva hs1 hs2
  by_cases hle:i<=w.n
  case neg=>exact fin _ i x4 acc sh next (by omega)
  obtain ⟨hsx,hnn⟩:=hx hle
  have han:acc.n=x4.n+(w.n - i):=by rw [hsx.1];show x4.n+(w'.n - i)=_;omega
  obtain ⟨b',e2,h2⟩:=Bo5 hN hl hk hw' i (by omega)
  have h2:=h2.trans (AN0 hse).symm
  cases b'
  ·have hno:¬ BM7 l w i:=fun h=>by have:=h2.2 h;cases this
   rw [AJ8 hno]
   by_cases hlt:i < w.n
   ·obtain ⟨L,L',g1,g2,g3,g5,g4⟩:=ih (i+1) (x4.push (w'.g i)) acc sh next (by omega) (by omega) (fun _=>⟨hsx.trans (Bz0 (by omega)),by show ((x4.n+1:Nat):Int)=_;omega⟩) (by omega) (by show x4.n+1<=_;omega) hva hs1 hs2
    refine ⟨L,L',g1,g2,by omega,g5,fun M x2 x3 hM hx hy=>?_⟩
    obtain ⟨M,rfl⟩:∃ K,M=K+1:=⟨M - 1,by omega⟩
    rw [Q7,CB4,if_pos (by simp;omega),e2,Option.bind_some,if_pos nf,lt,if_pos (by simp;omega),if_pos ⟨by omega,by show (x4.n+1) * 8<=_/\x4.n+1<=_;omega⟩,C0 (by omega),Int.toNat_natCast]
    exact g4 M x2 x3 (by omega) (by omega) (by omega)
   ·obtain ⟨L,L',g1,g2,g3,g5,g4⟩:=ih (i+1) x4 acc sh next (by omega) (by omega) (fun h=>by omega) (by omega) (by omega) hva hs1 hs2
    refine ⟨L,L',g1,g2,by omega,g5,fun M x2 x3 hM hx hy=>?_⟩
    obtain ⟨M,rfl⟩:∃ K,M=K+1:=⟨M - 1,by omega⟩
    rw [Q7,CB4,if_pos (by simp;omega),e2,Option.bind_some,if_pos nf,lt,if_neg (by simp;omega),C0 (by omega)]
    exact g4 M x2 x3 (by omega) (by omega) (by omega)
  ·have hit:=h2.1 rfl
   have hik:=hit.1
   rw [AJ7 hle hit]
   obtain ⟨p1,_,p3,p4⟩:=Ay8 (N:=N) (by omega) ho hv hik
   obtain ⟨_,p2,_,_⟩:=Ay8 (N:=N) (i:=i) (by omega) ho hv' (by omega)
   rw [<- Ba3 hse hik] at p2
   generalize hY:AB1 N l w i=Y at p1 p2 p3 p4
   have hYw:SE (((acc.take x4.n).app Y).app (w.drop (i+l.If.n))) ((x4.app Y).app (w'.drop (i+l.If.n))):=((Co4 hsx).app (SE.refl _)).app (hse.drop _)
   have hvY:vW (((acc.take x4.n).app Y).app (w.drop (i+l.If.n))):=Cr7 (Cr7 (Cz8 hva (by omega)) p4) (Cz7 hv _)
   generalize hZ:(((acc.take x4.n).app Y).app (w.drop (i+l.If.n)))=Z at hYw hvY
   have hZn:Z.n=x4.n+Y.n+(w.n - (i+l.If.n)):=by rw [<- hZ]
   obtain ⟨L,L',g1,g2,g3,g5,g4⟩:=ih (if l.If.n=0 then i+1 else i+l.If.n) (if l.If.n=0/\i < w.n then (x4.app Y).push (w'.g i) else x4.app Y) Z (sh+l.Out.n - l.If.n) (if l.If.n=0 then i+1 else i+l.If.n:Nat)
    (by split <;> omega) (by split <;> omega)
    (fun h=>by
     by_cases h0:l.If.n=0
     ·rw [if_pos h0] at h
      rw [if_pos h0,if_pos ⟨h0,by omega⟩]
      rw [h0] at hYw
      exact ⟨hYw.trans (Bz0 (by omega)),by show ((x4.n+Y.n+1:Nat):Int)=_;omega⟩
     ·rw [if_neg h0,if_neg (by omega)]
      exact ⟨hYw,by show ((x4.n+Y.n:Nat):Int)=_;omega⟩)
    (by omega)
    (by
     by_cases h0:l.If.n=0
     ·rw [if_pos h0]
      split
      ·show x4.n+Y.n+1<=_;omega
      ·show x4.n+Y.n<=_;omega
     ·rw [if_neg h0,if_neg (by omega)];show x4.n+Y.n<=_;omega)
    hvY (by omega) (by omega)
   refine ⟨((i:Int),Z) :: L,((i:Int),(x4.app Y).app (w'.drop (i+l.If.n))) :: L', ?_,BH1 hvY g2,by simp;omega,⟨rfl,hYw,g5⟩,fun M x2 x3 hM hx hy=>?_⟩
   ·show AS1 N l w (K4 (An4 l w (i+1)) (AS1 N l w) fun _=>some []) (i:Int) (acc,next,sh)=_
    unfold AS1
    have es:IntKind.wrap .i64 ((i:Int)+sh)=((x4.n:Nat):Int):=by rw [F2 (by omega) (by omega),hnn]
    simp only [es]
    rw [Al0 (by omega),if_neg (by simp;omega),if_pos (by omega)]
    simp only [Int.toNat_natCast]
    rw [p1,Option.bind_some,if_pos (by omega),Cd7 (by omega) (by show x4.n<=_;omega) (by omega) (by show w.n - (i+l.If.n)<=_;omega),Option.bind_some,hZ]
    have en:IntKind.wrap .i64 ((i:Int)+(if (l.If.n:Int) < 1 then 1 else (l.If.n:Int)))=((if l.If.n=0 then i+1 else i+l.If.n:Nat):Int):=by
     by_cases h0:l.If.n=0
     ·rw [if_pos (by omega),if_pos h0,F2 (by omega) (by omega)];omega
     ·rw [if_neg (by omega),if_neg h0,F2 (by omega) (by omega)];omega
    have eh:IntKind.wrap .i64 ((IntKind.wrap .i64 (sh+(l.Out.n:Int))) - (l.If.n:Int))=sh+l.Out.n - l.If.n:=by
     rw [F2 (n:=sh+(l.Out.n:Int)) (by omega) (by omega),F2 (by omega) (by omega)]
    rw [en,eh]
    have sk:=BN0 (N:=N) (l:=l) (w:=w) (K:=fun _=>some []) (acc:=Z) (next:=((if l.If.n=0 then i+1 else i+l.If.n:Nat):Int)) (sh:=sh+l.Out.n - l.If.n) (if l.If.n=0 then 0 else l.If.n - 1) (i+1) (by split <;> omega)
    rw [show i+1+(if l.If.n=0 then 0 else l.If.n - 1)=(if l.If.n=0 then i+1 else i+l.If.n) by split <;> omega] at sk
    show Ab4 _ (K4 (An4 l w (i+1)) (AS1 N l w) (fun _=>some []) (Z,_,_))=_
    rw [sk,g1];rfl
   ·obtain ⟨M,rfl⟩:∃ K,M=K+1:=⟨M - 1,by omega⟩
    have hdn:((x4.app Y).app (w'.drop (i+l.If.n))).n=x4.n+Y.n+(w'.n - (i+l.If.n)):=rfl
    rw [Q7,CB4,if_pos (by simp;omega),e2,Option.bind_some,if_neg (by simp),Al0 (by omega),if_pos (by omega)]
    simp only [Int.toNat_natCast]
    rw [p2,Option.bind_some,if_pos (by omega),if_pos (by show (x2.n+1) * 8<=_/\x2.n+1<=_;omega)]
    rw [if_pos ⟨⟨by show (0+(x4.n+Y.n)) * 8<=_/\0+(x4.n+Y.n)<=_;omega,by omega⟩,by simp only [List.length_nil];omega⟩,AN1]
    by_cases h32:32 < ((x4.app Y).app (w'.drop (i+l.If.n))).n
    ·rw [if_pos (by simp only [decide_eq_true_eq,List.length_nil];omega),if_pos h32]
    rw [if_neg (by simp only [decide_eq_true_eq,List.length_nil];omega),if_neg h32,Cd3 (s:=(Sl.of []:Sl Sound)) rfl,if_pos (by show (x3.n+1) * 24<=_/\x3.n+1<=_;omega)]
    have g4:=g4 M (x2.push (i:Int)) (x3.push ((x4.app Y).app (w'.drop (i+l.If.n)))) (by omega) (by show x2.n+1+m<=_;omega) (by show x3.n+1+m<=_;omega)
    by_cases h0:l.If.n=0
    ·rw [if_pos (by simp [h0])]
     rw [if_pos h0] at g4
     by_cases hlt:i < w.n
     ·rw [if_pos ⟨h0,hlt⟩] at g4
      rw [if_pos (by simp only [decide_eq_true_eq];omega),if_pos ⟨by omega,by show (x4.n+Y.n+1) * 8<=_/\x4.n+Y.n+1<=_;omega⟩,C0 (by omega),show w'.g (i+l.If.n)=w'.g i by rw [h0];rfl,show i+l.If.n+1=i+1 by omega]
      exact g4
     ·rw [if_neg (by omega)] at g4
      rw [if_neg (by simp only [decide_eq_true_eq];omega),C0 (by omega),show i+l.If.n+1=i+1 by omega]
      exact g4
    ·rw [if_neg (by simp [h0])]
     rw [if_neg h0,if_neg (by omega)] at g4
     exact g4
def trS (r r' : Co2):Prop:=r.1=r'.1/\r.2.1.n=r'.2.1.n/\(∀ i,i < r.2.1.n->SE (r.2.1.g i) (r'.2.1.g i))/\r.2.2=r'.2.2
theorem Cr8:∀ (L L' : By6) (x:Sl Int) (y y' : Sl (Sl Sound)),RL L L' -> y.n=y'.n->(∀ i,i < y.n->SE (y.g i) (y'.g i))->trS (AN1 x y L) (AN1 x y' L')
 | [], [],x,y,y',_,h1,h2=>⟨rfl,h1,h2,rfl⟩
 | (p,v) :: L,(q,u) :: M,x,y,y',⟨h3,h4,h5⟩,h1,h2=>by
  subst h3
  unfold AN1
  rw [<- h4.1]
  split
  ·exact ⟨rfl,rfl,fun i hi=>absurd hi (Nat.not_lt_zero i),rfl⟩
  ·refine Cr8 L M _ _ _ h5 (by show y.n+1=y'.n+1;omega) fun i hi=>?_
   have hi:i < y.n+1:=hi
   show SE (if i < y.n then y.g i else v) (if i < y'.n then y'.g i else u)
   rw [<- h1]
   split
   ·exact h2 i (by assumption)
   ·exact h4
 | [],_ :: _,_,_,_,h,_,_=>h.elim
 | _ :: _, [],_,_,_,h,_,_=>h.elim
theorem Ce2:∀ (L:By6) (x:Sl Int) (y:Sl (Sl Sound)),vL L->(∀ i,i < y.n->wOk (y.g i))->(AN1 x y L).2.2=11 \/ ((AN1 x y L).2.2=0/\(AN1 x y L).2.1.n<=y.n+L.length/\∀ i,i < (AN1 x y L).2.1.n->wOk ((AN1 x y L).2.1.g i))
 | [],x,y,_,h=>.inr ⟨rfl,Nat.le_refl _,h⟩
 | (p,v) :: L,x,y,hv,h=>by
  unfold AN1
  split
  ·exact .inl rfl
  ·have:=Ce2 L (x.push p) (y.push v) (fun z hz=>hv z (List.mem_cons_of_mem _ hz)) fun i hi=>by
    show wOk (if i < y.n then y.g i else v)
    split
    ·exact h i (by assumption)
    ·exact ⟨by omega,hv (p,v) (by simp)⟩
   rcases this with h | ⟨h1,h2,h3⟩
   ·exact .inl h
   ·refine .inr ⟨h1, ?_,h3⟩
    have h2:_<=y.n+1+L.length:=h2
    simp only [List.length_cons];omega
theorem Bz1:∀ (L:By6) (x:Sl Int) (y:Sl (Sl Sound)),x.n+L.length<=100000->y.n+L.length<=100000 ->
 K4 L (fun (self1:Sl Int × Sl (Sl Sound)->Option Co2) (x1:Int × (Sl Sound)) (z1:(Sl Int) × (Sl (Sl Sound)))=>
  if (decide (32 < (x1.2.n:Int)))=true then
   some ((Sl.nil:Sl Int),(Sl.nil:Sl (Sl Sound)),11)
  else
   if ((z1.1.n+(Sl.of [x1.1]:Sl Int).n) * 8<=140737488355328/\z1.1.n+(Sl.of [x1.1]:Sl Int).n<=140737488355328) then
    if ((z1.2.n+(Sl.of [x1.2]:Sl (Sl Sound)).n) * 24<=140737488355328/\z1.2.n+(Sl.of [x1.2]:Sl (Sl Sound)).n<=140737488355328) then
     self1 ((z1.1.push x1.1),(z1.2.push x1.2))
    else none
   else none
  ) (fun (z1:(Sl Int) × (Sl (Sl Sound)))=>
   some (z1.1,z1.2,0)
  ) (x,y)=some (AN1 x y L)
 | [],x,y,_,_=>rfl
 | (p,v) :: L,x,y,hx,hy=>by
  simp only [List.length_cons] at hx hy
  have ih:=Bz1 L (x.push p) (y.push v) (by show x.n+1+_<=_;omega) (by show y.n+1+_<=_;omega)
  rw [K4,AN1]
  by_cases h:32 < v.n
  ·rw [if_pos (by simp;omega),if_pos h]
  ·rw [if_neg (by simp;omega),if_neg h,if_pos (by show (x.n+1) * 8<=_/\x.n+1<=_;omega),if_pos (by show (y.n+1) * 24<=_/\y.n+1<=_;omega)]
   exact ih
def trE (N:Nat) (l:Law) (w:Sl Sound) (r:Co2):Prop:=(r.2.2=17/\¬ chkAll N l) \/ (chkAll N l/\BM5 w r.2.2/\r.2.2 ≠ 0) \/ (chkAll N l/\wOk w/\(r.2.2=11 \/ (r.2.2=0/\r.2.1.n<=1000/\∀ i,i < r.2.1.n->wOk (r.2.1.g i))))
theorem Ce3 (e:Int):trS ((Sl.nil:Sl Int),(Sl.nil:Sl (Sl Sound)),e) ((Sl.nil:Sl Int),(Sl.nil:Sl (Sl Sound)),e):=⟨rfl,rfl,fun i hi=>absurd hi (Nat.not_lt_zero i),rfl⟩
theorem Cr9 {w w' : Sl Sound} (h:SE w w') {e:Int} (hw:BM5 w e):BM5 w' e:=by
 rcases hw with ⟨h1,h2⟩ | ⟨h1,⟨i,hi,h2⟩,h3⟩ | ⟨h1,h2⟩
 ·exact .inl ⟨by rw [<- h.1];exact h1,h2⟩
 ·exact .inr (.inl ⟨by rw [<- h.1];exact h1,⟨i,by rw [<- h.1];exact hi,by rw [<- h.2 i hi];exact h2⟩,h3⟩)
 ·exact .inr (.inr ⟨h.wOk h1,h2⟩)
theorem CH3 {w w' : Sl Sound} (h:SE w w') (hw:∀ i,i < w.n->okS (w.g i)):∀ i,i < w'.n->okS (w'.g i):=fun i hi=>by
 rw [<- h.2 i (by rw [h.1];exact hi)];exact hw i (by rw [h.1];exact hi)
theorem Ce4 {N:Nat} (hN:3000000<=N) {l:Law} (hl:Bo6 l) {w w' : Sl Sound} (hse:SE w w') (hw:∀ i,i < w.n->okS (w.g i)) :
 ∃ r r',Ak7 N l w=some r/\AE7 N l w' = some r' /\ trS r r' /\ trE N l w r:=by
 obtain ⟨e,e1,e2,he⟩:=Ba2 hN hl
 unfold Ak7 AE7 As4 AY6
 rw [e1,e2,Option.bind_some,Option.bind_some]
 rcases he with ⟨rfl,hc⟩ | ⟨rfl,hc⟩
 case inr=>
  rw [if_pos (by decide),if_pos (by decide)]
  exact ⟨_,_,rfl,rfl,Ce3 17, .inl ⟨rfl,hc⟩⟩
 rw [if_neg (by decide),if_neg (by decide)]
 obtain ⟨e',e3,he'⟩:=By3 (N:=N) (by omega) hw
 obtain ⟨e'',e4,he''⟩:=Ap9 (N:=N) (by omega) (CH3 hse hw)
 obtain rfl:=AJ6 (Cr9 hse he') he''
 rw [e3,e4]
 simp only [Option.bind_some]
 by_cases h0:e' = 0
 case neg=>
  rw [if_pos (by simpa using h0),if_pos (by simpa using h0)]
  exact ⟨_,_,rfl,rfl,Ce3 e', .inr (.inl ⟨hc,he',h0⟩)⟩
 rw [if_neg (by simp [h0]),if_neg (by simp [h0])]
 have hok:wOk w:=(R5 he').1 h0
 have hf:=hc.f hl
 obtain ⟨hol,_,_,hk,ho,hko,hm1,hm3⟩:=id hf
 have hn:=hok.1
 have hn':=hse.1
 have key:∃ L L',Ae7 N w l (l.If.n:Int) (l.Out.n:Int)=some L/\vL L/\L.length<=100/\RL L L' /\
  (if (l.Mode == 1)=true then (AY7 N l w').bind fun y2=>some (y2.1,y2.2.1,y2.2.2)
   else if (l.Mode == 2)=true then (AE6 N l w').bind fun y3=>some (y3.1,y3.2.1,y3.2.2)
   else (AA1 N l w').bind fun y4=>some (y4.1,y4.2.1,y4.2.2))=some (AN1 (Sl.nil:Sl Int) (Sl.nil:Sl (Sl Sound)) L'):=by
  unfold Ae7
  by_cases c1:l.Mode=1
  ·rw [if_pos (show (l.Mode == 1)=true by simp [c1]),if_pos (show (l.Mode == 1)=true by simp [c1])]
   obtain ⟨L,L',g1,g2,g3,g5,g4⟩:=Cz9 (N:=N) (by omega) hf hse hn hok.2 (w.n+1) 0 (Sl.nil:Sl Sound) w 0 0 (by omega) (by omega) (fun _=>⟨by rw [Cd3 rfl];exact ⟨hse.1,fun i hi=>by rw [hse.2 i hi];show _=w'.g (0+i);rw [Nat.zero_add]⟩,rfl⟩) (by omega) (by show 0<=_;omega) hok.2 (by omega) (by omega)
   have hh:=BM8 (N:=N) (by omega) hol hk (w:=w) (vOk hok) 0 (by omega)
   refine ⟨L,L', ?_,g2,by omega,g5, ?_⟩
   ·show ((U4 N l w ((0:Nat):Int)).bind fun L1=>K4 L1 (AS1 N l w) (fun _=>some []) (w,0,0))=_
    rw [hh,Option.bind_some];exact g1
   ·have:AY7 N l w' = some _:=g4 N (Sl.nil:Sl Int) (Sl.nil:Sl (Sl Sound)) (by omega) (by show 0+_<=_;omega) (by show 0+_<=_;omega)
    rw [this];rfl
  rw [if_neg (show ¬ (l.Mode == 1)=true by simp [c1]),if_neg (show ¬ (l.Mode == 1)=true by simp [c1])]
  by_cases c2:l.Mode=2
  ·rw [if_pos (show (l.Mode == 2)=true by simp [c2]),if_pos (show (l.Mode == 2)=true by simp [c2])]
   obtain ⟨L,L',g1,g2,g3,g5,g4⟩:=Cd9 (N:=N) (by omega) hf (w.n+1) w w' 0 hse (by omega) hok.2 (by omega) (by omega)
   refine ⟨L,L',g1 N (by omega),g2,by omega,g5, ?_⟩
   have:AE6 N l w' = some _:=g4 N (Sl.nil:Sl Int) (Sl.nil:Sl (Sl Sound)) (by omega) (by show 0+_<=_;omega) (by show 0+_<=_;omega)
   rw [this];rfl
  ·have c3:l.Mode=3:=by omega
   rw [if_neg (show ¬ (l.Mode == 2)=true by simp [c2]),if_neg (show ¬ (l.Mode == 2)=true by simp [c2]),if_pos (show (l.Mode == 3)=true by simp [c3])]
   obtain ⟨L,L',g1,g2,g3,g5,g4⟩:=Co3 (N:=N) (by omega) hf (w.n+1) w w' ((w.n:Int) - (l.If.n:Int)) hse (by omega) hok.2 (by omega) (by omega) (by omega)
   refine ⟨L,L', ?_,g2,by omega,g5, ?_⟩
   ·rw [F2 (by omega) (by omega)];exact g1 N (by omega)
   ·have g4:=g4 N (Sl.nil:Sl Int) (Sl.nil:Sl (Sl Sound)) (by omega) (by show 0+_<=_;omega) (by show 0+_<=_;omega)
    have:AA1 N l w' = some (AN1 (Sl.nil:Sl Int) (Sl.nil:Sl (Sl Sound)) L'):=by
     unfold AA1
     rw [<- hn',F2 (by omega) (by omega)];exact g4
    rw [this];rfl
 obtain ⟨L,L',g1,g2,g3,g5,g4⟩:=key
 refine ⟨AN1 (Sl.nil:Sl Int) (Sl.nil:Sl (Sl Sound)) L,_, ?_,g4,Cr8 L L' _ _ _ g5 rfl fun i hi=>absurd hi (Nat.not_lt_zero i), .inr (.inr ⟨hc,hok, ?_⟩)⟩
 ·rw [AJ1,Option.bind_some]
  show ((Ae7 N w l (l.If.n:Int) (l.Out.n:Int)).bind _)=_
  rw [g1,Option.bind_some]
  exact Bz1 L _ _ (by show 0+_<=_;omega) (by show 0+_<=_;omega)
 ·rcases Ce2 L (Sl.nil:Sl Int) (Sl.nil:Sl (Sl Sound)) g2 fun i hi=>absurd hi (Nat.not_lt_zero i) with h | ⟨h1,h2,h3⟩
  ·exact .inl h
  ·exact .inr ⟨h1,by have h2:_<=0+L.length:=h2;omega,h3⟩
end Go.AM
set_option linter.unusedVariables false
namespace Go.AM
open Go.Proofs
def apE (N:Nat) (l:Law) (w:Sl Sound) (r:Sl Sound × Int):Prop:=(r.2=17/\¬ chkAll N l) \/ (chkAll N l/\BM5 w r.2/\r.2 ≠ 0) \/ (chkAll N l/\wOk w/\(r.2=11 \/ (r.2=0/\wOk r.1)))
theorem Ce5 {N:Nat} (hN:3000000<=N) {l:Law} (hl:Bo6 l) {w w' : Sl Sound} (hse:SE w w') (hw:∀ i,i < w.n->okS (w.g i)) :
 ∃ r r',Aa4 N l w=some r/\As3 N l w' = some r' /\ SE r.1 r'.1/\r.2=r'.2/\apE N l w r:=by
 obtain ⟨⟨x,y,e⟩,⟨x',y',e'⟩,h1,h2,⟨_,hn,hs,he⟩,ht⟩:=Ce4 hN hl hse hw
 dsimp only at hn hs he
 subst he
 have hn':=hse.1
 unfold trE at ht
 dsimp only at ht
 unfold Aa4 As3
 rw [h1,h2,Option.bind_some,Option.bind_some]
 dsimp only
 by_cases h0:e=0
 case neg=>
  rw [if_pos (show (e != 0)=true by simpa using h0),if_pos (show (e != 0)=true by simpa using h0)]
  refine ⟨_,_,rfl,rfl,SE.refl _,rfl, ?_⟩
  rcases ht with h | h | ⟨h3,h4,h5⟩
  ·exact .inl h
  ·exact .inr (.inl h)
  ·exact .inr (.inr ⟨h3,h4, .inl (h5.resolve_right fun h=>h0 h.1)⟩)
 rw [if_neg (show ¬ (e != 0)=true by simp [h0]),if_neg (show ¬ (e != 0)=true by simp [h0])]
 rcases ht with h | h | ⟨h3,h4,h5⟩
 ·exact absurd (h.1.symm.trans h0) (by decide)
 ·exact absurd h0 h.2.2
 rcases h5 with h5 | ⟨_,h6,h7⟩
 ·exact absurd (h5.symm.trans h0) (by decide)
 have h32:=h4.1
 by_cases hy:y.n=0
 ·rw [if_neg (show ¬ decide ((0:Int) < (y.n:Int))=true by simp [hy]),if_pos (show ((y'.n:Int) == 0)=true by simp [<- hn,hy]),if_pos (by show (0+w'.n) * 8<=_/\0+w'.n<=_;omega),Cd3 (s:=(Sl.of []:Sl Sound)) rfl]
  unfold B2
  rw [if_pos (by omega)]
  exact ⟨_,_,rfl,rfl,hse,rfl, .inr (.inr ⟨h3,h4, .inr ⟨rfl,h4⟩⟩)⟩
 ·have hk:=h7 (y.n - 1) (by omega)
  have hk2:=hs (y.n - 1) (by omega)
  have hb:=hk.1
  have hb2:=hk2.1
  have e1:IntKind.wrap .i64 ((y.n:Int) - 1)=((y.n - 1:Nat):Int):=Cy4 (by omega) (by omega)
  have e2:IntKind.wrap .i64 ((y'.n:Int) - 1)=((y.n - 1:Nat):Int):=by rw [<- hn];exact e1
  rw [e1,e2,Int.toNat_natCast,if_pos (show decide ((0:Int) < (y.n:Int))=true by simp;omega),if_pos (by omega),if_neg (show ¬ ((y'.n:Int) == 0)=true by simp;omega),if_pos ⟨by omega,by show (0+(y'.g (y.n - 1)).n) * 8<=_/\0+(y'.g (y.n - 1)).n<=_;omega⟩,Cd3 (s:=(Sl.of []:Sl Sound)) rfl]
  exact ⟨_,_,rfl,rfl,hk2,rfl, .inr (.inr ⟨h3,h4, .inr ⟨rfl,hk⟩⟩)⟩
theorem Bz2 {N:Nat} {s:Sl Law} (hN:s.n < N) (hs:s.n < 1000000) {f:Law->Option Bool} {b:Nat->Bool} (hf:∀ i,i < s.n->f (s.g i)=some (b i)) :
 ∃ r,C5 N s f=some r/\(r=true ↔ ∃ i,i < s.n/\b i=true):=by
 unfold C5 E2
 have:∃ y,Aa9 N (fun (self1:Int->Option Int) (x1:Int)=>
  if (decide (x1 < (s.n:Int)))=true then
   if ((0:Int)<=x1/\x1 < (s.n:Int)) then
    (f (s.g x1.toNat)).bind fun y3=>
    if y3=true then
     some x1
    else
     self1 (IntKind.wrap .i64 (x1+1))
   else none
  else
   some (-1)) 0=some y/\(0<=y ↔ ∃ i,i < s.n/\b i=true):=by
  refine Ak9 (fun i x1=>x1=(i:Int)/\∀ j,j < i->b j=false) s.n _ hN ⟨rfl,fun j hj=>absurd hj (by omega)⟩ ?_
  rintro self i x1 hi ⟨rfl,h⟩ hs2
  by_cases hl:i < s.n
  ·refine ifT (by simp;omega) (ifT (by omega) (B0 (by rw [Int.toNat_natCast];exact hf i hl) ?_))
   cases hb:b i
   ·refine ifF (by simp) (hs2 hl _ ⟨C0 (by omega),fun j hj=>?_⟩)
    by_cases e:j=i
    ·subst e;exact hb
    ·exact h j (by omega)
   ·exact ifT rfl ⟨i,rfl,fun _=>⟨i,hl,hb⟩,fun _=>by omega⟩
  ·refine ifF (by simp;omega) ⟨-1,rfl,fun h=>absurd h (by decide), ?_⟩
   rintro ⟨j,hj,hb⟩
   rw [h j (by omega)] at hb;cases hb
 obtain ⟨y,e,hy⟩:=this
 exact B0 e ⟨_,rfl,by rw [decide_eq_true_eq];exact hy⟩
def AS2 (N:Nat) (laws:Sl Law) (e:Int):Prop:=(64 < laws.n/\e=12) \/ (laws.n<=64/\(∃ i,i < laws.n/\¬ chkAll N (laws.g i))/\e=17) \/ ((laws.n<=64/\∀ i,i < laws.n->chkAll N (laws.g i))/\e=0)
theorem Ae8 {N:Nat} {laws:Sl Law} {e e' : Int} (h:AS2 N laws e) (h' : AS2 N laws e'):e=e':=by
 rcases h with ⟨h,rfl⟩ | ⟨h,⟨i,hi,h2⟩,rfl⟩ | ⟨⟨h,h2⟩,rfl⟩ <;> rcases h' with ⟨g,rfl⟩ | ⟨g,⟨j,hj,g2⟩,rfl⟩ | ⟨⟨g,g2⟩,rfl⟩ <;> first | rfl | (exfalso;omega) | exact absurd (g2 i hi) h2 | exact absurd (h2 j hj) g2
theorem Ce6 {N:Nat} {laws laws' : Sl Law} (h:SE laws laws') {e:Int} (hw:AS2 N laws e):AS2 N laws' e:=by
 have hn:=h.1
 rcases hw with ⟨h1,h2⟩ | ⟨h1,⟨i,hi,h2⟩,h3⟩ | ⟨⟨h1,h2⟩,h3⟩
 ·exact .inl ⟨by omega,h2⟩
 ·exact .inr (.inl ⟨by omega,⟨i,by omega,by rw [<- h.2 i hi];exact h2⟩,h3⟩)
 ·exact .inr (.inr ⟨⟨by omega,fun i hi=>by rw [<- h.2 i (by omega)];exact h2 i (by omega)⟩,h3⟩)
def N2 (laws:Sl Law):Prop:=∀ i,i < laws.n->Bo6 (laws.g i)
theorem Co5 {laws laws' : Sl Law} (h:SE laws laws') (hl:N2 laws):N2 laws':=fun i hi=>by
 rw [<- h.2 i (by rw [h.1];exact hi)];exact hl i (by rw [h.1];exact hi)
theorem AA5 {N:Nat} (hN:3000000<=N) {laws:Sl Law} (hl:N2 laws):∃ e,N1 N laws=some e/\Ae5 N laws=some e/\AS2 N laws e:=by
 have h1:∃ e,N1 N laws=some e/\AS2 N laws e:=by
  unfold N1
  by_cases hn:64 < laws.n
  ·exact ifT (by simp;omega) ⟨12,rfl, .inl ⟨hn,rfl⟩⟩
  refine ifF (by simp;omega) ?_
  have hv:∀ i,∃ b,i < laws.n->O4 N (laws.g i)=some b/\(b=true ↔ ¬ chkAll N (laws.g i)):=by
   intro i
   by_cases hi:i < laws.n
   ·obtain ⟨e,e1,_,he⟩:=Ba2 hN (hl i hi)
    refine ⟨e != 0,fun _=>⟨by unfold O4;rw [e1];rfl, ?_⟩⟩
    rcases he with ⟨rfl,h⟩ | ⟨rfl,h⟩
    ·exact ⟨fun h=>absurd h (by decide),fun g=>absurd h g⟩
    ·exact ⟨fun _=>h,fun _=>by decide⟩
   ·exact ⟨false,fun h=>absurd h hi⟩
  obtain ⟨f,hf⟩:=Classical.axiomOfChoice hv
  obtain ⟨r,e1,h1⟩:=Bz2 (N:=N) (s:=laws) (by omega) (by omega) (f:=fun u1=>O4 N u1) (fun i hi=>(hf i hi).1)
  refine B0 e1 ?_
  cases hr:r
  ·refine ifF (by simp) ⟨0,rfl, .inr (.inr ⟨⟨by omega,fun i hi=>Classical.byContradiction fun hn=>?_⟩,rfl⟩)⟩
   have:=h1.2 ⟨i,hi,(hf i hi).2.2 hn⟩
   rw [hr] at this;cases this
  ·obtain ⟨i,hi,hb⟩:=h1.1 hr
   exact ifT rfl ⟨17,rfl, .inr (.inl ⟨by omega,⟨i,hi,(hf i hi).2.1 hb⟩,rfl⟩)⟩
 have h2:∃ e,Ae5 N laws=some e/\AS2 N laws e:=by
  unfold Ae5
  by_cases hn:64 < laws.n
  ·exact ifT (by simp;omega) ⟨12,rfl, .inl ⟨hn,rfl⟩⟩
  refine ifF (by simp;omega) ?_
  refine Ak9 (fun i x1=>x1=(i:Int)/\∀ j,j < i->chkAll N (laws.g j)) laws.n _ (by omega) ⟨rfl,fun j hj=>absurd hj (by omega)⟩ ?_
  rintro self i x1 hi ⟨rfl,h⟩ hs
  by_cases hlt:i < laws.n
  ·obtain ⟨e,_,e1,he⟩:=Ba2 hN (hl i hlt)
   refine ifT (by simp;omega) (ifT (by omega) (B0 (by rw [Int.toNat_natCast];exact e1) ?_))
   rcases he with ⟨rfl,hc⟩ | ⟨rfl,hc⟩
   ·refine ifF (by decide) (hs hlt _ ⟨C0 (by omega),fun j hj=>?_⟩)
    by_cases e:j=i
    ·subst e;exact hc
    ·exact h j (by omega)
   ·exact ifT (by decide) ⟨17,rfl, .inr (.inl ⟨by omega,⟨i,hlt,hc⟩,rfl⟩)⟩
  ·exact ifF (by simp;omega) ⟨0,rfl, .inr (.inr ⟨⟨by omega,fun j hj=>h j (by omega)⟩,rfl⟩)⟩
 obtain ⟨e,e1,g1⟩:=h1
 obtain ⟨e',e2,g2⟩:=h2
 obtain rfl:=Ae8 g1 g2
 exact ⟨_,e1,e2,g1⟩
def Cs0 (l:Sl (Sl Sound)) (e:Int):Prop:=(e=0/\∀ i,i < l.n->wOk (l.g i)) \/ (∃ i,i < l.n/\(∀ j,j < i->wOk (l.g j))/\BM5 (l.g i) e/\e ≠ 0)
theorem Bj0 {N:Nat} (hN:3000000<=N) {l:Sl (Sl Sound)} (hn:l.n < 2000000) (hw:∀ i,i < l.n->∀ j,j < (l.g i).n->okS ((l.g i).g j)) :
 ∃ e,Aa9 N (fun (self1:Int->Option Int) (x1:Int)=>
  if (decide (x1 < (l.n:Int)))=true then
   if ((0:Int)<=x1/\x1 < (l.n:Int)) then
    (T8 N (l.g x1.toNat)).bind fun y4=>
    if (y4 != 0)=true then
     some y4
    else
     self1 (IntKind.wrap .i64 (x1+1))
   else none
  else
   some 0
  ) 0=some e/\Cs0 l e:=by
 refine Ak9 (fun i x1=>x1=(i:Int)/\∀ j,j < i->wOk (l.g j)) l.n _ (by omega) ⟨rfl,fun j hj=>absurd hj (by omega)⟩ ?_
 rintro self i x1 hi ⟨rfl,h⟩ hs
 by_cases hlt:i < l.n
 ·obtain ⟨e,e1,he⟩:=By3 (N:=N) (by omega) (hw i hlt)
  refine ifT (by simp;omega) (ifT (by omega) (B0 (by rw [Int.toNat_natCast];exact e1) ?_))
  by_cases h0:e=0
  ·refine ifF (by simp [h0]) (hs hlt _ ⟨C0 (by omega),fun j hj=>?_⟩)
   by_cases e:j=i
   ·subst e;exact (R5 he).1 h0
   ·exact h j (by omega)
  ·exact ifT (by simpa using h0) ⟨e,rfl, .inr ⟨i,hlt,h,he,h0⟩⟩
 ·exact ifF (by simp;omega) ⟨0,rfl, .inl ⟨rfl,fun j hj=>h j (by omega)⟩⟩
theorem CA0 {w:Sl Sound} {e:Int} (h:Cs0 (Sl.of [w]:Sl (Sl Sound)) e):BM5 w e:=by
 rcases h with ⟨rfl,h⟩ | ⟨i,hi,_,h,_⟩
 ·exact .inr (.inr ⟨h 0 (by show 0 < 1;omega),rfl⟩)
 ·match i,hi with
  | 0,_=>exact h
theorem AF2 {N:Nat} (hN:3000000<=N) {laws:Sl Law} (hl:N2 laws) {w:Sl Sound} (hw:∀ i,i < w.n->okS (w.g i)) :
 ∃ e,R9 N laws (Sl.of [w]:Sl (Sl Sound))=some e/\((AS2 N laws e/\e ≠ 0) \/ (AS2 N laws 0/\BM5 w e)):=by
 unfold R9
 obtain ⟨e,e1,_,h1⟩:=AA5 hN hl
 refine B0 e1 ?_
 by_cases h0:e=0
 case neg=>exact ifT (by simpa using h0) ⟨e,rfl, .inl ⟨h1,h0⟩⟩
 refine ifF (by simp [h0]) (ifF (by show ¬ decide ((256:Int) < ((1:Nat):Int))=true;decide) ?_)
 obtain ⟨e2,e3,h3⟩:=Bj0 (N:=N) hN (l:=(Sl.of [w]:Sl (Sl Sound))) (by show 1 < _;omega) fun i hi=>by
  match i,hi with
  | 0,_=>exact hw
 exact ⟨e2,e3, .inr ⟨h0 ▸ h1,CA0 h3⟩⟩
def Ah2 (N:Nat) (c:Int) (q1:Sl Law) (self1:Sl Sound->Int->Option By6) (x1:Sl Sound) (x2:Int):Option By6:=
 if (decide (x2 < (q1.n:Int)))=true then
  if ((0:Int)<=x2/\x2 < (q1.n:Int)) then
   (Aa4 N (q1.g x2.toNat) x1).bind fun y4=>
   if (y4.2 != 0)=true then
    if y4.2=c then some [] else none
   else
    Ab4 (IntKind.wrap .i64 (x2+1),y4.1) (
     self1 y4.1 (IntKind.wrap .i64 (x2+1))
     )
  else none
 else
  if c=0 then some [] else none
theorem Ak8 {N:Nat} {c:Int} {laws:Sl Law} {self1:Sl Sound->Int->Option By6} {w:Sl Sound} {i:Nat} (hi:i < laws.n) (h64:laws.n<=64) {y:Sl Sound × Int} (h:Aa4 N (laws.g i) w=some y) :
 Ah2 N c laws self1 w (i:Int)=if (y.2 != 0)=true then (if y.2=c then some [] else none) else Ab4 (((i+1:Nat):Int),y.1) (self1 y.1 ((i+1:Nat):Int)):=by
 unfold Ah2
 rw [if_pos (show decide ((i:Int) < (laws.n:Int))=true by simp;omega),if_pos (by omega),Int.toNat_natCast,h,Option.bind_some,C0 (by omega)]
abbrev CH4:=(Sl (Sl Sound)) × Int
def Ay9 (N:Nat) (p_laws:Sl Law) (self1:Sl (Sl Sound)->Int->Option CH4) (x2:Sl (Sl Sound)) (x3:Int):Option CH4:=
 if (decide (x3 < (p_laws.n:Int)))=true then
  if ((((0:Int)<=x3/\x3 < (p_laws.n:Int))/\((0:Int)<=x3/\x3 < (x2.n:Int)))/\x3.toNat < x2.n) then
   (As3 N (p_laws.g x3.toNat) (x2.g x3.toNat)).bind fun y7=>
   if (y7.2 != 0)=true then
    some ((Sl.nil:Sl (Sl Sound)),y7.2)
   else
    if ((x2.n+(Sl.of [y7.1]:Sl (Sl Sound)).n) * 24<=140737488355328/\x2.n+(Sl.of [y7.1]:Sl (Sl Sound)).n<=140737488355328) then
     self1 (x2.push y7.1) (IntKind.wrap .i64 (x3+1))
    else none
  else none
 else
  some (x2,0)
def BH2:Sl Sound->By6->Sl Sound
 | w, []=>w
 | _,(_,v) :: L=>BH2 v L
theorem Bo8:∀ (L:By6) (w:Sl Sound),K4 L (fun (self1:Sl Sound->Option (Sl Sound)) (x1:Int × (Sl Sound)) (z1:Sl Sound)=>self1 x1.2) (fun (z1:Sl Sound)=>some z1) w=some (BH2 w L)
 | [],w=>rfl
 | (p,v) :: L,w=>Bo8 L v
def Ai2 (N:Nat) (laws:Sl Law):Prop:=laws.n<=64/\∀ i,i < laws.n->chkAll N (laws.g i)
theorem Ce7 {N:Nat} (hN:3000000<=N) {laws laws' : Sl Law} (hl:N2 laws) (hls:SE laws laws') (hok:Ai2 N laws):∀ (m i:Nat) (w w' : Sl Sound),SE w w' -> wOk w->i<=laws.n->laws.n<=i+m ->
 (∃ L v',SE (BH2 w L) v' /\ wOk (BH2 w L)/\(∀ M,m < M->T0 M (Ah2 N 0 laws) w i=some L)/\∀ M x2,m < M->x2.n=i+1->x2.g i=w' -> ∃ y,T0 M (Ay9 N laws') x2 i=some (y,0)/\y.n=laws.n+1/\y.g laws.n=v') \/
 ((∃ L,∀ M,m < M->T0 M (Ah2 N 0 laws) w i=none/\T0 M (Ah2 N 11 laws) w i=some L)/\∀ M x2,m < M->x2.n=i+1->x2.g i=w' -> T0 M (Ay9 N laws') x2 i=some ((Sl.nil:Sl (Sl Sound)),11)):=by
 have hn':=hls.1
 have h64:=hok.1
 intro m
 induction m with
 | zero=>
  intro i w w' hse hw hi hm
  refine .inl ⟨[],w',hse,hw,fun M hM=>?_,fun M x2 hM hx hg=>⟨x2, ?_,by omega,by rw [<- hg];congr 1;omega⟩⟩
  ·obtain ⟨M,rfl⟩:∃ K,M=K+1:=⟨M - 1,by omega⟩
   rw [E3,Ah2,if_neg (by simp;omega),if_pos rfl]
  ·obtain ⟨M,rfl⟩:∃ K,M=K+1:=⟨M - 1,by omega⟩
   rw [E3,Ay9,if_neg (by simp;omega)]
 | succ m ih=>
  intro i w w' hse hw hi hm
  by_cases hlt:i < laws.n
  case neg=>
   refine .inl ⟨[],w',hse,hw,fun M hM=>?_,fun M x2 hM hx hg=>⟨x2, ?_,by omega,by rw [<- hg];congr 1;omega⟩⟩
   ·obtain ⟨M,rfl⟩:∃ K,M=K+1:=⟨M - 1,by omega⟩
    rw [E3,Ah2,if_neg (by simp;omega),if_pos rfl]
   ·obtain ⟨M,rfl⟩:∃ K,M=K+1:=⟨M - 1,by omega⟩
    rw [E3,Ay9,if_neg (by simp;omega)]
  obtain ⟨⟨v,e⟩,⟨v',e'⟩,h1,h2,h3,h4,h5⟩:=Ce5 hN (hl i hlt) hse fun j hj=>(hw.2 j hj).ok
  simp only at h3 h4
  subst h4
  rcases h5 with ⟨_,h5⟩ | ⟨_,h5,h6⟩ | ⟨_,_,h5⟩
  ·exact absurd (hok.2 i hlt) h5
  ·exact absurd ((R5 h5).2 hw) h6
  rw [hls.2 i hlt] at h2
  rcases h5 with rfl | ⟨rfl,hv⟩
  ·refine .inr ⟨⟨[],fun M hM=>?_⟩,fun M x2 hM hx hg=>?_⟩
   ·obtain ⟨M,rfl⟩:∃ K,M=K+1:=⟨M - 1,by omega⟩
    rw [E3,E3,Ak8 hlt h64 h1,Ak8 hlt h64 h1]
    exact ⟨rfl,rfl⟩
   ·obtain ⟨M,rfl⟩:∃ K,M=K+1:=⟨M - 1,by omega⟩
    rw [E3,Ay9,if_pos (by simp;omega),if_pos (by omega),Int.toNat_natCast,hg,h2,Option.bind_some,if_pos (by simp)]
  ·rcases ih (i+1) v v' h3 hv (by omega) (by omega) with ⟨L,u,g1,g2,g3,g4⟩ | ⟨⟨L,g1⟩,g2⟩
   ·refine .inl ⟨((i+1:Nat),v) :: L,u,g1,g2,fun M hM=>?_,fun M x2 hM hx hg=>?_⟩
    ·obtain ⟨M,rfl⟩:∃ K,M=K+1:=⟨M - 1,by omega⟩
     rw [E3,Ak8 hlt h64 h1,if_neg (by simp)]
     show Ab4 _ (T0 M (Ah2 N 0 laws) v _)=_
     rw [g3 M (by omega)];rfl
    ·obtain ⟨M,rfl⟩:∃ K,M=K+1:=⟨M - 1,by omega⟩
     rw [E3,Ay9,if_pos (by simp;omega),if_pos (by omega),Int.toNat_natCast,hg,h2,Option.bind_some,if_neg (by simp),if_pos (by show (x2.n+1) * 24<=_/\x2.n+1<=_;omega),C0 (by omega)]
     exact g4 M (x2.push v') (by omega) (by show x2.n+1=_;omega) (by show (if i+1 < x2.n then x2.g (i+1) else v')=v';rw [if_neg (by omega)])
   ·refine .inr ⟨⟨((i+1:Nat),v) :: L,fun M hM=>?_⟩,fun M x2 hM hx hg=>?_⟩
    ·obtain ⟨M,rfl⟩:∃ K,M=K+1:=⟨M - 1,by omega⟩
     obtain ⟨a1,a2⟩:=g1 M (by omega)
     rw [E3,E3,Ak8 hlt h64 h1,Ak8 hlt h64 h1,if_neg (by simp),if_neg (by simp)]
     refine ⟨?_, ?_⟩
     ·show Ab4 _ (T0 M (Ah2 N 0 laws) v _)=_
      rw [a1];rfl
     ·show Ab4 _ (T0 M (Ah2 N 11 laws) v _)=_
      rw [a2];rfl
    ·obtain ⟨M,rfl⟩:∃ K,M=K+1:=⟨M - 1,by omega⟩
     rw [E3,Ay9,if_pos (by simp;omega),if_pos (by omega),Int.toNat_natCast,hg,h2,Option.bind_some,if_neg (by simp),if_pos (by show (x2.n+1) * 24<=_/\x2.n+1<=_;omega),C0 (by omega)]
     exact g2 M (x2.push v') (by omega) (by show x2.n+1=_;omega) (by show (if i+1 < x2.n then x2.g (i+1) else v')=v';rw [if_neg (by omega)])
theorem Co6 {N:Nat} {w:Sl Sound} (hN:w.n < N) (hs:w.n < 10000000):∃ y,Az7 N w=some y/\SE w y:=by
 suffices h:∃ y,Az7 N w=some y/\y=Ad7 w.g w.n by
  obtain ⟨y,h,rfl⟩:=h
  exact ⟨_,h,(AF1 _ _).symm,fun i hi=>(BG9 w.g hi).symm⟩
 unfold Az7
 refine Z1 (fun i x1 x2=>x2=(i:Int)/\x1=Ad7 w.g i) w.n _ hN ⟨rfl,rfl⟩ ?_
 rintro self i x1 x2 hi ⟨rfl,rfl⟩ hs2
 by_cases hl:i < w.n
 ·have:=AF1 w.g i
  refine ifT (by simp;omega) (ifT ⟨by omega,by show ((Ad7 w.g i).n+1) * 8<=_/\(Ad7 w.g i).n+1<=_;omega⟩ (hs2 hl _ _ ⟨C0 (by omega),by rw [Int.toNat_natCast];rfl⟩))
 ·exact ifF (by simp;omega) ⟨_,rfl,by congr 1;omega⟩
def deE (N:Nat) (laws:Sl Law) (w:Sl Sound) (r:Sl Sound × Int):Prop:=(AS2 N laws r.2/\r.2 ≠ 0) \/ (AS2 N laws 0/\BM5 w r.2/\r.2 ≠ 0) \/ (Ai2 N laws/\wOk w/\(r.2=11 \/ (r.2=0/\wOk r.1)))
theorem lawsE_zero {N:Nat} {laws:Sl Law}:AS2 N laws 0 ↔ Ai2 N laws:=by
 constructor
 ·rintro (⟨_,h⟩ | ⟨_,_,h⟩ | ⟨h,_⟩)
  ·cases h
  ·cases h
  ·exact h
 ·exact fun h=>.inr (.inr ⟨h,rfl⟩)
theorem AN2 {N:Nat} (hN:3000000<=N) {laws laws' : Sl Law} (hl:N2 laws) (hls:SE laws laws') {w w' : Sl Sound} (hse:SE w w') (hw:∀ i,i < w.n->okS (w.g i)) :
 ∃ r r',E8 N laws w=some r/\Ax5 N laws' w' = some r' /\ SE r.1 r'.1/\r.2=r'.2/\deE N laws w r:=by
 obtain ⟨e,e1,h1⟩:=AF2 hN hl hw
 obtain ⟨a,_,a1,ha⟩:=AA5 hN (Co5 hls hl)
 unfold E8 Ax5 AY8
 rw [e1,a1,Option.bind_some,Option.bind_some]
 rcases h1 with ⟨h1,h0⟩ | ⟨h1,h2⟩
 ·obtain rfl:=Ae8 (Ce6 hls h1) ha
  have hne:(e != 0)=true:=by simpa using h0
  have hnz:¬ (e == 0)=true:=by simpa using h0
  rw [if_pos hne,lt,if_neg hnz]
  dsimp only
  rw [if_pos hne,Option.bind_some]
  dsimp only
  rw [if_pos hne]
  exact ⟨_,_,rfl,rfl,SE.refl _,rfl, .inl ⟨h1,h0⟩⟩
 obtain rfl:=Ae8 (Ce6 hls h1) ha
 rw [lt,if_pos (show ((0:Int) == 0)=true from rfl)]
 obtain ⟨b,b1,hb⟩:=Ap9 (N:=N) (by omega) (CH3 hse hw)
 obtain rfl:=AJ6 (Cr9 hse h2) hb
 rw [b1,Option.bind_some]
 dsimp only
 by_cases h0:e=0
 case neg=>
  have hne:(e != 0)=true:=by simpa using h0
  rw [if_pos hne,if_pos hne,Option.bind_some]
  dsimp only
  rw [if_pos hne]
  exact ⟨_,_,rfl,rfl,SE.refl _,rfl, .inr (.inl ⟨h1,h2,h0⟩)⟩
 have hnz:¬ (e != 0)=true:=by simp [h0]
 rw [if_neg hnz,if_neg hnz]
 have hok:=lawsE_zero.1 h1
 have hwk:wOk w:=(R5 h2).1 h0
 have h32:=hwk.1
 have hnn:=hse.1
 have h64:=hok.1
 have hn':=hls.1
 obtain ⟨y4,c1,c2⟩:=Co6 (N:=N) (w:=w') (by omega) (by omega)
 have hclone:B2 N w=some w:=by
  unfold B2
  rw [if_pos (by omega)]
 have hout:∀ c,C9 N c laws w=(Ab4 (0,w) (T0 N (Ah2 N c laws) w 0)).bind fun L1=>K4 L1 (fun (self1:Sl Sound->Option (Sl Sound)) (x1:Int × (Sl Sound)) (z1:Sl Sound)=>self1 x1.2) (fun (z1:Sl Sound)=>some z1) (Sl.nil:Sl Sound):=by
  intro c
  unfold C9 Y9 Q9
  rw [Option.bind_some,hclone,Option.bind_some]
  rfl
 have hdoc:∀ (x2:Sl (Sl Sound)),(T0 N (fun self1 (x2:Sl (Sl Sound)) (x3:Int)=>Ay9 N laws' self1 x2 x3) x2 0)=T0 N (Ay9 N laws') x2 ((0:Nat):Int):=fun _=>rfl
 rw [c1,Option.bind_some]
 rcases Ce7 hN hl hls hok laws.n 0 w y4 (hse.trans c2) hwk (by omega) (by omega) with ⟨L,v',g1,g2,g3,g4⟩ | ⟨⟨L,g1⟩,g2⟩
 ·obtain ⟨y,d1,d2,d3⟩:=g4 N (Sl.of [y4]:Sl (Sl Sound)) (by omega) rfl rfl
  have:H8 N laws w=some (BH2 w L,true):=by
   have e0:C9 N 0 laws w=some (BH2 w L):=by
    rw [hout]
    have g3:T0 N (Ah2 N 0 laws) w 0=some L:=g3 N (by omega)
    rw [g3]
    exact Bo8 _ _
   unfold H8
   rw [e0]
  rw [this,Option.bind_some,if_neg (by simp)]
  refine ⟨_,(v',0),rfl, ?_,g1,rfl, .inr (.inr ⟨hok,hwk, .inr ⟨rfl,g2⟩⟩)⟩
  show Option.bind (T0 N (Ay9 N laws') (Sl.of [y4]:Sl (Sl Sound)) ((0:Nat):Int)) _=_
  rw [d1,Option.bind_some,if_neg (by simp)]
  have ew:IntKind.wrap .i64 ((y.n:Int) - 1)=((laws.n:Nat):Int):=by rw [d2,F2 (by omega) (by omega)];omega
  simp only [ew,Int.toNat_natCast]
  rw [if_pos (by omega),d3]
 ·have:H8 N laws w=some ((Sl.nil:Sl Sound),false):=by
   obtain ⟨g3,g4⟩:=g1 N (by omega)
   have g3:T0 N (Ah2 N 0 laws) w 0=none:=g3
   have g4:T0 N (Ah2 N 11 laws) w 0=some L:=g4
   have e0:C9 N 0 laws w=none:=by rw [hout,g3];rfl
   have e11:C9 N 11 laws w=some (BH2 w L):=by rw [hout,g4];exact Bo8 _ _
   unfold H8
   rw [e0,e11];rfl
  rw [this,Option.bind_some,if_pos (by simp)]
  refine ⟨_,((Sl.nil:Sl Sound),11),rfl, ?_,SE.refl _,rfl, .inr (.inr ⟨hok,hwk, .inl rfl⟩)⟩
  show Option.bind (T0 N (Ay9 N laws') (Sl.of [y4]:Sl (Sl Sound)) ((0:Nat):Int)) _=_
  rw [g2 N (Sl.of [y4]:Sl (Sl Sound)) (by omega) rfl rfl,Option.bind_some,if_pos (by decide)]
end Go.AM
set_option linter.unusedVariables false
namespace Go.AM
open Go.Proofs
theorem Ba4 {α : Type} (s:Sl α) (a : α):(s.push a).toList=s.toList ++ [a]:=by
 show (List.range (s.n+1)).map (fun i=>if i < s.n then s.g i else a)=_
 rw [List.range_succ,List.map_append]
 congr 1
 ·exact List.map_congr_left fun i hi=>if_pos (List.mem_range.1 hi)
 ·simp
theorem tl_eq {α : Type} {s t:Sl α}:s.toList=t.toList ↔ SE s t:=by
 constructor
 ·intro h
  have hn:s.n=t.n:=by rw [<- S1 s,h,S1]
  refine ⟨hn,fun i hi=>?_⟩
  have:=congrArg (fun l=>l[i]?) h
  simpa [Sl.toList,hi,hn ▸ hi] using this
 ·rintro ⟨h1,h2⟩
  unfold Sl.toList
  rw [<- h1]
  exact List.map_congr_left fun i hi=>h2 i (List.mem_range.1 hi)
theorem sEq (x y:Sound):((x.Plus == y.Plus) && (x.Minus == y.Minus))=decide (x=y):=by
 cases x;cases y;rw [Bool.eq_iff_iff];simp
theorem Ce8 {N:Nat} {x y:Sl Sound} (hN:x.n < N) (hs:x.n < 10000000) :
 ∃ b,(if ((x.n:Int) != (y.n:Int))=true then
 some false
 else
  Aa9 N (fun (self1:Int->Option Bool) (x1:Int)=>
   if (decide (x1 < (x.n:Int)))=true then
    if (((0:Int)<=x1/\x1 < (x.n:Int))/\((0:Int)<=x1/\x1 < (y.n:Int))) then
     if ((((x.g x1.toNat).Plus == (y.g x1.toNat).Plus) && ((x.g x1.toNat).Minus == (y.g x1.toNat).Minus)) != true)=true then
      some false
     else
      self1 (IntKind.wrap .i64 (x1+1))
    else none
   else
    some true
   ) 0)=some b/\(b=true ↔ SE x y):=by
 by_cases hn:x.n=y.n
 case neg=>exact ifT (by simp;omega) ⟨false,rfl,by simp,fun h=>absurd h.1 hn⟩
 refine ifF (by simp [hn]) ?_
 refine Ak9 (fun i x1=>x1=(i:Int)/\∀ j,j < i->x.g j=y.g j) x.n _ hN ⟨rfl,fun j hj=>absurd hj (by omega)⟩ ?_
 rintro self i x1 hi ⟨rfl,h⟩ hs2
 by_cases hl:i < x.n
 ·refine ifT (by simp;omega) (ifT (by omega) ?_)
  rw [Int.toNat_natCast,sEq]
  by_cases e:x.g i=y.g i
  ·refine ifF (by simp [e]) (hs2 hl _ ⟨C0 (by omega),fun j hj=>?_⟩)
   by_cases e2:j=i
   ·subst e2;exact e
   ·exact h j (by omega)
  ·exact ifT (by simp [e]) ⟨false,rfl,by simp,fun h=>absurd (h.2 i hl) e⟩
 ·exact ifF (by simp;omega) ⟨true,rfl,fun _=>⟨hn,fun j hj=>h j (by omega)⟩,fun _=>rfl⟩
theorem BH3 {N:Nat} {x y:Sl Sound} (hN:x.n < N) (hs:x.n < 10000000):∃ b,T9 N x y=some b/\(b=true ↔ SE x y):=by
 obtain ⟨b,h,hb⟩:=Ce8 (N:=N) (x:=x) (y:=y) hN hs
 exact ⟨b,by unfold T9;rw [show D9 N x y=some b from h];rfl,hb⟩
theorem CA1 {N:Nat} {x y:Sl Sound} (hN:x.n < N) (hs:x.n < 10000000):∃ b,As1 N x y=some b/\(b=true ↔ SE x y):=Ce8 hN hs
abbrev okA (w:Sl Sound):Prop:=∀ i,i < w.n->okS (w.g i)
theorem Ce9 {N:Nat} (hN:3000000<=N) {laws laws' : Sl Law} (hl:N2 laws) (hls:SE laws laws') {v v' w w' : Sl Sound} (hv:SE v v') (hvo:okA v) (hw:SE w w') :
 ∃ b,F5 N laws v w=some b/\H5 N laws' v' w' = some b/\(b=true ↔ ∃ r,E8 N laws v=some r/\r.2=0/\SE r.1 w):=by
 obtain ⟨r,r',h1,h2,h3,h4,h5⟩:=AN2 hN hl hls hv hvo
 unfold F5 H5
 rw [h1,h2,Option.bind_some,Option.bind_some,lt,lt, <- h4]
 by_cases h0:r.2=0
 ·rw [if_pos (by simp [h0]),if_pos (by simp [h0])]
  have hk:wOk r.1:=by
   rcases h5 with ⟨_,h⟩ | ⟨_,_,h⟩ | ⟨_,_,h | ⟨_,h⟩⟩
   ·exact absurd h0 h
   ·exact absurd h0 h
   ·rw [h] at h0;cases h0
   ·exact h
  have h32:=hk.1
  have hn:=h3.1
  obtain ⟨b,e1,hb⟩:=BH3 (N:=N) (x:=r.1) (y:=w) (by omega) (by omega)
  obtain ⟨b',e2,hb'⟩:=CA1 (N:=N) (x:=r'.1) (y:=w') (by omega) (by omega)
  have:b=b':=by
   rw [Bool.eq_iff_iff,hb,hb']
   exact ⟨fun h=>h3.symm.trans (h.trans hw),fun h=>h3.trans (h.trans hw.symm)⟩
  subst this
  rw [e1,e2]
  refine ⟨b,rfl,rfl,hb.trans ⟨fun h=>⟨r,rfl,h0,h⟩, ?_⟩⟩
  rintro ⟨q,hq,_,hq2⟩
  obtain rfl:=Option.some.inj hq
  exact hq2
 ·rw [if_neg (by simp [h0]),if_neg (by simp [h0])]
  refine ⟨false,rfl,rfl,by simp, ?_⟩
  rintro ⟨q,hq,hq1,_⟩
  obtain rfl:=Option.some.inj hq
  exact absurd hq1 h0
def gv (N:Nat) (laws:Sl Law) (v w:Sl Sound):Bool:=(F5 N laws v w).getD false
theorem AQ5 {N:Nat} (hN:3000000<=N) {laws laws' : Sl Law} (hl:N2 laws) (hls:SE laws laws') {v v' w w' : Sl Sound} (hv:SE v v') (hvo:okA v) (hw:SE w w') :
 F5 N laws v w=some (gv N laws v w)/\H5 N laws' v' w' = some (gv N laws v w)/\(gv N laws v w=true ↔ ∃ r,E8 N laws v=some r/\r.2=0/\SE r.1 w):=by
 obtain ⟨b,h1,h2,h3⟩:=Ce9 hN hl hls hv hvo hw
 have e:gv N laws v w=b:=by unfold gv;rw [h1];rfl
 rw [e];exact ⟨h1,h2,h3⟩
def Az0 (P:Nat->Bool) (n i:Nat):List Int:=((List.range' i (n - i)).filter P).map fun (j:Nat)=>(j:Int)
theorem AT0 {P:Nat->Bool} {n i:Nat} (h:n<=i):Az0 P n i=[]:=by
 unfold Az0;rw [show n - i=0 by omega];rfl
theorem BN1 {P:Nat->Bool} {n i:Nat} (h:i < n) (hp:P i=true):Az0 P n i=(i:Int) :: Az0 P n (i+1):=by
 unfold Az0
 rw [show n - i=n - (i+1)+1 by omega,List.range'_succ,List.filter_cons_of_pos hp]
 rfl
theorem Cf0 {P:Nat->Bool} {n i:Nat} (h:i < n) (hp:P i=false):Az0 P n i=Az0 P n (i+1):=by
 unfold Az0
 rw [show n - i=n - (i+1)+1 by omega,List.range'_succ,List.filter_cons_of_neg (by simp [hp])]
theorem BS9 {P Q:Nat->Bool} {n i:Nat} (h:∀ j,i<=j->j < n->P j=Q j):Az0 P n i=Az0 Q n i:=by
 unfold Az0
 congr 1
 exact List.filter_congr fun j hj=>h j (List.mem_range'_1.1 hj).1 (by have:=List.mem_range'_1.1 hj;omega)
theorem Bo9 (P:Nat->Bool) (n i:Nat):(Az0 P n i).length<=n - i:=by
 unfold Az0
 rw [List.length_map]
 have:=List.length_filter_le P (List.range' i (n - i))
 rw [List.length_range'] at this
 exact this
theorem AT1 {P:Nat->Bool} {n i:Nat} {y:Int}:y ∈ Az0 P n i ↔ ∃ j:Nat,y=(j:Int)/\i<=j/\j < n/\P j=true:=by
 unfold Az0
 constructor
 ·intro h
  obtain ⟨j,hj,rfl⟩:=List.mem_map.1 h
  obtain ⟨h1,h2⟩:=List.mem_filter.1 hj
  have:=List.mem_range'_1.1 h1
  exact ⟨j,rfl,by omega,by omega,h2⟩
 ·rintro ⟨j,rfl,h1,h2,h3⟩
  exact List.mem_map.2 ⟨j,List.mem_filter.2 ⟨List.mem_range'_1.2 (by omega),h3⟩,rfl⟩
theorem filI {P:Nat->Bool} {n:Nat} {body:(Int->Option (List Int))->Int->Option (List Int)}
 (hend:∀ self i,n<=i->body self ((i:Nat):Int)=some []) (hyes:∀ self i,i < n->P i=true->body self ((i:Nat):Int)=Ab4 (i:Int) (self ((i+1:Nat):Int))) (hno:∀ self i,i < n->P i=false->body self ((i:Nat):Int)=self ((i+1:Nat):Int)) :
 ∀ (m i N:Nat),n<=i+m->m < N->Aa9 N body (i:Int)=some (Az0 P n i)
 | 0,i,N,h,hN=>by
  obtain ⟨M,rfl⟩:∃ K,N=K+1:=⟨N - 1,by omega⟩
  rw [Q6,hend _ i (by omega),AT0 (by omega)]
 | m+1,i,N,h,hN=>by
  obtain ⟨M,rfl⟩:∃ K,N=K+1:=⟨N - 1,by omega⟩
  rw [Q6]
  by_cases hi:i < n
  ·have ih:=filI hend hyes hno m (i+1) M (by omega) (by omega)
   cases hp:P i
   ·rw [hno _ i hi hp,ih,Cf0 hi hp]
   ·rw [hyes _ i hi hp,ih,BN1 hi hp];rfl
  ·rw [hend _ i (by omega),AT0 (by omega)]
theorem CH5 {R:Type} {P:Nat->Bool} {n:Nat} {body:(Sl Int->Int->Option R)->Sl Int->Int->Option R} {k:Sl Int->Option R}
 (hend:∀ self x i,n<=i->x.n<=3000000->body self x ((i:Nat):Int)=k x) (hyes:∀ self x i,i < n->x.n<=3000000->P i=true->body self x ((i:Nat):Int)=self (x.push (i:Int)) ((i+1:Nat):Int)) (hno:∀ self x i,i < n->x.n<=3000000->P i=false->body self x ((i:Nat):Int)=self x ((i+1:Nat):Int)) :
 ∀ (m i:Nat) (x:Sl Int) (N:Nat),n<=i+m->m < N->x.n+m<=3000000->∃ y,T0 N body x (i:Int)=k y/\y.toList=x.toList ++ Az0 P n i
 | 0,i,x,N,h,hN,hx=>by
  obtain ⟨M,rfl⟩:∃ K,N=K+1:=⟨N - 1,by omega⟩
  exact ⟨x,by rw [E3,hend _ x i (by omega) (by omega)],by rw [AT0 (by omega),List.append_nil]⟩
 | m+1,i,x,N,h,hN,hx=>by
  obtain ⟨M,rfl⟩:∃ K,N=K+1:=⟨N - 1,by omega⟩
  rw [E3]
  by_cases hi:i < n
  ·cases hp:P i
   ·obtain ⟨y,h1,h2⟩:=CH5 hend hyes hno m (i+1) x M (by omega) (by omega) (by omega)
    exact ⟨y,by rw [hno _ x i hi (by omega) hp,h1],by rw [h2,Cf0 hi hp]⟩
   ·obtain ⟨y,h1,h2⟩:=CH5 hend hyes hno m (i+1) (x.push (i:Int)) M (by omega) (by omega) (by show x.n+1+m<=_;omega)
    exact ⟨y,by rw [hyes _ x i hi (by omega) hp,h1],by rw [h2,Ba4,BN1 hi hp];simp⟩
  ·exact ⟨x,by rw [hend _ x i (by omega) (by omega)],by rw [AT0 (by omega),List.append_nil]⟩
theorem Co7 {N:Nat} {l m:Sl Int} (hN:l.n < N) (hs:l.n < 10000000):∃ b,Ab2 N l m=some b/\(b=true ↔ l.toList=m.toList):=by
 rw [tl_eq]
 unfold Ab2
 by_cases hn:l.n=m.n
 case neg=>exact ifT (by simp;omega) ⟨false,rfl,by simp,fun h=>absurd h.1 hn⟩
 refine ifF (by simp [hn]) ?_
 refine Ak9 (fun i x1=>x1=(i:Int)/\∀ j,j < i->l.g j=m.g j) l.n _ hN ⟨rfl,fun j hj=>absurd hj (by omega)⟩ ?_
 rintro self i x1 hi ⟨rfl,h⟩ hs2
 by_cases hl:i < l.n
 ·refine ifT (by simp;omega) (ifT (by omega) ?_)
  rw [Int.toNat_natCast]
  by_cases e:l.g i=m.g i
  ·refine ifF (by simp [e]) (hs2 hl _ ⟨C0 (by omega),fun j hj=>?_⟩)
   by_cases e2:j=i
   ·subst e2;exact e
   ·exact h j (by omega)
  ·exact ifT (by simp [e]) ⟨false,rfl,by simp,fun h=>absurd (h.2 i hl) e⟩
 ·exact ifF (by simp;omega) ⟨true,rfl,fun _=>⟨hn,fun j hj=>h j (by omega)⟩,fun _=>rfl⟩
theorem Cf1 {N:Nat} {l m:Sl Int} (hN:l.n < N) (hs:l.n < 10000000) (h:l.toList=m.toList):Ab2 N l m=some true:=by
 obtain ⟨b,e,hb⟩:=Co7 (m:=m) hN hs
 rw [e,hb.2 h]
theorem Ba5 {N:Nat} {l:Sl Int} (hN:l.n < N) (hs:l.n < 10000000) (k:Int):∃ b,Q0 N l k=some b/\(b=true ↔ k ∈ l.toList):=by
 unfold Q0
 refine Ak9 (fun i x1=>x1=(i:Int)/\∀ j,j < i->l.g j ≠ k) l.n _ hN ⟨rfl,fun j hj=>absurd hj (by omega)⟩ ?_
 rintro self i x1 hi ⟨rfl,h⟩ hs2
 by_cases hl:i < l.n
 ·refine ifT (by simp;omega) (ifT (by omega) ?_)
  rw [Int.toNat_natCast]
  by_cases e:l.g i=k
  ·exact ifT (by simp [e]) ⟨true,rfl,fun _=>e ▸ AM7 hl,fun _=>rfl⟩
  ·refine ifF (by simp [e]) (hs2 hl _ ⟨C0 (by omega),fun j hj=>?_⟩)
   by_cases e2:j=i
   ·subst e2;exact e
   ·exact h j (by omega)
 ·refine ifF (by simp;omega) ⟨false,rfl,by simp,fun hm=>?_⟩
  obtain ⟨j,hj,e⟩:=List.mem_map.1 hm
  exact absurd e (h j (by have:=List.mem_range.1 hj;omega))
theorem AQ6 {N:Nat} (L:List Int) (hL:L.length < 100000):∃ s,J3 N L=some s/\s.toList=L:=by
 have:∀ (L:List Int) (x:Sl Int),x.n+L.length < 100000->∃ s,K4 L (fun (self1:Sl Int->Option (Sl Int)) (x1:Int) (z1:Sl Int)=>
  if ((z1.n+(Sl.of [x1]:Sl Int).n) * 8<=140737488355328/\z1.n+(Sl.of [x1]:Sl Int).n<=140737488355328) then
   self1 (z1.push x1)
  else none
  ) (fun (z1:Sl Int)=>some z1) x=some s/\s.toList=x.toList ++ L:=by
  intro L
  induction L with
  | nil=>exact fun x _=>⟨x,rfl,by simp⟩
  | cons a L ih=>
   intro x hx
   simp only [List.length_cons] at hx
   obtain ⟨s,h1,h2⟩:=ih (x.push a) (by show x.n+1+_ < _;omega)
   refine ⟨s, ?_,by rw [h2,Ba4];simp⟩
   rw [K4,if_pos (by show (x.n+1) * 8<=_/\x.n+1<=_;omega)]
   exact h1
 obtain ⟨s,h1,h2⟩:=this L (Sl.nil:Sl Int) (by show 0+_ < _;omega)
 refine ⟨s, ?_,by rw [h2];rfl⟩
 unfold J3 F9
 rw [h1];rfl
theorem Bz3 {N:Nat} (L:List Int) (hL:L.length < 100000):∃ s,O8 N L=some s/\s.toList=L:=AQ6 (N:=N) L hL
def Q5:List Int->Int × Int × Bool
 | []=>(0,0,false)
 | a :: l=>(a,(a :: l).getLast (by simp),true)
theorem Bz4 {N:Nat} (L:List Int):W3 N L=some ((⟨(Q5 L).1,(Q5 L).2.1⟩:G0),(Q5 L).2.2):=by
 have h:∀ (L:List Int) (a b:Int),K4 L (fun (self1:Int × Int × Bool->Option (G0 × Bool)) (x1:Int) (z1:Int × Int × Bool)=>
  if (!z1.2.2)=true then
   self1 (x1,x1,true)
  else
   self1 (z1.1,x1,z1.2.2)
  ) (fun (z1:Int × Int × Bool)=>
   some ((⟨z1.1,z1.2.1⟩:G0),z1.2.2)
  ) (a,b,true)=some ((⟨a,(b :: L).getLast (by simp)⟩:G0),true):=by
  intro L
  induction L with
  | nil=>exact fun a b=>rfl
  | cons c L ih=>
   intro a b
   rw [K4,if_neg (by simp),ih a c]
   simp
 unfold W3
 cases L with
 | nil=>rfl
 | cons a L=>
  rw [K4,if_pos (by simp),h L a a]
  rfl
theorem AJ9 {N:Nat} (s:Sl Int) (hs:s.n < 1000000):W4 N s=some ((⟨(Q5 s.toList).1,(Q5 s.toList).2.1⟩:S4),(Q5 s.toList).2.2):=by
 unfold W4
 by_cases h0:s.n=0
 ·rw [if_pos (by simp [h0]),show s.toList=[] by unfold Sl.toList;rw [h0];rfl];rfl
 ·rw [if_neg (by simp [h0]),show IntKind.wrap .i64 ((s.n:Int) - 1)=((s.n - 1:Nat):Int) from Cy4 (by omega) (by omega),if_pos (by omega),Int.toNat_natCast]
  have h2:=S1 s
  have hg:∀ i (h:i < s.toList.length),s.toList[i]=s.g i:=fun i h=>by simp [Sl.toList]
  rcases e:s.toList with _ | ⟨a,l⟩
  ·rw [e] at h2;exact absurd h2.symm h0
  ·have e0:s.g 0=a:=by rw [<- hg 0 (by omega)];simp [e]
   have e1:s.g (s.n - 1)=(a :: l).getLast (by simp):=by
    rw [<- hg (s.n - 1) (by omega),List.getLast_eq_getElem]
    simp only [e] at h2 ⊢
    congr 1
    omega
   rw [e0,e1];rfl
end Go.AM
