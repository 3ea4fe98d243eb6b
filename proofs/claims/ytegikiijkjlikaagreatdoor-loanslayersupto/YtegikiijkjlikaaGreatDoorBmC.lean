/- What a law's walk and its plain proof need, part 3: no condition of its own. -/
import Derived.Test.YtegikiijkjlikaaGreatDoorBmB
import Derived.Test.YtegikiijkjlikaaGreatDoorBmA
import Derived.ProofKit
import Derived.WideKeyArgs
import Derived.Deep.Slices
set_option linter.unusedSimpArgs false
set_option linter.unusedVariables false
set_option linter.unusedSectionVars false
set_option linter.unusedVariables false
namespace Go.AM
section
variable {P:Program} {C:Ctx} {st:St} {a:Act} {w:World} {rho:Nat->Value} {𝒢 : Prot P} {n:Nat} {Q:J1}
theorem Sat.poke (h:Sat C st a w rho) {r:Nat} {lo:Loop} (hheap:w.heap[r]? = some (.loop lo)) (o' : Go.Obj) (hown:C.E0 r \/ C.w0.heap.size<=r):Sat C st a (w.putObj r o') rho/\∀ Pi,Keeps w Pi (w.putObj r o') Pi:=by
 have hother:∀ b,b ≠ r->(w.putObj r o').heap[b]? = w.heap[b]?:=fun b hb=>World.putObj_heap_other hb
 have hcell:∀ b off v,w.cell? ⟨b,off,none⟩=some v->b ≠ r:=by
  rintro b off v hc rfl
  simp [World.cell?,hheap] at hc
 have hk:∀ Pi,Keeps w Pi (w.putObj r o') Pi:=fun Pi b o v hp hc=>⟨by rw [<- hc];exact World.cell?_of_block (hother b (hcell b o v hc)),hp⟩
 have hkind:∀ {Pi live rho' v ob b},HoldsO w Pi live rho' v ob->G8 v ob=some b->b ≠ r:=by
  rintro Pi live rho' v ob b hh hb rfl
  cases ob with
  | cells cs=>obtain ⟨b',c,T,rfl,h1,_⟩:=hh;cases hb;rw [hheap] at h1;cases h1
  | vec e k n f vw=>
   rcases hh with ⟨rfl,_⟩ | ⟨b',cap,c,rfl,h1,_⟩
   ·cases hb
   ·cases hb;rw [hheap] at h1;cases h1
  | map es=>obtain ⟨b',ents,clock,rfl,h1,_⟩:=hh;cases hb;rw [hheap] at h1;cases h1
  | arr n f=>obtain ⟨b',c,T,rfl,h1,_⟩:=hh;cases hb;rw [hheap] at h1;cases h1
  | ghost cs=>cases hb
  | yld r b=>cases hb
  | dead=>cases hb
 refine ⟨⟨⟨⟨?_,h.hp.sep,h.hp.out,fun b off hX=>by rw [World.putObj_size];exact h.hp.bound b off hX⟩,h.ext.trans ⟨rfl,rfl⟩,by rw [World.putObj_size];exact h.size, ?_,h.keep.trans (hk _),h.own,h.yld⟩,fun t=>(h.env t).keeps (hk _) fun j hj=>⟨hj,rfl⟩,h.pin,h.marks.1, ?_⟩,hk⟩
 ·intro j o hj
  exact (h.hp.holds j o hj).keeps (hk _) (fun j hj=>⟨hj,rfl⟩) fun b hb=>hother b (hkind (h.hp.holds j o hj) hb)
 ·intro b hb hE
  rw [hother b (fun e=>by subst e;rcases hown with h1 | h1;exact hE h1;omega)]
  exact h.same b hb hE
 ·intro d hd
  obtain ⟨r',h1,h2,h3,h4⟩:=h.marks.2 d hd
  refine ⟨r',h1,h2, ?_,h4⟩
  rw [hother r' ?_]
  ·exact h3
  ·rintro rfl;rw [hheap] at h3;cases h3
def Ctx.plus (C:Ctx) (V:Nat->Nat->Prop):Ctx:={ C with X:=fun b o=>C.X b o \/ V b o }
theorem SatE.add {R R' : D2} (h:SatE C R w rho) {j:Nat} (hj:A5 R j=none) {o:Obj} {v:Value} (hb:∀ u,G8 u o=none) (hR' : ∀ i,A5 R' i=if i=j then some o else A5 R i)
 (hh:Keeps w (Prv C.X (A5 R) rho) w (Prv C.X (A5 R') (fun i=>if i=j then v else rho i))->(∀ i,Lv (A5 R) i->Lv (A5 R') i/\(if i=j then v else rho i)=rho i)->HoldsO w (Prv C.X (A5 R') (fun i=>if i=j then v else rho i)) (Lv (A5 R')) (fun i=>if i=j then v else rho i) v o) (hy:∀ r b,o=.yld r b->C.Y r b/\v=C.yv) :
 SatE C R' w (fun i=>if i=j then v else rho i)/\(∀ b off,Prv C.X (A5 R') (fun i=>if i=j then v else rho i) b off ↔ Prv C.X (A5 R) rho b off) /\
  (∀ i,Lv (A5 R) i->Lv (A5 R') i/\(if i=j then v else rho i)=rho i):=by
 have hlive:∀ i,Lv (A5 R) i->Lv (A5 R') i/\(if i=j then v else rho i)=rho i:=by
  intro i hi
  have e:i ≠ j:=by rintro rfl;simp [Lv,hj] at hi
  simp only [Lv,hR',if_neg e];exact ⟨hi,trivial⟩
 have hold:∀ i oi b,A5 R' i=some oi->G8 (if i=j then v else rho i) oi=some b->i ≠ j/\A5 R i=some oi/\G8 (rho i) oi=some b:=by
  intro i oi b hi hbi
  rw [hR'] at hi
  by_cases e:i=j
  ·rw [if_pos e] at hi;cases hi;rw [hb] at hbi;cases hbi
  ·rw [if_neg e] at hi hbi;exact ⟨e,hi,hbi⟩
 have hnew:∀ i oi,A5 R i=some oi->A5 R' i=some oi/\(if i=j then v else rho i)=rho i:=by
  intro i oi hi
  have e:i ≠ j:=by rintro rfl;rw [hj] at hi;cases hi
  rw [hR',if_neg e,if_neg e];exact ⟨hi,rfl⟩
 have hpi:∀ b off,Prv C.X (A5 R') (fun i=>if i=j then v else rho i) b off ↔ Prv C.X (A5 R) rho b off:=by
  intro b off
  constructor
  ·rintro (hX | ⟨i,oi,hi,hbi,hp⟩)
   ·exact .inl hX
   ·obtain ⟨_,h1,h2⟩:=hold i oi b hi hbi
    exact .inr ⟨i,oi,h1,h2,hp⟩
  ·rintro (hX | ⟨i,oi,hi,hbi,hp⟩)
   ·exact .inl hX
   ·obtain ⟨h1,h2⟩:=hnew i oi hi
    exact .inr ⟨i,oi,h1,by simp only [h2];exact hbi,hp⟩
 have hk:Keeps w (Prv C.X (A5 R) rho) w (Prv C.X (A5 R') (fun i=>if i=j then v else rho i)):=fun b o v hp hc=>⟨hc,fun hp'=>hp ((hpi b o).1 hp')⟩
 refine ⟨⟨⟨?_, ?_, ?_,h.hp.bound⟩,h.ext,h.size,h.same,h.keep.trans hk, ?_, ?_⟩,hpi,hlive⟩
 ·intro i oi hi
  by_cases e:i=j
  ·subst e
   rw [hR',if_pos rfl] at hi;cases hi
   simp only [if_true];exact hh hk hlive
  ·have hi':=hi
   rw [hR',if_neg e] at hi'
   simp only [e,if_false]
   exact (h.hp.holds i oi hi').keeps hk hlive fun b _=>rfl
 ·intro i i' oi oj b hi hi' hbi hbi'
  obtain ⟨_,h1,h2⟩:=hold i oi b hi hbi
  obtain ⟨_,h3,h4⟩:=hold i' oj b hi' hbi'
  exact h.hp.sep i i' oi oj b h1 h3 h2 h4
 ·intro i oi b off hi hbi
  obtain ⟨_,h1,h2⟩:=hold i oi b hi hbi
  exact h.hp.out i oi b off h1 h2
 ·rintro b ⟨i,oi,hi,hbi⟩
  obtain ⟨_,h1,h2⟩:=hold i oi b hi hbi
  exact h.own b ⟨i,oi,h1,h2⟩
 ·intro i r b hi
  by_cases e:i=j
  ·subst e
   rw [hR',if_pos rfl] at hi;cases hi
   simp only [if_true];exact hy r b rfl
  ·rw [hR',if_neg e] at hi
   simp only [e,if_false]
   exact h.yld i r b hi
theorem Sat.suspend (h:Sat C st a w rho) {ids:List Nat} (hd:F7 ids=true) {E:Env} (hE:∀ t,get E t=get st.env t \/ get E t=.top) {V:Nat->Nat->Prop} (hV:∀ b off,V b off ↔ ∃ j o,j ∈ ids/\A5 st.regs j=some o/\G8 (rho j) o=some b/\AK2 o off) (hlv:∀ j ∈ ids,Lv (A5 st.regs) j) :
 Sat (C.plus V) ⟨E,N5 ids (ids.map fun _=>false) st.regs⟩ a w rho/\∀ b off,Prv (C.plus V).X (A5 (N5 ids (ids.map fun _=>false) st.regs)) rho b off ↔ Prv C.X (A5 st.regs) rho b off:=by
 have hdup:=Ae8 hd
 have hD:∀ j,A5 (N5 ids (ids.map fun _=>false) st.regs) j=if j ∈ ids then some .dead else A5 st.regs j:=by
  intro j
  rw [Ap8 j ids _ _ hdup]
  by_cases hm:j ∈ ids
  ·obtain ⟨p,hp⟩:=Bo1 hm
   have:(ids.map fun _=>false)[p]? = some false:=by
    rw [List.getElem?_map,L0 hp];rfl
   simp only [hp,this];simp [hm]
  ·have:idx ids j=none:=by
    cases hx:idx ids j with
    | none=>rfl
    | some p=>exact absurd (List.mem_of_getElem? (L0 hx)) hm
   simp [this,hm]
 have hold:∀ i oi b,A5 (N5 ids (ids.map fun _=>false) st.regs) i=some oi->G8 (rho i) oi=some b->i ∉ ids/\A5 st.regs i=some oi:=by
  intro i oi b hi hb
  rw [hD] at hi
  by_cases hm:i ∈ ids
  ·rw [if_pos hm] at hi;cases hi;simp [G8] at hb
  ·rw [if_neg hm] at hi;exact ⟨hm,hi⟩
 have hpi:∀ b off,Prv (C.plus V).X (A5 (N5 ids (ids.map fun _=>false) st.regs)) rho b off ↔ Prv C.X (A5 st.regs) rho b off:=by
  intro b off
  constructor
  ·rintro ((hX | hX) | ⟨i,oi,hi,hb,hp⟩)
   ·exact .inl hX
   ·obtain ⟨j,o,_,h1,h2,h3⟩:=(hV b off).1 hX;exact .inr ⟨j,o,h1,h2,h3⟩
   ·obtain ⟨_,h1⟩:=hold i oi b hi hb;exact .inr ⟨i,oi,h1,hb,hp⟩
  ·rintro (hX | ⟨i,oi,hi,hb,hp⟩)
   ·exact .inl (.inl hX)
   ·by_cases hm:i ∈ ids
    ·exact .inl (.inr ((hV b off).2 ⟨i,oi,hm,hi,hb,hp⟩))
    ·exact .inr ⟨i,oi,by rw [hD,if_neg hm];exact hi,hb,hp⟩
 have hk:Keeps w (Prv C.X (A5 st.regs) rho) w (Prv (C.plus V).X (A5 (N5 ids (ids.map fun _=>false) st.regs)) rho):=fun b o v hp hc=>⟨hc,fun hp'=>hp ((hpi b o).1 hp')⟩
 have hlive:∀ i,Lv (A5 st.regs) i->Lv (A5 (N5 ids (ids.map fun _=>false) st.regs)) i/\rho i=rho i:=by
  intro i hi
  refine ⟨?_,rfl⟩
  simp only [Lv,hD]
  split
  ·rfl
  ·exact hi
 refine ⟨⟨⟨⟨?_, ?_, ?_, ?_⟩,h.ext,h.size,h.same,h.keep.trans hk, ?_, ?_⟩, ?_, ?_,h.marks.1, ?_⟩,hpi⟩
 ·intro i oi hi
  rw [hD] at hi
  by_cases hm:i ∈ ids
  ·rw [if_pos hm] at hi;cases hi;trivial
  ·rw [if_neg hm] at hi
   exact (h.hp.holds i oi hi).keeps hk hlive fun b _=>rfl
 ·intro i i' oi oj b hi hi' hb hb'
  exact h.hp.sep i i' oi oj b (hold i oi b hi hb).2 (hold i' oj b hi' hb').2 hb hb'
 ·rintro i oi b off hi hb (hX | hX)
  ·exact h.hp.out i oi b off (hold i oi b hi hb).2 hb hX
  ·obtain ⟨j,o,hm,h1,h2,_⟩:=(hV b off).1 hX
   have:=h.hp.sep i j oi o b (hold i oi b hi hb).2 h1 hb h2
   subst this
   exact (hold i oi b hi hb).1 hm
 ·rintro b off (hX | hX)
  ·exact h.hp.bound b off hX
  ·obtain ⟨j,o,hm,h1,h2,_⟩:=(hV b off).1 hX
   exact (h.hp.holds j o h1).lt h2
 ·rintro b ⟨i,oi,hi,hb⟩
  exact h.own b ⟨i,oi,(hold i oi b hi hb).2,hb⟩
 ·intro i r b hi
  rw [hD] at hi
  by_cases hm:i ∈ ids
  ·rw [if_pos hm] at hi;cases hi
  ·rw [if_neg hm] at hi;exact h.yld i r b hi
 ·intro t
  rcases hE t with he | he
  ·show RepA w _ _ rho _ (get E t)
   rw [he];exact (h.env t).keeps hk hlive
  ·show RepA w _ _ rho _ (get E t)
   rw [he];exact .top _
 ·intro i hi hl
  refine h.pin i hi ?_
  simp only [Lv,hD] at hl
  by_cases hm:i ∈ ids
  ·exact hlv i hm
  ·rw [if_neg hm] at hl;exact hl
 ·intro d hd'
  obtain ⟨r,h1,h2,h3,h4⟩:=h.marks.2 d hd'
  refine ⟨r,h1,h2,h3, ?_⟩
  rintro off (hX | hX)
  ·exact h4 off hX
  ·obtain ⟨j,o,_,h5,h6,_⟩:=(hV r off).1 hX
   exact (h.hp.holds j o h5).kind h6 h3
theorem Sat.moves {C C' : Ctx} {V:Nat->Nat->Prop} {V' : Nat->Nat->Prop} {w' : World} {O' : Nat->Prop} (h:Sat (C.plus V) st a w rho) (hw:C'.w0=w) (hX:C'.X=fun b o=>C.X b o \/ PvR st.regs rho b o) (hPi:C'.Pi0=fun b o=>C'.X b o \/ V b o)
 (hR:Rel C' w' O' V') (hdis:∀ b,C'.E0 b->¬ BG9 st.regs rho a.defers b) (hOC:∀ b,C'.E0 b->C.E0 b \/ C.w0.heap.size<=b) :
 Sat (C.plus V') st a w' rho/\Keeps w (Prv (C.plus V).X (A5 st.regs) rho) w' (Prv (C.plus V').X (A5 st.regs) rho)/\∀ b,b < w.heap.size->¬ C'.E0 b->w'.heap[b]? = w.heap[b]?:=by
 subst hw
 have hsame:=hR.same
 have e1:∀ b o,Prv (C.plus V).X (A5 st.regs) rho b o ↔ C'.Pi0 b o:=by
  intro b o
  rw [hPi,hX]
  show ((C.X b o \/ V b o) \/ PvR st.regs rho b o) ↔ ((C.X b o \/ PvR st.regs rho b o) \/ V b o)
  constructor
  ·rintro ((h | h) | h)
   ·exact .inl (.inl h)
   ·exact .inr h
   ·exact .inl (.inr h)
  ·rintro ((h | h) | h)
   ·exact .inl (.inl h)
   ·exact .inr h
   ·exact .inl (.inr h)
 have e2:∀ b o,Prv (C.plus V').X (A5 st.regs) rho b o->(C'.X b o \/ V' b o):=by
  intro b o
  rw [hX]
  rintro ((h | h) | h)
  ·exact .inl (.inl h)
  ·exact .inr h
  ·exact .inl (.inr h)
 have hk:Keeps C'.w0 (Prv (C.plus V).X (A5 st.regs) rho) w' (Prv (C.plus V').X (A5 st.regs) rho):=fun b o v hp hc=>
  let ⟨h1,h2⟩:=hR.keep b o v (fun hp'=>hp ((e1 b o).2 hp')) hc
  ⟨h1,fun hp'=>h2 (e2 b o hp')⟩
 have hlt:∀ b,BG9 st.regs rho a.defers b->b < C'.w0.heap.size:=h.rel.lt
 have hblk:∀ b,BG9 st.regs rho a.defers b->w'.heap[b]? = C'.w0.heap[b]?:=fun b hb=>hsame b (hlt b hb) (fun hE=>hdis b hE hb)
 have hnV:∀ b off,BG9 st.regs rho a.defers b->¬ V' b off:=by
  intro b off hb hv
  rcases hR.own b (hR.vo b off hv) with h1 | h1
  ·exact hdis b h1 hb
  ·have:=hlt b hb;omega
 refine ⟨⟨⟨⟨?_,h.hp.sep, ?_, ?_⟩,h.ext.trans hR.ext,Nat.le_trans h.size hR.size, ?_,h.keep.trans hk,h.own,h.yld⟩,fun t=>(h.env t).keeps hk fun j hj=>⟨hj,rfl⟩,h.pin,h.marks.1, ?_⟩,hk,hsame⟩
 ·intro j o hj
  exact (h.hp.holds j o hj).keeps hk (fun j hj=>⟨hj,rfl⟩) fun b hb=>hblk b (.inl ⟨j,o,hj,hb⟩)
 ·rintro j o b off hj hb (hx | hx)
  ·exact h.hp.out j o b off hj hb (.inl hx)
  ·exact hnV b off (.inl ⟨j,o,hj,hb⟩) hx
 ·rintro b off (hx | hx)
  ·exact Nat.lt_of_lt_of_le (h.hp.bound b off (.inl hx)) hR.size
  ·exact hR.lt b (hR.vo b off hx)
 ·intro b hb hE
  have hb0:b < C'.w0.heap.size:=Nat.lt_of_lt_of_le hb h.size
  have hn:¬ C'.E0 b:=by
   intro he
   rcases hOC b he with h1 | h1
   ·exact hE h1
   ·have:b < C.w0.heap.size:=hb;omega
  rw [hsame b hb0 hn]
  exact h.same b hb hE
 ·intro d hd
  obtain ⟨r,h1,h2,h3,h4⟩:=h.marks.2 d hd
  have hm:BG9 st.regs rho a.defers r:=.inr (by unfold BI3;rw [<- h1];exact hd)
  refine ⟨r,h1,h2,(hblk r hm).trans h3, ?_⟩
  rintro off (hx | hx)
  ·exact h4 off (.inl hx)
  ·exact hnV r off hm hx
theorem Sat.minus {V:Nat->Nat->Prop} (h:Sat (C.plus V) st a w rho):Sat C st a w rho/\∀ b off,Prv C.X (A5 st.regs) rho b off->Prv (C.plus V).X (A5 st.regs) rho b off:=by
 have hpi:∀ b off,Prv C.X (A5 st.regs) rho b off->Prv (C.plus V).X (A5 st.regs) rho b off:=by
  rintro b off (hX | hX)
  ·exact .inl (.inl hX)
  ·exact .inr hX
 have hk:Keeps w (Prv (C.plus V).X (A5 st.regs) rho) w (Prv C.X (A5 st.regs) rho):=fun b o v hp hc=>⟨hc,fun hp'=>hp (hpi b o hp')⟩
 refine ⟨⟨⟨⟨?_,h.hp.sep,fun j o b off hj hb hX=>h.hp.out j o b off hj hb (.inl hX),fun b off hX=>h.hp.bound b off (.inl hX)⟩,h.ext,h.size,h.same,h.keep.trans hk,h.own,h.yld⟩,fun t=>(h.env t).keeps hk fun j hj=>⟨hj,rfl⟩,h.pin,h.marks.1, ?_⟩,hpi⟩
 ·intro j o hj
  exact (h.hp.holds j o hj).keeps hk (fun j hj=>⟨hj,rfl⟩) fun b hb=>rfl
 ·intro d hd
  obtain ⟨r,h1,h2,h3,h4⟩:=h.marks.2 d hd
  exact ⟨r,h1,h2,h3,fun off hX=>h4 off (.inl hX)⟩
end
end Go.AM
set_option linter.unusedVariables false
namespace Go.AM
section
variable {P:Program} {n:Nat} {Q:J1}
structure LiftG (𝒢 : Prot P) (r1 r0:Nat->Value) (wS:World) (TS:Nat->Nat->Prop) (OS:Nat->Prop) (VS:Nat->Nat->Prop) (C C2:Ctx) (V0:Nat->Nat->Prop):Prop where
 g : 𝒢.G C2
 r2:C2.rho0=r1
 X:C.X=fun b o=>C2.X b o \/ VS b o
 Y:C.Y=C2.Y
 yv:C.yv=C2.yv
 rho:C.rho0=r0
 pi:C.Pi0=fun b o=>C.X b o \/ V0 b o
 rel:Rel C2 C.w0 (fun b=>OS b \/ C.E0 b) (fun b o=>VS b o \/ V0 b o)
 os:∀ b,OS b->C.w0.heap[b]? = wS.heap[b]?
 keep:Keeps wS TS C.w0 C.Pi0
 dis:∀ b,OS b->¬ C.E0 b
 size:wS.heap.size<=C.w0.heap.size
 ext:Ext wS C.w0
theorem or4 {a b c:Prop}:(a \/ b) \/ c ↔ a \/ (b \/ c):=or_assoc
theorem Keeps.of_imp {w:World} {p q:Nat->Nat->Prop} (h:∀ b o,q b o->p b o):Keeps w p w q:=fun b o v hp hc=>⟨hc,fun hq=>hp (h b o hq)⟩
theorem LiftG.joint {𝒢 : Prot P} {r1 r0:Nat->Value} {wS:World} {TS:Nat->Nat->Prop} {OS:Nat->Prop} {VS:Nat->Nat->Prop} (hVO:∀ b o,VS b o->OS b) {C C2:Ctx} {V0:Nat->Nat->Prop} (h:LiftG 𝒢 r1 r0 wS TS OS VS C C2 V0)
 {w:World} {O:Nat->Prop} {V:Nat->Nat->Prop} (hR:Rel C w O V) :
 Rel C2 w (fun b=>OS b \/ O b) (fun b o=>VS b o \/ V b o)/\(∀ b,OS b->w.heap[b]? = wS.heap[b]?)/\Keeps wS TS w (fun b o=>C.X b o \/ V b o)/\(∀ b,OS b->¬ O b)/\wS.heap.size<=w.heap.size/\Ext wS w:=by
 have hj:=h.rel
 have hOS:∀ b,OS b->w.heap[b]? = C.w0.heap[b]?:=fun b hb=>hR.same b (hj.lt b (.inl hb)) (h.dis b hb)
 refine ⟨⟨hj.ext.trans hR.ext,Nat.le_trans hj.size hR.size, ?_, ?_, ?_, ?_, ?_,fun b off hX=>Nat.lt_of_lt_of_le (hj.bnd b off hX) hR.size, ?_⟩,fun b hb=>(hOS b hb).trans (h.os b hb),h.keep.trans hR.keep, ?_,Nat.le_trans h.size hR.size,h.ext.trans hR.ext⟩
 ·intro b hb hE
  rw [hR.same b (Nat.lt_of_lt_of_le hb hj.size) fun he=>by
   rcases hj.own b (.inr he) with h1 | h1
   ·exact hE h1
   ·omega]
  exact hj.same b hb hE
 ·refine hj.keep.trans ((Keeps.of_imp ?_).trans (hR.keep.trans (Keeps.of_imp ?_)))
  ·intro b o hp
   rw [h.pi,h.X] at hp
   exact or4.1 hp
  ·intro b o hp
   rw [h.X];exact or4.2 hp
 ·rintro b (hb | hb)
  ·exact hj.own b (.inl hb)
  ·rcases hR.own b hb with h1 | h1
   ·exact hj.own b (.inr h1)
   ·exact .inr (Nat.le_trans hj.size h1)
 ·rintro b off (hb | hb) hX
  ·exact hj.out b off (.inl hb) hX
  ·exact hR.out b off hb (by rw [h.X];exact .inl hX)
 ·rintro b (hb | hb)
  ·exact Nat.lt_of_lt_of_le (hj.lt b (.inl hb)) hR.size
  ·exact hR.lt b hb
 ·rintro b o (hv | hv)
  ·exact .inl (hVO b o hv)
  ·exact .inr (hR.vo b o hv)
 ·intro b hb hO
  rcases hR.own b hO with h1 | h1
  ·exact h.dis b hb h1
  ·have:=hj.lt b (.inl hb);omega
def Prot.lift (𝒢 : Prot P) (r1 r0:Nat->Value) (wS:World) (TS:Nat->Nat->Prop) (OS:Nat->Prop) (VS:Nat->Nat->Prop) (hVO:∀ b o,VS b o->OS b):Prot P where
 G:=fun C=>∃ C2 V0,LiftG 𝒢 r1 r0 wS TS OS VS C C2 V0
 tab:=by
  rintro C ⟨C2,V0,h⟩
  exact ((𝒢.tab C2 h.g).keeps h.rel.keep).keeps (Keeps.of_imp fun b o hp=>by rw [h.pi,h.X] at hp;exact or4.1 hp)
 call:=by
  rintro C w O V ys rest vs ⟨C2,V0,h⟩ hR hY hs hv
  obtain ⟨j1,j2,j3,j4,j5,j6⟩:=h.joint hVO hR
  have hv' : ∀ i,i < ys.length->RepP w (fun b o=>C2.X b o \/ (VS b o \/ V b o)) (vs.getD i undef) (ys.getD i default):=fun i hi=>
   (hv i hi).keeps (Keeps.of_imp fun b o hp=>by rw [h.X];exact or4.2 hp)
  obtain ⟨l,fn,tmps,as,body,h1,h2,h3⟩:=𝒢.call C2 w _ _ ys rest vs h.g j1 (by rw [<- h.Y];exact hY) hs hv'
  refine ⟨l,fn,tmps,as,body,h.yv.trans h1,h2,h3.mono ?_⟩
  rintro e w' ⟨b,rfl,C2',g1,g2,g3,g4,g5,g6,g7,g8,g9,g10,g11,g12⟩
  refine ⟨b,rfl, { X:=fun b o=>C2'.X b o \/ VS b o,w0:=w',E0:=O,Pi0:=fun b o=>(C2'.X b o \/ VS b o) \/ V b o,rho0:=C.rho0,Y:=C2'.Y,yv:=C2'.yv },⟨C2',V, ?_⟩,g2.trans h.yv.symm,rfl,g4,rfl,rfl,rfl, ?_,fun b hb=>g9 b (.inr hb), ?_,g11,g12⟩
  ·refine ⟨g1,g3.trans h.r2,rfl,rfl,rfl,h.rho,rfl,g8,fun b hb=>(g9 b (.inl hb)).trans (j2 b hb), ?_,j4,Nat.le_trans j5 g11,j6.trans g12⟩
   refine j3.trans ((Keeps.of_imp ?_).trans (g10.trans (Keeps.of_imp ?_)))
   ·intro b o hp;rw [h.X];exact or4.2 hp
   ·intro b o hp;exact or4.1 hp
  ·refine ⟨Ext.refl _,Nat.le_refl _,fun _ _ _=>rfl,Keeps.refl _ _,fun b hb=>.inl hb, ?_,fun b hb=>g8.lt b (.inr hb), ?_,hR.vo⟩
   ·rintro b off hb (hx | hx)
    ·exact g8.out b off (.inr hb) hx
    ·exact j4 b (hVO b off hx) hb
   ·rintro b off (hx | hx)
    ·exact g8.bnd b off hx
    ·exact g8.lt b (.inl (hVO b off hx))
  ·refine (Keeps.of_imp ?_).trans (g10.trans (Keeps.of_imp ?_))
   ·intro b o hp;rw [h.X];exact or4.2 hp
   ·intro b o hp;exact or4.1 hp
end
section
variable {P:Program} {C:Ctx} {a:Act} {w:World} {rho:Nat->Value} {n:Nat}
theorem AV4:∀ (ts:List Nat) (l:List AV) (t:Nat),ts.length=l.length->ts.Nodup->(∀ i:Nat,ts[i]? = some t->get (T9 ts l) t=l.getD i .top)/\(t ∉ ts->get (T9 ts l) t=.top)
 | [], [],t,_,_=>⟨fun i h=>by simp at h,fun _=>rfl⟩
 | [],_ :: _,t,h,_=>by simp at h
 | _ :: _, [],t,h,_=>by simp at h
 | x :: ts,y :: l,t,h,hn=>by
  obtain ⟨n1,n2⟩:=List.nodup_cons.1 hn
  obtain ⟨h1,h2⟩:=AV4 ts l t (by simpa using h) n2
  refine ⟨fun i hi=>?_,fun hm=>?_⟩
  ·simp only [T9,get]
   cases i with
   | zero=>simp at hi;simp [hi]
   | succ i=>
    have hi' : ts[i]? = some t:=by simpa using hi
    have e:¬ x=t:=by rintro rfl;exact n1 (List.mem_of_getElem? hi')
    rw [if_neg e,h1 i hi'];simp
  ·simp only [List.mem_cons,not_or] at hm
   simp only [T9,get]
   rw [if_neg (Ne.symm hm.1),h2 hm.2]
theorem Bi7:∀ (ts:List Nat) (l:List AV),ts.length=l.length->(T9 ts l).map (·.1)=ts
 | [], [],_=>rfl
 | [],_ :: _,h=>by simp at h
 | _ :: _, [],h=>by simp at h
 | x :: ts,y :: l,h=>by simp [T9,Bi7 ts l (by simpa using h)]
theorem BT0:∀ (E:Env) (t:Nat),(E.map (·.1)).Nodup->(∀ i:Nat,(E.map (·.1))[i]? = some t->get E t=(E.map (·.2)).getD i .top)/\(t ∉ E.map (·.1)->get E t=.top)
 | [],t,_=>⟨fun i h=>by simp at h,fun _=>rfl⟩
 | (x,y) :: E,t,hn=>by
  obtain ⟨n1,n2⟩:=List.nodup_cons.1 hn
  obtain ⟨h1,h2⟩:=BT0 E t n2
  refine ⟨fun i hi=>?_,fun hm=>?_⟩
  ·simp only [get]
   cases i with
   | zero=>simp at hi;simp [hi]
   | succ i=>
    have hi' : (E.map (·.1))[i]? = some t:=by simpa using hi
    have e:¬ x=t:=by rintro rfl;exact n1 (List.mem_of_getElem? hi')
    rw [if_neg e,h1 i hi'];simp
  ·simp only [List.map_cons,List.mem_cons,not_or] at hm
   simp only [get]
   rw [if_neg (Ne.symm hm.1),h2 hm.2]
theorem AS7 {regs:D2} {g i:Nat} (hd:i ≠ g):A5 (del g regs) i=A5 regs i:=by
 induction regs with
 | nil=>rfl
 | cons p r ih=>
  obtain ⟨x,y⟩:=p
  simp only [del]
  split
  ·rename_i e;subst e;simp [A5,Ne.symm hd]
  ·simp only [A5,ih]
theorem AV5 {Pi:Nat->Nat->Prop} {live:Nat->Prop}:∀ (ps:List Nat) (ys:List PV) (vs:List Value) (E:Env) (tmps:Array Value),ps.length=ys.length->ps.length=vs.length->(∀ t ∈ ps,t < tmps.size) ->
 (∀ t,RepA w Pi live rho (tmps.getD t undef) (get E t))->(∀ i,i < ys.length->RepP w Pi (vs.getD i undef) (ys.getD i default)) ->
 ∀ t,RepA w Pi live rho (((ps.zip vs).foldl (fun tmps (q:Nat × Value)=>tmps.setIfInBounds q.1 q.2) tmps).getD t undef) (get (AF6 ps ys E) t)
 | [], [],vs,E,tmps,_,h2,_,hE,_,t=>by simpa [AF6] using hE t
 | [],_ :: _,_,_,_,h,_,_,_,_,_=>by simp at h
 | _ :: _, [],_,_,_,h,_,_,_,_,_=>by simp at h
 | p :: ps,y :: ys, [],_,_,_,h,_,_,_,_=>by simp at h
 | p :: ps,y :: ys,v :: vs,E,tmps,h1,h2,hlt,hE,hv,t=>by
  simp only [List.zip_cons_cons,List.foldl_cons,AF6]
  refine AV5 ps ys vs (ins p (.p y) E) (tmps.setIfInBounds p v) (by simpa using h1) (by simpa using h2) (fun t ht=>by simpa using hlt t (List.mem_cons_of_mem _ ht)) ?_ (fun i hi=>by simpa using hv (i+1) (by simpa using hi)) t
  intro t
  rw [BH4]
  by_cases e:p=t
  ·subst e
   have:=hlt p (by simp)
   rw [if_pos rfl]
   have e2:(tmps.setIfInBounds p v).getD p undef=v:=by simp [Array.getD_eq_getD_getElem?,this]
   rw [e2]
   exact .p _ _ (by simpa using hv 0 (by simp))
  ·rw [if_neg e]
   have e2:(tmps.setIfInBounds p v).getD t undef=tmps.getD t undef:=by simp [Array.getD_eq_getD_getElem?,e]
   rw [e2];exact hE t
end
end Go.AM
set_option linter.unusedVariables false
namespace Go.AM
section
variable {w w' : World} {Pi Pi' : Nat->Nat->Prop} {live live' : Nat->Prop} {rho:Nat->Value}
theorem RepA.drop (hk:Keeps w Pi w' Pi') (hl:∀ j,live j->(∀ vs,rho j ≠ .tuple vs)->live' j) {v:Value} {a:AV} (h:RepA w Pi live rho v a):RepA w' Pi' live' rho v a:=by
 induction h with
 | p v x h=>exact .p v x (h.keeps hk)
 | reg j off b hj h=>exact .reg j off b (hl j hj (by rw [h];intro vs e;cases e)) h
 | vec j base n cap hj h=>exact .vec j base n cap (hl j hj (by rw [h];intro vs e;cases e)) h
 | vecp j m base n cap hj h hm=>exact .vecp j m base n cap (hl j hj (by rw [h];intro vs e;cases e)) h hm
 | elt j k i off b n cap hj h=>exact .elt j k i off b n cap (hl j hj (by rw [h];intro vs e;cases e)) h
 | mref j r hj h=>exact .mref j r (hl j hj (by rw [h];intro vs e;cases e)) h
 | clo f x y a b hx hy ha hb iha ihb=>exact .clo f x y a b hx hy iha ihb
 | tup x a hx ha ih=>exact .tup x a hx ih
 | agr x a hx h1 ha ih=>exact .agr x a hx h1 ih
 | yf j l hj h=>exact .yf j l (hl j hj (by rw [h];intro vs e;cases e)) h
 | top v=>exact .top v
theorem HoldsO.drop (hk:Keeps w Pi w' Pi') (hl:∀ j,live j->(∀ vs,rho j ≠ .tuple vs)->live' j) {h:Value} {o:Obj} (hb:∀ b,G8 h o=some b->w'.heap[b]? = w.heap[b]?) (hh:HoldsO w Pi live rho h o):HoldsO w' Pi' live' rho h o:=by
 cases o with
 | cells cs=>
  obtain ⟨b,c,T,rfl,h1,h2,h3⟩:=hh
  exact ⟨b,c,T,rfl,(hb b rfl).trans h1,h2,fun i hi=>⟨(h3 i hi).1.drop hk hl,(h3 i hi).2⟩⟩
 | vec e k n f vw=>
  rcases hh with hn | ⟨b,cap,c,rfl,h1,h2,h3,h4,h5,h6⟩
  ·exact .inl hn
  ·exact .inr ⟨b,cap,c,rfl,(hb b rfl).trans h1,h2,h3,h4,h5,fun i j hi hj=>⟨(h6 i j hi hj).1.keeps hk,(h6 i j hi hj).2⟩⟩
 | map es=>
  obtain ⟨b,ents,clock,rfl,h1,h2,h3⟩:=hh
  exact ⟨b,ents,clock,rfl,(hb b rfl).trans h1,h2,fun i hi=>⟨(h3 i hi).1.keeps hk,(h3 i hi).2.keeps hk⟩⟩
 | arr n f=>
  obtain ⟨b,c,T,rfl,h1,h2,h3⟩:=hh
  exact ⟨b,c,T,rfl,(hb b rfl).trans h1,h2,fun i hi=>⟨(h3 i hi).1.keeps hk,(h3 i hi).2⟩⟩
 | ghost cs=>
  obtain ⟨vs,rfl,h1,h2⟩:=hh
  exact ⟨vs,rfl,h1,fun i hi=>(h2 i hi).drop hk hl⟩
 | yld r b=>exact hh
 | dead=>trivial
theorem HoldsO.block {h:Value} {o:Obj} (hh:HoldsO w Pi live rho h o) {b:Nat} (hb:G8 h o=some b):(∃ c T f,w.heap[b]? = some (.cells c T f)) \/ ∃ es ck,w.heap[b]? = some (.map es ck):=by
 cases o with
 | cells cs=>obtain ⟨b',c,T,rfl,h1,_⟩:=hh;cases hb;exact .inl ⟨_,_,_,h1⟩
 | vec e k n f vw=>
  rcases hh with ⟨rfl,_⟩ | ⟨b',cap,c,rfl,h1,_⟩
  ·cases hb
  ·cases hb;exact .inl ⟨_,_,_,h1⟩
 | map es=>obtain ⟨b',ents,clock,rfl,h1,_⟩:=hh;cases hb;exact .inr ⟨_,_,h1⟩
 | arr n f=>obtain ⟨b',c,T,rfl,h1,_⟩:=hh;cases hb;exact .inl ⟨_,_,_,h1⟩
 | ghost cs=>cases hb
 | yld r b=>cases hb
 | dead=>cases hb
end
section
variable {P:Program} {C:Ctx} {st:St} {a:Act} {w:World} {rho:Nat->Value} {𝒢 : Prot P} {n:Nat} {Q:J1}
theorem Sat.own_not {b:Nat} (h:Sat C st a w rho) (hb:Own (A5 st.regs) rho b) {o:Go.Obj} (ho:w.heap[b]? = some o) (hc:∀ c T f,o ≠ .cells c T f) (hm:∀ es ck,o ≠ .map es ck):False:=by
 obtain ⟨j,oj,hj,hbj⟩:=hb
 rcases (h.hp.holds j oj hj).block hbj with ⟨c,T,f,h1⟩ | ⟨es,ck,h1⟩
 ·rw [ho] at h1;cases h1;exact hc _ _ _ rfl
 ·rw [ho] at h1;cases h1;exact hm _ _ rfl
theorem Sat.loop_not_own {l:Nat} {lo:Loop} (h:Sat C st a w rho) (hl:w.heap[l]? = some (.loop lo)):¬ BG9 st.regs rho a.defers l:=by
 rintro (hb | hb)
 ·exact h.own_not hb hl (fun _ _ _ e=>by cases e) (fun _ _ e=>by cases e)
 ·obtain ⟨r,h1,_,h2,_⟩:=h.marks.2 _ hb
  cases h1;rw [hl] at h2;cases h2
theorem Rel.poke {O:Nat->Prop} {V:Nat->Nat->Prop} (h:Rel C w O V) {l:Nat} {lo:Loop} (hl:w.heap[l]? = some (.loop lo)) (hO:O l) (o' : Go.Obj):Rel C (w.putObj l o') O V:=by
 have hother:∀ b,b ≠ l->(w.putObj l o').heap[b]? = w.heap[b]?:=fun b hb=>World.putObj_heap_other hb
 refine ⟨h.ext.trans ⟨rfl,rfl⟩,by rw [World.putObj_size];exact h.size, ?_, ?_,h.own,h.out,fun b hb=>by rw [World.putObj_size];exact h.lt b hb,fun b off hX=>by rw [World.putObj_size];exact h.bnd b off hX,h.vo⟩
 ·intro b hb hE
  rw [hother b (fun e=>by subst e;rcases h.own b hO with h1 | h1;exact hE h1;omega)]
  exact h.same b hb hE
 ·intro b o v hp hc
  obtain ⟨h1,h2⟩:=h.keep b o v hp hc
  refine ⟨?_,h2⟩
  rw [<- h1]
  refine World.cell?_of_block (hother b ?_)
  rintro rfl
  simp [World.cell?,hl] at h1
def Ctx.fresh (C:Ctx) (w:World) (E:Nat->Prop) (Pi:Nat->Nat->Prop):Ctx:={ C with w0:=w,E0:=E,Pi0:=Pi }
theorem Sat.pokeFresh (h:Sat C st a w rho) {l:Nat} {lo:Loop} (hl:w.heap[l]? = some (.loop lo)) (o' : Go.Obj) :
 Sat (C.fresh (w.putObj l o') (BG9 st.regs rho a.defers) (Prv C.X (A5 st.regs) rho)) st a (w.putObj l o') rho:=by
 have hother:∀ b,b ≠ l->(w.putObj l o').heap[b]? = w.heap[b]?:=fun b hb=>World.putObj_heap_other hb
 have hk:∀ Pi,Keeps w Pi (w.putObj l o') Pi:=fun Pi b o v hp hc=>⟨by
  rw [<- hc]
  refine World.cell?_of_block (hother b ?_)
  rintro rfl
  simp [World.cell?,hl] at hc,hp⟩
 have hnl:∀ b,BG9 st.regs rho a.defers b->b ≠ l:=by
  rintro b hb rfl
  exact h.loop_not_own hl hb
 refine ⟨⟨⟨?_,h.hp.sep,h.hp.out,fun b off hX=>by rw [World.putObj_size];exact h.hp.bound b off hX⟩,Ext.refl _,Nat.le_refl _,fun b _ _=>rfl,Keeps.refl _ _,fun b hb=>.inl (.inl hb),h.yld⟩,fun t=>(h.env t).keeps (hk _) fun j hj=>⟨hj,rfl⟩,h.pin,h.marks.1, ?_⟩
 ·intro j o hj
  exact (h.hp.holds j o hj).keeps (hk _) (fun j hj=>⟨hj,rfl⟩) fun b hb=>hother b (hnl b (.inl ⟨j,o,hj,hb⟩))
 ·intro d hd
  obtain ⟨r,h1,h2,h3,h4⟩:=h.marks.2 d hd
  have hm:BI3 a.defers r:=by unfold BI3;rw [<- h1];exact hd
  exact ⟨r,h1, .inl (.inr hm),(hother r (hnl r (.inr hm))).trans h3,h4⟩
def AV6 (ts:List Nat) (tmps:Array Value):Array Value:=(ts.map fun t=>tmps.getD t undef).toArray
theorem BZ4 (ts:List Nat) (tmps:Array Value):(AV6 ts tmps).size=ts.length:=by simp [AV6]
theorem Bx1 {ts:List Nat} {tmps:Array Value} {i t:Nat} (h:ts[i]? = some t):(AV6 ts tmps).getD i undef=tmps.getD t undef:=by
 simp [AV6,Array.getD_eq_getD_getElem?,h]
theorem CP4 {r1 r0:Nat->Value} {wS:World} {TS:Nat->Nat->Prop} {OS:Nat->Prop} {V:Nat->Nat->Prop} (hVO:∀ b o,V b o->OS b) {C2:Ctx} {V0:Nat->Nat->Prop} (hL:LiftG 𝒢 r1 r0 wS TS OS V C C2 V0) (h:Sat C st a w rho)
 {gh:Nat} {cs:List AV} {ts:List Nat} (hgh:A5 st.regs gh=some (.ghost cs)) (hcs:cs.length=ts.length) (hdel:A5 (del gh st.regs) gh=none) (hgl:gh < 1000) (hts:ts.Nodup) {a' : Act}
 (hr0:r0 gh=.tuple (AV6 ts a'.tmps)) (hr0' : ∀ j,j ≠ gh->r0 j=r1 j) (hmk:a'.defers.Nodup/\∀ d ∈ a'.defers,∃ r,d={ target:=.collected r,args:=#[] }/\wS.heap[r]? = some (.deferred (some []))) (hOS:∀ b,BI3 a'.defers b->OS b) (hmV:∀ b off,BI3 a'.defers b->¬ V b off) :
 Sat (C2.plus V) ⟨T9 ts cs,del gh st.regs⟩ a' w rho:=by
 obtain ⟨j1,j2,j3,j4,j5,_⟩:=hL.joint hVO h.rel
 have hrg:rho gh=.tuple (AV6 ts a'.tmps):=by rw [h.pin gh hgl (by simp [Lv,hgh]),hL.rho,hr0]
 have hold:∀ i oi,A5 (del gh st.regs) i=some oi->i ≠ gh/\A5 st.regs i=some oi:=by
  intro i oi hi
  have e:i ≠ gh:=by rintro rfl;rw [hdel] at hi;cases hi
  exact ⟨e,by rw [<- AS7 e];exact hi⟩
 have hown:∀ b,Own (A5 (del gh st.regs)) rho b->Own (A5 st.regs) rho b:=by
  rintro b ⟨i,oi,hi,hb⟩
  exact ⟨i,oi,(hold i oi hi).2,hb⟩
 have hpi:∀ b off,Prv (C2.plus V).X (A5 (del gh st.regs)) rho b off->Prv C.X (A5 st.regs) rho b off:=by
  rintro b off (hX | ⟨i,oi,hi,hb,hp⟩)
  ·exact .inl (by rw [hL.X];exact hX)
  ·exact .inr ⟨i,oi,(hold i oi hi).2,hb,hp⟩
 have hk:Keeps w (Prv C.X (A5 st.regs) rho) w (Prv (C2.plus V).X (A5 (del gh st.regs)) rho):=Keeps.of_imp hpi
 have hl:∀ j,Lv (A5 st.regs) j->(∀ vs,rho j ≠ .tuple vs)->Lv (A5 (del gh st.regs)) j:=by
  intro j hj hne
  have e:j ≠ gh:=by rintro rfl;exact hne _ hrg
  simpa [Lv,AS7 e] using hj
 refine ⟨⟨⟨?_, ?_, ?_, ?_⟩,j1.ext,j1.size,j1.same,j1.keep.trans (Keeps.of_imp ?_),fun b hb=>j1.own b (.inr (.inl (hown b hb))), ?_⟩, ?_, ?_,hmk.1, ?_⟩
 ·intro i oi hi
  exact (h.hp.holds i oi (hold i oi hi).2).drop hk hl fun b _=>rfl
 ·intro i i' oi oj b hi hi' hb hb'
  exact h.hp.sep i i' oi oj b (hold i oi hi).2 (hold i' oj hi').2 hb hb'
 ·intro i oi b off hi hb hX
  exact h.hp.out i oi b off (hold i oi hi).2 hb (by rw [hL.X];exact hX)
 ·intro b off hX
  exact h.hp.bound b off (by rw [hL.X];exact hX)
 ·rintro b off ((hX | hX) | ⟨i,oi,hi,hb,hp⟩)
  ·exact .inl hX
  ·exact .inr (.inl hX)
  ·exact .inr (.inr ⟨i,oi,(hold i oi hi).2,hb,hp⟩)
 ·intro i r b hi
  have:=h.yld i r b (hold i _ hi).2
  rw [hL.Y,hL.yv] at this
  exact this
 ·intro t
  show RepA w _ _ rho (a'.tmps.getD t undef) (get (T9 ts cs) t)
  obtain ⟨h1,h2⟩:=AV4 ts cs t hcs.symm hts
  by_cases hm:t ∈ ts
  ·obtain ⟨i,hi⟩:=List.mem_iff_getElem?.1 hm
   rw [h1 i hi, <- Bx1 (tmps:=a'.tmps) hi]
   obtain ⟨vs,hv,hs,hrep⟩:=h.hp.holds gh _ hgh
   rw [hrg] at hv;cases hv
   have hlt:i < cs.length:=by rw [hcs];exact (List.getElem?_eq_some_iff.1 hi).1
   exact (hrep i hlt).drop hk hl
  ·rw [h2 hm];exact .top _
 ·intro i hi hlv
  obtain ⟨oi,hoi⟩:=Option.isSome_iff_exists.1 hlv
  obtain ⟨hne,hr⟩:=hold i oi hoi
  rw [h.pin i hi (by simp [Lv,hr]),hL.rho,hr0' i hne]
  show r1 i=C2.rho0 i
  rw [hL.r2]
 ·intro d hd
  obtain ⟨r,h1,h2⟩:=hmk.2 d hd
  have hm:BI3 a'.defers r:=by unfold BI3;rw [<- h1];exact hd
  refine ⟨r,h1,j1.own r (.inl (hOS r hm)),(j2 r (hOS r hm)).trans h2, ?_⟩
  rintro off (hX | hX)
  ·exact j1.out r off (.inl (hOS r hm)) hX
  ·exact hmV r off hm hX
end
end Go.AM
set_option linter.unusedVariables false
namespace Go.AM
structure RP (P:Program) where
 pr:Prot P
 n:Nat
 Q:J1
 act:Act
 l:Nat
 fn:FuncId
 D:Nat
 rA:Nat->Value
 r0:Nat->Value
 ts:List Nat
 gh:Nat
 I:List (List PV)->St->Prop
 ps:Array Tmp
 asg:Code
 body:Code
def RP.lo {P:Program} (R:RP P) (st:LoopState) (pe:Option Code):Loop:={ state:=st,pending:=pe,fn:=R.fn,tmps:=R.act.tmps,params:=R.ps,assign:=R.asg,body:=R.body,defers:=R.D }
def CC3:AT5->Code->Prop
 | .ret,c=>c=.ret
 | .exit id,c=>c=.exit id
 | .goto t,c=>c=.goto t
 | _,_=>False
def RP.stOk {P:Program} (R:RP P) (s:St) (rest:List (List PV)) (live:Bool) (lo:Loop):Prop:=
 (live=true/\lo=R.lo .ready none/\R.I rest s/\∀ ys ∈ rest,ys.length=R.ps.size) \/ (live=false/\rest=[]/\∃ c e,lo=R.lo .done (some c)/\CC3 e c/\R.Q e s)
structure InG {P:Program} (R:RP P) (C C2:Ctx) (s:St) (rhoA:Nat->Value) (XI:Nat->Nat->Prop) (rest:List (List PV)) (live:Bool) (lo:Loop):Prop where
 g:R.pr.G C2
 r2:C2.rho0=R.rA
 sat:Sat (C2.plus XI) s R.act C.w0 rhoA
 X:C.X=fun b o=>C2.X b o \/ PvR s.regs rhoA b o
 pi:C.Pi0=fun b o=>C.X b o \/ XI b o
 dis:∀ b,C.E0 b->¬ BG9 s.regs rhoA R.act.defers b
 oc:∀ b,C.E0 b->C2.E0 b \/ C2.w0.heap.size<=b
 lt:∀ b,C.E0 b->b < C.w0.heap.size
 rl:C.w0.heap[R.l]? = some (.loop lo)
 lown:C2.E0 R.l \/ C2.w0.heap.size<=R.l
 lX:∀ off, ¬ C2.X R.l off
 lE:¬ C.E0 R.l
 Y:C.Y=fun r b=>r=rest/\b=live
 yv:C.yv=.func (.yield R.l) #[] #[]
 rho:C.rho0=R.r0
 keys:s.env.map (·.1)=R.ts
 ng:A5 s.regs R.gh=none
 st:R.stOk s rest live lo
section
variable {P:Program} {R:RP P} {C C2 C3 C2' : Ctx} {s s4:St} {rhoA rho4:Nat->Value} {XI V V0 TS:Nat->Nat->Prop} {rest:List (List PV)} {live:Bool} {lo:Loop} {w w2 w3:World} {O:Nat->Prop} {a3:Act}
def RP.OS (R:RP P) (O:Nat->Prop) (b:Nat):Prop:=O b \/ b=R.l \/ BI3 R.act.defers b
def RP.rR (R:RP P) (j:Nat):Value:=if j=R.gh then .tuple (AV6 R.ts R.act.tmps) else R.rA j
theorem InG.disO (h:InG R C C2 s rhoA XI rest live lo) (hR:Rel C w O V):(∀ b,O b->¬ BG9 s.regs rhoA R.act.defers b)/\¬ O R.l:=by
 refine ⟨fun b hb hF=>?_,fun hl=>?_⟩
 ·rcases hR.own b hb with h1 | h1
  ·exact h.dis b h1 hF
  ·have:=h.sat.rel.lt b hF;omega
 ·rcases hR.own R.l hl with h1 | h1
  ·exact h.lE h1
  ·have:=(Array.getElem?_eq_some_iff.1 h.rl).1;omega
theorem CC4 (h:InG R C C2 s rhoA XI rest live lo) (hR:Rel C w O V) {lob:Loop} (hgl:R.gh < 1000) (hts:R.ts.Nodup)
 (hL:LiftG R.pr R.rA R.rR w2 TS (R.OS O) V C3 C2' V0) (hs:Sat C3 s4 a3 w3 rho4) {cs:List AV} (hgh:A5 s4.regs R.gh=some (.ghost cs)) (hcs:cs.length=R.ts.length) (hdel:A5 (del R.gh s4.regs) R.gh=none)
 (hk2:Keeps w (fun b o=>C.X b o \/ V b o) w2 TS) (hb2:∀ b,R.OS O b->b ≠ R.l->w2.heap[b]? = w.heap[b]?) (hs2:w.heap.size<=w2.heap.size) (hx2:Ext w w2) (hl2:w2.heap[R.l]? = some (.loop lob))
 {rest1:List (List PV)} {live1:Bool} {lo1:Loop} (hst:R.stOk ⟨T9 R.ts cs,del R.gh s4.regs⟩ rest1 live1 lo1) :
 ∃ C',InG R C' C2' ⟨T9 R.ts cs,del R.gh s4.regs⟩ rho4 V rest1 live1 lo1/\C'.yv=C.yv/\C'.rho0=C.rho0/\C'.Y rest1 live1/\C'.w0=w3.putObj R.l (.loop lo1)/\C'.E0=O/\(C'.Pi0=fun b o=>C'.X b o \/ V b o)/\Rel C' (w3.putObj R.l (.loop lo1)) O V /\
  (∀ b,O b->(w3.putObj R.l (.loop lo1)).heap[b]? = w.heap[b]?)/\Keeps w (fun b o=>C.X b o \/ V b o) (w3.putObj R.l (.loop lo1)) (fun b o=>C'.X b o \/ V b o)/\w.heap.size<=(w3.putObj R.l (.loop lo1)).heap.size/\w3.heap[R.l]? = some (.loop lob)/\Ext w (w3.putObj R.l (.loop lo1)):=by
 obtain ⟨hOF,hOl⟩:=h.disO hR
 have hVO:∀ b o,V b o->R.OS O b:=fun b o hv=>.inl (hR.vo b o hv)
 obtain ⟨j1,j2,j3,j4,j5,j6⟩:=hL.joint hVO hs.rel
 have hOM:∀ b,O b->¬ BI3 R.act.defers b:=fun b hb hm=>hOF b hb (.inr hm)
 have hml:∀ b,BI3 R.act.defers b->b ≠ R.l:=by
  rintro b hm rfl
  exact h.sat.loop_not_own h.rl (.inr hm)
 have hmarks:∀ d ∈ R.act.defers,∃ r,d={ target:=.collected r,args:=#[] }/\w2.heap[r]? = some (.deferred (some [])):=by
  intro d hd
  obtain ⟨r,h1,_,h3,_⟩:=h.sat.marks.2 d hd
  have hm:BI3 R.act.defers r:=by unfold BI3;rw [<- h1];exact hd
  refine ⟨r,h1, ?_⟩
  rw [hb2 r (.inr (.inr hm)) (hml r hm),hR.same r (Array.getElem?_eq_some_iff.1 h3).1 (fun he=>h.dis r he (.inr hm))]
  exact h3
 have hres:=CP4 hVO hL hs hgh hcs hdel hgl hts (a':=R.act) (by simp [RP.rR]) (fun j hj=>by simp [RP.rR,hj]) ⟨h.sat.marks.1,hmarks⟩ (fun b hm=>.inr (.inr hm)) (fun b off hm hv=>hOM b (hR.vo b off hv) hm)
 have hl3:w3.heap[R.l]? = some (.loop lob):=(j2 R.l (.inr (.inl rfl))).trans hl2
 obtain ⟨p1,p2⟩:=hres.poke hl3 (.loop lo1) (j1.own R.l (.inl (.inr (.inl rfl))))
 have hownd:∀ b,Own (A5 (del R.gh s4.regs)) rho4 b->BG9 s4.regs rho4 a3.defers b:=by
  rintro b ⟨i,oi,hi,hb⟩
  have e:i ≠ R.gh:=by rintro rfl;rw [hdel] at hi;cases hi
  exact .inl ⟨i,oi,by rw [<- AS7 e];exact hi,hb⟩
 have hpvd:∀ b off,PvR (del R.gh s4.regs) rho4 b off->PvR s4.regs rho4 b off:=by
  rintro b off ⟨i,oi,hi,hb,hp⟩
  have e:i ≠ R.gh:=by rintro rfl;rw [hdel] at hi;cases hi
  exact ⟨i,oi,by rw [<- AS7 e];exact hi,hb,hp⟩
 have hpo:∀ b off,PvR (del R.gh s4.regs) rho4 b off->Own (A5 (del R.gh s4.regs)) rho4 b:=fun b off ⟨i,oi,hi,hb,_⟩=>⟨i,oi,hi,hb⟩
 have hlt3:R.l < w3.heap.size:=(Array.getElem?_eq_some_iff.1 hl3).1
 refine ⟨{ X:=fun b o=>C2'.X b o \/ PvR (del R.gh s4.regs) rho4 b o,w0:=w3.putObj R.l (.loop lo1),E0:=O,Pi0:=fun b o=>(C2'.X b o \/ PvR (del R.gh s4.regs) rho4 b o) \/ V b o,rho0:=C.rho0,Y:=fun r b=>r=rest1/\b=live1,yv:=C.yv },
  ⟨hL.g,hL.r2,p1,rfl,rfl, ?_,fun b hb=>j1.own b (.inl (.inl hb)),fun b hb=>by rw [World.putObj_size];exact j1.lt b (.inl (.inl hb)),World.putObj_heap_same hlt3,j1.own R.l (.inl (.inr (.inl rfl))),fun off=>j1.out R.l off (.inl (.inr (.inl rfl))),hOl,rfl,h.yv,h.rho,Bi7 _ _ hcs.symm,hdel,hst⟩,
  rfl,rfl,⟨rfl,rfl⟩,rfl,rfl,rfl,⟨Ext.refl _,Nat.le_refl _,fun _ _ _=>rfl,Keeps.refl _ _,fun b hb=>.inl hb, ?_,fun b hb=>by rw [World.putObj_size];exact j1.lt b (.inl (.inl hb)), ?_,hR.vo⟩, ?_, ?_, ?_,hl3,(hx2.trans j6).trans ⟨rfl,rfl⟩⟩
 ·rintro b hb (hF | hF)
  ·exact j4 b (.inl hb) (hownd b hF)
  ·exact hOM b hb hF
 ·rintro b off hb (hx | hx)
  ·exact j1.out b off (.inl (.inl hb)) hx
  ·exact j4 b (.inl hb) (hownd b (hpo b off hx))
 ·rintro b off (hx | hx)
  ·rw [World.putObj_size];exact j1.bnd b off hx
  ·rw [World.putObj_size];exact hs.rel.lt b (hownd b (hpo b off hx))
 ·intro b hb
  have hne:b ≠ R.l:=by rintro rfl;exact hOl hb
  rw [World.putObj_heap_other hne,j2 b (.inl hb),hb2 b (.inl hb) hne]
 ·refine hk2.trans (j3.trans ((Keeps.of_imp ?_).trans (p2 _)))
  rintro b off ((hx | hx) | hx)
  ·exact .inl (by rw [hL.X];exact .inl hx)
  ·exact .inr (hpvd b off hx)
  ·exact .inl (by rw [hL.X];exact .inr hx)
 ·rw [World.putObj_size];exact Nat.le_trans hs2 j5
end
end Go.AM
set_option linter.unusedVariables false
namespace Go.AM
section
variable {P:Program} {R:RP P} {C C2:Ctx} {s:St} {rhoA:Nat->Value} {XI V:Nat->Nat->Prop} {w:World} {O:Nat->Prop}
theorem CH0 (ps:Array Tmp) (vs:Array Value) (tmps:Array Value):(ps.zip vs).foldl (fun tmps (x:Tmp × Value)=>match x with | (t,a)=>tmps.setIfInBounds t a) tmps=(ps.toList.zip vs.toList).foldl (fun tmps (q:Nat × Value)=>tmps.setIfInBounds q.1 q.2) tmps:=by
 rw [<- Array.foldl_toList,Array.toList_zip]
theorem BT1:∀ (l:List (Nat × Value)) (tmps:Array Value),(l.foldl (fun tmps (q:Nat × Value)=>tmps.setIfInBounds q.1 q.2) tmps).size=tmps.size
 | [],tmps=>rfl
 | q :: l,tmps=>by simp only [List.foldl_cons];rw [BT1 l];simp
def Am7 (R:RP P) (C2:Ctx) (s:St) (rhoA:Nat->Value) (V:Nat->Nat->Prop) (w:World):Ctx:=
 { X:=fun b o=>C2.X b o \/ V b o,w0:=w,E0:=Own (A5 s.regs) rhoA,Pi0:=fun b o=>(C2.X b o \/ V b o) \/ PvR s.regs rhoA b o,rho0:=R.rR,Y:=C2.Y,yv:=C2.yv }
theorem BZ5 {rest:List (List PV)} {live:Bool} {lo:Loop} (h:InG R C C2 s rhoA XI rest live lo) (hR:Rel C w O V) (m1:Sat (C2.plus V) s R.act w rhoA) :
 LiftG R.pr R.rA R.rR w (Am7 R C2 s rhoA V w).Pi0 (R.OS O) V (Am7 R C2 s rhoA V w) C2 (PvR s.regs rhoA):=by
 obtain ⟨hOF,hOl⟩:=h.disO hR
 have hrel:=m1.rel
 refine ⟨h.g,h.r2,rfl,rfl,rfl,rfl,rfl,⟨hrel.ext,hrel.size,hrel.same,hrel.keep.trans (Keeps.of_imp ?_), ?_, ?_, ?_,fun b off hX=>hrel.bnd b off (.inl hX), ?_⟩,fun b _=>rfl,Keeps.refl _ _, ?_,Nat.le_refl _,Ext.refl _⟩
 ·intro b o hp;exact or4.2 hp
 ·rintro b ((hb | rfl | hb) | hb)
  ·rcases hR.own b hb with h1 | h1
   ·exact h.oc b h1
   ·exact .inr (Nat.le_trans h.sat.size h1)
  ·exact h.lown
  ·exact hrel.own b (.inr hb)
  ·exact hrel.own b (.inl hb)
 ·rintro b off ((hb | rfl | hb) | hb) hX
  ·exact hR.out b off hb (by rw [h.X];exact .inl hX)
  ·exact h.lX off hX
  ·exact hrel.out b off (.inr hb) (.inl hX)
  ·exact hrel.out b off (.inl hb) (.inl hX)
 ·rintro b ((hb | rfl | hb) | hb)
  ·exact hR.lt b hb
  ·exact Nat.lt_of_lt_of_le (Array.getElem?_eq_some_iff.1 h.rl).1 hR.size
  ·exact hrel.lt b (.inr hb)
  ·exact hrel.lt b (.inl hb)
 ·rintro b o (hb | hb)
  ·exact .inl (.inl (hR.vo b o hb))
  ·obtain ⟨j,oj,hj,hbj,_⟩:=hb;exact .inr ⟨j,oj,hj,hbj⟩
 ·rintro b (hb | rfl | hb) hown
  ·exact hOF b hb (.inl hown)
  ·exact h.sat.loop_not_own h.rl (.inl hown)
  ·obtain ⟨r,h1,_,h2,_⟩:=m1.marks.2 _ hb
   cases h1
   exact m1.own_not hown h2 (fun _ _ _ e=>by cases e) (fun _ _ e=>by cases e)
theorem BI8 (hact:R.act.tmps.size=R.n) (hps:∀ t ∈ R.ps.toList,t < R.n) (hgl:R.gh < 1000) (hts:R.ts.Nodup) {rest:List (List PV)} {live:Bool} {lo:Loop} (h:InG R C C2 s rhoA XI rest live lo) (m1:Sat (C2.plus V) s R.act w rhoA)
 {ys:List PV} {vs:Array Value} (hlen:ys.length=R.ps.size) (hvs:vs.size=ys.length) (hv:∀ i,i < ys.length->RepP w (Prv (C2.plus V).X (A5 s.regs) rhoA) (vs.getD i undef) (ys.getD i default)) :
 Sat (Am7 R C2 s rhoA V w) ⟨AF6 R.ps.toList ys s.env,ins R.gh (.ghost (s.env.map (·.2))) s.regs⟩ { tmps:=(R.ps.toList.zip vs.toList).foldl (fun tmps (q:Nat × Value)=>tmps.setIfInBounds q.1 q.2) R.act.tmps,defers:=[] } w
  (fun i=>if i=R.gh then .tuple (AV6 R.ts R.act.tmps) else rhoA i):=by
 have hkeys:(s.env.map (·.1)).Nodup:=by rw [h.keys];exact hts
 have hE0:SatE (Am7 R C2 s rhoA V w) s.regs w rhoA:=⟨m1.hp,Ext.refl _,Nat.le_refl _,fun _ _ _=>rfl,Keeps.refl _ _,fun b hb=>.inl hb,m1.yld⟩
 obtain ⟨g1,g2,g3⟩:=hE0.add (R':=ins R.gh (.ghost (s.env.map (·.2))) s.regs) h.ng (o:=.ghost (s.env.map (·.2))) (v:=.tuple (AV6 R.ts R.act.tmps)) (fun u=>rfl)
  (fun i=>by rw [B3];by_cases e:i=R.gh <;> simp [e,eq_comm])
  (fun hk hl=>⟨_,rfl,by rw [BZ4, <- h.keys];simp,fun i hi=>by
   have hi' : i < (s.env.map (·.1)).length:=by simpa using hi
   obtain ⟨t,ht⟩:∃ t,(s.env.map (·.1))[i]? = some t:=⟨_,List.getElem?_eq_getElem hi'⟩
   have ht' : R.ts[i]? = some t:=by rw [<- h.keys];exact ht
   rw [Bx1 ht', <- (BT0 s.env t hkeys).1 i ht]
   exact (m1.env t).keeps hk hl⟩)
  (fun r b he=>by cases he)
 have hk:Keeps w (Prv (C2.plus V).X (A5 s.regs) rhoA) w (Prv (Am7 R C2 s rhoA V w).X (A5 (ins R.gh (.ghost (s.env.map (·.2))) s.regs)) (fun i=>if i=R.gh then .tuple (AV6 R.ts R.act.tmps) else rhoA i)):=
  Keeps.of_imp fun b o hp=>(g2 b o).1 hp
 refine ⟨g1, ?_, ?_,List.nodup_nil,fun d hd=>by simp at hd⟩
 ·refine AV5 R.ps.toList ys vs.toList s.env R.act.tmps (by simp [hlen]) (by simp [hvs,hlen]) (fun t ht=>by rw [hact];exact hps t ht) (fun t=>(m1.env t).keeps hk g3) (fun i hi=>?_)
  have:=(hv i hi).keeps hk
  simpa [Array.getD_eq_getD_getElem?,List.getD_eq_getElem?_getD] using this
 ·intro j hj hl
  show (if j=R.gh then Value.tuple (AV6 R.ts R.act.tmps) else rhoA j)=R.rR j
  unfold RP.rR
  by_cases e:j=R.gh
  ·simp [e]
  ·simp only [e,if_false]
   have hl' : Lv (A5 s.regs) j:=by
    simp only [Lv,B3] at hl
    rw [if_neg (Ne.symm e)] at hl;exact hl
   rw [m1.pin j hj hl']
   show C2.rho0 j=R.rA j
   rw [h.r2]
theorem BI9 (hact:R.act.tmps.size=R.n) (hps:∀ t ∈ R.ps.toList,t < R.n) (hgl:R.gh < 1000) (hts:R.ts.Nodup) (casg:AG4 P R.n R.asg) (cbody:AG4 P R.n R.body)
 (hround:∀ ys rest s,s.env.map (·.1)=R.ts->A5 s.regs R.gh=none->R.I (ys :: rest) s->awp (AA0 P) P R.asg (fun e s'=>match e with | .normal=>semUp s' fun s'=>awp (AA0 P) P R.body (Ao1 (AA0 P) R.gh R.ts (R.I rest) R.Q) s' | _=>False) ⟨AF6 R.ps.toList ys s.env,ins R.gh (.ghost (s.env.map (·.2))) s.regs⟩)
 {ys:List PV} {rest:List (List PV)} {lo:Loop} {vs:Array Value} (h:InG R C C2 s rhoA XI (ys :: rest) true lo) (hR:Rel C w O V) (hvs:vs.size=ys.length) (hv:∀ i,i < ys.length->RepP w (fun b o=>C.X b o \/ V b o) (vs.getD i undef) (ys.getD i default)) :
 CP0 P C.yv vs w fun b w'=>∃ C',(∃ C2 s rhoA XI rest live lo,InG R C' C2 s rhoA XI rest live lo)/\C'.yv=C.yv/\C'.rho0=C.rho0/\C'.Y (if b then rest else []) b/\C'.w0=w' /\ C'.E0=O/\(C'.Pi0=fun b o=>C'.X b o \/ V b o)/\Rel C' w' O V /\
  (∀ b,O b->w'.heap[b]? = w.heap[b]?)/\Keeps w (fun b o=>C.X b o \/ V b o) w' (fun b o=>C'.X b o \/ V b o)/\w.heap.size<=w'.heap.size/\Ext w w':=by
 obtain ⟨hlo,hI,hlens⟩:lo=R.lo .ready none/\R.I (ys :: rest) s/\∀ z ∈ ys :: rest,z.length=R.ps.size:=by
  rcases h.st with ⟨_,hlo,hI,hlens⟩ | ⟨hf,_⟩
  ·exact ⟨hlo,hI,hlens⟩
  ·cases hf
 subst hlo
 have hlen:ys.length=R.ps.size:=hlens ys (by simp)
 obtain ⟨m1,m2,m3⟩:=h.sat.moves rfl h.X h.pi hR h.dis h.oc
 have hllt:R.l < C.w0.heap.size:=(Array.getElem?_eq_some_iff.1 h.rl).1
 have hl:w.heap[R.l]? = some (.loop (R.lo .ready none)):=(m3 R.l hllt h.lE).trans h.rl
 have hT:∀ b o,Prv (C2.plus V).X (A5 s.regs) rhoA b o ↔ (C.X b o \/ V b o):=by
  intro b o
  rw [h.X]
  show ((C2.X b o \/ V b o) \/ PvR s.regs rhoA b o) ↔ ((C2.X b o \/ PvR s.regs rhoA b o) \/ V b o)
  constructor
  ·rintro ((h | h) | h)
   ·exact .inl (.inl h)
   ·exact .inr h
   ·exact .inl (.inr h)
  ·rintro ((h | h) | h)
   ·exact .inl (.inl h)
   ·exact .inr h
   ·exact .inl (.inr h)
 have hVO:∀ b o,V b o->R.OS O b:=fun b o hv=>.inl (hR.vo b o hv)
 refine ⟨R.l,R.fn,_,R.asg,R.body,h.yv,run_yield hl (by simp [RP.lo];omega), ?_⟩
 refine roundIn_of_wpIn trivial ?_
 show R.asg.wpIn (FW (some R.l)) 0 P _ { tmps:=(R.ps.zip vs).foldl (fun tmps (x:Tmp × Value)=>match x with | (t,a)=>tmps.setIfInBounds t a) R.act.tmps,defers:=[] } w
 rw [CH0]
 have hs0:=BI8 hact hps hgl hts h m1 hlen hvs (fun i hi=>(hv i hi).keeps (Keeps.of_imp fun b o hp=>(hT b o).1 hp))
 have hL0:=BZ5 h hR m1
 have hro1:CP3 (R.pr.lift R.rA R.rR w (Am7 R C2 s rhoA V w).Pi0 (R.OS O) V hVO) (some R.l):=by
  rintro l' hl' C' ⟨C2',V0,hL⟩
  cases hl'
  exact ⟨_,(hL.os R.l (.inr (.inl rfl))).trans hl,hL.dis R.l (.inr (.inl rfl))⟩
 refine wpIn_mono (casg (R.pr.lift R.rA R.rR w (Am7 R C2 s rhoA V w).Pi0 (R.OS O) V hVO) (some R.l) hro1 _ _ _ _ w _ ⟨C2,_,hL0⟩ hs0 ((BT1 _ _).trans hact) (hround ys rest s h.keys h.ng hI)) ?_
 intro e a1 w1 he
 cases e with
 | exit id=>obtain ⟨_,_,_,_,_,_,hf⟩:=he;exact hf.elim
 | goto t=>obtain ⟨_,_,_,_,_,_,hf⟩:=he;exact hf.elim
 | ret=>obtain ⟨_,_,_,_,_,_,hf⟩:=he;exact hf.elim
 | panic ch=>obtain ⟨_,_,_,_,_,_,_,_,_,_,hf⟩:=he;exact hf.elim
 | outgrown=>exact he.elim
 | normal=>
  obtain ⟨C1,s1',rho1',⟨C2',V1,hL1⟩,hs1',hsz1,hu⟩:=he
  obtain ⟨s1,rho1,hw1,_,hs1⟩:=hu C1 a1 w1 rho1' hs1'
  obtain ⟨j1,j2,j3,j4,j5,j6⟩:=hL1.joint hVO hs1.rel
  have hl1:w1.heap[R.l]? = some (.loop (R.lo .ready none)):=(j2 R.l (.inr (.inl rfl))).trans hl
  refine ⟨w1.putObj R.l (.loop (R.lo .busy none)),run_beginRound hl1 rfl, ?_⟩
  have hsB:=hs1.pokeFresh hl1 (.loop (R.lo .busy none))
  have hl2:(w1.putObj R.l (.loop (R.lo .busy none))).heap[R.l]? = some (.loop (R.lo .busy none)):=World.putObj_heap_same (Array.getElem?_eq_some_iff.1 hl1).1
  have hLB:LiftG R.pr R.rA R.rR (w1.putObj R.l (.loop (R.lo .busy none))) (Prv C1.X (A5 s1.regs) rho1) (R.OS O) V (C1.fresh (w1.putObj R.l (.loop (R.lo .busy none))) (BG9 s1.regs rho1 a1.defers) (Prv C1.X (A5 s1.regs) rho1)) C2' (PvR s1.regs rho1):=
   ⟨hL1.g,hL1.r2,hL1.X,hL1.Y,hL1.yv,hL1.rho,rfl,j1.poke hl1 (.inl (.inr (.inl rfl))) _,fun b _=>rfl,Keeps.refl _ _,j4,Nat.le_refl _,Ext.refl _⟩
  have hro2:CP3 (R.pr.lift R.rA R.rR (w1.putObj R.l (.loop (R.lo .busy none))) (Prv C1.X (A5 s1.regs) rho1) (R.OS O) V hVO) (some R.l):=by
   rintro l' hl' C' ⟨C2',V0,hL⟩
   cases hl'
   exact ⟨_,(hL.os R.l (.inr (.inl rfl))).trans hl2,hL.dis R.l (.inr (.inl rfl))⟩
  have hk2:Keeps w (fun b o=>C.X b o \/ V b o) (w1.putObj R.l (.loop (R.lo .busy none))) (Prv C1.X (A5 s1.regs) rho1):=by
   refine (Keeps.of_imp fun b o hp=>(hT b o).1 hp:Keeps w _ w (Am7 R C2 s rhoA V w).Pi0).trans (j3.trans fun b o v hp hc=>⟨?_,hp⟩)
   rw [<- hc]
   refine World.cell?_of_block (World.putObj_heap_other ?_)
   rintro rfl
   simp [World.cell?,hl1] at hc
  have hb2:∀ b,R.OS O b->b ≠ R.l->(w1.putObj R.l (.loop (R.lo .busy none))).heap[b]? = w.heap[b]?:=fun b hb hne=>(World.putObj_heap_other hne).trans (j2 b hb)
  have hs2:w.heap.size<=(w1.putObj R.l (.loop (R.lo .busy none))).heap.size:=by rw [World.putObj_size];exact j5
  have hx2:Ext w (w1.putObj R.l (.loop (R.lo .busy none))):=j6.trans ⟨rfl,rfl⟩
  show R.body.wpIn (FW (some R.l)) 0 P _ a1 _
  refine wpIn_mono (cbody (R.pr.lift R.rA R.rR (w1.putObj R.l (.loop (R.lo .busy none))) (Prv C1.X (A5 s1.regs) rho1) (R.OS O) V hVO) (some R.l) hro2 _ _ _ _ _ _ ⟨C2',_,hLB⟩ hsB hsz1 hw1) ?_
  have fin:∀ (e:AT5) (c:Code) (a3:Act) (w3:World),CC3 e c->NextOk (R.pr.lift R.rA R.rR (w1.putObj R.l (.loop (R.lo .busy none))) (Prv C1.X (A5 s1.regs) rho1) (R.OS O) V hVO) R.n (fun s=>semUp s fun s=>∃ cs,A5 s.regs R.gh=some (.ghost cs)/\cs.length=R.ts.length/\A5 (del R.gh s.regs) R.gh=none/\R.Q e ⟨T9 R.ts cs,del R.gh s.regs⟩) a3 w3 ->
   ∃ v w',(Instr.endRound R.l (some c)).run P w3=.ok v w' /\ ∃ b:Bool,Ending.returned v=.returned (.bool b)/\∃ C',(∃ C2 s rhoA XI rest live lo,InG R C' C2 s rhoA XI rest live lo)/\C'.yv=C.yv/\C'.rho0=C.rho0/\C'.Y (if b then rest else []) b/\C'.w0=w' /\ C'.E0=O/\(C'.Pi0=fun b o=>C'.X b o \/ V b o)/\Rel C' w' O V /\
    (∀ b,O b->w'.heap[b]? = w.heap[b]?)/\Keeps w (fun b o=>C.X b o \/ V b o) w' (fun b o=>C'.X b o \/ V b o)/\w.heap.size<=w'.heap.size/\Ext w w':=by
   rintro e c a3 w3 hjc ⟨C3,s3,rho3,⟨C2f,V3,hL3⟩,hs3,hsz3,hu3⟩
   obtain ⟨s4,rho4,⟨cs,hgh,hcs,hdel,hQ⟩,_,hs4⟩:=hu3 C3 a3 w3 rho3 hs3
   obtain ⟨C',f1,f2,f3,f4,f5,f6,f7,f8,f9,f10,f11,f12,f13⟩:=CC4 h hR hgl hts hL3 hs4 hgh hcs hdel hk2 hb2 hs2 hx2 hl2 (rest1:=[]) (live1:=false) (lo1:=R.lo .done (some c)) (.inr ⟨rfl,rfl,c,e,rfl,hjc,hQ⟩)
   exact ⟨.bool false,_,run_endRound (some c) f12,false,rfl,C',⟨_,_,_,_,_,_,_,f1⟩,f2,f3,f4,f5,f6,f7,f8,f9,f10,f11,f13⟩
  intro e a3 w3 he
  cases e with
  | normal=>
   obtain ⟨C3,s3,rho3,⟨C2f,V3,hL3⟩,hs3,hsz3,hu3⟩:=he
   obtain ⟨s4,rho4,⟨cs,hgh,hcs,hdel,hI'⟩,_,hs4⟩:=hu3 C3 a3 w3 rho3 hs3
   obtain ⟨C',f1,f2,f3,f4,f5,f6,f7,f8,f9,f10,f11,f12,f13⟩:=CC4 h hR hgl hts hL3 hs4 hgh hcs hdel hk2 hb2 hs2 hx2 hl2 (rest1:=rest) (live1:=true) (lo1:=R.lo .ready none) (.inl ⟨rfl,rfl,hI',fun ys hys=>hlens ys (List.mem_cons_of_mem _ hys)⟩)
   exact ⟨.bool true,_,run_endRound none f12,true,rfl,C',⟨_,_,_,_,_,_,_,f1⟩,f2,f3,f4,f5,f6,f7,f8,f9,f10,f11,f13⟩
  | ret=>exact fin .ret .ret a3 w3 rfl he
  | exit id=>exact fin (.exit id) (.exit id) a3 w3 rfl he
  | goto t=>exact fin (.goto t) (.goto t) a3 w3 rfl he
  | panic ch=>obtain ⟨_,_,_,_,_,_,_,_,_,_,hf⟩:=he;exact hf.elim
  | outgrown=>exact he.elim
end
end Go.AM
set_option linter.unusedVariables false
namespace Go.AM
section
variable {P:Program} {C:Ctx} {st:St} {a:Act} {w:World} {rho:Nat->Value} {𝒢 : Prot P} {n:Nat} {Q:J1} {ro:Option Nat}
def RP.prot (R:RP P) (hact:R.act.tmps.size=R.n) (hps:∀ t ∈ R.ps.toList,t < R.n) (hgl:R.gh < 1000) (hts:R.ts.Nodup) (casg:AG4 P R.n R.asg) (cbody:AG4 P R.n R.body)
 (hround:∀ ys rest s,s.env.map (·.1)=R.ts->A5 s.regs R.gh=none->R.I (ys :: rest) s->awp (AA0 P) P R.asg (fun e s'=>match e with | .normal=>semUp s' fun s'=>awp (AA0 P) P R.body (Ao1 (AA0 P) R.gh R.ts (R.I rest) R.Q) s' | _=>False) ⟨AF6 R.ps.toList ys s.env,ins R.gh (.ghost (s.env.map (·.2))) s.regs⟩):Prot P where
 G:=fun C=>∃ C2 s rhoA XI rest live lo,InG R C C2 s rhoA XI rest live lo
 tab:=by
  rintro C ⟨C2,s,rhoA,XI,rest,live,lo,h⟩
  refine ((R.pr.tab C2 h.g).keeps h.sat.keep).keeps (Keeps.of_imp fun b o hp=>?_)
  rw [h.pi,h.X] at hp
  rcases hp with (hp | hp) | hp
  ·exact .inl (.inl hp)
  ·exact .inr hp
  ·exact .inl (.inr hp)
 call:=by
  rintro C w O V ys rest vs ⟨C2,s,rhoA,XI,rest0,live,lo,h⟩ hR hY hvs hv
  rw [h.Y] at hY
  obtain ⟨rfl,rfl⟩:=hY
  exact BI9 hact hps hgl hts casg cbody hround h hR hvs hv
theorem Sat.mark (h:Sat C st a w rho) {w' : World} (hsz:w.heap.size<=w'.heap.size) (hheap:∀ b,b < w.heap.size->w'.heap[b]? = w.heap[b]?) (hxt:Ext w w') {mk:List Deferred}
 (hm:mk=[] \/ ∃ r,mk=[{ target:=.collected r,args:=#[] }]/\w.heap.size<=r/\w'.heap[r]? = some (.deferred (some []))):Sat C st { a with defers:=mk ++ a.defers } w' rho:=by
 obtain ⟨h1,_⟩:=h.grow hsz hheap hxt
 rcases hm with rfl | ⟨r,rfl,hr,hd⟩
 ·exact h1
 ·refine ⟨h1.toSatE,h1.env,h1.pin, ?_, ?_⟩
  ·refine List.nodup_cons.2 ⟨fun hmem=>?_,h.marks.1⟩
   obtain ⟨r',e1,_,e2,_⟩:=h.marks.2 _ hmem
   cases e1
   have:=(Array.getElem?_eq_some_iff.1 e2).1;omega
  ·intro d hd'
   rcases List.mem_cons.1 hd' with rfl | hd'
   ·exact ⟨r,rfl, .inr (Nat.le_trans h.size hr),hd,fun off hX=>by have:=h.hp.bound r off hX;omega⟩
   ·exact h1.marks.2 d hd'
theorem Bx2 {f:FuncId} {vs:Array Value} {fn:Func} (hf:P.funcs[f]? = some fn) (hb:fn.body.isSome=true) (hname:(fn.name == "runtime.NumGoroutine")=false):(callFunc f vs).run P w=.ok (.enter f vs) w:=by
 have hn' : ¬ fn.name = "runtime.NumGoroutine" := by simpa using hname
 obtain ⟨c,hc⟩:=Option.isSome_iff_exists.1 hb
 simp [callFunc,hf,hn',hc]
set_option maxHeartbeats 2000000 in
theorem BJ0 {g:Operand} {ps:Array Tmp} {asg body:Code} (hps:(ps.toList.all fun t=>Nat.blt t n)=true) (casg:AG4 P n asg) (cbody:AG4 P n body):AG4 P n (.rangeFunc g ps asg body):=by
 intro 𝒢 ro hro Q C st a w rho hG h hsz hw
 obtain ⟨f,first,caps,as,bs,objs,ids,ts,gh,L,I,Fin,h1,⟨fn,hfn,hfb,hfname⟩,hny,hd,hr1,hr2,hob,hgl,hng,hids,hts,hlens,hup,hround,hend,hF⟩:=hw
 refine wpIn_rangeFunc ?_
 intro fid _
 obtain ⟨l,mk,D,w1,hent,hxt,hl,hlsz,hwsz,hheap,hmk⟩:∃ (l:Nat) (mk:List Deferred) (D:Nat) (w1:World),(Instr.enterLoop fid a.tmps ps asg body ro).run P w=.ok (l,mk) w1/\Ext w w1 /\
  w1.heap[l]? = some (.loop { state:=.ready,pending:=none,fn:=fid,tmps:=a.tmps,params:=ps,assign:=asg,body:=body,defers:=D })/\w.heap.size<=l/\w.heap.size<=w1.heap.size/\(∀ b,b < w.heap.size->w1.heap[b]? = w.heap[b]?) /\
  (mk=[] \/ ∃ r,mk=[{ target:=.collected r,args:=#[] }]/\w.heap.size<=r/\w1.heap[r]? = some (.deferred (some []))):=by
  cases ro with
  | none=>
   refine ⟨_,_,w.heap.size,_,run_enterLoop_outer fid a.tmps ps asg body,⟨rfl,rfl⟩, ?_,by omega,by simp;omega, ?_, .inr ⟨w.heap.size,rfl,Nat.le_refl _, ?_⟩⟩
   ·have:=World.alloc_heap_new (w.alloc (.deferred (some []))) (.loop { state:=.ready,pending:=none,fn:=fid,tmps:=a.tmps,params:=ps,assign:=asg,body:=body,defers:=w.heap.size })
    simpa using this
   ·intro b hb
    rw [heap_alloc_old _ _ b (by simp;omega),heap_alloc_old _ _ b hb]
   ·rw [heap_alloc_old _ _ _ (by simp)]
    exact World.alloc_heap_new w _
  | some l0=>
   obtain ⟨r,hr,hE⟩:=hro l0 rfl C hG
   have hr' : w.heap[l0]? = some (.loop r):=by
    rw [h.same l0 (Array.getElem?_eq_some_iff.1 hr).1 hE];exact hr
   refine ⟨w.heap.size, [],r.defers,w.alloc (.loop { state:=.ready,pending:=none,fn:=fid,tmps:=a.tmps,params:=ps,assign:=asg,body:=body,defers:=r.defers }), ?_,⟨rfl,rfl⟩,World.alloc_heap_new w _,Nat.le_refl _,by simp,fun b hb=>heap_alloc_old _ _ b hb, .inl rfl⟩
   unfold Instr.enterLoop
   simp only [Sem.run_bind,run_getLoop hr',Result.andThen,Sem.run_pure,run_newObj_alloc]
 have hA:=h.mark hwsz hheap hxt hmk
 obtain ⟨act,hact⟩:∃ act:Act,act={ a with defers:=mk ++ a.defers }:=⟨_,rfl⟩
 have hacts:act.tmps.size=n:=by rw [hact];exact hsz
 rw [<- hact] at hA
 obtain ⟨x,y,hx,hrx,hry⟩:=BI5 hA h1
 have hxy:=RepV.append hrx hry
 obtain ⟨hobl,hobg⟩:=W1 hob
 obtain ⟨args0,hargs0,hrl⟩:∃ args0,Aj5 ids (first ++ caps)=some args0/\args0=as ++ bs:=by
  have:∀ (l m l' m' : List AV),Aj5 ids l=some l' -> Aj5 ids m=some m' -> Aj5 ids (l ++ m)=some (l' ++ m'):=by
   intro l
   induction l with
   | nil=>intro m l' m' hl hm;simp only [Aj5,Option.some.injEq] at hl;subst hl;simpa using hm
   | cons z l ih=>
    intro m l' m' hl hm
    simp only [Aj5] at hl
    split at hl
    ·rename_i z' l2 hz hl2
     cases hl
     simp only [List.cons_append,Aj5,hz,ih m l2 m' hl2 hm]
    ·cases hl
  exact ⟨_,this _ _ _ _ hr1 hr2,rfl⟩
 subst hrl
 have hS1:=AN9 hA hd hob hny trivial hargs0 (vs:=x ++ y) hxy.1 hxy.2
 have hidx:∀ j ∈ ids,Lv (A5 st.regs) j:=by
  intro j hj
  obtain ⟨p,hp⟩:=List.mem_iff_getElem?.1 hj
  obtain ⟨o,_,ho,_⟩:=hobg p j hp
  simp [Lv,ho]
 obtain ⟨VI,hVI⟩:∃ VI:Nat->Nat->Prop,VI=fun b off=>∃ j o,j ∈ ids/\A5 st.regs j=some o/\G8 (rho j) o=some b/\AK2 o off:=⟨_,rfl⟩
 obtain ⟨hsus,hsuspi⟩:=hA.suspend hd (E:=T9 ts (ts.map (get st.env))) (V:=VI) (fun t=>by
  obtain ⟨e1,e2⟩:=AV4 ts (ts.map (get st.env)) t (by simp) hts
  by_cases hm:t ∈ ts
  ·obtain ⟨i,hi⟩:=List.mem_iff_getElem?.1 hm
   exact .inl (by rw [e1 i hi,List.getD_eq_getElem?_getD,List.getElem?_map,hi];rfl)
  ·exact .inr (e2 hm)) (fun b off=>by rw [hVI]) hidx
 obtain ⟨s1,rho1,⟨hk1,hn1,hI1⟩,hup1,hs1⟩:=hup _ act w1 rho hsus
 obtain ⟨rI,hrI⟩:∃ rI:Nat->Value,rI=fun p=>if p=ids.length then .func (.yield l) #[] #[] else rho (ids.getD p 0):=⟨_,rfl⟩
 obtain ⟨R,hRdef⟩:∃ R:RP P,R={ pr:=𝒢,n:=n,Q:=Q,act:=act,l:=l,fn:=fid,D:=D,rA:=C.rho0,r0:=rI,ts:=ts,gh:=gh,I:=I,ps:=ps,asg:=asg,body:=body }:=⟨_,rfl⟩
 obtain ⟨CI,hCI⟩:∃ CI:Ctx,CI={ X:=fun b o=>C.X b o \/ PvR s1.regs rho1 b o,w0:=w1,E0:=fun b=>∃ j o,j ∈ ids/\A5 st.regs j=some o/\G8 (rho j) o=some b,Pi0:=fun b o=>(C.X b o \/ PvR s1.regs rho1 b o) \/ VI b o,rho0:=rI,Y:=fun r b=>r=L/\b=true,yv:=.func (.yield l) #[] #[] }:=⟨_,rfl⟩
 have hlC:C.E0 l \/ C.w0.heap.size<=l:=.inr (Nat.le_trans h.size hlsz)
 have hVIx:∀ b,CI.E0 b->∃ off,VI b off:=by
  intro b hb
  subst hCI
  obtain ⟨j,o,hj,ho,hbo⟩:=hb
  cases o with
  | vec e k m f vw=>
   refine ⟨m * k, ?_⟩
   rw [hVI]
   refine ⟨j,_,hj,ho,hbo, ?_⟩
   cases vw
   ·trivial
   ·exact Nat.le_refl _
  | cells cs=>exact ⟨0,by rw [hVI];exact ⟨j,_,hj,ho,hbo,trivial⟩⟩
  | map es=>exact ⟨0,by rw [hVI];exact ⟨j,_,hj,ho,hbo,trivial⟩⟩
  | arr n f=>exact ⟨0,by rw [hVI];exact ⟨j,_,hj,ho,hbo,trivial⟩⟩
  | ghost cs=>simp [G8] at hbo
  | yld r b=>simp [G8] at hbo
  | dead=>simp [G8] at hbo
 have hEl:∀ b,CI.E0 b->b < w1.heap.size/\b < w.heap.size:=by
  intro b hb
  subst hCI
  obtain ⟨j,o,hj,ho,hbo⟩:=hb
  have:=(h.hp.holds j o ho).lt hbo
  exact ⟨by omega,this⟩
 have hin:InG R CI C s1 rho1 VI L true (R.lo .ready none):=by
  subst hRdef
  refine ⟨hG,rfl,by subst hCI;exact hs1,by subst hCI;rfl,by subst hCI;rfl, ?_, ?_, ?_, ?_,hlC,fun off hX=>?_, ?_,by subst hCI;rfl,by subst hCI;rfl,by subst hCI;rfl,hk1,hn1, .inl ⟨rfl,rfl,hI1,hlens⟩⟩
  ·rintro b hb (hF | hF)
   ·obtain ⟨off,hv⟩:=hVIx b hb
    obtain ⟨i,oi,hi,hbi⟩:=hF
    exact hs1.hp.out i oi b off hi hbi (.inr hv)
   ·subst hCI
    obtain ⟨j,o,hj,ho,hbo⟩:=hb
    obtain ⟨r,e1,_,e2,_⟩:=hA.marks.2 _ hF
    cases e1
    exact (hA.hp.holds j o ho).kind hbo e2
  ·intro b hb
   subst hCI
   obtain ⟨j,o,hj,ho,hbo⟩:=hb
   exact h.own b ⟨j,o,ho,hbo⟩
  ·intro b hb
   have:=(hEl b hb).1
   subst hCI;exact this
  ·have e:RP.lo { pr:=𝒢,n:=n,Q:=Q,act:=act,l:=l,fn:=fid,D:=D,rA:=C.rho0,r0:=rI,ts:=ts,gh:=gh,I:=I,ps:=ps,asg:=asg,body:=body } .ready none={ state:=.ready,pending:=none,fn:=fid,tmps:=a.tmps,params:=ps,assign:=asg,body:=body,defers:=D }:=by
    simp [RP.lo,hact]
   rw [e];subst hCI;exact hl
  ·have:=h.hp.bound l off hX;omega
  ·intro hE
   have:=(hEl l hE).2;omega
 have hne:ids.length ∉ List.range ids.length:=by simp
 have hrgI:∀ p,A5 (objRegs (objs ++ [.yld L true])) p=if p=ids.length then some (.yld L true) else A5 (objRegs objs) p:=by
  intro p
  rw [D0,D0]
  by_cases e:p=ids.length
  ·subst e;rw [if_pos rfl, <- hobl];simp
  ·rw [if_neg e]
   by_cases hlt:p < objs.length
   ·rw [List.getElem?_append_left hlt]
   ·rw [List.getElem?_eq_none (by simp;omega),List.getElem?_eq_none (by omega)]
 have hT:∀ b o,(CI.X b o \/ VI b o)->Prv C.X (A5 st.regs) rho b o:=by
  intro b o hp
  refine (hsuspi b o).1 (hup1 b o ?_)
  subst hCI
  rcases hp with (hp | hp) | hp
  ·exact .inl (.inl hp)
  ·exact .inr hp
  ·exact .inl (.inr hp)
 have hprI:∀ b off,Prv CI.X (A5 (objRegs objs)) (fun p=>rho (ids.getD p 0)) b off ↔ (CI.X b off \/ VI b off):=by
  intro b off
  refine or_congr Iff.rfl ?_
  rw [hVI]
  constructor
  ·rintro ⟨p,o',hp,hb,hpr⟩
   rw [D0] at hp
   have hlt:p < ids.length:=by rw [<- hobl];exact (List.getElem?_eq_some_iff.1 hp).1
   obtain ⟨o,o2,e1,e2,e3⟩:=hobg p _ (List.getElem?_eq_getElem hlt)
   rw [hp] at e3;cases e3
   simp only [Ai7 (List.getElem?_eq_getElem hlt),W0 e2] at hb
   exact ⟨_,o,List.getElem_mem hlt,e1,hb,(AG3 e2 off).1 hpr⟩
  ·rintro ⟨j,o,hj,ho,hb,hpr⟩
   obtain ⟨p,hp⟩:=List.mem_iff_getElem?.1 hj
   obtain ⟨o1,o2,e1,e2,e3⟩:=hobg p j hp
   rw [ho] at e1;cases e1
   refine ⟨p,o2,by rw [D0];exact e3, ?_,(AG3 e2 off).2 hpr⟩
   simp only [Ai7 hp,W0 e2];exact hb
 have hkI:Keeps w1 (Prv (C.callee st.regs w1 rho ids).X (A5 (objRegs objs)) (fun p=>rho (ids.getD p 0))) w1 (Prv CI.X (A5 (objRegs objs)) (fun p=>rho (ids.getD p 0))):=
  Keeps.of_imp fun b o hp=>(Bi3 hob b o).2 (hT b o ((hprI b o).1 hp))
 have hEI:SatE CI (objRegs objs) w1 (fun p=>rho (ids.getD p 0)):=by
  refine ⟨⟨fun p o hp=>(hS1.hp.holds p o hp).keeps hkI (fun j hj=>⟨hj,rfl⟩) fun b _=>rfl,hS1.hp.sep, ?_, ?_⟩,by subst hCI;exact Ext.refl _,by subst hCI;exact Nat.le_refl _,by subst hCI;exact fun b _ _=>rfl, ?_, ?_, ?_⟩
  ·intro p o b off hp hb hX
   have hE:CI.E0 b:=by
    rcases hS1.own b ⟨p,o,hp,hb⟩ with h1 | h1
    ·subst hCI;exact h1
    ·have:=(hS1.hp.holds p o hp).lt hb
     have h1:w1.heap.size<=b:=h1
     omega
   have hd':=hin.dis b hE
   obtain ⟨off',hv⟩:=hVIx b hE
   subst hCI
   rcases hX with hX | ⟨i,oi,hi,hbi,_⟩
   ·rw [hVI] at hv
    obtain ⟨j,oj,hj,ho,hbo,_⟩:=hv
    exact h.hp.out j oj b off ho hbo hX
   ·exact hd' (.inl ⟨i,oi,hi,hbi⟩)
  ·intro b off hX
   subst hCI
   rcases hX with hX | ⟨i,oi,hi,hbi,_⟩
   ·have:=h.hp.bound b off hX;omega
   ·exact (hs1.hp.holds i oi hi).lt hbi
  ·have:CI.Pi0=fun b o=>CI.X b o \/ VI b o:=by subst hCI;rfl
   rw [this]
   have hw0:CI.w0=w1:=by subst hCI;rfl
   rw [hw0]
   exact Keeps.of_imp fun b o hp=>(hprI b o).1 hp
  ·intro b hb
   rcases hS1.own b hb with h1 | h1
   ·exact .inl (by subst hCI;exact h1)
   ·exact .inr (by subst hCI;exact h1)
  ·intro p r b hp
   exact absurd (hS1.yld p r b hp).1 (fun h=>h)
 obtain ⟨g1,g2,g3⟩:=hEI.add (R':=objRegs (objs ++ [.yld L true])) (j:=ids.length) (by rw [D0,List.getElem?_eq_none (by omega)]) (o:=.yld L true) (v:=.func (.yield l) #[] #[]) (fun u=>rfl) hrgI
  (fun _ _=>⟨l,rfl⟩) (fun r b he=>by cases he;subst hCI;exact ⟨⟨rfl,rfl⟩,rfl⟩)
 have hrIeq:(fun i=>if i=ids.length then Value.func (.yield l) #[] #[] else rho (ids.getD i 0))=rI:=by rw [hrI]
 rw [hrIeq] at g1 g2
 have g3' : ∀ i,Lv (A5 (objRegs objs)) i->Lv (A5 (objRegs (objs ++ [.yld L true]))) i/\rI i=rho (ids.getD i 0):=fun i hi=>by
  have:=g3 i hi
  rw [hrI];exact this
 have hyvI:rI ids.length=.func (.yield l) #[] #[]:=by rw [hrI];simp
 have hkA:Keeps w1 (PiS C st rho) w1 (Prv CI.X (A5 (objRegs (objs ++ [.yld L true]))) rI):=Keeps.of_imp fun b o hp=>hT b o ((hprI b o).1 ((g2 b o).1 hp))
 have hrenI:∀ p j:Nat,ids[p]? = some j->Lv (A5 st.regs) j->Lv (A5 (objRegs (objs ++ [.yld L true]))) p/\rI p=rho j:=by
  intro p j hp _
  obtain ⟨o,o2,e1,e2,e3⟩:=hobg p j hp
  obtain ⟨q1,q2⟩:=g3' p (by simp [Lv,D0,e3])
  exact ⟨q1,by rw [q2,Ai7 hp]⟩
 have hlvI:Lv (A5 (objRegs (objs ++ [.yld L true]))) ids.length:=by simp [Lv,hrgI]
 have ren:∀ {vs:Array Value} {l l' : List AV},RepV w1 (PiS C st rho) (Lv (A5 st.regs)) rho vs l->Aj5 ids l=some l' -> RepV w1 (Prv CI.X (A5 (objRegs (objs ++ [.yld L true]))) rI) (Lv (A5 (objRegs (objs ++ [.yld L true])))) rI vs l':=by
  intro vs l l' hv hr
  obtain ⟨e1,e2⟩:=Ag4 hr
  exact ⟨hv.1.trans e1,fun i hi=>(hv.2 i (by omega)).ren hkA hrenI (e2 i (by omega))⟩
 have hvals:RepV w1 (Prv CI.X (A5 (objRegs (objs ++ [.yld L true]))) rI) (Lv (A5 (objRegs (objs ++ [.yld L true])))) rI (x ++ #[.func (.yield l) #[] #[]] ++ y) (as ++ [.yf ids.length] ++ bs):=
  RepV.append (RepV.append (ren hrx hr1) ⟨rfl,fun i hi=>by
   simp only [List.length_singleton] at hi
   obtain rfl:i=0:=by omega
   exact .yf ids.length l hlvI hyvI⟩) (ren hry hr2)
 have hvals' : as ++ [.yf ids.length] ++ bs=as ++ .yf ids.length :: bs:=by simp
 rw [hvals'] at hvals
 have hSI:Sat CI ⟨argEnv (as ++ .yf ids.length :: bs),objRegs (objs ++ [.yld L true])⟩ ⟨x ++ #[.func (.yield l) #[] #[]] ++ y, []⟩ w1 rI:=by
  refine ⟨g1,fun t=>?_,fun j _ _=>by subst hCI;rfl,List.nodup_nil,fun d hd=>by simp at hd⟩
  show RepA w1 _ _ rI _ (get (argEnv (as ++ .yf ids.length :: bs)) t)
  rw [Ab9]
  by_cases ht:t < (as ++ .yf ids.length :: bs).length
  ·exact hvals.2 t ht
  ·rw [List.getD_eq_getElem?_getD,List.getElem?_eq_none (by omega)];exact .top _
 have hpsn:∀ t ∈ R.ps.toList,t < R.n:=by
  subst hRdef
  intro t ht
  rw [List.all_eq_true] at hps
  have:=hps t ht
  simpa using this
 have hRact:R.act=act:=by subst hRdef;rfl
 have hRl:R.l=l:=by subst hRdef;rfl
 have hcall:=hF (RP.prot R (by subst hRdef;exact hacts) hpsn (by subst hRdef;exact hgl) (by subst hRdef;exact hts) (by subst hRdef;exact casg) (by subst hRdef;exact cbody) (by subst hRdef;exact hround)) CI w1 _ rI ⟨C,s1,rho1,VI,L,true,_,hin⟩ hSI hvals.1
 obtain ⟨nx,w2,hrun,hcall⟩:=hcall
 rw [Bx2 hfn hfb hfname] at hrun
 cases hrun
 have hev:a.eval g=.func (.func f) x y:=by rw [hact] at hx;exact hx
 have hres:(resolve a.eval (rangeCall g l) 0).run P w1=.ok { target:=.fn (.func f) y,args:=x ++ #[.func (.yield l) #[] #[]] } w1:=by
  have e1:(rangeCall g l).args.map a.eval = #[.func (.yield l) #[] #[]]:=by simp [Act.eval]
  have e2:resolve a.eval (rangeCall g l) 0=Deferred.ofValue (a.eval g) #[.func (.yield l) #[] #[]]:=by
   rw [<- e1];rfl
  rw [e2,hev]
  simp [Deferred.ofValue]
 have hinv:(invoke (.fn (.func f) y) (x ++ #[.func (.yield l) #[] #[]])).run P w1=.ok (.enter f (x ++ #[.func (.yield l) #[] #[]] ++ y)) w1:=by
  simp only [invoke]
  exact Bx2 hfn hfb hfname
 have hcall2:CallsIn (FW ro) (0 - 1) P f (x ++ #[.func (.yield l) #[] #[]] ++ y) w1 (rangePost (FW ro) 0 P l (WP 𝒢 n Q) { a with defers:=mk ++ a.defers }):=by
  refine (Bi5 hcall).mono ?_
  rintro e w' ⟨C',r,objs',ks,rho',⟨C2,s2,rhoA2,XI2,rest2,live2,lo2,hin2⟩,⟨b,hb1,_,hFin,hb2⟩,hE,hend',_⟩
  rw [<- hact]
  obtain ⟨hY,_⟩:=hE.yld ids.length [] b (by rw [D0];exact hb1)
  rw [hin2.Y] at hY
  obtain ⟨hr2',hb'⟩:=hY
  subst hb'
  have hrel:Rel C' w' (Own (A5 (objRegs objs')) rho') (PvR (objRegs objs') rho'):=
   ⟨hE.ext,hE.size,hE.same,hE.keep,hE.own,fun b off ⟨j,o,hj,hb⟩=>hE.hp.out j o b off hj hb,fun b hb=>hE.hp.lt hb,hE.hp.bound,fun b o ⟨j,oj,hj,hb,_⟩=>⟨j,oj,hj,hb⟩⟩
  obtain ⟨n1,_,n3⟩:=hin2.sat.moves rfl hin2.X hin2.pi hrel hin2.dis hin2.oc
  obtain ⟨n4,n5⟩:=n1.minus
  have hl' : w'.heap[R.l]? = some (.loop lo2):=(n3 R.l (Array.getElem?_eq_some_iff.1 hin2.rl).1 hin2.lE).trans hin2.rl
  rw [hRl] at hl'
  have hG2 : 𝒢.G C2:=by have:=hin2.g;subst hRdef;exact this
  have hlown:C2.E0 l \/ C2.w0.heap.size<=l:=by have:=hin2.lown;rw [hRl] at this;exact this
  rw [hRact] at n4
  cases r with
  | ret v'=>
   obtain ⟨v,rfl,_⟩:=hend'
   rcases hin2.st with ⟨hlv1,hlo,hI2,_⟩ | ⟨_,_,c,e,hlo,hj,hQ⟩
   ·refine ⟨none,w'.putObj l (.loop { lo2 with state:=.exhausted }), ?_, ?_⟩
    ·rw [run_endLoop hl' (by rw [hlo];simp [RP.lo])]
     rw [hlo];rfl
    ·refine ⟨C2,s2,rhoA2,hG2,(n4.poke hl' _ hlown).1,hacts, ?_⟩
     rw [<- hr2'] at hI2
     exact hend s2 (.ret v') (by have:=hin2.keys;subst hRdef;exact this) (by have:=hin2.ng;subst hRdef;exact this) (by subst hRdef;exact hI2) (hlv1 ▸ hFin)
   ·refine ⟨some c,w'.putObj l (.loop { lo2 with state:=.exhausted }), ?_, ?_⟩
    ·rw [run_endLoop hl' (by rw [hlo];simp [RP.lo])]
     rw [hlo];rfl
    ·have hnx:NextOk 𝒢 n (Q e) act (w'.putObj l (.loop { lo2 with state:=.exhausted })):=⟨C2,s2,rhoA2,hG2,(n4.poke hl' _ hlown).1,hacts,by subst hRdef;exact hQ⟩
     cases e with
     | ret=>cases hj;exact wpIn_ret hnx
     | exit id=>cases hj;exact wpIn_exit hnx
     | goto t=>cases hj;exact wpIn_goto hnx
     | normal=>exact hj.elim
     | panic x=>exact hj.elim
  | panic x=>
   obtain ⟨v,rfl,hv⟩:=hend'
   rcases hin2.st with ⟨hlv1,hlo,hI2,_⟩ | ⟨hlv,_⟩
   ·refine ⟨C2,s2,rhoA2,v,x,rfl,hG2,n4,hacts,hv.keeps (Keeps.of_imp ?_), ?_⟩
    ·intro b o hp
     exact .inl (by rw [hin2.X];exact hp)
    ·rw [<- hr2'] at hI2
     exact hend s2 (.panic x) (by have:=hin2.keys;subst hRdef;exact this) (by have:=hin2.ng;subst hRdef;exact this) (by subst hRdef;exact hI2) (hlv1 ▸ hFin)
   ·obtain ⟨z,hz⟩:=hb2 hlv
    cases hz
 exact ⟨l,mk,w1,_,w1,f,_,w1,hent,hres,fun _ _=>trivial,hinv,fun h=>by simp [FW,Fence.wide] at h,hcall2⟩
theorem BZ6 (n:Nat) (c:Code) (hok:Y6 n c=true):AG4 P n c:=BI7 (fun _ _ _ _ hps=>BJ0 hps) c hok
theorem CP5 (P:Program):I2 (AA0 P) P where
 refl:=fun s K h=>semUp.refl h
 trans:=fun s K h=>semUp.trans h
 mono:=fun s K K' hk h=>semUp.mono hk h
 bool:=fun st t b K hg h=>semUp.bool hg h
 nil:=fun st t k n f K hg h1 h2=>semUp.nil hg h1 h2
 frz:=fun st j ps K hj hK=>semUp.frz hj hK
 trunc:=fun st j j' n N k e f K h1 h2 h3 h4 hK=>semUp.trunc h1 h2 h3 h4 hK
 toArr:=fun st j n f K hj hK=>semUp.toArr hj hK
 ofArr:=fun st j n f K hj hK=>semUp.ofArr hj hK
 le:=fun ids s t K hle hK=>semUp.le hle hK
 eqv:=fun s t K h1 h2 hK=>semUp.eqv h1 h2 hK
 func:=fun f fn code args objs Q hf hb hname hok hn ho hw=>BZ3 (fun c=>BZ6 _ c) hf hb hname rfl hok hn ho hw
 argLe:=fun f args args' objs Q hle h 𝒢 C w vs rho hG hS hvs=>by
  have hlen:∀ {l m:List AV},Bu9 l m->l.length=m.length:=by
   intro l
   induction l with
   | nil=>intro m h;cases m with
    | nil=>rfl
    | cons=>exact h.elim
   | cons a r ih=>intro m h;cases m with
    | nil=>exact h.elim
    | cons b s=>simp only [List.length_cons,ih h.2]
  have hget:∀ {w:World} {Pi:Nat->Nat->Prop} {live:Nat->Prop} {rho:Nat->Value} {v:Value} {l m:List AV},Bu9 l m->∀ t,RepA w Pi live rho v (l.getD t .top)->RepA w Pi live rho v (m.getD t .top):=by
   intro w Pi live rho v l
   induction l with
   | nil=>intro m h t ht;cases m with
    | nil=>exact ht
    | cons=>exact h.elim
   | cons a r ih=>intro m h t ht;cases m with
    | nil=>exact h.elim
    | cons b s=>
     cases t with
     | zero=>
      rcases h.1 with rfl | ⟨x,y,rfl,rfl,hl⟩
      ·exact ht
      ·exact .p _ _ (ht.toP.leP hl)
     | succ t=>exact ih h.2 t ht
  exact h 𝒢 C w vs rho hG ⟨hS.toSatE,fun t=>by
   have:=hS.env t
   rw [Ab9] at this ⊢
   exact hget hle t this,hS.pin,hS.marks⟩ (hvs.trans (hlen hle))
 monoF:=fun f args objs Q Q' hq h 𝒢 C w vs rho hG hS hvs=>(h 𝒢 C w vs rho hG hS hvs).mono fun e w' ⟨C',r,objs',ks,rho',h1,h2,h3⟩=>⟨C',r,objs',ks,rho',h1,hq _ _ _ h2,h3⟩
end
end Go.AM
set_option linter.unusedVariables false
namespace Go.AM
inductive Cls where
 | n | r | w
 | l (js:List Nat) | a (js:List Nat)
 deriving DecidableEq,Inhabited
def CH1:Cls->Cls->Bool
 | .n,_ | _, .n | .r, .r | .r, .l _ | .l _, .r | .l _, .l _=>false
 | .l i, .a j | .a i, .l j | .a i, .a j=>i.any fun q=>j.contains q
 | _,_=>true
def AG6 (q:Nat):Cls->Bool
 | .w=>true
 | .a js=>js.contains q
 | _=>false
def Cj5 (q:Nat):Cls->Bool
 | .n=>false
 | .l js | .a js=>js.contains q
 | _=>true
theorem As1 {q:Nat} {c d:Cls} (h:AG6 q c=true) (h' : Cj5 q d=true):CH1 c d=true/\CH1 d c=true:=by
 have hm:∀ {i j:List Nat},i.contains q=true->j.contains q=true->(i.any fun q=>j.contains q)=true:=fun hi hj=>List.any_eq_true.2 ⟨q,by simpa using hi,hj⟩
 cases c with
 | w=>cases d <;> first | (cases h';done) | exact ⟨rfl,rfl⟩
 | a i=>
  cases d with
  | n=>cases h'
  | l j=>exact ⟨hm h h',hm h' h⟩
  | a j=>exact ⟨hm h h',hm h' h⟩
  | _=>exact ⟨rfl,rfl⟩
 | _=>cases h
theorem AE5 {q:Nat} {c:Cls} (h:AG6 q c=true):Cj5 q c=true:=by cases c <;> first | (cases h;done) | exact h | rfl
def BZ7 (acc:List (List Nat)) (o:Oper):List Nat:=(o.after.toList.filter Ak6).flatMap fun e=>e.on :: acc.getD e.on []
def Bo7:List Oper->List (List Nat)->List (List Nat)
 | [],acc=>acc
 | o :: r,acc=>Bo7 r (acc ++ [BZ7 acc o])
def CP6 (ops:List Oper):List (List Nat):=Bo7 ops []
def BJ1:Operand->List Nat
 | .tmp t=>[t]
 | _=>[]
def reads (ops:List Oper) (o:Oper):List Nat:=o.op.operands.toList.flatMap BJ1 ++ match o.guard with
 | some (j,_)=>[AB0 ops j]
 | none=>[]
def Aw6 (ops:List Oper) (ci cj:Cls) (oi oj:Oper):Bool:=
 !CH1 ci cj &&
 (match oi.dst with | some d=>!(reads ops oj).contains d && decide (oj.dst ≠ some d) | none=>true) &&
 (match oj.dst with | some d=>!(reads ops oi).contains d | none=>true)
def AO3 (ops:List Oper) (cls:List Cls):Bool:=
 AB5 ops && (cls.length == ops.length) &&
 (List.range ops.length).all fun j=>(List.range j).all fun i=>
  match ops[i]?,ops[j]? with
  | some oi,some oj=>((CP6 ops).getD j []).contains i || Aw6 ops (cls.getD i .n) (cls.getD j .n) oi oj
  | _,_=>true
def isP:AV->Bool
 | .p _=>true
 | _=>false
def isN (env:Env):Op->Bool
 | .move _ | .assign _ | .pick .. | .build .. | .nilCheck _ | .binOp .. | .unOp .. | .fieldAddr .. | .field .. | .index .. | .extract .. | .makeFunc ..=>true
 | .load _ a=>isP (aev env a)
 | .convert _ _ x=>isP (aev env x)
 | .makeInterface _ x=>isP (aev env x)
 | .indexAddr _ x _=>isP (aev env x)
 | .slice _ x _ _ _=>isP (aev env x)
 | .lookup _ m k _=>isP (aev env m) && isP (aev env k)
 | .call { callee:=.builtin .len,args, .. }=>args.toList.all fun x=>isP (aev env x)
 | .call { callee:=.builtin .min, .. } | .call { callee:=.builtin .max, .. }=>true
 | _=>false
section
variable {P:Program}
theorem Bo8 {env:Env} {R R' : D2} {d:Nat} {o:Op} {c:List Prop} {v:AV} (hn:isN env o=true) (h:aop P env R d o=some ⟨c,v,R'⟩):R' = R/\∀ R2,aop P env R2 d o=some ⟨c,v,R2⟩:=by
 cases o with
 | move x=>simp only [aop,Option.some.injEq,Out.mk.injEq] at h ⊢;obtain ⟨rfl,rfl,rfl⟩:=h;simp
 | assign x=>simp only [aop,Option.some.injEq,Out.mk.injEq] at h ⊢;obtain ⟨rfl,rfl,rfl⟩:=h;simp
 | pick x y z=>
  simp only [aop] at h ⊢
  split at h <;> simp_all
 | build t ps=>
  simp only [aop] at h ⊢
  split at h
  ·split at h <;> simp_all
  ·cases h
 | nilCheck x=>
  simp only [aop] at h ⊢
  split at h <;> simp_all
 | binOp op t x y yt=>
  simp only [aop] at h ⊢
  split at h <;> simp_all
 | unOp op t x=>
  simp only [aop] at h ⊢
  split at h <;> simp_all
 | fieldAddr t x f=>
  simp only [aop] at h ⊢
  split at h <;> simp_all
 | field t x f=>
  simp only [aop] at h ⊢
  split at h <;> simp_all
 | index t x i=>
  simp only [aop] at h ⊢
  split at h
  ·split at h <;> simp_all
  ·cases h
 | extract x i=>
  simp only [aop] at h ⊢
  split at h
  ·split at h <;> simp_all
  ·cases h
 | makeFunc f a b=>
  cases f <;> simp only [aop] at h ⊢ <;> simp_all
 | load t a=>
  simp only [isN] at hn
  simp only [aop] at h ⊢
  cases hx:aev env a <;> simp only [hx,isP,Bool.false_eq_true] at hn
  simp only [hx] at h ⊢
  rename_i x
  cases x <;> simp only [load] at h ⊢ <;> first | (cases h;done) | (split at h <;> simp_all)
 | convert s t x=>
  simp only [isN] at hn
  cases hx:aev env x <;> simp only [hx,isP,Bool.false_eq_true] at hn
  simp only [aop,hx] at h ⊢
  rename_i x
  have he:∀ R R2 k,elems R k (.p x)=elems R2 k (.p x):=by intro R R2 k;unfold elems;split <;> simp_all
  split at h
  ·split at h <;> simp_all
  ·split at h <;> simp_all
  ·split at h <;> simp_all
  ·split at h
   ·split at h
    ·rename_i n f h2 h3
     simp only [Option.some.injEq,Out.mk.injEq] at h;obtain ⟨rfl,rfl,rfl⟩:=h
     refine ⟨rfl,fun R2=>?_⟩
     rw [he R R2] at h3
     simp_all
    ·cases h
   ·cases h
  ·cases h
 | makeInterface t x=>
  simp only [isN] at hn
  cases hx:aev env x <;> simp only [hx,isP,Bool.false_eq_true] at hn
  simp only [aop,hx,AR4] at h ⊢
  split at h
  ·rename_i h1 h2
   simp only [Option.some.injEq,Prod.mk.injEq] at h1;obtain ⟨rfl,rfl⟩:=h1
   split at h <;> simp_all
  ·cases h
 | indexAddr t x i=>
  simp only [isN] at hn
  cases hx:aev env x <;> simp only [hx,isP,Bool.false_eq_true] at hn
  rename_i y
  simp only [aop,hx] at h ⊢
  split at h
  ·rename_i n hi
   have he:∀ R R2,Ap1 P R t (.p y) n=Ap1 P R2 t (.p y) n:=by
    intro R R2;unfold Ap1;split <;> simp_all
   split at h
   ·rename_i hq
    simp only [Option.some.injEq,Out.mk.injEq] at h;obtain ⟨rfl,rfl,rfl⟩:=h
    refine ⟨rfl,fun R2=>?_⟩
    rw [he R R2] at hq
    simp [hq]
   ·cases h
  ·cases h
 | slice t x lo hi mx=>
  cases mx with
  | some _=>simp [aop] at h
  | none=>
   simp only [isN] at hn
   cases hx:aev env x <;> simp only [hx,isP,Bool.false_eq_true] at hn
   rename_i y
   have he:∀ R R2 lo hi c a R',Ap2 P R t (.p y) lo hi=some (c,a,R')->R' = R/\Ap2 P R2 t (.p y) lo hi=some (c,a,R2):=by
    intro R R2 lo hi c a R' h
    unfold Ap2 at h ⊢
    split at h
    ·split at h <;> simp_all
    ·split at h
     ·split at h <;> simp_all
     ·cases h
    ·split at h <;> simp_all
    ·simp_all
    ·simp_all
   have fin:∀ lo hi,(match Ap2 P R t (.p y) lo hi with | some (c,a,regs)=>some (Out.mk c a regs) | none=>none)=some ⟨c,v,R'⟩ ->
    R' = R/\∀ R2,(match Ap2 P R2 t (.p y) lo hi with | some (c,a,regs)=>some (Out.mk c a regs) | none=>none)=some ⟨c,v,R2⟩:=by
    intro lo hi h
    cases hq:Ap2 P R t (.p y) lo hi with
    | none=>rw [hq] at h;cases h
    | some q=>
     obtain ⟨c',a',r'⟩:=q
     rw [hq] at h
     simp only [Option.some.injEq,Out.mk.injEq] at h;obtain ⟨rfl,rfl,rfl⟩:=h
     refine ⟨(he _ R _ _ _ _ _ hq).1,fun R2=>?_⟩
     simp only [(he _ R2 _ _ _ _ _ hq).2]
   simp only [aop,hx] at h ⊢
   split at h <;> first | exact fin _ _ h | cases h
 | lookup t m k ok=>
  simp only [isN,Bool.and_eq_true] at hn
  cases hm:aev env m <;> simp only [hm,isP,Bool.false_eq_true,false_and] at hn
  rename_i y
  cases hk:aev env k <;> simp only [hk,Bool.false_eq_true,and_false] at hn
  rename_i z
  have he:∀ R R2 k,AT4 P R t (.p y) k ok=AT4 P R2 t (.p y) k ok:=by
   intro R R2 k;unfold AT4;split
   ·rename_i kt e ht
    cases Bn2 P kt k with
    | false=>rfl
    | true=>
     cases y with
     | v u=>cases u <;> first | rfl | (rename_i r;cases r <;> rfl)
     | _=>rfl
   ·rfl
  simp only [aop,hm,hk,AR4] at h ⊢
  split at h
  ·rename_i hq
   simp only [Option.some.injEq,Out.mk.injEq] at h;obtain ⟨rfl,rfl,rfl⟩:=h
   refine ⟨rfl,fun R2=>?_⟩
   rw [he R R2] at hq
   simp [hq]
  ·cases h
 | call c=>
  obtain ⟨callee,args,types⟩:=c
  cases callee with
  | builtin b=>
   cases b with
   | len=>
    simp only [aop] at h ⊢
    split at h
    ·rename_i x t hx ht
     simp only [isN,hx,List.all_cons,List.all_nil,Bool.and_true] at hn
     have he:∀ R R2,Cg0 P R t (aev env x)=Cg0 P R2 t (aev env x):=by
      intro R R2
      cases hy:aev env x <;> simp only [hy,isP,Bool.false_eq_true] at hn
      unfold Cg0;split <;> simp_all
     cases hq:Cg0 P R t (aev env x) with
     | none=>rw [hq] at h;cases h
     | some q=>
      rw [hq] at h
      simp only [Option.some.injEq,Out.mk.injEq] at h;obtain ⟨rfl,rfl,rfl⟩:=h
      refine ⟨rfl,fun R2=>?_⟩
      rw [he R R2] at hq
      simp [hq]
    ·cases h
   | min=>
    simp only [aop] at h ⊢
    split at h <;> simp_all
   | max=>
    simp only [aop] at h ⊢
    split at h <;> simp_all
   | _=>simp [isN] at hn
  | _=>simp [isN] at hn
 | _=>simp [isN] at hn
theorem Cj6 {env env' : Env} {x:Operand} (h:∀ t ∈ BJ1 x,get env t=get env' t):aev env x=aev env' x:=by
 cases x with
 | tmp t=>exact h t (by simp [BJ1])
 | _=>rfl
theorem AO4 {env env' : Env} {place:Nat->Option (Nat × Nat)}:∀ (l:List (Nat × Operand)) (cs:List AV),(∀ q ∈ l,aev env q.2=aev env' q.2)->AN4 env place l cs=AN4 env' place l cs
 | [],cs,_=>rfl
 | (i,x) :: r,cs,h=>by
  have hx:aev env x=aev env' x:=h (i,x) (by simp)
  simp only [AN4,hx]
  split
  ·split
   ·exact AO4 r _ fun q hq=>h q (List.mem_cons_of_mem _ hq)
   ·rfl
  ·rfl
theorem Aw7 {env env' : Env} {R:D2} {d:Nat} {o:Op} (h:∀ x ∈ o.operands.toList,aev env x=aev env' x):aop P env R d o=aop P env' R d o:=by
 cases o with
 | build t ps=>
  have:∀ q ∈ ps.toList,aev env q.2=aev env' q.2:=fun q hq=>h q.2 (by simp only [Op.operands];simpa using ⟨q.1,by simpa using hq⟩)
  simp only [aop,AO4 ps.toList _ this]
 | buildSlice t n ps=>
  have:(ps.toList.map fun q=>aev env q.2)=ps.toList.map fun q=>aev env' q.2:=List.map_congr_left fun q hq=>h q.2 (by simp only [Op.operands];simpa using ⟨q.1,by simpa using hq⟩)
  simp only [aop,this]
 | makeFunc f a b=>
  have h1:a.toList.map (aev env)=a.toList.map (aev env'):=List.map_congr_left fun q hq=>h q (by simp [Op.operands];exact .inl (by simpa using hq))
  have h2:b.toList.map (aev env)=b.toList.map (aev env'):=List.map_congr_left fun q hq=>h q (by simp [Op.operands];exact .inr (by simpa using hq))
  cases f <;> simp only [aop,h1,h2]
 | makeMap t r=>cases r <;> simp only [aop]
 | slice t x lo hi mx=>
  have hx:=h x (by simp [Op.operands])
  have hl:lo.map (fun o=>asInt (aev env o))=lo.map (fun o=>asInt (aev env' o)):=by
   cases lo with
   | none=>rfl
   | some l=>simp only [Option.map_some];rw [h l (by simp [Op.operands])]
  have hh:hi.map (fun o=>asInt (aev env o))=hi.map (fun o=>asInt (aev env' o)):=by
   cases hi with
   | none=>rfl
   | some l=>simp only [Option.map_some];rw [h l (by simp [Op.operands])]
  cases mx <;> simp only [aop,hx,hl,hh]
 | call c=>
  obtain ⟨callee,args,types⟩:=c
  cases callee with
  | builtin b=>
   have h1:args.toList.map (aev env)=args.toList.map (aev env'):=List.map_congr_left fun q hq=>h q (by simp [Op.operands,Call.operands];simpa using hq)
   cases b with
   | len=>
    simp only [aop]
    cases hl:args.toList with
    | nil=>rfl
    | cons x r=>
     rw [hl] at h1
     simp only [List.map_cons,List.cons.injEq] at h1
     cases r with
     | nil=>cases types.toList with
      | nil=>rfl
      | cons t r=>cases r <;> simp only [h1.1]
     | cons _ _=>rfl
   | append=>
    simp only [aop]
    cases hl:args.toList with
    | nil=>rfl
    | cons x r=>
     rw [hl] at h1
     simp only [List.map_cons,List.cons.injEq] at h1
     cases r with
     | nil=>rfl
     | cons y r=>
      simp only [List.map_cons,List.cons.injEq] at h1
      cases r with
      | nil=>
       cases types.toList with
       | nil=>rfl
       | cons t r=>
        cases r with
        | nil=>rfl
        | cons t2 r=>cases r <;> first | rfl | simp only [h1.1,h1.2.1]
      | cons _ _=>rfl
   | min=>simp only [aop,h1]
   | max=>simp only [aop,h1]
   | _=>first | rfl | simp only [aop]
  | _=>first | rfl | simp only [aop]
 | move x=>simp only [aop,h x (by simp [Op.operands])]
 | assign x=>simp only [aop,h x (by simp [Op.operands])]
 | pick x y z=>simp only [aop,h x (by simp [Op.operands]),h y (by simp [Op.operands]),h z (by simp [Op.operands])]
 | box t x=>simp only [aop,h x (by simp [Op.operands])]
 | load t x=>simp only [aop,h x (by simp [Op.operands])]
 | store t x y=>simp only [aop,h x (by simp [Op.operands]),h y (by simp [Op.operands])]
 | nilCheck x=>simp only [aop,h x (by simp [Op.operands])]
 | binOp op t x y yt=>simp only [aop,h x (by simp [Op.operands]),h y (by simp [Op.operands])]
 | unOp op t x=>simp only [aop,h x (by simp [Op.operands])]
 | convert s t x=>simp only [aop,h x (by simp [Op.operands])]
 | makeInterface t x=>simp only [aop,h x (by simp [Op.operands])]
 | makeSlice t l c=>simp only [aop,h l (by simp [Op.operands]),h c (by simp [Op.operands])]
 | fieldAddr t x f=>simp only [aop,h x (by simp [Op.operands])]
 | field t x f=>simp only [aop,h x (by simp [Op.operands])]
 | indexAddr t x i=>simp only [aop,h x (by simp [Op.operands]),h i (by simp [Op.operands])]
 | index t x i=>simp only [aop,h x (by simp [Op.operands]),h i (by simp [Op.operands])]
 | lookup t m k ok=>simp only [aop,h m (by simp [Op.operands]),h k (by simp [Op.operands])]
 | mapUpdate t m k x=>simp only [aop,h m (by simp [Op.operands]),h k (by simp [Op.operands]),h x (by simp [Op.operands])]
 | extract x i=>simp only [aop,h x (by simp [Op.operands])]
 | _=>first | rfl | simp only [aop]
end
end Go.AM
set_option linter.unusedVariables false
namespace Go.AM
section
variable (S:Ag9) (P:Program)
def Am8 (all:List Oper) (env:Env) (o:Oper):Option Bool:=
 match o.guard with
 | none=>some true
 | some (j,want)=>(yv (get env (AB0 all j))).map fun b=>decide (b=some want)
def Cj7:AV->Bool
 | .vec _ | .vecp _ _=>false
 | _=>true
def Cu9 (env:Env) (o:Op) (r:AV):Prop:=
 ∃ c f fn as' args r',o=.call c/\c.callee=.value f/\((c.args.toList.map (aev env)).all Cj7)=true/\BH3 env f (c.args.toList.map (aev env))=some (fn,as')/\Aj5 [] as' = some args/\Ct2 S fn args r' /\ r=unA [] r'
def CH2 (env:Env) (regs:D2) (d:Nat) (o:Op) (r:AV) (regs' : D2):Prop:=
 ∃ c f as regs1 fn as' args objs objs' ks r' ids,o=.call c/\c.callee=.value f/\Bd3 regs (c.args.toList.map (aev env))=some (as,regs1)/\BH3 env f as=some (fn,as')/\Aj5 ids as' = some args/\I7 ids regs1 ids=some objs /\
  FunO S fn args objs r' objs' ks/\F7 ids=true/\Ap3 objs=true/\Ak4 regs1 ids ks d objs'.length=true /\
  r=unA (N4 d ids ks objs'.length) r' /\ regs' = Cg1 (N4 d ids ks objs'.length) (N4 d ids ks objs'.length) objs' (N5 ids ks regs1)
def clsF (cl:Cls) (a b:Prop):Prop:=match cl with
 | .n=>a
 | .r=>b
 | _=>True
def clsX (cl:Cls) (env:Env) (regs:D2) (d:Nat) (o:Op) (c:List Prop) (v:AV) (regs' : D2):Prop:=match cl with
 | .l js=>regs' = regs/\∀ R2,(∀ q ∈ js,A5 R2 q=A5 regs q)->aop P env R2 d o=some ⟨c,v,R2⟩
 | .a js=>∀ R2,(∀ q ∈ js,A5 R2 q=A5 regs q)->∃ R3,aop P env R2 d o=some ⟨c,v,R3⟩/\(∀ q ∈ js,A5 R3 q=A5 regs' q)/\∀ q,q ∉ js->A5 R3 q=A5 R2 q
 | _=>True
def Cv0 (cl:Cls) (env:Env) (regs:D2) (d:Nat) (o:Op) (v:AV) (regs' : D2):Prop:=
 (∃ c,aop P env regs d o=some ⟨c,v,regs'⟩/\E9 c/\clsF cl (isN env o=true) (regs' = regs)/\clsX P cl env regs d o c v regs') \/
 (Cu9 S env o v/\regs' = regs) \/
 (cl=.w/\CH2 S env regs d o v regs') \/
 (∃ c x,Bu4 P env o=some (c,x)/\E9 c/\v=.p x/\regs' = regs)
def Bi8 (d:Option Nat) (a:AV) (env:Env):Env:=match d with
 | some d=>ins d a env
 | none=>env
def Bd4 (all:List Oper):List Cls->List Oper->Env->D2->(Env->D2->Prop)->Prop
 | cl :: cls,o :: rest,env,regs,k=>∃ b,Am8 all env o=some b /\
  if b=true then ∃ v regs',Cv0 S P cl env regs (o.dst.getD 0) o.op v regs' /\ Bd4 all cls rest (Bi8 o.dst v env) regs' k
  else Bd4 all cls rest (Bi8 o.dst Ak5 env) regs k
 | _, [],env,regs,k=>k env regs
 | [],_ :: _,_,_,_=>False
end
section
variable {S:Ag9} {P:Program}
structure Cv1 (S:Ag9) (P:Program) (all:List Oper) (cls:List Cls) (E:Nat->Env) (R:Nat->D2) (V:Nat->AV):Prop where
 step:∀ i o,all[i]? = some o->∃ b,Am8 all (E i) o=some b /\
  (if b=true then Cv0 S P (cls.getD i .n) (E i) (R i) (o.dst.getD 0) o.op (V i) (R (i+1)) else V i=Ak5/\R (i+1)=R i)/\E (i+1)=Bi8 o.dst (V i) (E i)
theorem BT2 (all:List Oper):∀ (rest:List Oper) (cls:List Cls) (i:Nat) (env:Env) (regs:D2) (k:Env->D2->Prop),Bd4 S P all cls rest env regs k->cls.length=rest.length ->
 ∃ (E:Nat->Env) (R:Nat->D2) (V:Nat->AV),E 0=env/\R 0=regs/\k (E rest.length) (R rest.length) /\
  ∀ j o,rest[j]? = some o->∃ b,Am8 all (E j) o=some b /\
   (if b=true then Cv0 S P (cls.getD j .n) (E j) (R j) (o.dst.getD 0) o.op (V j) (R (j+1)) else V j=Ak5/\R (j+1)=R j)/\E (j+1)=Bi8 o.dst (V j) (E j)
 | [], [],i,env,regs,k,h,_=>⟨fun _=>env,fun _=>regs,fun _=>.top,rfl,rfl,h,fun j o hj=>by simp at hj⟩
 | [],_ :: _,i,env,regs,k,h,hl=>by simp at hl
 | _ :: _, [],i,env,regs,k,h,hl=>by simp at hl
 | o :: rest,cl :: cls,i,env,regs,k,h,hl=>by
  obtain ⟨b,hb,h⟩:=h
  have key:∃ v regs',(if b=true then Cv0 S P cl env regs (o.dst.getD 0) o.op v regs' else v=Ak5/\regs' = regs)/\Bd4 S P all cls rest (Bi8 o.dst v env) regs' k:=by
   cases b with
   | true=>simp only [if_true] at h ⊢;exact h
   | false=>simp only [Bool.false_eq_true,if_false] at h ⊢;exact ⟨_,_,⟨rfl,rfl⟩,h⟩
  obtain ⟨v,regs',hs,hrest⟩:=key
  obtain ⟨E,R,V,h1,h2,h3,h4⟩:=BT2 all rest cls (i+1) _ _ k hrest (by simpa using hl)
  refine ⟨fun j=>match j with | 0=>env | j+1=>E j,fun j=>match j with | 0=>regs | j+1=>R j,fun j=>match j with | 0=>v | j+1=>V j,rfl,rfl,h3, ?_⟩
  intro j o' hj
  cases j with
  | zero=>
   simp only [List.getElem?_cons_zero,Option.some.injEq] at hj
   subst hj
   refine ⟨b,hb, ?_,h1⟩
   simp only [List.getD_cons_zero,h2]
   exact hs
  | succ j=>
   have:=h4 j o' (by simpa using hj)
   simpa using this
def AB1 (all:List Oper) (V:Nat->AV) (env:Env) (D:Nat->Bool) (x:Nat):Nat->AV
 | 0=>get env x
 | m+1=>if D m=true/\(all[m]?).bind (·.dst)=some x then V m else AB1 all V env D x m
theorem Ak8 {all:List Oper} {V:Nat->AV} {env:Env} {D D' : Nat->Bool} {x:Nat}:∀ {m:Nat},(∀ j,j < m->(all[j]?).bind (·.dst)=some x->D j=D' j)->AB1 all V env D x m=AB1 all V env D' x m
 | 0,_=>rfl
 | m+1,h=>by
  simp only [AB1]
  rw [Ak8 (m:=m) fun j hj hd=>h j (by omega) hd]
  by_cases hd:(all[m]?).bind (·.dst)=some x
  ·rw [h m (by omega) hd]
  ·simp [hd]
theorem Bx3 {all:List Oper} {V:Nat->AV} {env:Env} {D:Nat->Bool} {x i:Nat} (hi:D i=true) (hx:(all[i]?).bind (·.dst)=some x):∀ {m:Nat},i < m->(∀ j,i < j->j < m->(all[j]?).bind (·.dst)=some x->D j=false)->AB1 all V env D x m=V i
 | 0,h,_=>by omega
 | m+1,h,hno=>by
  simp only [AB1]
  by_cases e:i=m
  ·subst e;rw [if_pos ⟨hi,hx⟩]
  ·rw [if_neg]
   ·exact Bx3 hi hx (by omega) fun j h1 h2=>hno j h1 (by omega)
   ·rintro ⟨h1,h2⟩
    rw [hno m (by omega) (by omega) h2] at h1;cases h1
theorem Cv2 (env:Env) (d t:Nat) (x:AV):get (ins d x env) t=if d=t then x else get env t:=by
 induction env with
 | nil=>simp [ins,get]
 | cons p r ih=>
  obtain ⟨i,b⟩:=p
  simp only [ins]
  split
  ·simp only [get]
  ·split
   ·rename_i h;subst h;simp only [get];split <;> rfl
   ·rename_i h1 h2
    simp only [get,ih]
    by_cases h:i=t
    ·simp only [h,if_true]
     rw [if_neg (by omega)]
    ·simp only [h,if_false]
theorem BT3 (env:Env) (d:Option Nat) (t:Nat) (x:AV):get (Bi8 d x env) t=if d=some t then x else get env t:=by
 cases d with
 | none=>simp [Bi8]
 | some d=>simp [Bi8,Cv2]
theorem Bx4 {all:List Oper} {cls:List Cls} {E:Nat->Env} {R:Nat->D2} {V:Nat->AV} (h:Cv1 S P all cls E R V) (x:Nat):∀ m,m<=all.length->get (E m) x=AB1 all V (E 0) (fun j=>decide (j < m)) x all.length:=by
 have h1:∀ m,m<=all.length->get (E m) x=AB1 all V (E 0) (fun _=>true) x m:=by
  intro m
  induction m with
  | zero=>intro _;rfl
  | succ m ih=>
   intro hm
   obtain ⟨o,ho⟩:∃ o,all[m]? = some o:=⟨_,List.getElem?_eq_getElem (by omega)⟩
   obtain ⟨b,_,_,h3⟩:=h.step m o ho
   rw [h3,BT3]
   simp only [AB1,ho,Option.bind_some,true_and]
   rw [ih (by omega)]
 have h2:∀ m n,m<=n->AB1 all V (E 0) (fun j=>decide (j < m)) x n=AB1 all V (E 0) (fun _=>true) x m:=by
  intro m n
  induction n with
  | zero=>
   intro h
   obtain rfl:m=0:=by omega
   rfl
  | succ n ih=>
   intro hmn
   by_cases e:m=n+1
   ·subst e
    exact Ak8 fun j hj _=>by simp [hj]
   ·simp only [AB1]
    rw [if_neg (by simp;intro hlt;omega),ih (by omega)]
 intro m hm
 rw [h1 m hm,h2 m _ hm]
theorem Cj8 {all:List Oper} {cls:List Cls} {E:Nat->Env} {R:Nat->D2} {V:Nat->AV} (h:Cv1 S P all cls E R V) {i o q} (ho:all[i]? = some o) (hc:AG6 q (cls.getD i .n)=false):A5 (R (i+1)) q=A5 (R i) q:=by
 obtain ⟨b,_,h2,_⟩:=h.step i o ho
 cases b with
 | false=>simp only [Bool.false_eq_true,if_false] at h2;rw [h2.2]
 | true=>
  simp only [if_true] at h2
  rcases h2 with ⟨c,ha,_,hcl,hx⟩ | ⟨_,h3⟩ | ⟨h3,_⟩ | ⟨_,_,_,_,_,h3⟩
  ·cases hk:cls.getD i .n with
   | n=>rw [hk] at hcl;rw [(Bo8 hcl ha).1]
   | r=>rw [hk] at hcl;rw [show R (i+1)=R i from hcl]
   | w=>rw [hk] at hc;cases hc
   | l j=>rw [hk] at hx;rw [hx.1]
   | a j=>
    rw [hk] at hx hc
    obtain ⟨R3,h4,_,h6⟩:=hx (R i) fun _ _=>rfl
    rw [h4] at ha
    cases ha
    exact h6 q (by simpa [AG6] using hc)
  ·rw [h3]
  ·rw [h3] at hc;cases hc
  ·rw [h3]
theorem BJ2 {all:List Oper} {cls:List Cls} {E:Nat->Env} {R:Nat->D2} {V:Nat->AV} (h:Cv1 S P all cls E R V) (q:Nat):∀ (a b:Nat),a<=b->b<=all.length->(∀ j,a<=j->j < b->AG6 q (cls.getD j .n)=false)->A5 (R b) q=A5 (R a) q:=by
 intro a b
 induction b with
 | zero=>
  intro h1 _ _
  obtain rfl:a=0:=by omega
  rfl
 | succ b ih=>
  intro h1 h2 h3
  by_cases e:a=b+1
  ·rw [e]
  ·obtain ⟨o,ho⟩:∃ o,all[b]? = some o:=⟨_,List.getElem?_eq_getElem (by omega)⟩
   rw [Cj8 h ho (h3 b (by omega) (by omega)),ih (by omega) (by omega) fun j h4 h5=>h3 j h4 (by omega)]
theorem AV7 {o:Oper} {k:St->Prop} {Q:J1} {st:St} {c:List Prop} {v:AV} {R' : D2} (h:aop P st.env st.regs (o.dst.getD 0) o.op=some ⟨c,v,R'⟩) (hc:E9 c) (hk:k (put { st with regs:=R' } o.dst v)):wOp S P o k Q st:=by
 unfold wOp
 split
 ·rename_i he;rw [he] at h;simp [aop] at h
 ·rename_i he;rw [he] at h;simp [aop] at h
 ·rename_i he;rw [he] at h;simp [aop] at h
 ·exact .inl ⟨_,h,hc,hk⟩
theorem Cv3 {o:Oper} {k:St->Prop} {Q:J1} {st:St} {c:List Prop} {x:PV} (h:Bu4 P st.env o.op=some (c,x)) (hc:E9 c) (hk:k (put st o.dst (.p x))):wOp S P o k Q st:=by
 unfold wOp
 split
 ·rename_i he;rw [he] at h;simp [Bu4] at h
 ·rename_i he;rw [he] at h;simp [Bu4] at h
 ·rename_i he;rw [he] at h;simp [Bu4] at h
 ·exact .inr ⟨_,_,h,hc,hk⟩
theorem BZ8 {env env' : Env} {o:Op} (h:∀ x ∈ o.operands.toList,aev env x=aev env' x):Bu4 P env o=Bu4 P env' o:=by
 cases o with
 | buildSlice t n parts=>
  have:(parts.toList.map fun q=>aev env q.2)=parts.toList.map fun q=>aev env' q.2:=List.map_congr_left fun q hq=>h q.2 (by simp only [Op.operands];simpa using ⟨q.1,by simpa using hq⟩)
  simp only [Bu4,this]
 | _=>rfl
theorem Bx5 (ops:List Oper):∀ (rest:List Oper) (acc:List (List Nat)),acc.length+rest.length=ops.length->ops.drop acc.length=rest->∀ i,(i < acc.length->(Bo7 rest acc).getD i []=acc.getD i []) /\
 (acc.length<=i->i < ops.length->∃ o,ops[i]? = some o/\∃ pre,(Bo7 rest acc).getD i []=BZ7 pre o/\∀ j,j < i->pre.getD j []=(Bo7 rest acc).getD j [])
 | [],acc,hl,hd,i=>⟨fun _=>rfl,fun h1 h2=>by simp at hl;omega⟩
 | o :: rest,acc,hl,hd,i=>by
  have ho:ops[acc.length]? = some o:=by
   have:(ops.drop acc.length)[0]? = some o:=by rw [hd];rfl
   simpa using this
  have hd' : ops.drop (acc ++ [BZ7 acc o]).length=rest:=by
   have:(ops.drop acc.length).drop 1=rest:=by rw [hd];rfl
   rw [List.drop_drop] at this
   simpa using this
  have ih:=fun i=>Bx5 ops rest (acc ++ [BZ7 acc o]) (by simp at hl ⊢;omega) hd' i
  have hlow:∀ j,j < acc.length->(Bo7 (o :: rest) acc).getD j []=acc.getD j []:=by
   intro j hj
   simp only [Bo7]
   rw [(ih j).1 (by simp;omega)]
   simp [List.getD_eq_getElem?_getD,List.getElem?_append_left hj]
  refine ⟨hlow i,fun h1 h2=>?_⟩
  by_cases e:i=acc.length
  ·subst e
   refine ⟨o,ho,acc, ?_,fun j hj=>(hlow j hj).symm⟩
   simp only [Bo7]
   rw [(ih acc.length).1 (by simp)]
   simp [List.getD_eq_getElem?_getD]
  ·simp only [Bo7]
   exact (ih i).2 (by simp;omega) h2
theorem AL0 {ops:List Oper} (hdep:AB5 ops=true) {D:Nat->Bool} (hD:∀ i o,D i=true->ops[i]? = some o->∀ e ∈ o.after.toList,Ak6 e=true->D e.on=true) :
 ∀ (i:Nat) (o:Oper),ops[i]? = some o->(∀ e ∈ o.after.toList,Ak6 e=true->D e.on=true)->∀ j ∈ (CP6 ops).getD i [],D j=true:=by
 intro i
 induction i using Nat.strongRecOn with
 | _ i ih=>
  intro o ho hready j hj
  have hlt:i < ops.length:=(List.getElem?_eq_some_iff.1 ho).1
  obtain ⟨o',ho',pre,h1,h2⟩:=(Bx5 ops ops [] (by simp) (by simp) i).2 (by simp) hlt
  rw [ho] at ho';cases ho'
  have h1:(CP6 ops).getD i []=BZ7 pre o:=h1
  rw [h1] at hj
  unfold BZ7 at hj
  rw [List.mem_flatMap] at hj
  obtain ⟨e,he,hj⟩:=hj
  rw [List.mem_filter] at he
  obtain ⟨he,hb⟩:=he
  have hon:e.on < i:=by
   unfold AB5 at hdep
   rw [List.all_eq_true] at hdep
   have:=hdep i (by simpa using hlt)
   simp only [ho,List.all_eq_true,Bool.or_eq_true,Bool.not_eq_true',decide_eq_true_eq] at this
   rcases this e he with h3 | h3
   ·rw [hb] at h3;cases h3
   ·exact h3
  have hDe:=hready e he hb
  rcases List.mem_cons.1 hj with rfl | hj
  ·exact hDe
  ·rw [h2 e.on hon] at hj
   obtain ⟨oe,hoe⟩:∃ oe,ops[e.on]? = some oe:=⟨_,List.getElem?_eq_getElem (by omega)⟩
   exact ih e.on hon oe hoe (hD e.on oe hDe hoe) j hj
end
end Go.AM
set_option linter.unusedVariables false
namespace Go.AM
section
variable {S:Ag9} {P:Program}
theorem Bi9 {regs:D2}:∀ {l:List AV},l.all Cj7=true->Bd3 regs l=some (l,regs)
 | [],_=>rfl
 | a :: r,h=>by
  simp only [List.all_cons,Bool.and_eq_true] at h
  have ih:=Bi9 (regs:=regs) h.2
  cases a <;> simp only [Bd3,ih] <;> simp [Cj7] at h
theorem Bj0 {env env' : Env} {f:Operand} {as:List AV} (h:aev env f=aev env' f):BH3 env f as=BH3 env' f as:=by unfold BH3;rw [h]
theorem Bj1 {all:List Oper} {V:Nat->AV} {env:Env} {x:Nat}:∀ m,AB1 all V env (fun _=>false) x m=get env x
 | 0=>rfl
 | m+1=>by simp only [AB1];rw [if_neg (by simp),Bj1 m]
theorem BT4 (hS:I2 S P) {F:J1} {K:List It} {id:Nat} {ops:Array Oper} {env:Env} {regs:D2} (cls:List Cls) (hmix:P.follows .mixedOrders=true) (hok:AO3 ops.toList cls=true)
 (h:Bd4 S P ops.toList cls ops.toList env regs fun env regs=>G S P F (.pop .normal K ⟨env,regs⟩)):G S P F (.code (.region id ops true) K ⟨env,regs⟩):=by
 simp only [G,awp,if_true]
 generalize ops.toList=all at hok h
 simp only [AO3,Bool.and_eq_true,beq_iff_eq,List.all_eq_true,List.mem_range] at hok
 obtain ⟨⟨hdep,hlen⟩,hpair⟩:=hok
 obtain ⟨E,R,V,hE0,hR0,hk,hstep⟩:=BT2 all all cls 0 env regs _ h hlen
 have T:Cv1 S P all cls E R V:=⟨hstep⟩
 have hpr:∀ (i j:Nat) (oi oj:Oper),i < j->all[i]? = some oi->all[j]? = some oj->i ∈ (CP6 all).getD j [] \/ Aw6 all (cls.getD i .n) (cls.getD j .n) oi oj=true:=by
  intro i j oi oj hij hi hj
  have:=hpair j (List.getElem?_eq_some_iff.1 hj).1 i hij
  simp only [hi,hj,Bool.or_eq_true,List.contains_eq_mem,decide_eq_true_eq] at this
  exact this
 let down:(Nat->Bool)->Prop:=fun D=>∀ i o,D i=true->all[i]? = some o->∀ e ∈ o.after.toList,Ak6 e=true->D e.on=true
 let Inv:(Nat->Bool)->St->Prop:=fun D s=>down D/\(∀ x,get s.env x=AB1 all V env D x all.length) /\
  ∀ q,∃ k,k<=all.length/\(∀ i,i < all.length->AG6 q (cls.getD i .n)=true->(D i=true ↔ i < k))/\A5 s.regs q=A5 (R k) q
 refine ⟨hmix,hdep,Inv,⟨fun i o hi=>(by cases hi),fun x=>(Bj1 _).symm,fun q=>⟨0,Nat.zero_le _,fun i _ _=>by simp,by rw [hR0]⟩⟩, ?_, ?_⟩
 ·intro D i s o ⟨hD,henv,hreg⟩ ho hDi hready
  have hin:i < all.length:=(List.getElem?_eq_some_iff.1 ho).1
  have hanc:=AL0 hdep hD i o ho hready
  have hbef:∀ j oj,j < i->all[j]? = some oj->D j=true \/ Aw6 all (cls.getD j .n) (cls.getD i .n) oj o=true:=fun j oj hj hoj=>
   (hpr j i oj o hj hoj ho).imp (hanc j) fun h=>h
  have haft:∀ j oj,i < j->all[j]? = some oj->D j=true->Aw6 all (cls.getD i .n) (cls.getD j .n) o oj=true:=by
   intro j oj hj hoj hDj
   rcases hpr i j o oj hj ho hoj with h1 | h1
   ·have:=AL0 hdep hD j oj hoj (hD j oj hDj hoj) i h1
    rw [hDi] at this;cases this
   ·exact h1
  have hrd:∀ x ∈ reads all o,get s.env x=get (E i) x:=by
   intro x hx
   rw [henv x,Bx4 T x i (by omega),hE0]
   refine Ak8 fun j hj hd=>?_
   obtain ⟨oj,hoj⟩:∃ oj,all[j]? = some oj:=⟨_,List.getElem?_eq_getElem hj⟩
   simp only [hoj,Option.bind_some] at hd
   by_cases e:j < i
   ·simp only [e,decide_true]
    rcases hbef j oj e hoj with h1 | h1
    ·exact h1
    ·simp only [Aw6,hd,Bool.and_eq_true,Bool.not_eq_true',List.contains_eq_mem,decide_eq_false_iff_not] at h1
     exact absurd hx h1.1.2.1
   ·simp only [e,decide_false]
    by_cases e2:j=i
    ·subst e2;exact hDi
    ·cases hDj:D j with
     | false=>rfl
     | true=>
      have h1:=haft j oj (by omega) hoj hDj
      simp only [Aw6,hd,Bool.and_eq_true,Bool.not_eq_true',List.contains_eq_mem,decide_eq_false_iff_not] at h1
      exact absurd hx h1.2
  have hops:∀ x ∈ o.op.operands.toList,aev s.env x=aev (E i) x:=fun x hx=>Cj6 fun t ht=>hrd t (List.mem_append_left _ (List.mem_flatMap.2 ⟨x,hx,ht⟩))
  have hq:∀ q,Cj5 q (cls.getD i .n)=true->A5 s.regs q=A5 (R i) q:=by
   intro q hn
   obtain ⟨k,hkn,hW,hr⟩:=hreg q
   rw [hr]
   by_cases hki:k<=i
   ·refine (BJ2 T q k i hki (by omega) fun j h1 h2=>?_).symm
    cases hw:AG6 q (cls.getD j .n) with
    | false=>rfl
    | true=>
     obtain ⟨oj,hoj⟩:∃ oj,all[j]? = some oj:=⟨_,List.getElem?_eq_getElem (by omega)⟩
     rcases hbef j oj h2 hoj with h3 | h3
     ·have:=(hW j (by omega) hw).1 h3;omega
     ·simp only [Aw6,(As1 hw hn).1,Bool.not_true,Bool.false_and,Bool.false_eq_true] at h3
   ·refine BJ2 T q i k (by omega) hkn fun j h1 h2=>?_
    cases hw:AG6 q (cls.getD j .n) with
    | false=>rfl
    | true=>
     have hDj:D j=true:=(hW j (by omega) hw).2 h2
     by_cases e:j=i
     ·subst e;rw [hDi] at hDj;cases hDj
     ·obtain ⟨oj,hoj⟩:∃ oj,all[j]? = some oj:=⟨_,List.getElem?_eq_getElem (by omega)⟩
      have h3:=haft j oj (by omega) hoj hDj
      simp only [Aw6,(As1 hw hn).2,Bool.not_true,Bool.false_and,Bool.false_eq_true] at h3
  obtain ⟨b,hb,hs,hEi⟩:=hstep i o ho
  have hdown:down fun j=>if j=i then true else D j:=by
   intro j oj hj hoj e he hbe
   by_cases e1:j=i
   ·subst e1
    rw [ho] at hoj;cases hoj
    have:=hready e he hbe
    show (if e.on=j then true else D e.on)=true
    split
    ·rfl
    ·exact this
   ·have hj' : D j=true:=by
     have hj:(if j=i then true else D j)=true:=hj
     rwa [if_neg e1] at hj
    have:=hD j oj hj' hoj e he hbe
    show (if e.on=i then true else D e.on)=true
    split
    ·rfl
    ·exact this
  have henv' : ∀ x,get (Bi8 o.dst (V i) s.env) x=AB1 all V env (fun j=>if j=i then true else D j) x all.length:=by
   intro x
   rw [BT3]
   by_cases hd:o.dst=some x
   ·rw [if_pos hd]
    refine (Bx3 (by simp) (by simp [ho,hd]) hin fun j h1 h2 h3=>?_).symm
    have hne:j ≠ i:=by omega
    simp only [hne,if_false]
    obtain ⟨oj,hoj⟩:∃ oj,all[j]? = some oj:=⟨_,List.getElem?_eq_getElem h2⟩
    simp only [hoj,Option.bind_some] at h3
    cases hDj:D j with
    | false=>rfl
    | true=>
     have h4:=haft j oj h1 hoj hDj
     simp [Aw6,hd,h3] at h4
   ·rw [if_neg hd,henv x]
    refine Ak8 fun j hj h3=>?_
    have hne:j ≠ i:=by rintro rfl;rw [ho] at h3;exact hd h3
    simp [hne]
  have hInv:∀ R',(∀ q,AG6 q (cls.getD i .n)=true->A5 R' q=A5 (R (i+1)) q)->(∀ q,AG6 q (cls.getD i .n)=false->A5 R' q=A5 s.regs q)->Inv (fun j=>if j=i then true else D j) (put ⟨s.env,R'⟩ o.dst (V i)):=by
   intro R' h1 h2
   refine ⟨hdown, ?_,fun q=>?_⟩
   ·intro x
    have:=henv' x
    cases hd:o.dst <;> simp only [hd,put,Bi8] at this ⊢ <;> exact this
   ·have hput:(put ⟨s.env,R'⟩ o.dst (V i)).regs=R':=by cases o.dst <;> rfl
    rw [hput]
    cases hw:AG6 q (cls.getD i .n) with
    | false=>
     obtain ⟨k,hkn,hW,hr⟩:=hreg q
     refine ⟨k,hkn,fun j hj hwj=>?_,(h2 q hw).trans hr⟩
     have hne:j ≠ i:=by rintro rfl;rw [hw] at hwj;cases hwj
     simp only [hne,if_false];exact hW j hj hwj
    | true=>
     refine ⟨i+1,by omega,fun j hj hwj=>?_,h1 q hw⟩
     by_cases e:j=i
     ·simp [e]
     ·simp only [e,if_false]
      obtain ⟨oj,hoj⟩:∃ oj,all[j]? = some oj:=⟨_,List.getElem?_eq_getElem hj⟩
      constructor
      ·intro hDj
       by_cases hlt:i < j
       ·have h3:=haft j oj hlt hoj hDj
        simp only [Aw6,(As1 hw (AE5 hwj)).1,Bool.not_true,Bool.false_and,Bool.false_eq_true] at h3
       ·omega
      ·intro hlt
       rcases hbef j oj (by omega) hoj with h3 | h3
       ·exact h3
       ·simp only [Aw6,(As1 hwj (AE5 hw)).1,Bool.not_true,Bool.false_and,Bool.false_eq_true] at h3
  obtain ⟨RT,hRT,hRT2⟩:∃ RT,(∀ q,A5 s.regs q=A5 RT q)/\((cls.getD i .n=.r \/ cls.getD i .n=.w)->RT=R i):=by
   by_cases hall:cls.getD i .n=.r \/ cls.getD i .n=.w
   ·exact ⟨R i,fun q=>hq q (by rcases hall with h1 | h1 <;> rw [h1] <;> rfl),fun _=>rfl⟩
   ·exact ⟨s.regs,fun _=>rfl,fun h=>absurd h hall⟩
  have hsame:R (i+1)=R i->Inv (fun j=>if j=i then true else D j) (put ⟨s.env,RT⟩ o.dst (V i)):=fun hRi=>
   hInv RT (fun q hw=>by rw [<- hRT q,hq q (AE5 hw),hRi]) fun q _=>(hRT q).symm
  have hrun:b=true->wOp S P o (Inv fun j=>if j=i then true else D j) (kp S P K F) ⟨s.env,RT⟩:=by
   intro hbt
   rw [hbt,if_pos rfl] at hs
   rcases hs with ⟨c,ha,hc,hcl,hcx⟩ | ⟨hp,hRi⟩ | ⟨hw,hdet⟩ | ⟨c,x,ha,hc,hvx,hRi⟩
   ·cases hc' : cls.getD i .n with
    | n=>
     rw [hc'] at hcl
     have h1:=Bo8 hcl ha
     have ha':=h1.2 RT
     rw [<- Aw7 hops] at ha'
     exact AV7 ha' hc (hsame h1.1)
    | r=>
     rw [hc'] at hcl
     rw [<- Aw7 hops, <- hRT2 (.inl hc')] at ha
     refine AV7 ha hc ?_
     have hcl:R (i+1)=R i:=hcl
     rw [hcl, <- hRT2 (.inl hc')]
     exact hsame hcl
    | w=>
     rw [<- Aw7 hops, <- hRT2 (.inr hc')] at ha
     exact AV7 ha hc (hInv _ (fun _ _=>rfl) fun q hw=>by rw [hc'] at hw;cases hw)
    | l js=>
     rw [hc'] at hcx
     have ha':=hcx.2 RT fun q hj=>by rw [<- hRT q];exact hq q (by rw [hc'];simpa [Cj5] using hj)
     rw [<- Aw7 hops] at ha'
     exact AV7 ha' hc (hsame hcx.1)
    | a js=>
     rw [hc'] at hcx
     obtain ⟨R3,ha',h3,h4⟩:=hcx RT fun q hj=>by rw [<- hRT q];exact hq q (by rw [hc'];simpa [Cj5] using hj)
     rw [<- Aw7 hops] at ha'
     refine AV7 ha' hc (hInv R3 (fun q hw=>?_) fun q hw=>?_)
     ·rw [hc'] at hw;exact h3 q (by simpa [AG6] using hw)
     ·rw [hc'] at hw;rw [h4 q (by simpa [AG6] using hw),hRT q]
   ·obtain ⟨c,f,fn,as',args,r',e1,e2,e3,e4,e5,e6,e7⟩:=hp
    obtain ⟨callee,cargs,types⟩:=c
    simp only at e2 e3 e4
    subst e2
    have hargs:cargs.toList.map (aev s.env)=cargs.toList.map (aev (E i)):=List.map_congr_left fun x hx=>hops x (by rw [e1];simp [Op.operands,Call.operands];exact .inr (by simpa using hx))
    have hf:aev s.env f=aev (E i) f:=hops f (by rw [e1];simp [Op.operands,Call.operands])
    unfold wOp
    rw [e1]
    refine .inl ⟨_,RT,fn,as',by rw [hargs];exact .inl (Bi9 e3),by rw [Bj0 hf];exact e4, [],args, [],rfl,e5,rfl,rfl,hS.monoF _ _ _ _ _ ?_ e6⟩
    rintro _ _ _ ⟨rfl,rfl,rfl⟩
    refine ⟨rfl, ?_⟩
    have:(N4 (o.dst.getD 0) [] [] ([]:List Obj).length)=[]:=rfl
    rw [this]
    show Inv _ (put ⟨s.env,RT⟩ o.dst (unA [] r'))
    rw [<- e7]
    exact hsame hRi
   ·obtain ⟨c,f,as,regs1,fn,as',args,objs,objs',ks,r',ids,e1,e2,e3,e4,e5,e6,e7,e8,e9,e10,e11,e12⟩:=hdet
    obtain ⟨callee,cargs,types⟩:=c
    simp only at e2 e3
    subst e2
    have hargs:cargs.toList.map (aev s.env)=cargs.toList.map (aev (E i)):=List.map_congr_left fun x hx=>hops x (by rw [e1];simp [Op.operands,Call.operands];exact .inr (by simpa using hx))
    have hf:aev s.env f=aev (E i) f:=hops f (by rw [e1];simp [Op.operands,Call.operands])
    unfold wOp
    rw [e1]
    refine .inl ⟨as,regs1,fn,as',by rw [hargs,hRT2 (.inr hw)];exact .inl e3,by rw [Bj0 hf];exact e4,ids,args,objs,e8,e5,e6,e9,hS.monoF _ _ _ _ _ ?_ e7⟩
    rintro _ _ _ ⟨rfl,rfl,rfl⟩
    refine ⟨e10, ?_⟩
    show Inv _ (put ⟨s.env,_⟩ o.dst (unA _ r'))
    rw [<- e11, <- e12]
    exact hInv _ (fun _ _=>rfl) fun q h=>by rw [hw] at h;cases h
   ·rw [<- BZ8 hops] at ha
    have hfin:=hsame hRi
    rw [hvx] at hfin
    exact Cv3 ha hc hfin
  have hskip:b=false->Inv (fun j=>if j=i then true else D j) (put ⟨s.env,RT⟩ o.dst Ak5):=by
   intro hbf
   rw [hbf] at hs
   simp only [Bool.false_eq_true,if_false] at hs
   obtain ⟨hv,hRi⟩:=hs
   rw [<- hv]
   exact hsame hRi
  refine hS.eqv s ⟨s.env,RT⟩ _ (fun _=>rfl) hRT ?_
  cases hg:o.guard with
  | none=>
   simp only [Am8,hg,Option.some.injEq] at hb
   exact hrun hb.symm
  | some q=>
   obtain ⟨j,want⟩:=q
   simp only [Am8,hg,Option.map_eq_some_iff] at hb
   obtain ⟨b0,hy,hb0⟩:=hb
   have hsl:get s.env (AB0 all j)=get (E i) (AB0 all j):=hrd _ (List.mem_append_right _ (by simp [hg]))
   refine ⟨b0,by rw [hsl];exact hy, ?_⟩
   by_cases hbw:b0=some want
   ·rw [if_pos hbw];exact hrun (by rw [<- hb0];simp [hbw])
   ·rw [if_neg hbw];exact hskip (by rw [<- hb0];simp [hbw])
 ·intro D s ⟨hD,henv,hreg⟩ hall
  refine hS.eqv s ⟨E all.length,R all.length⟩ _ (fun x=>?_) (fun q=>?_) hk
  ·show get s.env x=get (E all.length) x
   rw [henv x,Bx4 T x _ (Nat.le_refl _),hE0]
   exact Ak8 fun j hj _=>by simp [hall j hj,hj]
  ·obtain ⟨k,hkn,hW,hr⟩:=hreg q
   rw [hr]
   refine (BJ2 T q k all.length hkn (Nat.le_refl _) fun j h1 h2=>?_).symm
   cases hw:AG6 q (cls.getD j .n) with
   | false=>rfl
   | true=>have:=(hW j h2 hw).1 (hall j h2);omega
end
end Go.AM
set_option linter.unusedVariables false
namespace Go.AM
def clsOf:Op->Cls
 | .store .. | .alloc _ | .box .. | .buildSlice .. | .makeMap .. | .makeSlice .. | .mapUpdate .. | .entryStore .. | .mapEntry ..=>.w
 | .load .. | .indexAddr .. | .lookup ..=>.r
 | .call { callee:=.builtin .len, .. } | .call { callee:=.builtin .cap, .. }=>.r
 | .call { callee:=.builtin .min, .. } | .call { callee:=.builtin .max, .. }=>.n
 | .call _=>.w
 | _=>.n
def isR (env:Env):Op->Bool
 | .load .. | .indexAddr ..=>true
 | .lookup _ _ k _=>isP (aev env k)
 | .call { callee:=.builtin .len, .. }=>true
 | o=>isN env o
def inJ (js:List Nat):AV->Bool
 | .p _=>true
 | .vec i=>js.contains i
 | .vecp i _=>js.contains i
 | _=>false
def adJ (js:List Nat):AV->Bool
 | .reg i _=>js.contains i
 | .elt i _ _ _=>js.contains i
 | _=>false
def isL (js:List Nat) (env:Env):Op->Bool
 | .load _ a=>adJ js (aev env a)
 | .indexAddr _ x _=>adJ js (aev env x) || inJ js (aev env x)
 | .call { callee:=.builtin .len,args, .. }=>args.toList.all fun x=>inJ js (aev env x)
 | _=>false
def isA (js:List Nat) (env:Env) (d:Nat):Op->Bool
 | .alloc _=>js.contains (nid d 0)
 | .box _ _=>js.contains (nid d 0)
 | .store _ a _=>adJ js (aev env a)
 | .call { callee:=.builtin .append,args, .. }=>js.contains (nid d 0) && args.toList.all fun x=>inJ js (aev env x)
 | _=>false
def CH3 (cl:Cls) (env:Env) (d:Nat) (o:Op):Bool:=match cl with
 | .n=>isN env o
 | .r=>isR env o
 | .w=>true
 | .l j=>isL j env o
 | .a j=>isA j env d o
structure SRes:Type 1 where
 conds:List Prop
 cls:List Cls
 rest:List Oper
 env:Env
 regs:D2
def CP7 (kn:List Nat) (all:List Oper) (env:Env) (o:Oper):Bool:=match o.guard with
 | none=>false
 | some (j,_)=>match kn.contains j with
  | true=>false
  | false=>match get env (AB0 all j) with
   | .p (.bb _)=>true
   | _=>false
def Bd5 (P:Program) (kn:List Nat) (all:List Oper):List Cls->List Oper->List Prop->Env->D2->SRes
 | cl :: cls,o :: rest,c,env,regs=>
  match CP7 kn all env o with
  | true=>⟨c,cl :: cls,o :: rest,env,regs⟩
  | false=>match Am8 all env o with
  | some true=>match CF2 o.op && CH3 cl env (o.dst.getD 0) o.op with
   | true=>match aop P env regs (o.dst.getD 0) o.op with
    | none=>⟨c,cl :: cls,o :: rest,env,regs⟩
    | some ⟨p,v,regs'⟩=>fA v fun v=>fR regs' fun regs'=>fC p c fun c=>
     match o.dst with
     | some d=>CE8 d v env fun env=>Bd5 P kn all cls rest c env regs'
     | none=>Bd5 P kn all cls rest c env regs'
   | false=>⟨c,cl :: cls,o :: rest,env,regs⟩
  | some false=>match o.dst with
   | some d=>CE8 d Ak5 env fun env=>Bd5 P kn all cls rest c env regs
   | none=>Bd5 P kn all cls rest c env regs
  | none=>⟨c,cl :: cls,o :: rest,env,regs⟩
 | cls,rest,c,env,regs=>⟨c,cls,rest,env,regs⟩
section
variable {S:Ag9} {P:Program}
theorem Cv4 {env:Env} {R R' : D2} {d:Nat} {o:Op} {c:List Prop} {v:AV} (hr:isR env o=true) (h:aop P env R d o=some ⟨c,v,R'⟩):R' = R:=by
 have gen:isN env o=true->R' = R:=fun hn=>(Bo8 hn h).1
 cases o with
 | load t a=>
  simp only [aop] at h
  split at h
  ·simp only [Option.some.injEq,Out.mk.injEq] at h;exact h.2.2.symm
  ·cases h
 | indexAddr t x i=>
  simp only [aop] at h
  split at h
  ·split at h
   ·simp only [Option.some.injEq,Out.mk.injEq] at h;exact h.2.2.symm
   ·cases h
  ·cases h
 | lookup t m k ok=>
  simp only [isR] at hr
  cases hk:aev env k <;> simp only [hk,isP,Bool.false_eq_true] at hr
  simp only [aop,hk,AR4] at h
  split at h
  ·simp only [Option.some.injEq,Out.mk.injEq] at h;exact h.2.2.symm
  ·cases h
 | call cc=>
  obtain ⟨callee,args,types⟩:=cc
  cases callee with
  | builtin b=>
   cases b with
   | len=>
    simp only [aop] at h
    split at h
    ·split at h
     ·simp only [Option.some.injEq,Out.mk.injEq] at h;exact h.2.2.symm
     ·cases h
    ·cases h
   | _=>exact gen hr
  | _=>exact gen hr
 | _=>exact gen hr
theorem AV8 (regs:D2) (d t:Nat) (x:Obj):A5 (ins d x regs) t=if d=t then some x else A5 regs t:=by
 induction regs with
 | nil=>simp [ins,A5]
 | cons p r ih=>
  obtain ⟨i,b⟩:=p
  simp only [ins]
  split
  ·simp only [A5]
  ·split
   ·rename_i h;subst h;simp only [A5];split <;> rfl
   ·rename_i h1 h2
    simp only [A5,ih]
    by_cases h:i=t
    ·simp only [h,if_true]
     rw [if_neg (by omega)]
    ·simp only [h,if_false]
theorem BT5 {js:List Nat} {a:AV} (h:adJ js a=true):∃ i ∈ js,(∃ off,a=.reg i off) \/ ∃ k n off,a=.elt i k n off:=by
 cases a with
 | reg i off=>exact ⟨i,by simpa [adJ] using h, .inl ⟨off,rfl⟩⟩
 | elt i k n off=>exact ⟨i,by simpa [adJ] using h, .inr ⟨k,n,off,rfl⟩⟩
 | _=>cases h
section
variable {js:List Nat} {R R2:D2} (hR:∀ q ∈ js,A5 R2 q=A5 R q)
include hR
theorem Cv5 {t:TypeId} {a:AV} (ha:adJ js a=true):load P R2 t a=load P R t a:=by
 obtain ⟨i,hi,⟨off,rfl⟩ | ⟨k,n,off,rfl⟩⟩:=BT5 ha <;> simp only [load,hR i hi]
theorem BZ9 {t:TypeId} {x:AV} {n:Int} (ha:(adJ js x || inJ js x)=true):Ap1 P R2 t x n=Ap1 P R t x n:=by
 cases x with
 | vec i=>
  have hi:i ∈ js:=by simpa [adJ,inJ] using ha
  unfold Ap1;cases tk P t with
  | none=>rfl
  | some k=>cases k <;> first | rfl | simp only [hR i hi]
 | vecp i m=>
  have hi:i ∈ js:=by simpa [adJ,inJ] using ha
  unfold Ap1;cases tk P t with
  | none=>rfl
  | some k=>cases k <;> first | rfl | simp only [hR i hi]
 | reg i off=>unfold Ap1;cases tk P t with
  | none=>rfl
  | some k=>cases k <;> rfl
 | p y=>unfold Ap1;cases tk P t with
  | none=>rfl
  | some k=>cases k <;> cases y <;> rfl
 | elt i k n off=>unfold Ap1;cases tk P t with
  | none=>rfl
  | some k=>cases k <;> rfl
 | _=>cases ha
theorem Cv6 {t:TypeId} {x:AV} (ha:inJ js x=true):Cg0 P R2 t x=Cg0 P R t x:=by
 cases x with
 | vec i=>
  have hi:i ∈ js:=by simpa [inJ] using ha
  unfold Cg0;cases tk P t with
  | none=>rfl
  | some k=>cases k <;> first | rfl | simp only [hR i hi]
 | vecp i m=>unfold Cg0;cases tk P t with
  | none=>rfl
  | some k=>cases k <;> rfl
 | p y=>unfold Cg0;split <;> simp_all
 | _=>cases ha
theorem Bx6 {k:Nat} {x:AV} (ha:inJ js x=true):elems R2 k x=elems R k x:=by
 cases x with
 | vec i=>
  have hi:i ∈ js:=by simpa [inJ] using ha
  simp only [elems,hR i hi]
 | vecp i m=>
  have hi:i ∈ js:=by simpa [inJ] using ha
  simp only [elems,hR i hi]
 | p y=>unfold elems;split <;> simp_all
 | _=>cases ha
theorem Cj9 {e:TypeId} {k:Nat} {x:AV} {q:Nat × (Nat->List PV) × Bool × D2} (ha:inJ js x=true) (h:Bu2 R e k x=some q) :
 (Bu2 R2 e k x=some (q.1,q.2.1,q.2.2.1,R2)/\q.2.2.2=R) \/ ∃ j ∈ js,Bu2 R2 e k x=some (q.1,q.2.1,q.2.2.1,ins j .dead R2)/\q.2.2.2=ins j .dead R:=by
 cases x with
 | vec i=>
  have hi:i ∈ js:=by simpa [inJ] using ha
  simp only [Bu2] at h ⊢
  rw [hR i hi]
  right
  refine ⟨i,hi, ?_⟩
  cases hr:A5 R i with
  | none=>simp [hr] at h
  | some o=>
   cases o with
   | vec e' m n f vw=>
    simp only [hr] at h ⊢
    split at h
    ·rename_i hc;cases h;exact ⟨by rw [if_pos hc],rfl⟩
    ·cases h
   | _=>simp [hr] at h
 | vecp i m=>
  have hi:i ∈ js:=by simpa [inJ] using ha
  simp only [Bu2] at h ⊢
  rw [hR i hi]
  right
  refine ⟨i,hi, ?_⟩
  cases hr:A5 R i with
  | none=>simp [hr] at h
  | some o=>
   cases o with
   | vec e' m n f vw=>
    cases vw with
    | true=>simp [hr] at h
    | false=>
     simp only [hr] at h ⊢
     split at h
     ·rename_i hc;cases h;exact ⟨by rw [if_pos hc],rfl⟩
     ·cases h
   | _=>simp [hr] at h
 | p y=>
  left
  unfold Bu2 at h ⊢
  split at h
  ·cases h;exact ⟨rfl,rfl⟩
  ·rename_i h1;cases h1
  ·rename_i h1;cases h1
  ·cases h
 | _=>cases ha
theorem Ck0 {t:TypeId} {a x:AV} {c:List Prop} {R' : D2} (ha:adJ js a=true) (h:store P R t a x=some (c,R')):∃ i ∈ js,∃ o,R' = ins i o R/\store P R2 t a x=some (c,ins i o R2):=by
 obtain ⟨i,hi,hai⟩:=BT5 ha
 refine ⟨i,hi, ?_⟩
 have h2:=hR i hi
 have fin:∀ (p:Prop) [Decidable p] (c0:List Prop) (o:Obj),(if p then some (c0,ins i o R) else none)=some (c,R')->∃ o',R' = ins i o' R/\(if p then some (c0,ins i o R2) else none)=some (c,ins i o' R2):=by
  intro p _ c0 o h
  split at h
  ·rename_i hc
   simp only [Option.some.injEq,Prod.mk.injEq] at h
   obtain ⟨rfl,rfl⟩:=h
   exact ⟨o,rfl,by rw [if_pos hc]⟩
  ·cases h
 cases hts:tsz P t with
 | none=>simp [store,hts] at h
 | some m=>
  cases hst:Ag2 x with
  | false=>simp [store,hts,hst] at h
  | true=>
   cases hr:A5 R i with
   | none=>rcases hai with ⟨off,rfl⟩ | ⟨k,n,off,rfl⟩ <;> simp [store,hts,hst,hr] at h
   | some o=>
    rw [hr] at h2
    rcases hai with ⟨off,rfl⟩ | ⟨k,n,off,rfl⟩
    ·simp only [store,hts,hst,hr,h2] at h ⊢
     cases o with
     | cells cs=>exact fin _ _ _ h
     | arr n f=>
      cases x with
      | p y=>cases y with
       | agg ps=>exact fin _ _ _ h
       | _=>exact fin _ _ _ h
      | _=>simp at h
     | _=>simp at h
    ·simp only [store,hts,hst,hr,h2] at h ⊢
     cases o with
     | vec e k' n' f vw=>
      cases vw with
      | true=>simp at h
      | false=>cases x with
       | p y=>exact fin _ _ _ h
       | _=>simp at h
     | _=>simp at h
end
theorem Cv7 {js:List Nat} {env:Env} {R R' : D2} {d:Nat} {o:Op} {c:List Prop} {v:AV} (hr:isL js env o=true) (h:aop P env R d o=some ⟨c,v,R'⟩):R' = R/\∀ R2,(∀ q ∈ js,A5 R2 q=A5 R q)->aop P env R2 d o=some ⟨c,v,R2⟩:=by
 cases o with
 | load t a=>
  simp only [isL] at hr
  simp only [aop] at h ⊢
  cases hl:load P R t (aev env a) with
  | none=>simp [hl] at h
  | some q=>
   obtain ⟨c',a'⟩:=q
   simp only [hl,Option.some.injEq,Out.mk.injEq] at h
   obtain ⟨rfl,rfl,rfl⟩:=h
   exact ⟨rfl,fun R2 h2=>by rw [Cv5 h2 hr,hl]⟩
 | indexAddr t x i=>
  simp only [isL] at hr
  simp only [aop] at h ⊢
  cases hi:asInt (aev env i) with
  | none=>simp [hi] at h
  | some n=>
   simp only [hi] at h ⊢
   cases hl:Ap1 P R t (aev env x) n with
   | none=>simp [hl] at h
   | some q=>
    obtain ⟨c',a'⟩:=q
    simp only [hl,Option.some.injEq,Out.mk.injEq] at h
    obtain ⟨rfl,rfl,rfl⟩:=h
    exact ⟨rfl,fun R2 h2=>by rw [BZ9 h2 hr,hl]⟩
 | call cc=>
  obtain ⟨callee,args,types⟩:=cc
  cases callee with
  | builtin b=>
   cases b with
   | len=>
    simp only [isL] at hr
    simp only [aop] at h ⊢
    split at h
    ·rename_i x t hx ht
     simp only [hx,List.all_cons,List.all_nil,Bool.and_true] at hr
     cases hl:Cg0 P R t (aev env x) with
     | none=>simp [hl] at h
     | some n=>
      simp only [hl,Option.some.injEq,Out.mk.injEq] at h
      obtain ⟨rfl,rfl,rfl⟩:=h
      exact ⟨rfl,fun R2 h2=>by simp only [Cv6 h2 hr,hl]⟩
    ·cases h
   | _=>cases hr
  | _=>cases hr
 | _=>cases hr
theorem Cv8 {js:List Nat} {env:Env} {R R' : D2} {d:Nat} {o:Op} {c:List Prop} {v:AV} (hr:isA js env d o=true) (h:aop P env R d o=some ⟨c,v,R'⟩) :
 ∀ R2,(∀ q ∈ js,A5 R2 q=A5 R q)->∃ R3,aop P env R2 d o=some ⟨c,v,R3⟩/\(∀ q ∈ js,A5 R3 q=A5 R' q)/\∀ q,q ∉ js->A5 R3 q=A5 R2 q:=by
 intro R2 h2
 have up:∀ {A B:D2} (i:Nat) (x:Obj),i ∈ js->(∀ q ∈ js,A5 A q=A5 B q)->(∀ q,q ∉ js->A5 A q=A5 R2 q)->(∀ q ∈ js,A5 (ins i x A) q=A5 (ins i x B) q)/\∀ q,q ∉ js->A5 (ins i x A) q=A5 R2 q:=by
  intro A B i x hi h1 h2
  refine ⟨fun q hq=>by rw [AV8,AV8,h1 q hq],fun q hq=>?_⟩
  rw [AV8,if_neg (by rintro rfl;exact hq hi),h2 q hq]
 have one:=fun {i:Nat} (x:Obj) (hi:i ∈ js)=>up i x hi h2 fun _ _=>rfl
 cases o with
 | alloc t=>
  have hj:nid d 0 ∈ js:=by simpa [isA] using hr
  simp only [aop,h2 _ hj] at h ⊢
  split at h
  ·rename_i z h1 h3
   split at h
   ·rename_i hz
    simp only [Option.some.injEq,Out.mk.injEq] at h
    obtain ⟨rfl,rfl,rfl⟩:=h
    exact ⟨_,by simp only [h1,h3,hz,if_true],one _ hj⟩
   ·cases h
  ·cases h
 | box t x=>
  have hj:nid d 0 ∈ js:=by simpa [isA] using hr
  simp only [aop,h2 _ hj] at h ⊢
  split at h
  ·rename_i h1 h3
   simp only [Option.some.injEq,Out.mk.injEq] at h
   obtain ⟨rfl,rfl,rfl⟩:=h
   exact ⟨_,by simp only [h1,h3],one _ hj⟩
  ·cases h
 | store t a x=>
  simp only [isA] at hr
  simp only [aop] at h ⊢
  split at h
  ·rename_i hs
   simp only [Option.some.injEq,Out.mk.injEq] at h
   obtain ⟨rfl,rfl,rfl⟩:=h
   obtain ⟨i,hi,o,rfl,hs2⟩:=Ck0 h2 hr hs
   exact ⟨_,by simp only [hs2],one _ hi⟩
  ·cases h
 | call cc=>
  obtain ⟨callee,args,types⟩:=cc
  cases callee with
  | builtin b=>
   cases b with
   | append=>
    simp only [isA,Bool.and_eq_true] at hr
    have hj:nid d 0 ∈ js:=by simpa using hr.1
    have hr:=hr.2
    simp only [aop,h2 _ hj] at h ⊢
    split at h
    ·rename_i s x t t2 hx ht
     simp only [hx,List.all_cons,List.all_nil,Bool.and_true,Bool.and_eq_true] at hr
     split at h
     ·rename_i e k2 hk1 hk2
      split at h
      ·rename_i m z hz1 hz2 hz3
       split at h
       ·rename_i n g l f vw regs1 hn he htk
        split at h
        ·rename_i hc
         simp only [Option.some.injEq,Out.mk.injEq] at h
         obtain ⟨rfl,rfl,rfl⟩:=h
         rcases Cj9 h2 hr.1 htk with ⟨h3,h4⟩ | ⟨j,hjj,h3,h4⟩
         ·simp only at h3 h4
          subst h4
          refine ⟨ins (nid d 0) (.vec e m (l+n) (T4 l f g) vw) R2, ?_,one _ hj⟩
          simp only [Bx6 h2 hr.2,hz1,hz2,hz3,hn,he,h3]
          rw [if_pos hc]
         ·simp only at h3 h4
          subst h4
          have h5:=one (i:=j) .dead hjj
          refine ⟨ins (nid d 0) (.vec e m (l+n) (T4 l f g) vw) (ins j .dead R2), ?_,up _ _ hj h5.1 h5.2⟩
          simp only [Bx6 h2 hr.2,hz1,hz2,hz3,hn,he,h3]
          rw [if_pos hc]
        ·cases h
       ·cases h
      ·cases h
     ·cases h
    ·cases h
   | _=>cases hr
  | _=>cases hr
 | _=>cases hr
theorem Ca0 {cl:Cls} {env:Env} {R R' : D2} {d:Nat} {o:Op} {c:List Prop} {v:AV} (hr:CH3 cl env d o=true) (h:aop P env R d o=some ⟨c,v,R'⟩):clsF cl (isN env o=true) (R' = R)/\clsX P cl env R d o c v R':=by
 cases cl with
 | n=>exact ⟨hr,trivial⟩
 | r=>exact ⟨Cv4 hr h,trivial⟩
 | w=>exact ⟨trivial,trivial⟩
 | l j=>exact ⟨trivial,Cv7 hr h⟩
 | a j=>exact ⟨trivial,Cv8 hr h⟩
variable {kn:List Nat} {all:List Oper} {k:Env->D2->Prop}
theorem AV9:∀ (cls:List Cls) (rest:List Oper) (c:List Prop) (env:Env) (regs:D2),E9 (Bd5 P kn all cls rest c env regs).conds ->
 E9 c/\(Bd4 S P all (Bd5 P kn all cls rest c env regs).cls (Bd5 P kn all cls rest c env regs).rest (Bd5 P kn all cls rest c env regs).env (Bd5 P kn all cls rest c env regs).regs k->Bd4 S P all cls rest env regs k)
 | [], [],c,env,regs,h=>⟨h,fun h=>h⟩
 | [],_ :: _,c,env,regs,h=>⟨h,fun h=>h⟩
 | _ :: _, [],c,env,regs,h=>⟨h,fun h=>h⟩
 | cl :: cls,o :: rest,c,env,regs,h=>by
  simp only [Bd5] at h ⊢
  cases hst:CP7 kn all env o with
  | true=>simp only [hst] at h ⊢;exact ⟨h,fun h=>h⟩
  | false=>
  simp only [hst] at h ⊢
  cases hg:Am8 all env o with
  | none=>simp only [hg] at h ⊢;exact ⟨h,fun h=>h⟩
  | some b=>
   cases b with
   | true=>
    simp only [hg] at h ⊢
    cases ha:(CF2 o.op && CH3 cl env (o.dst.getD 0) o.op) with
    | false=>simp only [ha] at h ⊢;exact ⟨h,fun h=>h⟩
    | true=>
     simp only [ha] at h ⊢
     simp only [Bool.and_eq_true] at ha
     cases hp:aop P env regs (o.dst.getD 0) o.op with
     | none=>simp only [hp] at h ⊢;exact ⟨h,fun h=>h⟩
     | some q=>
      obtain ⟨p,v,regs'⟩:=q
      simp only [hp,Ct0,CF0,CO0] at h ⊢
      have fin:∀ (env' : Env),env' = Bi8 o.dst v env->(E9 (p ++ c)/\(Bd4 S P all (Bd5 P kn all cls rest (p ++ c) env' regs').cls (Bd5 P kn all cls rest (p ++ c) env' regs').rest (Bd5 P kn all cls rest (p ++ c) env' regs').env (Bd5 P kn all cls rest (p ++ c) env' regs').regs k->Bd4 S P all cls rest env' regs' k)) ->
       E9 c/\(Bd4 S P all (Bd5 P kn all cls rest (p ++ c) env' regs').cls (Bd5 P kn all cls rest (p ++ c) env' regs').rest (Bd5 P kn all cls rest (p ++ c) env' regs').env (Bd5 P kn all cls rest (p ++ c) env' regs').regs k->Bd4 S P all (cl :: cls) (o :: rest) env regs k):=by
       rintro env' rfl ⟨h1,h2⟩
       obtain ⟨h3,h4⟩:=(AE0 _ _).1 h1
       exact ⟨h3,fun hs=>⟨true,hg,by rw [if_pos rfl];exact ⟨v,regs', .inl ⟨p,hp,h4,Ca0 ha.2 hp⟩,h2 hs⟩⟩⟩
      cases hd:o.dst with
      | some d=>
       simp only [hd,Bn3] at h ⊢
       exact fin _ (by simp [hd,Bi8]) (AV9 cls rest _ _ _ h)
      | none=>
       simp only [hd] at h ⊢
       exact fin _ (by simp [hd,Bi8]) (AV9 cls rest _ _ _ h)
   | false=>
    simp only [hg] at h ⊢
    cases hd:o.dst with
    | some d=>
     simp only [hd,Bn3] at h ⊢
     obtain ⟨h1,h2⟩:=AV9 cls rest _ _ _ h
     exact ⟨h1,fun hs=>⟨false,hg,by simp only [Bool.false_eq_true,if_false,hd,Bi8];exact h2 hs⟩⟩
    | none=>
     simp only [hd] at h ⊢
     obtain ⟨h1,h2⟩:=AV9 cls rest _ _ _ h
     exact ⟨h1,fun hs=>⟨false,hg,by simp only [Bool.false_eq_true,if_false,hd,Bi8];exact h2 hs⟩⟩
theorem s_go {cls cls' : List Cls} {rest rest' : List Oper} {c:List Prop} {env env' : Env} {regs regs' : D2} (h:Bd5 P kn all cls rest [] env regs=⟨c,cls',rest',env',regs'⟩) (hc:E9 c) (hk:Bd4 S P all cls' rest' env' regs' k):Bd4 S P all cls rest env regs k:=by
 have:=AV9 (S:=S) (kn:=kn) (k:=k) cls rest [] env regs (by rw [h];exact hc)
 rw [h] at this
 exact this.2 hk
theorem s_end {cls:List Cls} {env:Env} {regs:D2} (h:k env regs):Bd4 S P all cls [] env regs k:=by
 cases cls <;> exact h
theorem CP8 {cl:Cls} {cls:List Cls} {o:Oper} {rest:List Oper} {env:Env} {regs:D2} {c:Call} {f:Operand} {fn:FuncId} {as' args:List AV} {r:AV} (hg:Am8 all env o=some true) (ho:o.op=.call c) (hf:c.callee=.value f)
 (ha:((c.args.toList.map (aev env)).all Cj7)=true) (hw:BH3 env f (c.args.toList.map (aev env))=some (fn,as')) (hr:Aj5 [] as' = some args) (hF:Ct2 S fn args r)
 (hk:Bd4 S P all cls rest (Bi8 o.dst (unA [] r) env) regs k):Bd4 S P all (cl :: cls) (o :: rest) env regs k:=
 ⟨true,hg,by rw [if_pos rfl];exact ⟨_,regs, .inr (.inl ⟨⟨c,f,fn,as',args,r,ho,hf,ha,hw,hr,hF,rfl⟩,rfl⟩),hk⟩⟩
theorem CH4 {cls:List Cls} {o:Oper} {rest:List Oper} {env:Env} {regs regs1:D2} {c:Call} {f:Operand} {as:List AV} {fn:FuncId} {as' args:List AV} {objs objs' : List Obj} {ks:List Bool} {r:AV} (ids:List Nat) (hg:Am8 all env o=some true) (ho:o.op=.call c) (hf:c.callee=.value f)
 (ha:Bd3 regs (c.args.toList.map (aev env))=some (as,regs1)) (hw:BH3 env f as=some (fn,as')) (hr:Aj5 ids as' = some args) (hob:I7 ids regs1 ids=some objs) (hF:FunO S fn args objs r objs' ks)
 (hd:F7 ids=true) (hy:Ap3 objs=true) (hn:Ak4 regs1 ids ks (o.dst.getD 0) objs'.length=true)
 (hk:Bd4 S P all cls rest (Bi8 o.dst (unA (N4 (o.dst.getD 0) ids ks objs'.length) r) env) (Cg1 (N4 (o.dst.getD 0) ids ks objs'.length) (N4 (o.dst.getD 0) ids ks objs'.length) objs' (N5 ids ks regs1)) k) :
 Bd4 S P all (.w :: cls) (o :: rest) env regs k:=
 ⟨true,hg,by rw [if_pos rfl];exact ⟨_,_, .inr (.inr (.inl ⟨rfl,c,f,as,regs1,fn,as',args,objs,objs',ks,r,ids,ho,hf,ha,hw,hr,hob,hF,hd,hy,hn,rfl,rfl⟩)),hk⟩⟩
theorem Cv9 {cl:Cls} {cls:List Cls} {o:Oper} {rest:List Oper} {env:Env} {regs:D2} {c:List Prop} {x:PV} (hg:Am8 all env o=some true) (ha:Bu4 P env o.op=some (c,x)) (hc:E9 c)
 (hk:Bd4 S P all cls rest (Bi8 o.dst (.p x) env) regs k):Bd4 S P all (cl :: cls) (o :: rest) env regs k:=
 ⟨true,hg,by rw [if_pos rfl];exact ⟨_,regs, .inr (.inr (.inr ⟨c,x,ha,hc,rfl,rfl⟩)),hk⟩⟩
def CU2 (o:Op):Cls:=match o with
 | .buildSlice ..=>.n
 | o=>clsOf o
theorem Cw0 (hS:I2 S P) {F:J1} {K:List It} {id:Nat} {ops:Array Oper} {st:St} {cls:List Cls} (hmix:P.follows .mixedOrders=true) (hcls:ops.toList.map (fun o=>CU2 o.op)=cls) (hok:AO3 ops.toList cls=true)
 (h:Bd4 S P ops.toList cls ops.toList st.env st.regs fun env regs=>G S P F (.pop .normal K ⟨env,regs⟩)):G S P F (.code (.region id ops true) K st):=
 BT4 hS cls hmix hok h
end
end Go.AM
set_option linter.unusedVariables false
namespace Go.AM
section
variable {S:Ag9} {P:Program} {F:J1} {K:List It} {st:St}
theorem AL1 (hS:I2 S P) {f:FuncId} {fn:Func} {code:Code} {args:List AV} {objs:List Obj} {Q:Bd2->List Obj->List Bool->Prop} {rs:List ResultVar} (hf:P.funcs[f]? = some fn) (hc:fn.body=some code) (hn:args.length<=fn.ntmps) (ho:objs.length < 1000)
 (hrs:fn.results.toList=rs) (hco:Y6 fn.ntmps code=true) (hnm:(fn.name == "runtime.NumGoroutine")=false)
 (h:G S P (Ai9 S P objs.length rs Q) (.code code [] { env:=argEnv args,regs:=objRegs objs })):S.F f args objs Q:=by
 subst hrs
 exact hS.func f fn code args objs _ hf hc hnm hco hn ho (hS.refl _ _ h)
theorem CH5 (hS:I2 S P) {all rest:List Oper} {o:Oper} {c:Call} {f:Operand} {j:Nat} {xs ys:List PV} {regs:D2} {rest0:List (List PV)}
 (hg:Au4 all st.env o=some true) (ho:o.op=.call c) (hf:c.callee=.value f) (hy:aev st.env f=.yf j) (hv:AK0 st.regs (c.args.toList.map (aev st.env))=some (xs,regs))
 (hr:A5 regs j=some (.yld (ys :: rest0) true)) (hon:Ar7 j regs=true) (hle:CE7 xs ys)
 (hk:∀ b:Bool,G S P F (.ops all rest K (put { st with regs:=ins j (.yld (if b then rest0 else []) b) regs } o.dst (.p (.bb b))))):G S P F (.ops all (o :: rest) K st):=by
 refine Aw0 hS hg ?_
 unfold wOp
 obtain ⟨callee,cargs,types⟩:=c
 simp only at hf hv
 subst hf
 rw [ho]
 exact .inr ⟨j,xs,regs,ys,rest0,hy,hv,hr,hon,hle,hk⟩
theorem Cw1 (hS:I2 S P) {all rest:List Oper} {o:Oper} {c:Call} {rv:Operand} {m:String} {as:List AV} {regs:D2} {t:TypeId} {y:PV} {fn:FuncId} {args:List AV} {r:AV}
 (hg:Au4 all st.env o=some true) (ho:o.op=.call c) (hf:c.callee=.invoke rv m) (ha:Bd3 st.regs (c.args.toList.map (aev st.env))=some (as,regs)) (hrv:aev st.env rv=.p (.iface t y)) (hm:Bu7 P t m=some fn)
 (hr:Aj5 [] (.p y :: as)=some args) (hF:Ct2 S fn args r)
 (hk:G S P F (.ops all rest K (put { env:=st.env,regs:=regs } o.dst (unA [] r)))):G S P F (.ops all (o :: rest) K st):=by
 refine Aw0 hS hg ?_
 unfold wOp
 obtain ⟨callee,cargs,types⟩:=c
 simp only at hf ha
 subst hf
 rw [ho]
 refine ⟨as,regs,t,y,fn,ha,hrv,hm, [],args, [],rfl,hr,rfl,rfl,hS.monoF _ _ _ _ _ ?_ hF⟩
 rintro _ _ _ ⟨rfl,rfl,rfl⟩
 exact ⟨rfl,hk⟩
theorem CH6 (hS:I2 S P) {all rest:List Oper} {o:Oper} {x:Operand} {t:TypeId} {y:PV} (hg:Au4 all st.env o=some true) (ho:o.op=.panic x) (hx:aev st.env x=.p (.iface t y)) (hk:G S P F (.pop (.panic (.iface t y)) K st)):G S P F (.ops all (o :: rest) K st):=by
 refine Aw0 hS hg ?_
 unfold wOp
 rw [ho]
 exact ⟨t,y,hx,hk⟩
def Ao2 (S:Ag9) (f:FuncId) (first caps:List AV) (objs:List Obj) (L:List (List PV)):Prop:=
 S.F f (first ++ .yf objs.length :: caps) (objs ++ [.yld L true]) fun r objs' ks=>∃ b,objs'[objs.length]? = some (.yld [] b)/\ks[objs.length]? = some true/\∃ a,r=.ret a
def Ac9 (S:Ag9) (P:Program) (body:Code) (gh:Nat) (ts:List Nat) (next:St->Prop) (Q:J1):J1
 | .normal,s=>S.up s fun s=>awp S P body (Ao1 S gh ts next Q) s
 | _,_=>False
theorem G_asg (hS:I2 S P) {body:Code} {gh:Nat} {ts:List Nat} {next:St->Prop} {Q:J1} (h:G S P (Ao1 S gh ts next Q) (.code body [] st)):G S P (Ac9 S P body gh ts next Q) (.pop .normal [] st):=
 hS.refl _ _ h
def Cw2 {X:Type} (s:X->St) (J:List (List PV)->X->Prop) (rest:List (List PV)) (t:St):Prop:=∃ x,t=s x/\J rest x
theorem Ck1 (hS:I2 S P) {g:Operand} {ps:Array Tmp} {asg body:Code} {f:FuncId} {first caps as bs:List AV} {objs:List Obj} (ids ts:List Nat) (gh:Nat) (L:List (List PV)) {X:Type} (s:X->St) (J:List (List PV)->X->Prop) (x0:X) (idl:List (Nat × Nat))
 (hp:Ao0 st.env g=some (f,first,caps)) (hfn:∃ fn,P.funcs[f]? = some fn/\fn.body.isSome=true/\(fn.name == "runtime.NumGoroutine")=false) (hob:I7 ids st.regs ids=some objs) (hny:Ap3 objs=true) (hd:F7 ids=true) (hr1:Aj5 ids first=some as) (hr2:Aj5 ids caps=some bs) (hol:objs.length=ids.length)
 (hgh:gh < 1000) (hng:A5 st.regs gh=none) (hil:ids.length < 1000) (hts:F7 ts=true) (hlen:∀ ys ∈ L,ys.length=ps.size)
 (hF:Ao2 S f as bs objs L) (hle:Le idl ⟨T9 ts (ts.map (get st.env)),N5 ids (ids.map fun _=>false) st.regs⟩ (s x0)) (h0:J L x0) (hk:∀ x,(s x).env.map (·.1)=ts) (hn:∀ x,A5 (s x).regs gh=none)
 (hround:∀ ys rest x,J (ys :: rest) x->G S P (Ac9 S P body gh ts (Cw2 s J rest) (kp S P K F)) (.code asg [] ⟨AF6 ps.toList ys (s x).env,ins gh (.ghost ((s x).env.map (·.2))) (s x).regs⟩))
 (hend:∀ x,J [] x->G S P F (.pop .normal K (s x))):G S P F (.code (.rangeFunc g ps asg body) K st):=by
 have hdup:∀ {l:List Nat},F7 l=true->l.Nodup:=by
  intro l
  induction l with
  | nil=>intro _;exact List.nodup_nil
  | cons a r ih=>
   intro h
   simp only [F7,Bool.and_eq_true,Bool.not_eq_true',List.contains_eq_mem,decide_eq_false_iff_not] at h
   exact List.nodup_cons.2 ⟨h.1,ih h.2⟩
 refine ⟨f,first,caps,as,bs,objs,ids,ts,gh,L,Cw2 s J,fun _ r=>∃ a,r=.ret a,hp,hfn,hny,hd,hr1,hr2,hob,hgh,hng,hil,hdup hts,hlen,hS.le idl _ _ _ hle ⟨hk x0,hn x0,x0,rfl,h0⟩, ?_, ?_, ?_⟩
 ·rintro ys rest _ _ _ ⟨x,rfl,hJ⟩
  have h:=hround ys rest x hJ
  have e:Ac9 S P body gh ts (Cw2 s J rest) (kp S P K F)=fun e s'=>match e with
   | .normal=>S.up s' fun s'=>awp S P body (Ao1 S gh ts (Cw2 s J rest) (kp S P K F)) s'
   | _=>False:=by funext e s';cases e <;> rfl
  rw [e] at h
  exact h
 ·rintro _ r _ _ ⟨x,rfl,hJ⟩ ⟨a,rfl⟩
  exact hend x hJ
 ·rw [<- hol]
  refine hS.monoF _ _ _ _ _ ?_ hF
  rintro r o ks ⟨b,h1,h2,h3⟩
  exact ⟨b,h1,h2,h3,fun _=>h3⟩
theorem BJ3 (hS:I2 S P) {gh:Nat} {ts:List Nat} {X:Type} {s:X->St} {J:List (List PV)->X->Prop} {rest:List (List PV)} {Q:J1} (st1:St) {cs:List AV} (x:X) (idl:List (Nat × Nat)) (hle:Le idl st st1) (hg:A5 st1.regs gh=some (.ghost cs)) (hl:cs.length=ts.length) (hd:A5 (del gh st1.regs) gh=none)
 (he:(⟨T9 ts cs,del gh st1.regs⟩:St)=s x) (hJ:J rest x):G S P (Ao1 S gh ts (Cw2 s J rest) Q) (.pop .normal [] st):=
 hS.le idl _ _ _ hle ⟨cs,hg,hl,hd,x,he,hJ⟩
theorem BT6 (hS:I2 S P) {gh:Nat} {ts:List Nat} {next:St->Prop} {e:AT5} (he:match e with | .normal | .panic _=>False | _=>True) (st1:St) {cs:List AV} (idl:List (Nat × Nat)) (hle:Le idl st st1) (hg:A5 st1.regs gh=some (.ghost cs)) (hl:cs.length=ts.length) (hd:A5 (del gh st1.regs) gh=none)
 (hk:G S P F (.pop e K ⟨T9 ts cs,del gh st1.regs⟩)):G S P (Ao1 S gh ts next (kp S P K F)) (.pop e [] st):=by
 cases e with
 | normal=>exact he.elim
 | panic x=>exact he.elim
 | exit id=>exact hS.le idl _ _ _ hle ⟨cs,hg,hl,hd,hk⟩
 | goto t=>exact hS.le idl _ _ _ hle ⟨cs,hg,hl,hd,hk⟩
 | ret=>exact hS.le idl _ _ _ hle ⟨cs,hg,hl,hd,hk⟩
end
end Go.AM
set_option linter.unusedVariables false
namespace Go.AM
theorem Bo9 {n:Nat} (h:n < 2 ^ 32):IntKind.u32.wrap (n:Int)=n:=by
 have h1:((n:Int) % (2 ^ 32:Int))=n:=Int.emod_eq_of_lt (by omega) (by omega)
 unfold IntKind.wrap
 simp only [IntKind.bits,IntKind.signed,h1,Bool.false_and,Bool.false_eq_true,if_false]
abbrev u32 (x:BitVec 32):PV:=.v (.int .u32 x.toNat)
theorem AE6 (x:BitVec 32):BitVec.ofInt 32 (x.toNat:Int)=x:=by
 apply BitVec.eq_of_toNat_eq
 rw [BitVec.toNat_ofInt]
 have:=x.isLt
 omega
theorem As2 (x y:BitVec 32):C6 .and .u32 x.toNat y.toNat=((x &&& y).toNat:Int):=by
 simp only [C6,IntKind.bits,AE6]
 exact Bo9 (x &&& y).isLt
theorem AO5 (x y:BitVec 32):C6 .or .u32 x.toNat y.toNat=((x ||| y).toNat:Int):=by
 simp only [C6,IntKind.bits,AE6]
 exact Bo9 (x ||| y).isLt
theorem Aq0 (x y:BitVec 32):C6 .andNot .u32 x.toNat y.toNat=((x &&& ~~~ y).toNat:Int):=by
 simp only [C6,IntKind.bits,AE6]
 exact Bo9 (x &&& ~~~ y).isLt
theorem CC5 (x:BitVec 32) (n:Nat):shI .shr .u32 x.toNat n=((x >>> n).toNat:Int):=by
 simp only [shI,IntKind.bits,Int.toNat_natCast]
 have hx:=x.isLt
 rw [BitVec.toNat_ushiftRight,Nat.shiftRight_eq_div_pow]
 have e:((2:Int) ^ (min n 32))=((2 ^ (min n 32):Nat):Int):=by norm_cast
 rw [e,Int.fdiv_eq_ediv_of_nonneg _ (Int.natCast_nonneg _), <- Int.natCast_ediv]
 congr 1
 by_cases h:n<=32
 ·rw [Nat.min_eq_left h]
 ·rw [Nat.min_eq_right (by omega),Nat.div_eq_of_lt hx,Nat.div_eq_of_lt]
  exact Nat.lt_of_lt_of_le hx (Nat.pow_le_pow_right (by omega) (by omega))
theorem CP9 (x:BitVec 32) (n:Nat):shI .shl .u32 x.toNat n=((x <<< n).toNat:Int):=by
 simp only [shI,IntKind.bits,Int.toNat_natCast]
 rw [BitVec.toNat_shiftLeft,Nat.shiftLeft_eq]
 unfold IntKind.wrap
 simp only [IntKind.bits,IntKind.signed,Bool.false_and,Bool.false_eq_true,if_false]
 by_cases h:n<=32
 ·rw [Nat.min_eq_left h]
  norm_cast
 ·rw [Nat.min_eq_right (by omega)]
  have h1:x.toNat * 2 ^ n % 2 ^ 32=0:=by
   obtain ⟨d,rfl⟩:∃ d,n=32+d:=⟨n - 32,by omega⟩
   rw [Nat.pow_add, <- Nat.mul_assoc,Nat.mul_right_comm,Nat.mul_mod_left]
  have h2:x.toNat * 2 ^ 32 % 2 ^ 32=0:=Nat.mul_mod_left _ _
  rw [h1]
  simp
end Go.AM
set_option linter.unusedVariables false
namespace Go.AM
theorem AB8 {P:Program} {f:FuncId} {args:List PV} {r:AV} (hent:∀ as w,(callFunc f as).run P w=.ok (.enter f as) w)
 (h:∀ (w:World) (Pi:Nat->Nat->Prop) (vs:Array Value),TabOk P w Pi->(∀ b off,Pi b off->b < w.heap.size)->vs.size=args.length->(∀ i,i < args.length->RepP w Pi (vs.getD i undef) (args.getD i default)) ->
  Calls P f vs w fun e w'=>∃ v,e=.returned v/\RowKit.Below w.heap.size w w' /\ ∀ live rho,RepA w' Pi live rho v r):Ct2 (AA0 P) f (args.map .p) r:=by
 intro 𝒢 C w vs rho hG hs hsz
 have h0:=h w (Prv C.X (A5 (objRegs [])) rho) vs ((𝒢.tab C hG).keeps hs.keep) (fun b off hp=>by
  rcases hp with hp | ⟨j,o,hj,_⟩
  ·exact hs.hp.bound b off hp
  ·simp [objRegs,objRegs.go,A5] at hj) (by simpa using hsz) (fun i hi=>by
  have:=hs.env i
  rw [Ab9] at this
  have e:(args.map AV.p).getD i .top=.p (args.getD i default):=by simp [hi]
  rw [e] at this
  exact this.toP)
 refine ⟨_,_,hent _ _,callsIn_wide.2 (h0.mono ?_)⟩
 rintro e w' ⟨v,rfl,hb,hv⟩
 have hk:Keeps w (Prv C.X (A5 (objRegs [])) rho) w' (Prv C.X (A5 (objRegs [])) rho):=fun b o v hp hc=>⟨by
  rw [<- hc];exact World.cell?_of_block (hb.block b (World.block_lt_of_cell? w ⟨b,o,none⟩ hc)),hp⟩
 refine ⟨C, .ret r, [], [],rho,hG,⟨rfl,rfl,rfl⟩, ?_,⟨v,rfl,hv _ _⟩,fun i hi=>by simp at hi⟩
 have hno:∀ j,A5 (objRegs []) j=none:=fun j=>by simp [objRegs,objRegs.go,A5]
 refine ⟨⟨fun j o hj=>by simp [hno] at hj,fun i j oi oj b hj=>by simp [hno] at hj,fun j o b off hj=>by simp [hno] at hj,fun b off hp=>Nat.lt_of_lt_of_le (hs.hp.bound b off hp) hb.size⟩,hs.ext.trans ⟨hb.os,hb.output⟩,Nat.le_trans hs.size hb.size,fun b hlt hE=>?_,hs.keep.trans hk,fun b hbo=>?_,fun j r b hj=>by simp [hno] at hj⟩
 ·rw [hb.block b (Nat.lt_of_lt_of_le hlt hs.size)];exact hs.same b hlt hE
 ·obtain ⟨j,o,hj,_⟩:=hbo;simp [hno] at hj
theorem Bp0 {P:Program} {f:FuncId} {args:List PV} {r:AV} (hent:∀ as w,(callFunc f as).run P w=.ok (.enter f as) w)
 (h:∀ (w:World) (Pi:Nat->Nat->Prop) (vs:Array Value),(∀ b off,Pi b off->b < w.heap.size)->vs.size=args.length->(∀ i,i < args.length->RepP w Pi (vs.getD i undef) (args.getD i default)) ->
  Calls P f vs w fun e w'=>∃ v,e=.returned v/\RowKit.Below w.heap.size w w' /\ ∀ live rho,RepA w' Pi live rho v r):Ct2 (AA0 P) f (args.map .p) r:=
 AB8 hent fun w Pi vs _=>h w Pi vs
end Go.AM
set_option linter.unusedVariables false
namespace Go.AM
open Go.RowKit Go.ChangeShapes
def CU3 (W:World):Ctx:={ X:=fun _ _=>False,w0:=W,E0:=fun _=>False,Pi0:=fun _ _=>False,rho0:=fun _=>undef,Y:=fun _ _=>False,yv:=undef }
theorem CH7 {W:World} {vs:Array Value} {args:List PV} (hsz:vs.size=args.length) (hr:∀ i,i < args.length->RepP W (fun _ _=>False) (vs.getD i undef) (args.getD i default)) :
 Sat (CU3 W) ⟨argEnv (args.map .p),objRegs []⟩ ⟨vs, []⟩ W (fun _=>undef):=by
 have hno:∀ j,A5 (objRegs []) j=none:=fun j=>by simp [objRegs,objRegs.go,A5]
 have hprv:∀ b o, ¬ Prv (CU3 W).X (A5 (objRegs [])) (fun _=>undef) b o:=fun b o h=>by
  rcases h with h | ⟨j,o',hj,_⟩
  ·exact h
  ·simp [hno] at hj
 refine ⟨⟨⟨fun j o hj=>by simp [hno] at hj,fun i j oi oj b hj=>by simp [hno] at hj,fun j o b off hj=>by simp [hno] at hj,fun b off hp=>hp.elim⟩,Ext.refl _,Nat.le_refl _,fun _ _ _=>rfl,fun b o v _ hc=>⟨hc,hprv b o⟩,fun b hb=>?_,fun j r b hj=>by simp [hno] at hj⟩,fun t=>?_,fun j _ hl=>?_,List.nodup_nil,fun d hd=>by cases hd⟩
 ·obtain ⟨j,o,hj,_⟩:=hb;simp [hno] at hj
 ·show RepA W _ _ _ (vs.getD t undef) (get (argEnv (args.map .p)) t)
  rw [Ab9]
  by_cases ht:t < args.length
  ·have e:(args.map AV.p).getD t .top=.p (args.getD t default):=by simp [ht]
   rw [e]
   exact .p _ _ ((hr t ht).keeps fun b o v _ hc=>⟨hc,hprv b o⟩)
  ·have e:(args.map AV.p).getD t .top=.top:=by simp [Nat.le_of_not_lt ht]
   rw [e];exact .top _
 ·obtain ⟨o,ho⟩:=hl
structure CQ0 (W w' : World):Prop where
 os:w'.os=W.os
 output:w'.output=W.output
 size:W.heap.size<=w'.heap.size
 block:∀ b,b < W.heap.size->w'.heap[b]? = W.heap[b]?
theorem As3 {P:Program} {f:FuncId} {args:List PV} (hent:∀ as w,(callFunc f as).run P w=.ok (.enter f as) w) (h:Ct2 (AA0 P) f (args.map .p) (.p (.bb true)))
 {W:World} {vs:Array Value} (hT:TabOk P W fun _ _=>False) (hsz:vs.size=args.length) (hr:∀ i,i < args.length->RepP W (fun _ _=>False) (vs.getD i undef) (args.getD i default)) :
 Calls P f vs W fun e w'=>e=.returned (.bool true)/\CQ0 W w':=by
 obtain ⟨nx,w1,h1,h2⟩:=h (Prot.triv P (CU3 W) (fun _ _ h=>h) hT) (CU3 W) W vs _ rfl (CH7 hsz hr) (by simpa using hsz)
 rw [hent] at h1
 cases h1
 refine (callsIn_wide.1 h2).mono ?_
 rintro e w' ⟨C',r,objs',ks,rho',rfl,⟨rfl,rfl,rfl⟩,hE,⟨v,rfl,hv⟩,_⟩
 cases hv with
 | p _ _ hp=>
  cases hp
  exact ⟨rfl,hE.ext.1,hE.ext.2,hE.size,fun b hb=>hE.same b hb fun h=>h⟩
section
variable {H:Type} {enc:TypeId × Value->H} {P:Program}
theorem Cw3 {W w' : World} (h:CQ0 W w') (may:MemPlace->Prop):W.keptBut w' may:=by
 refine ⟨h.os,h.output,fun i hi=>?_⟩
 rw [h.block i hi]
 generalize W.heap[i]? = o
 cases o with
 | none=>trivial
 | some o=>cases o <;> first | exact ⟨rfl,rfl,rfl,fun _ _=>rfl⟩ | exact .inr ⟨rfl,rfl⟩ | rfl
theorem Ck2 {W w' : World} (h:CQ0 W w') {p:MemPlace} (hp:p.block < W.heap.size):W.sameAt w' p:=by
 have hb:RowKit.Below W.heap.size W { w' with tape:=W.tape }:=⟨h.os,rfl,h.output,h.size,fun k hk=>h.block k hk⟩
 exact hb.same hp
theorem AO6 {W w' : World} (hk:CQ0 W w') (hl:laidOutB P=true) {sp:Nat->Bool}:∀ {ts:List TypeId} {vs:List Value} {ds:List (DataW H)} {ps:List MemPlace},(∀ t ∈ ts,P.readableRec t=true/\t < P.types.size) ->
 (∀ p ∈ ps,p.block < W.heap.size)->(∀ p ∈ ps,sp p.block=true)->DataW.TrodAll enc P W 0 (fun _=>true) true ts vs ds ps->DataW.TrodAll enc P w' 0 sp true ts vs ds ps
 | [], [], [],_,_,_,_,h=>h
 | t :: ts,v :: vs,d :: ds,_,hr,hlt,hs,⟨p,q,h1,h2,e⟩=>by
  subst e
  refine ⟨p,q, ?_,AO6 hk hl (fun t ht=>hr t (List.mem_cons.2 (.inr ht))) (fun x hx=>hlt x (List.mem_append_right _ hx)) (fun x hx=>hs x (List.mem_append_right _ hx)) h2,rfl⟩
  exact WideElems.Trod_stays hl (hr t (by simp)).1 (hr t (by simp)).2 h1 (fun x hx=>Ck2 hk (hlt x (List.mem_append_left _ hx))) (fun x hx=>hs x (List.mem_append_left _ hx))
theorem Bp1 {f:Func} {s:ChangeSpec} {tb:TypeId} {W W' : World} {args:Array Value} {ds gs:List (DataW H)} {before:List MemPlace} (hvars:s.vars=[]) (hres:f.resultTypes = #[tb]) (htb:P.underlying tb=some .bool) (hl:laidOutB P=true)
 (hread:∀ t ∈ f.params.toList,P.readableRec t=true/\t < P.types.size) (hW:DataW.Whole enc P f.params.toList s.vars false W args.toList ds gs before)
 (hfn:s.fn H ds={ results:=[.lit (.bool true)],args:=ds,vars:=[] }) (hk:CQ0 W W'):s.post enc P f false true false false W args (.bool true) W':=by
 have hlt:∀ p ∈ before,p.block < W.heap.size:=fun p hp=>hW.lt p hp
 have hW0:=hW
 obtain ⟨p,q,hA,hV,rfl,hz,hn⟩:=hW
 rw [hvars] at hV
 obtain ⟨rfl,rfl⟩:=trodVars_none hV
 simp only [List.append_nil] at hlt hW0
 have hA' : ∀ sp:Nat->Bool,(∀ x ∈ p,sp x.block=true)->DataW.TrodAll enc P W' 0 sp true f.params.toList args.toList (s.fn H (ds ++ [])).args p:=fun sp hsp=>by
  rw [List.append_nil,hfn];exact AO6 hk hl hread hlt hsp hA
 have hR:∀ (b:Nat) (sp:Nat->Bool) (hd:Bool),DataW.TrodAll enc P W' b sp hd f.resultTypes.toList ((Value.bool true).resultList f.resultTypes.size) (s.fn H (ds ++ [])).results []:=fun b sp hd=>by
  rw [List.append_nil,hfn,hres]
  exact ⟨[], [],shut_bool htb _,rfl,rfl⟩
 have hV' : ∀ sp:Nat->Bool,DataW.TrodVars enc P W' sp s.vars (s.fn H (ds ++ [])).vars []:=fun sp=>by rw [List.append_nil,hfn,hvars];rfl
 refine ⟨ds, [],p, [],p, [],hW0,hR _ _ _,hA' _ (fun x hx=>by simpa using hlt x hx),hV' _,Cw3 hk _,fun _=>?_⟩
 refine ⟨ok_one hres rfl (by simp [Value.okWide,htb,Cell.okWide,Cell.ok]),_,_,([] ++ p) ++ [],⟨[] ++ p, [],trodAll_append (hA' _ fun _ _=>rfl) (hR _ _ _),hV' _,rfl, ?_, ?_⟩, ?_⟩
 ·intro b off hp
  have hp' : MemPlace.cell b off ∈ p:=by simpa using hp
  have:=hz b off (by simpa using hp')
  have hb:=hlt _ hp'
  simp only [MemPlace.block] at hb
  simp only [World.frozen?,hk.block b hb] at this ⊢
  exact this
 ·intro ha
  have:=hn ha
  simpa using this
 ·intro p' hp _
  simpa using hp
end
end Go.AM
set_option linter.unusedVariables false
namespace Go.AM
open Go.RowKit Go.ChangeShapes Go.Deep
def BJ4 (l:List Nat):Nat:=l.foldr (· + ·) 0
theorem Bx7 (a:Nat) (l:List Nat):BJ4 (a :: l)=a+BJ4 l:=rfl
structure Bulk {H:Type} (B:DataW H->Nat):Prop where
 int:∀ k n,1<=B (.lit (.int k n))
 bool:∀ b,1<=B (.lit (.bool b))
 str:∀ l,l.length+1<=B (.lit (.string l))
 nil:1<=B .nil
 slice:∀ es sp,BJ4 (es.map B)+1<=B (.slice es sp)
 agg:∀ ps,BJ4 (ps.map B)+1<=B (.agg ps)
mutual
inductive AL2 (P:Program):Nat->TypeId->List PV->Prop
 | int {m:Nat} {t:TypeId} {k:IntKind} {n:Int} (ht:P.underlying t=some (.int k)) (hw:(Lit.int k n).wf=true) (hm:1<=m):AL2 P m t [.v (.int k n)]
 | bool {m:Nat} {t:TypeId} {b:Bool} (ht:P.underlying t=some .bool) (hm:1<=m):AL2 P m t [.bb b]
 | str {m:Nat} {t:TypeId} {l:List UInt8} (ht:P.underlying t=some .string) (hm:l.length+1<=m):AL2 P m t [.str l]
 | slice {m:Nat} {t e:TypeId} {n:Nat} {f:Nat->List PV} (ms:Nat->Nat) (ht:P.underlying t=some (.slice e)) (hl:∀ i,i < n->(f i).length=P.cellsOf e) (h:∀ i,i < n->AL2 P (ms i) e (f i))
  (hm:BJ4 ((List.range n).map ms)+1<=m):AL2 P m t [.sl false (P.cellsOf e) n f]
 | struct {m m' : Nat} {t:TypeId} {fs:Array Field} {pvs:List PV} (ht:P.underlying t=some (.struct fs)) (h:AG7 P m (fs.toList.map (·.type)) pvs) (hm:m+1<=m'):AL2 P m' t pvs
inductive AG7 (P:Program):Nat->List TypeId->List PV->Prop
 | nil {m:Nat}:AG7 P m [] []
 | cons {a b m:Nat} {t:TypeId} {ts:List TypeId} {p q:List PV} (h:AL2 P a t p) (h' : AG7 P b ts q) (hm:a+b<=m):AG7 P m (t :: ts) (p ++ q)
end
def CRep (W:World) (cs:List Value) (pvs:List PV):Prop:=
 cs.length=pvs.length/\∀ i,i < pvs.length->RepP W (fun _ _=>False) (cs.getD i undef) (pvs.getD i default)/\(cs.getD i undef).oneCell' = true
theorem Bx8 {α : Type} (a b:List α) (d : α) {i:Nat} (h:i < a.length):(a ++ b).getD i d=a.getD i d:=by
 simp [List.getD_eq_getElem?_getD,List.getElem?_append_left h]
theorem Bx9 {α : Type} (a b:List α) (d : α) {i:Nat} (h:a.length<=i):(a ++ b).getD i d=b.getD (i - a.length) d:=by
 simp [List.getD_eq_getElem?_getD,List.getElem?_append_right h]
theorem CRep.append {W:World} {a b:List Value} {p q:List PV} (h:CRep W a p) (h' : CRep W b q):CRep W (a ++ b) (p ++ q):=by
 refine ⟨by simp [h.1,h'.1],fun i hi=>?_⟩
 by_cases hlt:i < p.length
 ·rw [Bx8 _ _ _ (by rw [h.1];exact hlt),Bx8 _ _ _ hlt];exact h.2 i hlt
 ·have hlt' : i - p.length < q.length:=by simp at hi;omega
  rw [Bx9 _ _ _ (by rw [h.1];omega),Bx9 _ _ _ (by omega),h.1]
  exact h'.2 _ hlt'
theorem CRep.one {W:World} {v:Value} {x:PV} (h:RepP W (fun _ _=>False) v x) (h1:v.oneCell' = true):CRep W [v] [x]:=by
 refine ⟨rfl,fun i hi=>?_⟩
 obtain rfl:i=0:=by simpa using hi
 exact ⟨h,h1⟩
def BT7 (P:Program) (T:List TypeId):Bool:=T.all fun t=>match P.underlying t with
 | some (.int _) | some .bool | some .string=>true
 | some (.slice e)=>T.contains e && decide (0 < P.cellsOf e)
 | some (.struct fs)=>fs.toList.all fun f=>T.contains f.type
 | _=>false
section
variable {H:Type} {enc:TypeId × Value->H} {P:Program} {W:World}
theorem Bj2 {B:DataW H->Nat} {r:TypeId->List Value->Option (DataW H × List MemPlace)} (T:TypeId->Prop)
 (ih:∀ t cs x,T t->r t cs=some x->∃ pvs,CRep W cs pvs/\AL2 P (B x.1) t pvs) :
 ∀ (fs:List Field) (xs:List (DataW H × List MemPlace)) (cs:List Value) (base:Nat),(∀ f ∈ fs,T f.type)->cs.length=(fs.map fun f=>P.cellsOf f.type).sum ->
  (∀ (j:Nat) f,fs[j]? = some f->f.offset=base+((fs.take j).map fun f=>P.cellsOf f.type).sum)->xs.length=fs.length ->
  (∀ (i:Nat) f,fs[i]? = some f->r f.type ((cs.drop (f.offset - base)).take (P.cellsOf f.type))=xs[i]?) ->
  ∃ pvs,CRep W cs pvs/\AG7 P (BJ4 (xs.map fun x=>B x.1)) (fs.map (·.type)) pvs
 | [],xs,cs,base,_,hl,_,hx,_=>by
  obtain rfl:xs=[]:=List.eq_nil_of_length_eq_zero hx
  obtain rfl:cs=[]:=List.eq_nil_of_length_eq_zero (by simpa using hl)
  exact ⟨[],⟨rfl,fun i hi=>absurd hi (by simp)⟩, .nil⟩
 | f :: fs,xs,cs,base,hT,hl,ho,hx,hr=>by
  cases xs with
  | nil=>simp at hx
  | cons x xs=>
   have h0:=ho 0 f rfl
   simp only [List.take_zero,List.map_nil,List.sum_nil,Nat.add_zero] at h0
   have hr0:=hr 0 f rfl
   rw [h0,Nat.sub_self,List.drop_zero] at hr0
   obtain ⟨p,hp,hs⟩:=ih _ _ _ (hT f (by simp)) hr0
   simp only [List.map_cons,List.sum_cons] at hl
   obtain ⟨q,hq,hs'⟩:=Bj2 T ih fs xs (cs.drop (P.cellsOf f.type)) (base+P.cellsOf f.type) (fun g hg=>hT g (by simp [hg])) (by simp [hl])
    (fun j g hg=>by
     have:=ho (j+1) g (by simpa using hg)
     simp only [List.take_succ_cons,List.map_cons,List.sum_cons] at this
     omega) (by simpa using hx)
    (fun i g hg=>by
     have:=hr (i+1) g (by simpa using hg)
     have hog:=ho (i+1) g (by simpa using hg)
     simp only [List.take_succ_cons,List.map_cons,List.sum_cons] at hog
     rw [List.drop_drop,show P.cellsOf f.type+(g.offset - (base+P.cellsOf f.type))=g.offset - base by omega]
     simpa using this)
   refine ⟨p ++ q, ?_, .cons hs hs' (Nat.le_refl _)⟩
   have:=hp.append hq
   rwa [List.take_append_drop] at this
theorem Ac0 (K:Kids P (· < P.types.size)) {B:DataW H->Nat} (hB:Bulk B) {T:List TypeId} (hT:BT7 P T=true) (hTl:∀ t ∈ T,t < P.types.size):∀ (fuel:Nat) (t:TypeId) (cs:List Value) (x:DataW H × List MemPlace),t ∈ T ->
 DataW.trod enc P W 0 (fun _=>true) true fuel t cs=some x->∃ pvs,CRep W cs pvs/\AL2 P (B x.1) t pvs:=by
 intro fuel
 induction fuel with
 | zero=>intro t cs x _ h;simp [DataW.trod] at h
 | succ n ih=>
  intro t cs x ht h
  have hp:=List.all_eq_true.1 hT t ht
  cases hu:P.underlying t with
  | none=>simp [hu] at hp
  | some d=>
   cases d with
   | bool=>
    obtain ⟨b,rfl,rfl⟩:=DataW.trod_bool hu h
    exact ⟨[.bb b], .one (.bb b) rfl, .bool hu (hB.bool b)⟩
   | int k=>
    obtain ⟨m,rfl,rfl,hw⟩:=DataW.trod_int hu h
    exact ⟨[.v (.int k m)], .one (.v _) rfl, .int hu hw (hB.int _ _)⟩
   | string=>
    obtain ⟨s,rfl,rfl,_⟩:=DataW.trod_string hu h
    refine ⟨[.str s.data.toList], .one ?_ rfl, .str hu (hB.str _)⟩
    have:=RepP.str (w:=W) (Pi:=fun _ _=>False) s.data.toList
    simpa using this
   | slice e=>
    simp only [hu,Bool.and_eq_true,List.contains_eq_mem,decide_eq_true_eq] at hp
    obtain ⟨hpe,hpk⟩:=hp
    rcases DataW.trod_slice hu h with ⟨rfl,rfl⟩ | ⟨a,len,cap,elems,rest,n',hn,rfl,rfl,_,hlen,_,hel,hall,_⟩
    ·exact ⟨[.sl false (P.cellsOf e) 0 fun _=>[]], .one (.slnil _ _) rfl, .slice (fun _=>0) hu (fun i hi=>absurd hi (by omega)) (fun i hi=>absurd hi (by omega)) (by simpa [BJ4] using hB.nil)⟩
    ·obtain rfl:n' = n:=by omega
     have each:∀ i,i < len->∃ z:List PV × (Nat × (Nat->Value)),z.1.length=P.cellsOf e/\AL2 P z.2.1 e z.1/\z.2.1=B (elems.getD i (.nil, [])).1 /\
      ∀ j,j < P.cellsOf e->W.cell? ((a.add (i * P.cellsOf e)).add j)=some (z.2.2 j)/\RepP W (fun _ _=>False) (z.2.2 j) (z.1.getD j default)/\(z.2.2 j).oneCell' = true:=by
      intro i hi
      have hk:=hall i hi
      have hi' : i < elems.length:=by omega
      rw [List.getElem?_eq_getElem hi'] at hk
      obtain ⟨cs',h1,h2⟩:=Option.bind_eq_some_iff.1 hk
      obtain ⟨pvs,hc,hs⟩:=ih _ _ _ hpe h2
      obtain ⟨_,hl',hcell⟩:=World.cells?_some h1
      refine ⟨(pvs,(_,fun j=>cs'.getD j undef)),by rw [<- hc.1,hl'],hs, ?_,fun j hj=>⟨?_,(hc.2 j (by rw [<- hc.1,hl'];exact hj)).1,(hc.2 j (by rw [<- hc.1,hl'];exact hj)).2⟩⟩
      ·simp [List.getD_eq_getElem?_getD,List.getElem?_eq_getElem hi']
      ·rw [hcell j hj];simp [List.getElem?_eq_getElem (show j < cs'.length by omega)]
     obtain ⟨z,hz⟩:=choose_lt (α:=List PV × (Nat × (Nat->Value))) each
     obtain ⟨b,off,sp⟩:=a
     have hsp:0 < len->sp=none:=fun h0=>by
      have:=((hz 0 h0).2.2.2 0 hpk).1
      simpa [Addr.add] using World.cell?_spot this
     refine ⟨[.sl false (P.cellsOf e) len fun i=>(z i).1], .one (.sl false b off cap (P.cellsOf e) len _ (fun i j=>(z i).2.2 j) hlen (fun i hi=>(hz i hi).1) (fun i j hi hj=>?_) (fun i j hi hj=>((hz i hi).2.2.2 j hj).2.1) sp hsp) rfl,
      .slice (fun i=>(z i).2.1) hu (fun i hi=>(hz i hi).1) (fun i hi=>(hz i hi).2.1) ?_⟩
     ·have:=((hz i hi).2.2.2 j hj).1
      obtain rfl:=hsp (by omega)
      refine ⟨?_,fun h=>h,((hz i hi).2.2.2 j hj).2.2⟩
      rw [<- this,WideShapes.add_plain,WideShapes.add_plain]
     ·refine Nat.le_trans (Nat.succ_le_succ (Nat.le_of_eq (congrArg BJ4 ?_))) (hB.slice (elems.map (·.1)) (rest.map (·.1)))
      apply List.ext_getElem
      ·simp [hel]
      ·intro i h1 h2
       simp only [List.length_map,List.length_range] at h1
       have:=(hz i h1).2.2.1
       simp only [List.getElem_map,List.getElem_range,this]
       simp [List.getD_eq_getElem?_getD,List.getElem?_eq_getElem (show i < elems.length by omega)]
   | struct fs=>
    simp only [hu] at hp
    obtain ⟨xs,n',hn,rfl,hl,hx,hr⟩:=DataW.trod_struct hu h
    obtain ⟨h1,h2,h3⟩:=K.struct (hTl t ht) hu
    obtain rfl:n' = n:=by omega
    obtain ⟨pvs,hc,hs⟩:=Bj2 (B:=B) (W:=W) (r:=DataW.trod enc P W 0 (fun _=>true) true n') (· ∈ T) ih fs.toList xs cs 0 (fun f hf=>by have:=List.all_eq_true.1 hp f hf;simpa using this) (by rw [hl,h2])
     (fun j f hf=>by rw [h3 j f hf];omega) (by simpa using hx) (fun i f hf=>by rw [Nat.sub_zero];exact hr i f (by simpa using hf))
    refine ⟨pvs,hc, .struct hu hs ?_⟩
    have:=hB.agg (xs.map (·.1))
    simpa [List.map_map,Function.comp_def] using this
   | _=>simp [hu] at hp
end
end Go.AM
set_option linter.unusedVariables false
namespace Go.AM
section
variable {S:Ag9} {P:Program}
theorem BJ5 {d:Option Nat} {k k' : St->Prop} {Q Q' : J1} (hk:∀ s,k s->k' s) (hq:∀ e s,Q e s->Q' e s) (r:Bd2) (s:St) (h:AB4 d k Q r s):AB4 d k' Q' r s:=by
 cases r with
 | ret a=>exact hk _ h
 | panic x=>exact hq _ _ h
theorem AS8 (hS:I2 S P) {o:Oper} {k k' : St->Prop} {Q Q' : J1} (hk:∀ s,k s->k' s) (hq:∀ e s,Q e s->Q' e s) {st:St} (h:wOp S P o k Q st):wOp S P o k' Q' st:=by
 have hcall:∀ d ids f args st,BH2 S d ids f args st (AB4 o.dst k Q)->BH2 S d ids f args st (AB4 o.dst k' Q'):=by
  rintro d ids f args st ⟨a,ob,h1,h2,h3,h4,h5⟩
  exact ⟨a,ob,h1,h2,h3,h4,hS.monoF _ _ _ _ _ (fun r o ks ⟨h6,h7⟩=>⟨h6,BJ5 hk hq _ _ h7⟩) h5⟩
 unfold wOp at h ⊢
 split at h
 ·rcases h with ⟨as,regs,f',as',h1,h2,ids,h3⟩ | ⟨j,xs,regs,ys,rest,h1,h2,h3,h4,h5,h6⟩
  ·exact .inl ⟨as,regs,f',as',h1,h2,ids,hcall _ _ _ _ _ h3⟩
  ·exact .inr ⟨j,xs,regs,ys,rest,h1,h2,h3,h4,h5,fun b=>hk _ (h6 b)⟩
 ·obtain ⟨as,regs,t,y,f',h1,h2,h3,ids,h4⟩:=h
  exact ⟨as,regs,t,y,f',h1,h2,h3,ids,hcall _ _ _ _ _ h4⟩
 ·obtain ⟨t,y,h1,h2⟩:=h
  exact ⟨t,y,h1,hq _ _ h2⟩
 ·rcases h with ⟨out,h1,h2,h3⟩ | ⟨c,x,h1,h2,h3⟩
  ·exact .inl ⟨out,h1,h2,hk _ h3⟩
  ·exact .inr ⟨c,x,h1,h2,hk _ h3⟩
theorem Aw8 (hS:I2 S P) {all:List Oper} {Q Q' : J1} (hq:∀ e s,Q e s->Q' e s):∀ (rest:List Oper) {st:St},AN6 S P all rest Q st->AN6 S P all rest Q' st
 | [],st,h=>hq _ _ h
 | o :: rest,st,h=>by
  simp only [AN6] at h ⊢
  refine hS.mono _ _ _ (fun t h=>?_) h
  split at h
  ·exact AS8 hS (fun s=>Aw8 hS hq rest) hq h
  ·obtain ⟨b,h1,h2⟩:=h
   refine ⟨b,h1, ?_⟩
   split
   ·rename_i hb;rw [if_pos hb] at h2;exact AS8 hS (fun s=>Aw8 hS hq rest) hq h2
   ·rename_i hb;rw [if_neg hb] at h2;exact Aw8 hS hq rest h2
theorem AL3 (hS:I2 S P) {all:List Oper} {o:Oper} {k k' : St->Prop} {Q Q' : J1} (hk:∀ s,k s->k' s) (hq:∀ e s,Q e s->Q' e s) {st:St} (h:Av5 S P all o k Q st):Av5 S P all o k' Q' st:=by
 unfold Av5 at h ⊢
 refine hS.mono _ _ _ (fun t h=>?_) h
 split at h
 ·exact AS8 hS hk hq h
 ·obtain ⟨b,h1,h2⟩:=h
  refine ⟨b,h1, ?_⟩
  split
  ·rename_i hb;rw [if_pos hb] at h2;exact AS8 hS hk hq h2
  ·rename_i hb;rw [if_neg hb] at h2;exact hk _ h2
theorem Cw4 (hS:I2 S P) {ops:List Oper} {Q:J1} {st:St} (hm:P.follows .mixedOrders=true) (hd:AB5 ops=true) (h:S.up st fun s=>BX5 S P ops Q s):BX5 S P ops Q st:=by
 refine ⟨hm,hd,fun D s=>S.up s fun s'=>∃ Inv:(Nat->Bool)->St->Prop,Inv D s' /\
  (∀ D i s o,Inv D s->ops[i]? = some o->D i=false->(∀ e ∈ o.after.toList,Ak6 e=true->D e.on=true) ->
   Av5 S P ops o (Inv fun j=>if j=i then true else D j) Q s) /\
  ∀ D s,Inv D s->(∀ i,i < ops.length->D i=true)->S.up s (Q .normal), ?_, ?_, ?_⟩
 ·refine hS.mono _ _ _ (fun s hs=>?_) h
  obtain ⟨_,_,Inv,h1,h2,h3⟩:=hs
  exact ⟨Inv,h1,h2,h3⟩
 ·intro D i s o hi ho hDi hde
  have:S.up s fun s'=>Av5 S P ops o (fun t=>S.up t fun t'=>∃ Inv:(Nat->Bool)->St->Prop,Inv (fun j=>if j=i then true else D j) t' /\
   (∀ D i s o,Inv D s->ops[i]? = some o->D i=false->(∀ e ∈ o.after.toList,Ak6 e=true->D e.on=true) ->
    Av5 S P ops o (Inv fun j=>if j=i then true else D j) Q s) /\
   ∀ D s,Inv D s->(∀ i,i < ops.length->D i=true)->S.up s (Q .normal)) Q s':=by
   refine hS.mono _ _ _ (fun s' hs'=>?_) hi
   obtain ⟨Inv,h1,h2,h3⟩:=hs'
   exact AL3 hS (fun t ht=>hS.refl _ _ ⟨Inv,ht,h2,h3⟩) (fun _ _ h=>h) (h2 D i s' o h1 ho hDi hde)
  unfold Av5 at this ⊢
  exact hS.trans _ _ this
 ·intro D s hi hall
  refine hS.trans _ _ (hS.mono _ _ _ (fun s' hs'=>?_) hi)
  obtain ⟨Inv,h1,h2,h3⟩:=hs'
  exact h3 D s' h1 hall
theorem Bp2 (hS:I2 S P) {k k' : St->Prop} {Q Q' : J1} (hk:∀ s,k s->k' s) (hq:∀ e s,Q e s->Q' e s) (e:AT5) (s:St) (h:thn S k Q e s):thn S k' Q' e s:=by
 cases e with
 | normal=>exact hS.mono _ _ _ hk h
 | _=>exact hq _ _ h
theorem Ca1 (hS:I2 S P) {g:Nat} {ts:List Nat} {next:St->Prop} {Q Q' : J1} (hq:∀ e s,Q e s->Q' e s) (e:AT5) (s:St) (h:Ao1 S g ts next Q e s):Ao1 S g ts next Q' e s:=by
 cases e with
 | normal=>exact h
 | panic x=>exact h
 | _=>exact hS.mono _ _ _ (fun t ⟨cs,h1,h2,h3,h4⟩=>⟨cs,h1,h2,h3,hq _ _ h4⟩) h
theorem Ad0 (hS:I2 S P):∀ (c:Code) {Q Q' : J1},(∀ e s,Q e s->Q' e s)->∀ {st:St},awp S P c Q st->awp S P c Q' st
 | .skip,Q,Q',hq,st,h=>hq _ _ h
 | .label _,Q,Q',hq,st,h=>hq _ _ h
 | .region _ ops draw,Q,Q',hq,st,h=>by
  unfold awp at h ⊢
  split
  ·rename_i hb
   rw [if_pos hb] at h
   obtain ⟨h1,h2,Inv,h3,h4,h5⟩:=h
   exact ⟨h1,h2,Inv,h3,fun D i s o a b c d=>AL3 hS (fun _ h=>h) hq (h4 D i s o a b c d),fun D s a b=>hS.mono _ _ _ (fun t=>hq _ t) (h5 D s a b)⟩
  ·rename_i hb;rw [if_neg hb] at h;exact Aw8 hS hq _ h
 | .seq a b,Q,Q',hq,st,h=>Ad0 hS a (Bp2 hS (fun s=>Ad0 hS b hq) hq) h
 | .cond c t e,Q,Q',hq,st,h=>by
  obtain ⟨b,h1,h2⟩:=h
  refine ⟨b,h1, ?_⟩
  split
  ·rename_i hb;rw [if_pos hb] at h2;exact Ad0 hS t hq h2
  ·rename_i hb;rw [if_neg hb] at h2;exact Ad0 hS e hq h2
 | .block id b,Q,Q',hq,st,h=>Ad0 hS b (fun e s h=>by
  cases e with
  | exit i=>simp only [blk] at h ⊢;split at h <;> simp_all
  | _=>exact hq _ _ h) h
 | .loop b,Q,Q',hq,st,h=>by
  obtain ⟨X,s,J,m,h1,h2⟩:=h
  refine ⟨X,s,J,m,h1,fun x hx=>Ad0 hS b (fun e t h=>?_) (h2 x hx)⟩
  cases e with
  | normal=>exact h
  | _=>exact hq _ _ h
 | .scope b,Q,Q',hq,st,h=>Ad0 hS b (fun e s h=>by
  cases e with
  | goto l=>exact h
  | _=>exact hq _ _ h) h
 | .exit id,Q,Q',hq,st,h=>hq _ _ h
 | .goto l,Q,Q',hq,st,h=>hq _ _ h
 | .ret,Q,Q',hq,st,h=>hq _ _ h
 | .rangeFunc g ps asg body,Q,Q',hq,st,h=>by
  obtain ⟨f,first,caps,as,bs,objs,ids,ts,gh,L,I,Fin,h1,h2,h3,h4,h5,h6,h7,h8,h9,h10,h11,h12,h13,h14,h15,h16⟩:=h
  refine ⟨f,first,caps,as,bs,objs,ids,ts,gh,L,I,Fin,h1,h2,h3,h4,h5,h6,h7,h8,h9,h10,h11,h12,h13, ?_, ?_,h16⟩
  ·intro ys rest s a b c
   refine Ad0 hS asg (fun e t h=>?_) (h14 ys rest s a b c)
   cases e with
   | normal=>exact hS.mono _ _ _ (fun t h=>Ad0 hS body (Ca1 hS hq) h) h
   | _=>exact h
  ·intro s r a b c d
   have:=h15 s r a b c d
   cases r with
   | ret v=>exact hq _ _ this
   | panic x=>exact hq _ _ this
 | .refuse _,Q,Q',hq,st,h=>h
theorem CH8 (hS:I2 S P) {F:J1} (hF:∀ s,S.up s (F .normal)->F .normal s):∀ (K:List It) (s:St),S.up s (kp S P K F .normal)->kp S P K F .normal s
 | [],s,h=>hF s h
 | .code c :: K,s,h=>hS.trans _ _ (hS.mono _ _ _ (fun t h=>h) h)
 | .blk id :: K,s,h=>CH8 hS hF K s h
 | .lp X s' J m n :: K,s,h=>hS.trans _ _ h
 | .mid M :: K,s,h=>hS.trans _ _ h
 | .scp :: K,s,h=>CH8 hS hF K s h
theorem CQ1 (hS:I2 S P) {F:J1} (hF:∀ s,S.up s (F .normal)->F .normal s) {K:List It} {M:St->Prop} (hM:∀ t,M t->G S P F (.pop .normal K t)) (e:AT5) (s:St) (h:kp S P (.mid M :: K) F e s):kp S P K F e s:=by
 cases e with
 | normal=>exact CH8 hS hF K s (hS.mono _ _ _ hM h)
 | _=>exact h
end
end Go.AM
set_option linter.unusedVariables false
namespace Go.AM
section
variable {S:Ag9} {P:Program} {F:J1} {K:List It} {st:St}
end
end Go.AM
set_option linter.unusedVariables false
namespace Go.AM
abbrev Str:=List UInt8
structure Sl (α : Type) where
 n:Nat
 g:Nat -> α
instance {α : Type} [Inhabited α]:Inhabited (Sl α):=⟨⟨0,fun _=>default⟩⟩
namespace Sl
variable {α : Type}
def toList (s:Sl α):List α:=(List.range s.n).map s.g
abbrev nil [Inhabited α]:Sl α:=⟨0,fun _=>default⟩
abbrev rep (n:Nat) (a : α):Sl α:=⟨n,fun _=>a⟩
abbrev sub (s:Sl α) (a b:Nat):Sl α:=⟨b - a,fun i=>s.g (a+i)⟩
abbrev drop (s:Sl α) (a:Nat):Sl α:=⟨s.n - a,fun i=>s.g (a+i)⟩
abbrev take (s:Sl α) (b:Nat):Sl α:=⟨b,s.g⟩
abbrev push (s:Sl α) (a : α):Sl α:=⟨s.n+1,fun i=>if i < s.n then s.g i else a⟩
abbrev app (s t:Sl α):Sl α:=⟨s.n+t.n,fun i=>if i < s.n then s.g i else t.g (i - s.n)⟩
abbrev upd (s:Sl α) (k:Nat) (a : α):Sl α:=⟨s.n,fun i=>if i=k then a else s.g i⟩
abbrev of [Inhabited α] (l:List α):Sl α:=⟨l.length,fun i=>l.getD i default⟩
end Sl
abbrev vSl {α : Type} (k:Nat) (c : α -> List PV) (s:Sl α):PV:=.sl false k s.n fun i=>c (s.g i)
abbrev pI (k:IntKind) (n:Int):PV:=.v (.int k n)
abbrev F8 (l:Str) (i:Int):Int:=(((l.getD i.toNat 0).toNat:Nat):Int)
abbrev pN (n:Int):AV:=.p (.v (.int .i64 n))
abbrev pU (n:Int):AV:=.p (.v (.int .u32 n))
abbrev pB (b:Bool):AV:=.p (.bb b)
abbrev P6:PV:=.v (.slice none 0 0)
section
variable {R:Type}
def Ae3 {A:Type} (N:Nat) (body:(A->Option R)->A->Option R):A->Option R:=match N with
 | 0=>fun _=>none
 | N+1=>fun a=>body (Ae3 N body) a
variable {A B C D E F G H:Type}
def V9 (N:Nat) (body:(A->B->Option R)->A->B->Option R) (a:A) (b:B):Option R:=Ae3 N (fun self x=>body (fun a b=>self (a,b)) x.1 x.2) (a,b)
def CN1 (N:Nat) (body:(A->B->C->Option R)->A->B->C->Option R) (a:A) (b:B) (c:C):Option R:=Ae3 N (fun self x=>body (fun a b c=>self (a,b,c)) x.1 x.2.1 x.2.2) (a,b,c)
def Cs2 (N:Nat) (body:(A->B->C->D->Option R)->A->B->C->D->Option R) (a:A) (b:B) (c:C) (d:D):Option R:=Ae3 N (fun self x=>body (fun a b c d=>self (a,b,c,d)) x.1 x.2.1 x.2.2.1 x.2.2.2) (a,b,c,d)
theorem R5 {N:Nat} {body:(A->Option R)->A->Option R} {a:A}:Ae3 (N+1) body a=body (Ae3 N body) a:=rfl
theorem E8 {N:Nat} {body:(A->B->Option R)->A->B->Option R} {a:A} {b:B}:V9 (N+1) body a b=body (V9 N body) a b:=rfl
theorem R6 {N:Nat} {body:(A->B->C->D->Option R)->A->B->C->D->Option R} {a:A} {b:B} {c:C} {d:D}:Cs2 (N+1) body a b c d=body (Cs2 N body) a b c d:=rfl
def lt {K:Type} (k:K) (f:K->Option R):Option R:=f k
end
section
variable {R X Y:Type} {r:R}
theorem itT {b:Bool} {x y:Option R} (hb:b=true) (h:(if b=true then x else y)=some r):x=some r:=by rwa [if_pos hb] at h
theorem itF {b:Bool} {x y:Option R} (hb:b=false) (h:(if b=true then x else y)=some r):y=some r:=by rwa [if_neg (by simp [hb])] at h
theorem F3 {p:Prop} [Decidable p] {x:Option R} (h:(if p then x else none)=some r):p/\x=some r:=by
 split at h
 ·exact ⟨by assumption,h⟩
 ·cases h
theorem A4 {x:Option X} {f:X->Option R} (h:x.bind f=some r):∃ a,x=some a/\f a=some r:=Option.bind_eq_some_iff.1 h
theorem A3 {a b:R} (h:some a=some b):a=b:=Option.some.inj h
end
section
variable {S:Ag9} {P:Program} {F:J1} {K:List It} {st:St}
theorem B0 (hS:I2 S P) {n:Nat} {rs:List ResultVar} {Q:Bd2->List Obj->List Bool->Prop} (s:St) (h:S.up s (Ai9 S P n rs Q .normal)):Ai9 S P n rs Q .normal s:=hS.trans _ _ h
theorem CQ2 (hS:I2 S P) {b:Code} {R A:Type} {body:(A->Option R)->A->Option R} {N:Nat} {a0:A} {r:R} (h:Ae3 N body a0=some r) (s:A->St) (ids:List (Nat × Nat)) (hle:Le ids st (s a0))
 (hr:∀ (X:Type) (s' : X->St) (J:X->Prop) (m:X->Nat) (n:Nat) (self:A->Option R) (a:A),(∀ st ids a,Le ids st (s a)->self a=some r->G S P F (.pop .normal (.lp X s' J m n :: K) st))->body self a=some r->G S P F (.code b (.lp X s' J m n :: K) (s a))) :
 G S P F (.code (.loop b) K st):=by
 refine CB9 hS (X:=Nat × A) (fun x=>s x.2) (fun x=>Ae3 x.1 body x.2=some r) (fun x=>x.1) (N,a0) ids hle h ?_
 rintro ⟨n,a⟩ hx
 cases n with
 | zero=>cases hx
 | succ n=>
  exact hr _ _ _ _ _ (Ae3 n body) a (fun st ids a hle h=>Ch3 hS (n,a) ids hle h (Nat.lt_succ_self n)) hx
theorem Ck3 (hS:I2 S P) {all rest:List Oper} {o:Oper} (t:St) (ids:List (Nat × Nat)) (hle:Le ids st t) (h:G S P F (.ops all (o :: rest) K t)):G S P F (.ops all (o :: rest) K st):=
 Ch2 hS (hS.le ids _ _ _ hle h)
end
theorem pm:(∀ b,(true || b)=true)/\(∀ b,(b || true)=true)/\(∀ b,(false || b)=b)/\(∀ b,(b || false)=b)/\(∀ b,(true && b)=b)/\(∀ b,(b && true)=b)/\(∀ b,(false && b)=false)/\(∀ b,(b && false)=false)/\((!true)=false)/\((!false)=true)/\((false=true)=False)/\((true=true)=True):=by
 refine ⟨?_, ?_, ?_, ?_, ?_, ?_, ?_, ?_, ?_, ?_, ?_, ?_⟩ <;> simp
section
variable {regs:D2} {ids:List (Nat × Nat)}
variable {env r:Env} {t:Nat} {a b:AV} {x y:PV}
theorem eP (hg:get env t=a) (h:viewP regs a=some y) (h' : AT7 regs ids env r):AT7 regs ids env ((t, .p y) :: r):=CC0 hg (le_p h) h'
theorem eM {i j:Nat} (hg:get env t=.mref i) (h:lk ids j=some i) (h' : AT7 regs ids env r):AT7 regs ids env ((t, .mref j) :: r):=CC0 hg (Ch4 h) h'
theorem Aw9 {α : Type} {c : α -> List PV} {n:Nat} {v:Sl α} {f:Nat->List PV} {z cs:List PV} {x : α} (h:∀ i,i < n->f i=c (v.g i)) (hn:n=v.n) (hx:cs=c x):∀ i,i < n+1->T4 n f (D9 z [(0,cs)]) i=c ((v.push x).g i):=by
 subst hn hx
 intro i hi
 show (if i < v.n then f i else D9 z [(0,c x)] (i - v.n))=c (if i < v.n then v.g i else x)
 split
 ·exact h i ‹_›
 ·obtain rfl:i=v.n:=by omega
  simp [D9]
theorem Ca2 {α : Type} {c : α -> List PV} {n m:Nat} {v w:Sl α} {f g:Nat->List PV} (h:∀ i,i < n->f i=c (v.g i)) (hn:n=v.n) (h' : ∀ i,i < m->g i=c (w.g i)) (hm:m=w.n):∀ i,i < n+m->T4 n f g i=c ((v.app w).g i):=by
 subst hn hm
 intro i hi
 show (if i < v.n then f i else g (i - v.n))=c (if i < v.n then v.g i else w.g (i - v.n))
 split
 ·exact h i ‹_›
 ·exact h' _ (by omega)
theorem CH9 {α : Type} {c : α -> List PV} {n k:Nat} {v:Sl α} {f:Nat->List PV} {e:Nat->List PV} {x : α} (h:∀ i,i < n->f i=c (v.g i)) (hx:k < n->e k=c x):∀ i,i < n->(fun l=>if l=k then e l else f l) i=c ((v.upd k x).g i):=by
 intro i hi
 show (if i=k then e i else f i)=c (if i=k then x else v.g i)
 split
 ·subst_vars;exact hx hi
 ·exact h i hi
theorem same {n:Nat} {f:Nat->List PV}:∀ i,i < n->f i=f i:=fun _ _=>rfl
end
end Go.AM
namespace Go.AM
abbrev cI (k:IntKind) (n:Int):List PV:=[.v (.int k n)]
abbrev cB (b:Bool):List PV:=[.bb b]
abbrev cS (s:Str):List PV:=[.str s]
abbrev cL {α : Type} (k:Nat) (c : α -> List PV) (s:Sl α):List PV:=[vSl k c s]
section
variable {S:Ag9} {P:Program} {F:J1} {K:List It} {st:St}
end
section
variable {regs:D2} {ids:List (Nat × Nat)}
theorem le_yf {i j:Nat} (h:lk ids j=some i):leA regs ids (.yf i) (.yf j):=by unfold leA;exact ⟨i,h,rfl⟩
theorem CQ3 {l m:List AV} (h:leL regs ids l m):leA regs ids (.tup l) (.tup m):=by unfold leA;exact ⟨l,rfl,h⟩
theorem CQ4 {l m:List AV} (h:leL regs ids l m):leA regs ids (.agr l) (.agr m):=by unfold leA;exact ⟨l,rfl,h⟩
end
end Go.AM
namespace Go.AM
section
variable {R T A B C D:Type}
def iter0 (L:List T) (body:Option R->T->Option R) (k:Option R):Option R:=match L with
 | []=>k
 | t :: L=>body (iter0 L body k) t
def K4 (L:List T) (body:(A->Option R)->T->A->Option R) (k:A->Option R) (a:A):Option R:=match L with
 | []=>k a
 | t :: L=>body (K4 L body k) t a
end
section
variable {S:Ag9} {P:Program} {F:J1} {K:List It} {st:St}
theorem CI0 (hS:I2 S P) {g:Operand} {ps:Array Tmp} {asg body:Code} {f:FuncId} {first caps as bs:List AV} {objs:List Obj} {R T A:Type} {enc:T->List PV} {L:List T} {mb:(A->Option R)->T->A->Option R} {mk:A->Option R} {a0:A} {r:R}
 (ids ts:List Nat) (gh:Nat) (s:A->St) (idl:List (Nat × Nat)) (h:K4 L mb mk a0=some r) (hF:Ao2 S f as bs objs (L.map enc))
 (hp:Ao0 st.env g=some (f,first,caps)) (hfn:∃ fn,P.funcs[f]? = some fn/\fn.body.isSome=true/\(fn.name == "runtime.NumGoroutine")=false) (hob:I7 ids st.regs ids=some objs) (hny:Ap3 objs=true) (hd:F7 ids=true) (hr1:Aj5 ids first=some as) (hr2:Aj5 ids caps=some bs) (hol:objs.length=ids.length)
 (hgh:Nat.blt gh 1000=true) (hng:A5 st.regs gh=none) (hil:Nat.blt ids.length 1000=true) (hts:F7 ts=true) (hlen:∀ t:T,(enc t).length=ps.size)
 (hle:Le idl ⟨T9 ts (ts.map (get st.env)),N5 ids (ids.map fun _=>false) st.regs⟩ (s a0)) (hk:∀ a,(s a).env.map (·.1)=ts) (hn:∀ a,A5 (s a).regs gh=none)
 (hround:∀ (t:T) (next:St->Prop) (self:A->Option R) (a:A),(∀ (st st1:St) (cs:List AV) (idl:List (Nat × Nat)) (a:A),Le idl st st1->A5 st1.regs gh=some (.ghost cs)->cs.length=ts.length->A5 (del gh st1.regs) gh=none->(⟨T9 ts cs,del gh st1.regs⟩:St)=s a->self a=some r->G S P (Ao1 S gh ts next (kp S P K F)) (.pop .normal [] st)) ->
  mb self t a=some r->G S P (Ac9 S P body gh ts next (kp S P K F)) (.code asg [] ⟨AF6 ps.toList (enc t) (s a).env,ins gh (.ghost ((s a).env.map (·.2))) (s a).regs⟩))
 (hend:∀ a,mk a=some r->G S P F (.pop .normal K (s a))):G S P F (.code (.rangeFunc g ps asg body) K st):=by
 refine Ck1 hS ids ts gh (L.map enc) s (fun rest a=>∃ L',rest=L'.map enc/\K4 L' mb mk a=some r) a0 idl hp hfn hob hny hd hr1 hr2 hol (by simpa [Nat.blt_eq] using hgh) hng (by simpa [Nat.blt_eq] using hil) hts (fun ys hy=>?_) hF hle ⟨L,rfl,h⟩ hk hn ?_ ?_
 ·obtain ⟨t,_,rfl⟩:=List.mem_map.1 hy;exact hlen t
 ·rintro ys rest a ⟨L',hL,hx⟩
  cases L' with
  | nil=>cases hL
  | cons t L'=>
   simp only [List.map_cons,List.cons.injEq] at hL
   obtain ⟨rfl,rfl⟩:=hL
   refine hround t _ (K4 L' mb mk) a (fun st st1 cs idl a hle h1 h2 h3 h4 h5=>?_) hx
   exact BJ3 hS st1 a idl hle h1 h2 h3 h4 ⟨L',rfl,h5⟩
 ·rintro a ⟨L',hL,hx⟩
  cases L' with
  | nil=>exact hend a hx
  | cons t L'=>cases hL
theorem Cw5 (hS:I2 S P) {g:Operand} {ps:Array Tmp} {asg body:Code} {f:FuncId} {first caps as bs:List AV} {objs:List Obj} {R T A:Type} {enc:T->List PV} {L:List T} {mb:(A->Option R)->T->A->Option R} {mk:A->Option R} {a0:A} {r0:R}
 (ids ts:List Nat) (gh:Nat) (s:A->R->St) (idl:List (Nat × Nat)) (h:K4 L mb mk a0=some r0) (hF:Ao2 S f as bs objs (L.map enc))
 (hp:Ao0 st.env g=some (f,first,caps)) (hfn:∃ fn,P.funcs[f]? = some fn/\fn.body.isSome=true/\(fn.name == "runtime.NumGoroutine")=false) (hob:I7 ids st.regs ids=some objs) (hny:Ap3 objs=true) (hd:F7 ids=true) (hr1:Aj5 ids first=some as) (hr2:Aj5 ids caps=some bs) (hol:objs.length=ids.length)
 (hgh:Nat.blt gh 1000=true) (hng:A5 st.regs gh=none) (hil:Nat.blt ids.length 1000=true) (hts:F7 ts=true) (hlen:∀ t:T,(enc t).length=ps.size)
 (hle:Le idl ⟨T9 ts (ts.map (get st.env)),N5 ids (ids.map fun _=>false) st.regs⟩ (s a0 r0)) (hk:∀ a r,(s a r).env.map (·.1)=ts) (hn:∀ a r,A5 (s a r).regs gh=none)
 (hround:∀ (t:T) (next:St->Prop) (self:A->Option R) (a:A) (r:R),(∀ (st st1:St) (cs:List AV) (idl:List (Nat × Nat)) (a:A) (r:R),Le idl st st1->A5 st1.regs gh=some (.ghost cs)->cs.length=ts.length->A5 (del gh st1.regs) gh=none->(⟨T9 ts cs,del gh st1.regs⟩:St)=s a r->self a=some r->G S P (Ao1 S gh ts next (kp S P K F)) (.pop .normal [] st)) ->
  mb self t a=some r->G S P (Ac9 S P body gh ts next (kp S P K F)) (.code asg [] ⟨AF6 ps.toList (enc t) (s a r).env,ins gh (.ghost ((s a r).env.map (·.2))) (s a r).regs⟩))
 (hend:∀ a r,mk a=some r->G S P F (.pop .normal K (s a r))):G S P F (.code (.rangeFunc g ps asg body) K st):=by
 refine Ck1 hS ids ts gh (L.map enc) (fun x:A × R=>s x.1 x.2) (fun rest x=>∃ L',rest=L'.map enc/\K4 L' mb mk x.1=some x.2) (a0,r0) idl hp hfn hob hny hd hr1 hr2 hol (by simpa [Nat.blt_eq] using hgh) hng (by simpa [Nat.blt_eq] using hil) hts (fun ys hy=>?_) hF hle ⟨L,rfl,h⟩ (fun x=>hk x.1 x.2) (fun x=>hn x.1 x.2) ?_ ?_
 ·obtain ⟨t,_,rfl⟩:=List.mem_map.1 hy;exact hlen t
 ·rintro ys rest ⟨a,r⟩ ⟨L',hL,hx⟩
  cases L' with
  | nil=>cases hL
  | cons t L'=>
   simp only [List.map_cons,List.cons.injEq] at hL
   obtain ⟨rfl,rfl⟩:=hL
   refine hround t _ (K4 L' mb mk) a r (fun st st1 cs idl a r hle h1 h2 h3 h4 h5=>?_) hx
   exact BJ3 hS st1 (a,r) idl hle h1 h2 h3 h4 ⟨L',rfl,h5⟩
 ·rintro ⟨a,r⟩ ⟨L',hL,hx⟩
  cases L' with
  | nil=>exact hend a r hx
  | cons t L'=>cases hL
end
end Go.AM
namespace Go.AM
section
variable {S:Ag9} {P:Program} {all:List Oper} {k:Env->D2->Prop}
end
end Go.AM
