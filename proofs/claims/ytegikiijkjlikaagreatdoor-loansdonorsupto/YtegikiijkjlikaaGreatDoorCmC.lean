/- What a law's walk and its plain proof need, part 3: no condition of its own. -/
import Derived.Test.YtegikiijkjlikaaGreatDoorCmB
import Derived.Test.YtegikiijkjlikaaGreatDoorCmA
import Derived.ProofKit
import Derived.WideKeyArgs
import Derived.Deep.Slices
import Derived.OpenShut
set_option linter.defProp false
set_option linter.unusedSimpArgs false
set_option linter.unusedVariables false
set_option linter.unusedSectionVars false
set_option linter.unusedVariables false
namespace Go.AM
def AR8:=@Int.toNat_natCast
def AV7:=@BitVec.eq_of_toNat_eq
def AY4:=@List.mem_map
def Bb0:=@Nat.pow_le_pow_right
def Bb2:=@Nat.blt_eq
def Bb8:=@Bool.false_and
def Bc3:=@List.take_append_drop
def Bc9:=@Nat.shiftRight_eq_div_pow
def Bd2:=@BitVec.toNat_ushiftRight
def Be7:=@Nat.min_eq_right
def Bf0:=@Go.World.alloc_heap_new
def Bf2:=@Bool.and_true
def Bf8:=@Int.fdiv_eq_ediv_of_nonneg
def Bg2:=@List.drop_zero
def Bg8:=@List.getElem_mem
def Bh0:=@Go.World.putObj_heap_same
def Bh1:=@BitVec.toNat_shiftLeft
def Bi4:=@Go.WideShapes.add_plain
def Bj4:=@BitVec.toNat_ofInt
def Bj5:=@Int.natCast_nonneg
def Bj6:=@List.sum_cons
def Bk1:=@List.all_nil
def Bk2:=@Nat.le_of_eq
section
variable {P:Program}{C:Ctx}{st:St}{a:Act}{w:World}{rho:Nat->Value}{𝒢 : Prot P}{n:Nat}{Q:J3}
theorem Sat.poke (h:Sat C st a w rho){r:Nat}{lo:Loop}(hheap:w.heap[r]? = some (.loop lo))(o' : Go.Obj)(hown:C.E0 r \/ C.w0.heap.size<=r):Sat C st a (w.putObj r o') rho/\∀Pi,Keeps w Pi (w.putObj r o') Pi:=by
 have hother:∀b,b≠r->(w.putObj r o').heap[b]? = w.heap[b]?:=fun b hb=>AX2 hb;have hcell:∀b off v,w.cell? ⟨b,off,none⟩=some v->b≠r:=by rintro b off v hc rfl;simp[World.cell?,hheap]at hc
 have hk:∀Pi,Keeps w Pi (w.putObj r o') Pi:=fun Pi b o v hp hc=>⟨by rw[<- hc];exact AW1 (hother b (hcell b o v hc)),hp⟩;have hkind:∀{Pi live rho' v ob b},HoldsO w Pi live rho' v ob->G5 v ob=some b->b≠r:=by
  rintro Pi live rho' v ob b hh hb rfl;cases ob with
  |cells cs=>obtain⟨b',c,T,rfl,h1,_⟩:=hh;cases hb;rw[hheap]at h1;cases h1
  |vec e k n f vw=>
   rcases hh with⟨rfl,_⟩ | ⟨b',cap,c,rfl,h1,_⟩
   ·cases hb
   ·cases hb;rw[hheap]at h1;cases h1
  |map es=>obtain⟨b',ents,clock,rfl,h1,_⟩:=hh;cases hb;rw[hheap]at h1;cases h1
  |arr n f=>obtain⟨b',c,T,rfl,h1,_⟩:=hh;cases hb;rw[hheap]at h1;cases h1
  |ghost cs=>cases hb
  |yld r b=>cases hb
  |dead=>cases hb
 refine⟨⟨⟨⟨?_,h.hp.sep,h.hp.out,fun b off hX=>by rw[AV8];exact h.hp.bound b off hX⟩,h.ext.trans ⟨rfl,rfl⟩,by rw[AV8];exact h.size,?_,h.keep.trans (hk _),h.own,h.yld⟩,fun t=>(h.env t).keeps (hk _) fun j hj=>⟨hj,rfl⟩,h.pin,h.marks.1,?_⟩,hk⟩
 ·intro j o hj;exact (h.hp.holds j o hj).keeps (hk _) (fun j hj=>⟨hj,rfl⟩) fun b hb=>hother b (hkind (h.hp.holds j o hj) hb)
 ·intro b hb hE;rw[hother b (fun e=>by subst e;rcases hown with h1|h1;exact hE h1;omega)];exact h.same b hb hE
 ·intro d hd;obtain⟨r',h1,h2,h3,h4⟩:=h.marks.2 d hd;refine⟨r',h1,h2,?_,h4⟩;rw[hother r' ?_]
  ·exact h3
  ·rintro rfl;rw[hheap]at h3;cases h3
def Ctx.plus (C:Ctx)(V:Nat->Nat->Prop):Ctx:={ C with X:=fun b o=>C.X b o \/ V b o }
theorem SatE.add {R R' : D1}(h:SatE C R w rho){j:Nat}(hj:A2 R j=none){o:Obj}{v:Value}(hb:∀u,G5 u o=none)(hR' : ∀i,A2 R' i=if i=j then some o else A2 R i)
 (hh:Keeps w (Prv C.X (A2 R) rho) w (Prv C.X (A2 R') (fun i=>if i=j then v else rho i))->(∀i,Lv (A2 R) i->Lv (A2 R') i/\(if i=j then v else rho i)=rho i)->HoldsO w (Prv C.X (A2 R') (fun i=>if i=j then v else rho i)) (Lv (A2 R')) (fun i=>if i=j then v else rho i) v o) (hy:∀r b,o=.yld r b->C.Y r b/\v=C.yv) :
 SatE C R' w (fun i=>if i=j then v else rho i)/\(∀b off,Prv C.X (A2 R') (fun i=>if i=j then v else rho i) b off↔Prv C.X (A2 R) rho b off) /\
  (∀i,Lv (A2 R) i->Lv (A2 R') i/\(if i=j then v else rho i)=rho i):=by
 have hlive:∀i,Lv (A2 R) i->Lv (A2 R') i/\(if i=j then v else rho i)=rho i:=by
  intro i hi;have e:i≠j:=by rintro rfl;simp[Lv,hj]at hi
  simp only[Lv,hR',if_neg e];exact⟨hi,trivial⟩
 have hold:∀i oi b,A2 R' i=some oi->G5 (if i=j then v else rho i) oi=some b->i≠j/\A2 R i=some oi/\G5 (rho i) oi=some b:=by
  intro i oi b hi hbi;rw[hR']at hi;by_cases e:i=j
  ·rw[if_pos e]at hi;cases hi;rw[hb]at hbi;cases hbi
  ·rw[if_neg e]at hi hbi;exact⟨e,hi,hbi⟩
 have hnew:∀i oi,A2 R i=some oi->A2 R' i=some oi/\(if i=j then v else rho i)=rho i:=by
  intro i oi hi;have e:i≠j:=by rintro rfl;rw[hj]at hi;cases hi
  rw[hR',if_neg e,if_neg e];exact⟨hi,rfl⟩
 have hpi:∀b off,Prv C.X (A2 R') (fun i=>if i=j then v else rho i) b off↔Prv C.X (A2 R) rho b off:=by
  intro b off;constructor
  ·rintro (hX|⟨i,oi,hi,hbi,hp⟩)
   ·exact .inl hX
   ·obtain⟨_,h1,h2⟩:=hold i oi b hi hbi;exact .inr ⟨i,oi,h1,h2,hp⟩
  ·rintro (hX|⟨i,oi,hi,hbi,hp⟩)
   ·exact .inl hX
   ·obtain⟨h1,h2⟩:=hnew i oi hi;exact .inr ⟨i,oi,h1,by simp only[h2];exact hbi,hp⟩
 have hk:Keeps w (Prv C.X (A2 R) rho) w (Prv C.X (A2 R') (fun i=>if i=j then v else rho i)):=fun b o v hp hc=>⟨hc,fun hp'=>hp ((hpi b o).1 hp')⟩;refine⟨⟨⟨?_,?_,?_,h.hp.bound⟩,h.ext,h.size,h.same,h.keep.trans hk,?_,?_⟩,hpi,hlive⟩
 ·intro i oi hi;by_cases e:i=j
  ·subst e;rw[hR',if_pos rfl]at hi;cases hi;simp only[if_true];exact hh hk hlive
  ·have hi':=hi;rw[hR',if_neg e]at hi';simp only[e,if_false];exact (h.hp.holds i oi hi').keeps hk hlive fun b _=>rfl
 ·intro i i' oi oj b hi hi' hbi hbi';obtain⟨_,h1,h2⟩:=hold i oi b hi hbi;obtain⟨_,h3,h4⟩:=hold i' oj b hi' hbi';exact h.hp.sep i i' oi oj b h1 h3 h2 h4
 ·intro i oi b off hi hbi;obtain⟨_,h1,h2⟩:=hold i oi b hi hbi;exact h.hp.out i oi b off h1 h2
 ·rintro b ⟨i,oi,hi,hbi⟩;obtain⟨_,h1,h2⟩:=hold i oi b hi hbi;exact h.own b ⟨i,oi,h1,h2⟩
 ·intro i r b hi;by_cases e:i=j
  ·subst e;rw[hR',if_pos rfl]at hi;cases hi;simp only[if_true];exact hy r b rfl
  ·rw[hR',if_neg e]at hi;simp only[e,if_false];exact h.yld i r b hi
theorem Sat.suspend (h:Sat C st a w rho){ids:List Nat}(hd:F7 ids=true){E:Env}(hE:∀t,get E t=get st.env t \/ get E t=.top){V:Nat->Nat->Prop}(hV:∀b off,V b off ↔ ∃j o,j∈ids/\A2 st.regs j=some o/\G5 (rho j) o=some b/\IS o off)(hlv:∀j∈ids,Lv (A2 st.regs) j) :Sat (C.plus V) ⟨E,O0 ids (ids.map fun _=>false) st.regs⟩ a w rho/\∀b off,Prv (C.plus V).X (A2 (O0 ids (ids.map fun _=>false) st.regs)) rho b off↔Prv C.X (A2 st.regs) rho b off:=by
 have hdup:=Bw hd;have hD:∀j,A2 (O0 ids (ids.map fun _=>false) st.regs) j=if j∈ids then some .dead else A2 st.regs j:=by
  intro j;rw[Eb j ids _ _ hdup];by_cases hm:j∈ids
  ·obtain⟨p,hp⟩:=PH hm
   have:(ids.map fun _=>false)[p]? = some false:=by rw[AS5,N2 hp];rfl
   simp only[hp,this];simp[hm]
  ·have:idx ids j=none:=by
    cases hx:idx ids j with
    |none=>rfl
    |some p=>exact absurd (AT7 (N2 hx)) hm
   simp[this,hm]
 have hold:∀i oi b,A2 (O0 ids (ids.map fun _=>false) st.regs) i=some oi->G5 (rho i) oi=some b->i ∉ ids/\A2 st.regs i=some oi:=by
  intro i oi b hi hb;rw[hD]at hi;by_cases hm:i∈ids
  ·rw[if_pos hm]at hi;cases hi;simp[G5]at hb
  ·rw[if_neg hm]at hi;exact⟨hm,hi⟩
 have hpi:∀b off,Prv (C.plus V).X (A2 (O0 ids (ids.map fun _=>false) st.regs)) rho b off↔Prv C.X (A2 st.regs) rho b off:=by
  intro b off;constructor
  ·rintro ((hX|hX)|⟨i,oi,hi,hb,hp⟩)
   ·exact .inl hX
   ·obtain⟨j,o,_,h1,h2,h3⟩:=(hV b off).1 hX;exact .inr ⟨j,o,h1,h2,h3⟩
   ·obtain⟨_,h1⟩:=hold i oi b hi hb;exact .inr ⟨i,oi,h1,hb,hp⟩
  ·rintro (hX|⟨i,oi,hi,hb,hp⟩)
   ·exact .inl (.inl hX)
   ·by_cases hm:i∈ids
    ·exact .inl (.inr ((hV b off).2 ⟨i,oi,hm,hi,hb,hp⟩))
    ·exact .inr ⟨i,oi,by rw[hD,if_neg hm];exact hi,hb,hp⟩
 have hk:Keeps w (Prv C.X (A2 st.regs) rho) w (Prv (C.plus V).X (A2 (O0 ids (ids.map fun _=>false) st.regs)) rho):=fun b o v hp hc=>⟨hc,fun hp'=>hp ((hpi b o).1 hp')⟩;have hlive:∀i,Lv (A2 st.regs) i->Lv (A2 (O0 ids (ids.map fun _=>false) st.regs)) i/\rho i=rho i:=by
  intro i hi;refine⟨?_,rfl⟩;simp only[Lv,hD];split
  ·rfl
  ·exact hi
 refine⟨⟨⟨⟨?_,?_,?_,?_⟩,h.ext,h.size,h.same,h.keep.trans hk,?_,?_⟩,?_,?_,h.marks.1,?_⟩,hpi⟩
 ·intro i oi hi;rw[hD]at hi;by_cases hm:i∈ids
  ·rw[if_pos hm]at hi;cases hi;trivial
  ·rw[if_neg hm]at hi;exact (h.hp.holds i oi hi).keeps hk hlive fun b _=>rfl
 ·intro i i' oi oj b hi hi' hb hb';exact h.hp.sep i i' oi oj b (hold i oi b hi hb).2 (hold i' oj b hi' hb').2 hb hb'
 ·rintro i oi b off hi hb (hX|hX)
  ·exact h.hp.out i oi b off (hold i oi b hi hb).2 hb hX
  ·obtain⟨j,o,hm,h1,h2,_⟩:=(hV b off).1 hX
   have:=h.hp.sep i j oi o b (hold i oi b hi hb).2 h1 hb h2
   subst this;exact (hold i oi b hi hb).1 hm
 ·rintro b off (hX|hX)
  ·exact h.hp.bound b off hX
  ·obtain⟨j,o,hm,h1,h2,_⟩:=(hV b off).1 hX;exact (h.hp.holds j o h1).lt h2
 ·rintro b ⟨i,oi,hi,hb⟩;exact h.own b ⟨i,oi,(hold i oi b hi hb).2,hb⟩
 ·intro i r b hi;rw[hD]at hi;by_cases hm:i∈ids
  ·rw[if_pos hm]at hi;cases hi
  ·rw[if_neg hm]at hi;exact h.yld i r b hi
 ·intro t;rcases hE t with he|he
  ·show RepA w _ _ rho _ (get E t);rw[he];exact (h.env t).keeps hk hlive
  ·show RepA w _ _ rho _ (get E t);rw[he];exact .top _
 ·intro i hi hl;refine h.pin i hi ?_;simp only[Lv,hD]at hl;by_cases hm:i∈ids
  ·exact hlv i hm
  ·rw[if_neg hm]at hl;exact hl
 ·intro d hd';obtain⟨r,h1,h2,h3,h4⟩:=h.marks.2 d hd';refine⟨r,h1,h2,h3,?_⟩;rintro off (hX|hX)
  ·exact h4 off hX
  ·obtain⟨j,o,_,h5,h6,_⟩:=(hV r off).1 hX;exact (h.hp.holds j o h5).kind h6 h3
theorem Sat.moves {C C' : Ctx}{V:Nat->Nat->Prop}{V' : Nat->Nat->Prop}{w' : World}{O' : Nat->Prop}(h:Sat (C.plus V) st a w rho)(hw:C'.w0=w)(hX:C'.X=fun b o=>C.X b o \/ PvR st.regs rho b o)(hPi:C'.Pi0=fun b o=>C'.X b o \/ V b o)
 (hR:Rel C' w' O' V') (hdis:∀b,C'.E0 b->¬TQ st.regs rho a.defers b) (hOC:∀b,C'.E0 b->C.E0 b \/ C.w0.heap.size<=b) :
 Sat (C.plus V') st a w' rho/\Keeps w (Prv (C.plus V).X (A2 st.regs) rho) w' (Prv (C.plus V').X (A2 st.regs) rho)/\∀b,b<w.heap.size->¬C'.E0 b->w'.heap[b]? = w.heap[b]?:=by
 subst hw;have hsame:=hR.same;have e1:∀b o,Prv (C.plus V).X (A2 st.regs) rho b o↔C'.Pi0 b o:=by
  intro b o;rw[hPi,hX];show ((C.X b o \/ V b o) \/ PvR st.regs rho b o)↔((C.X b o \/ PvR st.regs rho b o) \/ V b o);constructor
  ·rintro ((h|h)|h)
   ·exact .inl (.inl h)
   ·exact .inr h
   ·exact .inl (.inr h)
  ·rintro ((h|h)|h)
   ·exact .inl (.inl h)
   ·exact .inr h
   ·exact .inl (.inr h)
 have e2:∀b o,Prv (C.plus V').X (A2 st.regs) rho b o->(C'.X b o \/ V' b o):=by
  intro b o;rw[hX];rintro ((h|h)|h)
  ·exact .inl (.inl h)
  ·exact .inr h
  ·exact .inl (.inr h)
 have hk:Keeps C'.w0 (Prv (C.plus V).X (A2 st.regs) rho) w' (Prv (C.plus V').X (A2 st.regs) rho):=fun b o v hp hc=>
  let ⟨h1,h2⟩:=hR.keep b o v (fun hp'=>hp ((e1 b o).2 hp')) hc
  ⟨h1,fun hp'=>h2 (e2 b o hp')⟩
 have hlt:∀b,TQ st.regs rho a.defers b->b<C'.w0.heap.size:=h.rel.lt;have hblk:∀b,TQ st.regs rho a.defers b->w'.heap[b]? = C'.w0.heap[b]?:=fun b hb=>hsame b (hlt b hb) (fun hE=>hdis b hE hb);have hnV:∀b off,TQ st.regs rho a.defers b->¬V' b off:=by
  intro b off hb hv;rcases hR.own b (hR.vo b off hv)with h1|h1
  ·exact hdis b h1 hb
  ·have:=hlt b hb;omega
 refine⟨⟨⟨⟨?_,h.hp.sep,?_,?_⟩,h.ext.trans hR.ext,AX0 h.size hR.size,?_,h.keep.trans hk,h.own,h.yld⟩,fun t=>(h.env t).keeps hk fun j hj=>⟨hj,rfl⟩,h.pin,h.marks.1,?_⟩,hk,hsame⟩
 ·intro j o hj;exact (h.hp.holds j o hj).keeps hk (fun j hj=>⟨hj,rfl⟩) fun b hb=>hblk b (.inl ⟨j,o,hj,hb⟩)
 ·rintro j o b off hj hb (hx|hx)
  ·exact h.hp.out j o b off hj hb (.inl hx)
  ·exact hnV b off (.inl ⟨j,o,hj,hb⟩) hx
 ·rintro b off (hx|hx)
  ·exact AT8 (h.hp.bound b off (.inl hx)) hR.size
  ·exact hR.lt b (hR.vo b off hx)
 ·intro b hb hE;have hb0:b<C'.w0.heap.size:=AT8 hb h.size;have hn:¬C'.E0 b:=by
   intro he;rcases hOC b he with h1|h1
   ·exact hE h1
   ·have:b<C.w0.heap.size:=hb;omega
  rw[hsame b hb0 hn];exact h.same b hb hE
 ·intro d hd;obtain⟨r,h1,h2,h3,h4⟩:=h.marks.2 d hd;have hm:TQ st.regs rho a.defers r:=.inr (by unfold Uf;rw[<- h1];exact hd);refine⟨r,h1,h2,(hblk r hm).trans h3,?_⟩;rintro off (hx|hx)
  ·exact h4 off (.inl hx)
  ·exact hnV r off hm hx
theorem Sat.minus {V:Nat->Nat->Prop}(h:Sat (C.plus V) st a w rho):Sat C st a w rho/\∀b off,Prv C.X (A2 st.regs) rho b off->Prv (C.plus V).X (A2 st.regs) rho b off:=by
 have hpi:∀b off,Prv C.X (A2 st.regs) rho b off->Prv (C.plus V).X (A2 st.regs) rho b off:=by
  rintro b off (hX|hX)
  ·exact .inl (.inl hX)
  ·exact .inr hX
 have hk:Keeps w (Prv (C.plus V).X (A2 st.regs) rho) w (Prv C.X (A2 st.regs) rho):=fun b o v hp hc=>⟨hc,fun hp'=>hp (hpi b o hp')⟩;refine⟨⟨⟨⟨?_,h.hp.sep,fun j o b off hj hb hX=>h.hp.out j o b off hj hb (.inl hX),fun b off hX=>h.hp.bound b off (.inl hX)⟩,h.ext,h.size,h.same,h.keep.trans hk,h.own,h.yld⟩,fun t=>(h.env t).keeps hk fun j hj=>⟨hj,rfl⟩,h.pin,h.marks.1,?_⟩,hpi⟩
 ·intro j o hj;exact (h.hp.holds j o hj).keeps hk (fun j hj=>⟨hj,rfl⟩) fun b hb=>rfl
 ·intro d hd;obtain⟨r,h1,h2,h3,h4⟩:=h.marks.2 d hd;exact⟨r,h1,h2,h3,fun off hX=>h4 off (.inl hX)⟩
end
end Go.AM
set_option linter.unusedVariables false
namespace Go.AM
section
variable {P:Program}{n:Nat}{Q:J3}
structure LiftG (𝒢 : Prot P) (r1 r0:Nat->Value) (wS:World) (TS:Nat->Nat->Prop) (OS:Nat->Prop) (VS:Nat->Nat->Prop) (C C2:Ctx) (V0:Nat->Nat->Prop):Prop where
 g : 𝒢.G C2
 r2:C2.rho0=r1
 X:C.X=fun b o=>C2.X b o \/ VS b o
 Y:C.Y=C2.Y
 yv:C.yv=C2.yv
 rho:C.rho0=r0
 pi:C.Pi0=fun b o=>C.X b o \/ V0 b o
 rel:Rel C2 C.w0 (fun b=>OS b \/ C.E0 b) (fun b o=>VS b o \/ V0 b o)
 os:∀b,OS b->C.w0.heap[b]? = wS.heap[b]?
 keep:Keeps wS TS C.w0 C.Pi0
 dis:∀b,OS b->¬C.E0 b
 size:wS.heap.size<=C.w0.heap.size
 ext:Ext wS C.w0
theorem or4 {a b c:Prop}:(a \/ b) \/ c↔a \/ (b \/ c):=or_assoc
theorem Keeps.of_imp {w:World}{p q:Nat->Nat->Prop}(h:∀b o,q b o->p b o):Keeps w p w q:=fun b o v hp hc=>⟨hc,fun hq=>hp (h b o hq)⟩
theorem LiftG.joint {𝒢 : Prot P}{r1 r0:Nat->Value}{wS:World}{TS:Nat->Nat->Prop}{OS:Nat->Prop}{VS:Nat->Nat->Prop}(hVO:∀b o,VS b o->OS b){C C2:Ctx}{V0:Nat->Nat->Prop}(h:LiftG 𝒢 r1 r0 wS TS OS VS C C2 V0)
 {w:World}{O:Nat->Prop}{V:Nat->Nat->Prop}(hR:Rel C w O V) :
 Rel C2 w (fun b=>OS b \/ O b) (fun b o=>VS b o \/ V b o)/\(∀b,OS b->w.heap[b]? = wS.heap[b]?)/\Keeps wS TS w (fun b o=>C.X b o \/ V b o)/\(∀b,OS b->¬O b)/\wS.heap.size<=w.heap.size/\Ext wS w:=by
 have hj:=h.rel;have hOS:∀b,OS b->w.heap[b]? = C.w0.heap[b]?:=fun b hb=>hR.same b (hj.lt b (.inl hb)) (h.dis b hb);refine⟨⟨hj.ext.trans hR.ext,AX0 hj.size hR.size,?_,?_,?_,?_,?_,fun b off hX=>AT8 (hj.bnd b off hX) hR.size,?_⟩,fun b hb=>(hOS b hb).trans (h.os b hb),h.keep.trans hR.keep,?_,AX0 h.size hR.size,h.ext.trans hR.ext⟩
 ·intro b hb hE;rw[hR.same b (AT8 hb hj.size) fun he=>by
   rcases hj.own b (.inr he)with h1|h1
   ·exact hE h1
   ·omega]
  exact hj.same b hb hE
 ·refine hj.keep.trans ((Keeps.of_imp ?_).trans (hR.keep.trans (Keeps.of_imp ?_)))
  ·intro b o hp;rw[h.pi,h.X]at hp;exact or4.1 hp
  ·intro b o hp;rw[h.X];exact or4.2 hp
 ·rintro b (hb|hb)
  ·exact hj.own b (.inl hb)
  ·rcases hR.own b hb with h1|h1
   ·exact hj.own b (.inr h1)
   ·exact .inr (AX0 hj.size h1)
 ·rintro b off (hb|hb) hX
  ·exact hj.out b off (.inl hb) hX
  ·exact hR.out b off hb (by rw[h.X];exact .inl hX)
 ·rintro b (hb|hb)
  ·exact AT8 (hj.lt b (.inl hb)) hR.size
  ·exact hR.lt b hb
 ·rintro b o (hv|hv)
  ·exact .inl (hVO b o hv)
  ·exact .inr (hR.vo b o hv)
 ·intro b hb hO;rcases hR.own b hO with h1|h1
  ·exact h.dis b hb h1
  ·have:=hj.lt b (.inl hb);omega
def Prot.lift (𝒢 : Prot P)(r1 r0:Nat->Value)(wS:World)(TS:Nat->Nat->Prop)(OS:Nat->Prop)(VS:Nat->Nat->Prop)(hVO:∀b o,VS b o->OS b):Prot P where
 G:=fun C=>∃C2 V0,LiftG 𝒢 r1 r0 wS TS OS VS C C2 V0
 tab:=by rintro C ⟨C2,V0,h⟩;exact ((𝒢.tab C2 h.g).keeps h.rel.keep).keeps (Keeps.of_imp fun b o hp=>by rw[h.pi,h.X]at hp;exact or4.1 hp)
 call:=by
  rintro C w O V ys rest vs ⟨C2,V0,h⟩ hR hY hs hv;obtain⟨j1,j2,j3,j4,j5,j6⟩:=h.joint hVO hR;have hv' : ∀i,i<ys.length->RepP w (fun b o=>C2.X b o \/ (VS b o \/ V b o)) (vs.getD i undef) (ys.getD i default):=fun i hi=>
   (hv i hi).keeps (Keeps.of_imp fun b o hp=>by rw[h.X];exact or4.2 hp)
  obtain⟨l,fn,tmps,as,body,h1,h2,h3⟩:=𝒢.call C2 w _ _ ys rest vs h.g j1 (by rw[<- h.Y];exact hY) hs hv';refine⟨l,fn,tmps,as,body,h.yv.trans h1,h2,h3.mono ?_⟩;rintro e w' ⟨b,rfl,C2',g1,g2,g3,g4,g5,g6,g7,g8,g9,g10,g11,g12⟩;refine⟨b,rfl,{ X:=fun b o=>C2'.X b o \/ VS b o,w0:=w',E0:=O,Pi0:=fun b o=>(C2'.X b o \/ VS b o) \/ V b o,rho0:=C.rho0,Y:=C2'.Y,yv:=C2'.yv },⟨C2',V,?_⟩,g2.trans h.yv.symm,rfl,g4,rfl,rfl,rfl,?_,fun b hb=>g9 b (.inr hb),?_,g11,g12⟩
  ·refine⟨g1,g3.trans h.r2,rfl,rfl,rfl,h.rho,rfl,g8,fun b hb=>(g9 b (.inl hb)).trans (j2 b hb),?_,j4,AX0 j5 g11,j6.trans g12⟩;refine j3.trans ((Keeps.of_imp ?_).trans (g10.trans (Keeps.of_imp ?_)))
   ·intro b o hp;rw[h.X];exact or4.2 hp
   ·intro b o hp;exact or4.1 hp
  ·refine⟨Ext.refl _,AS4 _,fun _ _ _=>rfl,Keeps.refl _ _,fun b hb=>.inl hb,?_,fun b hb=>g8.lt b (.inr hb),?_,hR.vo⟩
   ·rintro b off hb (hx|hx)
    ·exact g8.out b off (.inr hb) hx
    ·exact j4 b (hVO b off hx) hb
   ·rintro b off (hx|hx)
    ·exact g8.bnd b off hx
    ·exact g8.lt b (.inl (hVO b off hx))
  ·refine (Keeps.of_imp ?_).trans (g10.trans (Keeps.of_imp ?_))
   ·intro b o hp;rw[h.X];exact or4.2 hp
   ·intro b o hp;exact or4.1 hp
end
section
variable {P:Program}{C:Ctx}{a:Act}{w:World}{rho:Nat->Value}{n:Nat}
theorem Ll:∀(ts:List Nat) (l:List AV) (t:Nat),ts.length=l.length->ts.Nodup->(∀i:Nat,ts[i]? = some t->get (V4 ts l) t=l.getD i .top)/\(t ∉ ts->get (V4 ts l) t=.top)
 |[],[],t,_,_=>⟨fun i h=>by simp at h,fun _=>rfl⟩
 |[],_::_,t,h,_=>by simp at h
 |_::_,[],t,h,_=>by simp at h
 |x::ts,y::l,t,h,hn=>by
  obtain⟨n1,n2⟩:=AX4.1 hn;obtain⟨h1,h2⟩:=Ll ts l t (by simpa using h) n2;refine⟨fun i hi=>?_,fun hm=>?_⟩
  ·simp only[V4,get];cases i with
   |zero=>simp at hi;simp[hi]
   |succ i=>
    have hi' : ts[i]? = some t:=by simpa using hi
    have e:¬x=t:=by rintro rfl;exact n1 (AT7 hi')
    rw[if_neg e,h1 i hi'];simp
  ·simp only[AW0,not_or]at hm;simp only[V4,get];rw[if_neg (Bc7 hm.1),h2 hm.2]
theorem Oi:∀(ts:List Nat) (l:List AV),ts.length=l.length->(V4 ts l).map (·.1)=ts
 |[],[],_=>rfl
 |[],_::_,h=>by simp at h
 |_::_,[],h=>by simp at h
 |x::ts,y::l,h=>by simp[V4,Oi ts l (by simpa using h)]
theorem Wq:∀(E:Env) (t:Nat),(E.map (·.1)).Nodup->(∀i:Nat,(E.map (·.1))[i]? = some t->get E t=(E.map (·.2)).getD i .top)/\(t ∉ E.map (·.1)->get E t=.top)
 |[],t,_=>⟨fun i h=>by simp at h,fun _=>rfl⟩
 |(x,y)::E,t,hn=>by
  obtain⟨n1,n2⟩:=AX4.1 hn;obtain⟨h1,h2⟩:=Wq E t n2;refine⟨fun i hi=>?_,fun hm=>?_⟩
  ·simp only[get];cases i with
   |zero=>simp at hi;simp[hi]
   |succ i=>
    have hi' : (E.map (·.1))[i]? = some t:=by simpa using hi
    have e:¬x=t:=by rintro rfl;exact n1 (AT7 hi')
    rw[if_neg e,h1 i hi'];simp
  ·simp only[AU8,AW0,not_or]at hm;simp only[get];rw[if_neg (Bc7 hm.1),h2 hm.2]
theorem KA {regs:D1}{g i:Nat}(hd:i≠g):A2 (del g regs) i=A2 regs i:=by
 induction regs with
 |nil=>rfl
 |cons p r ih=>
  obtain⟨x,y⟩:=p;simp only[del];split
  ·rename_i e;subst e;simp[A2,Bc7 hd]
  ·simp only[A2,ih]
theorem Lm {Pi:Nat->Nat->Prop}{live:Nat->Prop}:∀(ps:List Nat) (ys:List PV) (vs:List Value) (E:Env) (tmps:Array Value),ps.length=ys.length->ps.length=vs.length->(∀t∈ps,t<tmps.size) ->
 (∀t,RepA w Pi live rho (tmps.getD t undef) (get E t))->(∀i,i<ys.length->RepP w Pi (vs.getD i undef) (ys.getD i default)) ->
 ∀t,RepA w Pi live rho (((ps.zip vs).foldl (fun tmps (q:Nat×Value)=>tmps.setIfInBounds q.1 q.2) tmps).getD t undef) (get (HG ps ys E) t)
 |[],[],vs,E,tmps,_,h2,_,hE,_,t=>by simpa[HG]using hE t
 |[],_::_,_,_,_,h,_,_,_,_,_=>by simp at h
 |_::_,[],_,_,_,h,_,_,_,_,_=>by simp at h
 |p::ps,y::ys,[],_,_,_,h,_,_,_,_=>by simp at h
 |p::ps,y::ys,v::vs,E,tmps,h1,h2,hlt,hE,hv,t=>by
  simp only[List.zip_cons_cons,Bf5,HG];refine Lm ps ys vs (ins p (.p y) E) (tmps.setIfInBounds p v) (by simpa using h1) (by simpa using h2) (fun t ht=>by simpa using hlt t (AU9 _ ht)) ?_ (fun i hi=>by simpa using hv (i+1) (by simpa using hi)) t;intro t;rw[TW];by_cases e:p=t
  ·subst e
   have:=hlt p (by simp)
   rw[if_pos rfl];have e2:(tmps.setIfInBounds p v).getD p undef=v:=by simp[AR9,this]
   rw[e2];exact .p _ _ (by simpa using hv 0 (by simp))
  ·rw[if_neg e];have e2:(tmps.setIfInBounds p v).getD t undef=tmps.getD t undef:=by simp[AR9,e]
   rw[e2];exact hE t
end
end Go.AM
set_option linter.unusedVariables false
namespace Go.AM
section
variable {w w' : World}{Pi Pi' : Nat->Nat->Prop}{live live' : Nat->Prop}{rho:Nat->Value}
theorem RepA.drop (hk:Keeps w Pi w' Pi')(hl:∀j,live j->(∀vs,rho j ≠ .tuple vs)->live' j){v:Value}{a:AV}(h:RepA w Pi live rho v a):RepA w' Pi' live' rho v a:=by
 induction h with
 |p v x h=>exact .p v x (h.keeps hk)
 |reg j off b hj h=>exact .reg j off b (hl j hj (by rw[h];intro vs e;cases e)) h
 |vec j base n cap hj h=>exact .vec j base n cap (hl j hj (by rw[h];intro vs e;cases e)) h
 |vecp j m base n cap hj h hm=>exact .vecp j m base n cap (hl j hj (by rw[h];intro vs e;cases e)) h hm
 |elt j k i off b n cap hj h=>exact .elt j k i off b n cap (hl j hj (by rw[h];intro vs e;cases e)) h
 |mref j r hj h=>exact .mref j r (hl j hj (by rw[h];intro vs e;cases e)) h
 |clo f x y a b hx hy ha hb iha ihb=>exact .clo f x y a b hx hy iha ihb
 |tup x a hx ha ih=>exact .tup x a hx ih
 |agr x a hx h1 ha ih=>exact .agr x a hx h1 ih
 |yf j l hj h=>exact .yf j l (hl j hj (by rw[h];intro vs e;cases e)) h
 |top v=>exact .top v
theorem HoldsO.drop (hk:Keeps w Pi w' Pi')(hl:∀j,live j->(∀vs,rho j ≠ .tuple vs)->live' j){h:Value}{o:Obj}(hb:∀b,G5 h o=some b->w'.heap[b]? = w.heap[b]?)(hh:HoldsO w Pi live rho h o):HoldsO w' Pi' live' rho h o:=by
 cases o with
 |cells cs=>obtain⟨b,c,T,rfl,h1,h2,h3⟩:=hh;exact⟨b,c,T,rfl,(hb b rfl).trans h1,h2,fun i hi=>⟨(h3 i hi).1.drop hk hl,(h3 i hi).2⟩⟩
 |vec e k n f vw=>
  rcases hh with hn|⟨b,cap,c,rfl,h1,h2,h3,h4,h5,h6⟩
  ·exact .inl hn
  ·exact .inr ⟨b,cap,c,rfl,(hb b rfl).trans h1,h2,h3,h4,h5,fun i j hi hj=>⟨(h6 i j hi hj).1.keeps hk,(h6 i j hi hj).2⟩⟩
 |map es=>obtain⟨b,ents,clock,rfl,h1,h2,h3⟩:=hh;exact⟨b,ents,clock,rfl,(hb b rfl).trans h1,h2,fun i hi=>⟨(h3 i hi).1.keeps hk,(h3 i hi).2.keeps hk⟩⟩
 |arr n f=>obtain⟨b,c,T,rfl,h1,h2,h3⟩:=hh;exact⟨b,c,T,rfl,(hb b rfl).trans h1,h2,fun i hi=>⟨(h3 i hi).1.keeps hk,(h3 i hi).2⟩⟩
 |ghost cs=>obtain⟨vs,rfl,h1,h2⟩:=hh;exact⟨vs,rfl,h1,fun i hi=>(h2 i hi).drop hk hl⟩
 |yld r b=>exact hh
 |dead=>trivial
theorem HoldsO.block {h:Value}{o:Obj}(hh:HoldsO w Pi live rho h o){b:Nat}(hb:G5 h o=some b):(∃c T f,w.heap[b]? = some (.cells c T f)) \/ ∃es ck,w.heap[b]? = some (.map es ck):=by
 cases o with
 |cells cs=>obtain⟨b',c,T,rfl,h1,_⟩:=hh;cases hb;exact .inl ⟨_,_,_,h1⟩
 |vec e k n f vw=>
  rcases hh with⟨rfl,_⟩ | ⟨b',cap,c,rfl,h1,_⟩
  ·cases hb
  ·cases hb;exact .inl ⟨_,_,_,h1⟩
 |map es=>obtain⟨b',ents,clock,rfl,h1,_⟩:=hh;cases hb;exact .inr ⟨_,_,h1⟩
 |arr n f=>obtain⟨b',c,T,rfl,h1,_⟩:=hh;cases hb;exact .inl ⟨_,_,_,h1⟩
 |ghost cs=>cases hb
 |yld r b=>cases hb
 |dead=>cases hb
end
section
variable {P:Program}{C:Ctx}{st:St}{a:Act}{w:World}{rho:Nat->Value}{𝒢 : Prot P}{n:Nat}{Q:J3}
theorem Sat.own_not {b:Nat}(h:Sat C st a w rho)(hb:Own (A2 st.regs) rho b){o:Go.Obj}(ho:w.heap[b]? = some o)(hc:∀c T f,o ≠ .cells c T f)(hm:∀es ck,o ≠ .map es ck):False:=by
 obtain⟨j,oj,hj,hbj⟩:=hb;rcases (h.hp.holds j oj hj).block hbj with⟨c,T,f,h1⟩ | ⟨es,ck,h1⟩
 ·rw[ho]at h1;cases h1;exact hc _ _ _ rfl
 ·rw[ho]at h1;cases h1;exact hm _ _ rfl
theorem Sat.loop_not_own {l:Nat}{lo:Loop}(h:Sat C st a w rho)(hl:w.heap[l]? = some (.loop lo)):¬TQ st.regs rho a.defers l:=by
 rintro (hb|hb)
 ·exact h.own_not hb hl (fun _ _ _ e=>by cases e) (fun _ _ e=>by cases e)
 ·obtain⟨r,h1,_,h2,_⟩:=h.marks.2 _ hb;cases h1;rw[hl]at h2;cases h2
theorem Rel.poke {O:Nat->Prop}{V:Nat->Nat->Prop}(h:Rel C w O V){l:Nat}{lo:Loop}(hl:w.heap[l]? = some (.loop lo))(hO:O l)(o' : Go.Obj):Rel C (w.putObj l o') O V:=by
 have hother:∀b,b≠l->(w.putObj l o').heap[b]? = w.heap[b]?:=fun b hb=>AX2 hb;refine⟨h.ext.trans ⟨rfl,rfl⟩,by rw[AV8];exact h.size,?_,?_,h.own,h.out,fun b hb=>by rw[AV8];exact h.lt b hb,fun b off hX=>by rw[AV8];exact h.bnd b off hX,h.vo⟩
 ·intro b hb hE;rw[hother b (fun e=>by subst e;rcases h.own b hO with h1|h1;exact hE h1;omega)];exact h.same b hb hE
 ·intro b o v hp hc;obtain⟨h1,h2⟩:=h.keep b o v hp hc;refine⟨?_,h2⟩;rw[<- h1];refine AW1 (hother b ?_);rintro rfl;simp[World.cell?,hl]at h1
def Ctx.fresh (C:Ctx)(w:World)(E:Nat->Prop)(Pi:Nat->Nat->Prop):Ctx:={ C with w0:=w,E0:=E,Pi0:=Pi }
theorem Sat.pokeFresh (h:Sat C st a w rho){l:Nat}{lo:Loop}(hl:w.heap[l]? = some (.loop lo))(o' : Go.Obj) :Sat (C.fresh (w.putObj l o') (TQ st.regs rho a.defers) (Prv C.X (A2 st.regs) rho)) st a (w.putObj l o') rho:=by
 have hother:∀b,b≠l->(w.putObj l o').heap[b]? = w.heap[b]?:=fun b hb=>AX2 hb;have hk:∀Pi,Keeps w Pi (w.putObj l o') Pi:=fun Pi b o v hp hc=>⟨by rw[<- hc];refine AW1 (hother b ?_);rintro rfl;simp[World.cell?,hl]at hc,hp⟩
 have hnl:∀b,TQ st.regs rho a.defers b->b≠l:=by rintro b hb rfl;exact h.loop_not_own hl hb
 refine⟨⟨⟨?_,h.hp.sep,h.hp.out,fun b off hX=>by rw[AV8];exact h.hp.bound b off hX⟩,Ext.refl _,AS4 _,fun b _ _=>rfl,Keeps.refl _ _,fun b hb=>.inl (.inl hb),h.yld⟩,fun t=>(h.env t).keeps (hk _) fun j hj=>⟨hj,rfl⟩,h.pin,h.marks.1,?_⟩
 ·intro j o hj;exact (h.hp.holds j o hj).keeps (hk _) (fun j hj=>⟨hj,rfl⟩) fun b hb=>hother b (hnl b (.inl ⟨j,o,hj,hb⟩))
 ·intro d hd;obtain⟨r,h1,h2,h3,h4⟩:=h.marks.2 d hd;have hm:Uf a.defers r:=by unfold Uf;rw[<- h1];exact hd
  exact⟨r,h1,.inl (.inr hm),(hother r (hnl r (.inr hm))).trans h3,h4⟩
def Ln (ts:List Nat)(tmps:Array Value):Array Value:=(ts.map fun t=>tmps.getD t undef).toArray
theorem XS (ts:List Nat)(tmps:Array Value):(Ln ts tmps).size=ts.length:=by simp[Ln]
theorem RB {ts:List Nat}{tmps:Array Value}{i t:Nat}(h:ts[i]? = some t):(Ln ts tmps).getD i undef=tmps.getD t undef:=by simp[Ln,AR9,h]
theorem AM0 {r1 r0:Nat->Value}{wS:World}{TS:Nat->Nat->Prop}{OS:Nat->Prop}{V:Nat->Nat->Prop}(hVO:∀b o,V b o->OS b){C2:Ctx}{V0:Nat->Nat->Prop}(hL:LiftG 𝒢 r1 r0 wS TS OS V C C2 V0)(h:Sat C st a w rho)
 {gh:Nat}{cs:List AV}{ts:List Nat}(hgh:A2 st.regs gh=some (.ghost cs)) (hcs:cs.length=ts.length) (hdel:A2 (del gh st.regs) gh=none) (hgl:gh<1000) (hts:ts.Nodup) {a' : Act}
 (hr0:r0 gh=.tuple (Ln ts a'.tmps)) (hr0' : ∀j,j≠gh->r0 j=r1 j) (hmk:a'.defers.Nodup/\∀d∈a'.defers,∃r,d={ target:=.collected r,args:=#[] }/\wS.heap[r]? = some (.deferred (some []))) (hOS:∀b,Uf a'.defers b->OS b) (hmV:∀b off,Uf a'.defers b->¬V b off) :
 Sat (C2.plus V) ⟨V4 ts cs,del gh st.regs⟩ a' w rho:=by
 obtain⟨j1,j2,j3,j4,j5,_⟩:=hL.joint hVO h.rel;have hrg:rho gh=.tuple (Ln ts a'.tmps):=by rw[h.pin gh hgl (by simp[Lv,hgh]),hL.rho,hr0]
 have hold:∀i oi,A2 (del gh st.regs) i=some oi->i≠gh/\A2 st.regs i=some oi:=by
  intro i oi hi;have e:i≠gh:=by rintro rfl;rw[hdel]at hi;cases hi
  exact⟨e,by rw[<- KA e];exact hi⟩
 have hown:∀b,Own (A2 (del gh st.regs)) rho b->Own (A2 st.regs) rho b:=by rintro b ⟨i,oi,hi,hb⟩;exact⟨i,oi,(hold i oi hi).2,hb⟩
 have hpi:∀b off,Prv (C2.plus V).X (A2 (del gh st.regs)) rho b off->Prv C.X (A2 st.regs) rho b off:=by
  rintro b off (hX|⟨i,oi,hi,hb,hp⟩)
  ·exact .inl (by rw[hL.X];exact hX)
  ·exact .inr ⟨i,oi,(hold i oi hi).2,hb,hp⟩
 have hk:Keeps w (Prv C.X (A2 st.regs) rho) w (Prv (C2.plus V).X (A2 (del gh st.regs)) rho):=Keeps.of_imp hpi;have hl:∀j,Lv (A2 st.regs) j->(∀vs,rho j ≠ .tuple vs)->Lv (A2 (del gh st.regs)) j:=by
  intro j hj hne;have e:j≠gh:=by rintro rfl;exact hne _ hrg
  simpa[Lv,KA e]using hj
 refine⟨⟨⟨?_,?_,?_,?_⟩,j1.ext,j1.size,j1.same,j1.keep.trans (Keeps.of_imp ?_),fun b hb=>j1.own b (.inr (.inl (hown b hb))),?_⟩,?_,?_,hmk.1,?_⟩
 ·intro i oi hi;exact (h.hp.holds i oi (hold i oi hi).2).drop hk hl fun b _=>rfl
 ·intro i i' oi oj b hi hi' hb hb';exact h.hp.sep i i' oi oj b (hold i oi hi).2 (hold i' oj hi').2 hb hb'
 ·intro i oi b off hi hb hX;exact h.hp.out i oi b off (hold i oi hi).2 hb (by rw[hL.X];exact hX)
 ·intro b off hX;exact h.hp.bound b off (by rw[hL.X];exact hX)
 ·rintro b off ((hX|hX)|⟨i,oi,hi,hb,hp⟩)
  ·exact .inl hX
  ·exact .inr (.inl hX)
  ·exact .inr (.inr ⟨i,oi,(hold i oi hi).2,hb,hp⟩)
 ·intro i r b hi
  have:=h.yld i r b (hold i _ hi).2
  rw[hL.Y,hL.yv]at this;exact this
 ·intro t;show RepA w _ _ rho (a'.tmps.getD t undef) (get (V4 ts cs) t);obtain⟨h1,h2⟩:=Ll ts cs t hcs.symm hts;by_cases hm:t∈ts
  ·obtain⟨i,hi⟩:=AY2.1 hm;rw[h1 i hi,<- RB (tmps:=a'.tmps) hi];obtain⟨vs,hv,hs,hrep⟩:=h.hp.holds gh _ hgh;rw[hrg]at hv;cases hv;have hlt:i<cs.length:=by rw[hcs];exact (AS9.1 hi).1
   exact (hrep i hlt).drop hk hl
  ·rw[h2 hm];exact .top _
 ·intro i hi hlv;obtain⟨oi,hoi⟩:=AU0.1 hlv;obtain⟨hne,hr⟩:=hold i oi hoi;rw[h.pin i hi (by simp[Lv,hr]),hL.rho,hr0' i hne];show r1 i=C2.rho0 i;rw[hL.r2]
 ·intro d hd;obtain⟨r,h1,h2⟩:=hmk.2 d hd;have hm:Uf a'.defers r:=by unfold Uf;rw[<- h1];exact hd
  refine⟨r,h1,j1.own r (.inl (hOS r hm)),(j2 r (hOS r hm)).trans h2,?_⟩;rintro off (hX|hX)
  ·exact j1.out r off (.inl (hOS r hm)) hX
  ·exact hmV r off hm hX
end
end Go.AM
set_option linter.unusedVariables false
namespace Go.AM
structure RP (P:Program) where
 pr:Prot P
 n:Nat
 Q:J3
 act:Act
 l:Nat
 fn:FuncId
 D:Nat
 rA:Nat->Value
 r0:Nat->Value
 ts:List Nat
 gh:Nat
 I:List (List PV)->St->Prop
 ps:Array Tmp
 asg:Code
 body:Code
def RP.lo {P:Program}(R:RP P)(st:LoopState)(pe:Option Code):Loop:={ state:=st,pending:=pe,fn:=R.fn,tmps:=R.act.tmps,params:=R.ps,assign:=R.asg,body:=R.body,defers:=R.D }
def Aw6:KP->Code->Prop
 |.ret,c=>c=.ret
 |.exit id,c=>c=.exit id
 |.goto t,c=>c=.goto t
 |_,_=>False
def RP.stOk {P:Program}(R:RP P)(s:St)(rest:List (List PV))(live:Bool)(lo:Loop):Prop:=
 (live=true/\lo=R.lo .ready none/\R.I rest s/\∀ys∈rest,ys.length=R.ps.size) \/ (live=false/\rest=[]/\∃c e,lo=R.lo .done (some c)/\Aw6 e c/\R.Q e s)
structure InG {P:Program}(R:RP P) (C C2:Ctx) (s:St) (rhoA:Nat->Value) (XI:Nat->Nat->Prop) (rest:List (List PV)) (live:Bool) (lo:Loop):Prop where
 g:R.pr.G C2
 r2:C2.rho0=R.rA
 sat:Sat (C2.plus XI) s R.act C.w0 rhoA
 X:C.X=fun b o=>C2.X b o \/ PvR s.regs rhoA b o
 pi:C.Pi0=fun b o=>C.X b o \/ XI b o
 dis:∀b,C.E0 b->¬TQ s.regs rhoA R.act.defers b
 oc:∀b,C.E0 b->C2.E0 b \/ C2.w0.heap.size<=b
 lt:∀b,C.E0 b->b<C.w0.heap.size
 rl:C.w0.heap[R.l]? = some (.loop lo)
 lown:C2.E0 R.l \/ C2.w0.heap.size<=R.l
 lX:∀off,¬C2.X R.l off
 lE:¬C.E0 R.l
 Y:C.Y=fun r b=>r=rest/\b=live
 yv:C.yv=.func (.yield R.l) #[] #[]
 rho:C.rho0=R.r0
 keys:s.env.map (·.1)=R.ts
 ng:A2 s.regs R.gh=none
 st:R.stOk s rest live lo
section
variable {P:Program}{R:RP P}{C C2 C3 C2' : Ctx}{s s4:St}{rhoA rho4:Nat->Value}{XI V V0 TS:Nat->Nat->Prop}{rest:List (List PV)}{live:Bool}{lo:Loop}{w w2 w3:World}{O:Nat->Prop}{a3:Act}
def RP.OS (R:RP P)(O:Nat->Prop)(b:Nat):Prop:=O b \/ b=R.l \/ Uf R.act.defers b
def RP.rR (R:RP P)(j:Nat):Value:=if j=R.gh then .tuple (Ln R.ts R.act.tmps)else R.rA j
theorem InG.disO (h:InG R C C2 s rhoA XI rest live lo)(hR:Rel C w O V):(∀b,O b->¬TQ s.regs rhoA R.act.defers b)/\¬O R.l:=by
 refine⟨fun b hb hF=>?_,fun hl=>?_⟩
 ·rcases hR.own b hb with h1|h1
  ·exact h.dis b h1 hF
  ·have:=h.sat.rel.lt b hF;omega
 ·rcases hR.own R.l hl with h1|h1
  ·exact h.lE h1
  ·have:=(AS7.1 h.rl).1;omega
theorem Aw7 (h:InG R C C2 s rhoA XI rest live lo)(hR:Rel C w O V){lob:Loop}(hgl:R.gh<1000)(hts:R.ts.Nodup)
 (hL:LiftG R.pr R.rA R.rR w2 TS (R.OS O) V C3 C2' V0) (hs:Sat C3 s4 a3 w3 rho4) {cs:List AV}(hgh:A2 s4.regs R.gh=some (.ghost cs)) (hcs:cs.length=R.ts.length) (hdel:A2 (del R.gh s4.regs) R.gh=none)
 (hk2:Keeps w (fun b o=>C.X b o \/ V b o) w2 TS) (hb2:∀b,R.OS O b->b≠R.l->w2.heap[b]? = w.heap[b]?) (hs2:w.heap.size<=w2.heap.size) (hx2:Ext w w2) (hl2:w2.heap[R.l]? = some (.loop lob))
 {rest1:List (List PV)}{live1:Bool}{lo1:Loop}(hst:R.stOk ⟨V4 R.ts cs,del R.gh s4.regs⟩ rest1 live1 lo1) :
 ∃C',InG R C' C2' ⟨V4 R.ts cs,del R.gh s4.regs⟩ rho4 V rest1 live1 lo1/\C'.yv=C.yv/\C'.rho0=C.rho0/\C'.Y rest1 live1/\C'.w0=w3.putObj R.l (.loop lo1)/\C'.E0=O/\(C'.Pi0=fun b o=>C'.X b o \/ V b o)/\Rel C' (w3.putObj R.l (.loop lo1)) O V /\
  (∀b,O b->(w3.putObj R.l (.loop lo1)).heap[b]? = w.heap[b]?)/\Keeps w (fun b o=>C.X b o \/ V b o) (w3.putObj R.l (.loop lo1)) (fun b o=>C'.X b o \/ V b o)/\w.heap.size<=(w3.putObj R.l (.loop lo1)).heap.size/\w3.heap[R.l]? = some (.loop lob)/\Ext w (w3.putObj R.l (.loop lo1)):=by
 obtain⟨hOF,hOl⟩:=h.disO hR;have hVO:∀b o,V b o->R.OS O b:=fun b o hv=>.inl (hR.vo b o hv);obtain⟨j1,j2,j3,j4,j5,j6⟩:=hL.joint hVO hs.rel;have hOM:∀b,O b->¬Uf R.act.defers b:=fun b hb hm=>hOF b hb (.inr hm);have hml:∀b,Uf R.act.defers b->b≠R.l:=by rintro b hm rfl;exact h.sat.loop_not_own h.rl (.inr hm)
 have hmarks:∀d∈R.act.defers,∃r,d={ target:=.collected r,args:=#[] }/\w2.heap[r]? = some (.deferred (some [])):=by
  intro d hd;obtain⟨r,h1,_,h3,_⟩:=h.sat.marks.2 d hd;have hm:Uf R.act.defers r:=by unfold Uf;rw[<- h1];exact hd
  refine⟨r,h1,?_⟩;rw[hb2 r (.inr (.inr hm)) (hml r hm),hR.same r (AS7.1 h3).1 (fun he=>h.dis r he (.inr hm))];exact h3
 have hres:=AM0 hVO hL hs hgh hcs hdel hgl hts (a':=R.act) (by simp[RP.rR]) (fun j hj=>by simp[RP.rR,hj]) ⟨h.sat.marks.1,hmarks⟩ (fun b hm=>.inr (.inr hm)) (fun b off hm hv=>hOM b (hR.vo b off hv) hm);have hl3:w3.heap[R.l]? = some (.loop lob):=(j2 R.l (.inr (.inl rfl))).trans hl2;obtain⟨p1,p2⟩:=hres.poke hl3 (.loop lo1) (j1.own R.l (.inl (.inr (.inl rfl))));have hownd:∀b,Own (A2 (del R.gh s4.regs)) rho4 b->TQ s4.regs rho4 a3.defers b:=by
  rintro b ⟨i,oi,hi,hb⟩;have e:i≠R.gh:=by rintro rfl;rw[hdel]at hi;cases hi
  exact .inl ⟨i,oi,by rw[<- KA e];exact hi,hb⟩
 have hpvd:∀b off,PvR (del R.gh s4.regs) rho4 b off->PvR s4.regs rho4 b off:=by
  rintro b off ⟨i,oi,hi,hb,hp⟩;have e:i≠R.gh:=by rintro rfl;rw[hdel]at hi;cases hi
  exact⟨i,oi,by rw[<- KA e];exact hi,hb,hp⟩
 have hpo:∀b off,PvR (del R.gh s4.regs) rho4 b off->Own (A2 (del R.gh s4.regs)) rho4 b:=fun b off ⟨i,oi,hi,hb,_⟩=>⟨i,oi,hi,hb⟩;have hlt3:R.l<w3.heap.size:=(AS7.1 hl3).1;refine⟨{ X:=fun b o=>C2'.X b o \/ PvR (del R.gh s4.regs) rho4 b o,w0:=w3.putObj R.l (.loop lo1),E0:=O,Pi0:=fun b o=>(C2'.X b o \/ PvR (del R.gh s4.regs) rho4 b o) \/ V b o,rho0:=C.rho0,Y:=fun r b=>r=rest1/\b=live1,yv:=C.yv },
  ⟨hL.g,hL.r2,p1,rfl,rfl,?_,fun b hb=>j1.own b (.inl (.inl hb)),fun b hb=>by rw[AV8];exact j1.lt b (.inl (.inl hb)),Bh0 hlt3,j1.own R.l (.inl (.inr (.inl rfl))),fun off=>j1.out R.l off (.inl (.inr (.inl rfl))),hOl,rfl,h.yv,h.rho,Oi _ _ hcs.symm,hdel,hst⟩,
  rfl,rfl,⟨rfl,rfl⟩,rfl,rfl,rfl,⟨Ext.refl _,AS4 _,fun _ _ _=>rfl,Keeps.refl _ _,fun b hb=>.inl hb,?_,fun b hb=>by rw[AV8];exact j1.lt b (.inl (.inl hb)),?_,hR.vo⟩,?_,?_,?_,hl3,(hx2.trans j6).trans ⟨rfl,rfl⟩⟩
 ·rintro b hb (hF|hF)
  ·exact j4 b (.inl hb) (hownd b hF)
  ·exact hOM b hb hF
 ·rintro b off hb (hx|hx)
  ·exact j1.out b off (.inl (.inl hb)) hx
  ·exact j4 b (.inl hb) (hownd b (hpo b off hx))
 ·rintro b off (hx|hx)
  ·rw[AV8];exact j1.bnd b off hx
  ·rw[AV8];exact hs.rel.lt b (hownd b (hpo b off hx))
 ·intro b hb;have hne:b≠R.l:=by rintro rfl;exact hOl hb
  rw[AX2 hne,j2 b (.inl hb),hb2 b (.inl hb) hne]
 ·refine hk2.trans (j3.trans ((Keeps.of_imp ?_).trans (p2 _)));rintro b off ((hx|hx)|hx)
  ·exact .inl (by rw[hL.X];exact .inl hx)
  ·exact .inr (hpvd b off hx)
  ·exact .inl (by rw[hL.X];exact .inr hx)
 ·rw[AV8];exact AX0 hs2 j5
end
end Go.AM
set_option linter.unusedVariables false
namespace Go.AM
section
variable {P:Program}{R:RP P}{C C2:Ctx}{s:St}{rhoA:Nat->Value}{XI V:Nat->Nat->Prop}{w:World}{O:Nat->Prop}
theorem AB8 (ps:Array Tmp)(vs:Array Value)(tmps:Array Value):(ps.zip vs).foldl (fun tmps (x:Tmp×Value)=>match x with|(t,a)=>tmps.setIfInBounds t a) tmps=(ps.toList.zip vs.toList).foldl (fun tmps (q:Nat×Value)=>tmps.setIfInBounds q.1 q.2) tmps:=by rw[<- Bj2,Array.toList_zip]
theorem Wr:∀(l:List (Nat×Value)) (tmps:Array Value),(l.foldl (fun tmps (q:Nat×Value)=>tmps.setIfInBounds q.1 q.2) tmps).size=tmps.size
 |[],tmps=>rfl
 |q::l,tmps=>by simp only[Bf5];rw[Wr l];simp
def Dq (R:RP P)(C2:Ctx)(s:St)(rhoA:Nat->Value)(V:Nat->Nat->Prop)(w:World):Ctx:=
 { X:=fun b o=>C2.X b o \/ V b o,w0:=w,E0:=Own (A2 s.regs) rhoA,Pi0:=fun b o=>(C2.X b o \/ V b o) \/ PvR s.regs rhoA b o,rho0:=R.rR,Y:=C2.Y,yv:=C2.yv }
theorem XT {rest:List (List PV)}{live:Bool}{lo:Loop}(h:InG R C C2 s rhoA XI rest live lo)(hR:Rel C w O V)(m1:Sat (C2.plus V) s R.act w rhoA) :LiftG R.pr R.rA R.rR w (Dq R C2 s rhoA V w).Pi0 (R.OS O) V (Dq R C2 s rhoA V w) C2 (PvR s.regs rhoA):=by
 obtain⟨hOF,hOl⟩:=h.disO hR;have hrel:=m1.rel;refine⟨h.g,h.r2,rfl,rfl,rfl,rfl,rfl,⟨hrel.ext,hrel.size,hrel.same,hrel.keep.trans (Keeps.of_imp ?_),?_,?_,?_,fun b off hX=>hrel.bnd b off (.inl hX),?_⟩,fun b _=>rfl,Keeps.refl _ _,?_,AS4 _,Ext.refl _⟩
 ·intro b o hp;exact or4.2 hp
 ·rintro b ((hb|rfl|hb)|hb)
  ·rcases hR.own b hb with h1|h1
   ·exact h.oc b h1
   ·exact .inr (AX0 h.sat.size h1)
  ·exact h.lown
  ·exact hrel.own b (.inr hb)
  ·exact hrel.own b (.inl hb)
 ·rintro b off ((hb|rfl|hb)|hb) hX
  ·exact hR.out b off hb (by rw[h.X];exact .inl hX)
  ·exact h.lX off hX
  ·exact hrel.out b off (.inr hb) (.inl hX)
  ·exact hrel.out b off (.inl hb) (.inl hX)
 ·rintro b ((hb|rfl|hb)|hb)
  ·exact hR.lt b hb
  ·exact AT8 (AS7.1 h.rl).1 hR.size
  ·exact hrel.lt b (.inr hb)
  ·exact hrel.lt b (.inl hb)
 ·rintro b o (hb|hb)
  ·exact .inl (.inl (hR.vo b o hb))
  ·obtain⟨j,oj,hj,hbj,_⟩:=hb;exact .inr ⟨j,oj,hj,hbj⟩
 ·rintro b (hb|rfl|hb) hown
  ·exact hOF b hb (.inl hown)
  ·exact h.sat.loop_not_own h.rl (.inl hown)
  ·obtain⟨r,h1,_,h2,_⟩:=m1.marks.2 _ hb;cases h1;exact m1.own_not hown h2 (fun _ _ _ e=>by cases e) (fun _ _ e=>by cases e)
theorem Uk (hact:R.act.tmps.size=R.n)(hps:∀t∈R.ps.toList,t<R.n)(hgl:R.gh<1000)(hts:R.ts.Nodup){rest:List (List PV)}{live:Bool}{lo:Loop}(h:InG R C C2 s rhoA XI rest live lo)(m1:Sat (C2.plus V) s R.act w rhoA)
 {ys:List PV}{vs:Array Value}(hlen:ys.length=R.ps.size) (hvs:vs.size=ys.length) (hv:∀i,i<ys.length->RepP w (Prv (C2.plus V).X (A2 s.regs) rhoA) (vs.getD i undef) (ys.getD i default)) :
 Sat (Dq R C2 s rhoA V w) ⟨HG R.ps.toList ys s.env,ins R.gh (.ghost (s.env.map (·.2))) s.regs⟩ { tmps:=(R.ps.toList.zip vs.toList).foldl (fun tmps (q:Nat×Value)=>tmps.setIfInBounds q.1 q.2) R.act.tmps,defers:=[] } w
  (fun i=>if i=R.gh then .tuple (Ln R.ts R.act.tmps)else rhoA i):=by
 have hkeys:(s.env.map (·.1)).Nodup:=by rw[h.keys];exact hts
 have hE0:SatE (Dq R C2 s rhoA V w) s.regs w rhoA:=⟨m1.hp,Ext.refl _,AS4 _,fun _ _ _=>rfl,Keeps.refl _ _,fun b hb=>.inl hb,m1.yld⟩;obtain⟨g1,g2,g3⟩:=hE0.add (R':=ins R.gh (.ghost (s.env.map (·.2))) s.regs) h.ng (o:=.ghost (s.env.map (·.2))) (v:=.tuple (Ln R.ts R.act.tmps)) (fun u=>rfl)
  (fun i=>by rw[A9];by_cases e:i=R.gh<;>simp[e,eq_comm])
  (fun hk hl=>⟨_,rfl,by rw[XS,<- h.keys];simp,fun i hi=>by
   have hi' : i<(s.env.map (·.1)).length:=by simpa using hi
   obtain⟨t,ht⟩:∃t,(s.env.map (·.1))[i]? = some t:=⟨_,AS2 hi'⟩;have ht' : R.ts[i]? = some t:=by rw[<- h.keys];exact ht
   rw[RB ht', <- (Wq s.env t hkeys).1 i ht];exact (m1.env t).keeps hk hl⟩)
  (fun r b he=>by cases he)
 have hk:Keeps w (Prv (C2.plus V).X (A2 s.regs) rhoA) w (Prv (Dq R C2 s rhoA V w).X (A2 (ins R.gh (.ghost (s.env.map (·.2))) s.regs)) (fun i=>if i=R.gh then .tuple (Ln R.ts R.act.tmps)else rhoA i)):=
  Keeps.of_imp fun b o hp=>(g2 b o).1 hp
 refine⟨g1,?_,?_,Ba8,fun d hd=>by simp at hd⟩
 ·refine Lm R.ps.toList ys vs.toList s.env R.act.tmps (by simp[hlen]) (by simp[hvs,hlen]) (fun t ht=>by rw[hact];exact hps t ht) (fun t=>(m1.env t).keeps hk g3) (fun i hi=>?_)
  have:=(hv i hi).keeps hk
  simpa[AR9,AR7]using this
 ·intro j hj hl;show (if j=R.gh then Value.tuple (Ln R.ts R.act.tmps)else rhoA j)=R.rR j;unfold RP.rR;by_cases e:j=R.gh
  ·simp[e]
  ·simp only[e,if_false];have hl' : Lv (A2 s.regs) j:=by simp only[Lv,A9]at hl;rw[if_neg (Bc7 e)]at hl;exact hl
   rw[m1.pin j hj hl'];show C2.rho0 j=R.rA j;rw[h.r2]
theorem Ul (hact:R.act.tmps.size=R.n)(hps:∀t∈R.ps.toList,t<R.n)(hgl:R.gh<1000)(hts:R.ts.Nodup)(casg:HO P R.n R.asg)(cbody:HO P R.n R.body)
 (hround:∀ys rest s,s.env.map (·.1)=R.ts->A2 s.regs R.gh=none->R.I (ys::rest) s->awp (GD P) P R.asg (fun e s'=>match e with | .normal=>semUp s' fun s'=>awp (GD P) P R.body (DE (GD P) R.gh R.ts (R.I rest) R.Q) s' | _=>False) ⟨HG R.ps.toList ys s.env,ins R.gh (.ghost (s.env.map (·.2))) s.regs⟩)
 {ys:List PV}{rest:List (List PV)}{lo:Loop}{vs:Array Value}(h:InG R C C2 s rhoA XI (ys::rest) true lo) (hR:Rel C w O V) (hvs:vs.size=ys.length) (hv:∀i,i<ys.length->RepP w (fun b o=>C.X b o \/ V b o) (vs.getD i undef) (ys.getD i default)) :
 AL6 P C.yv vs w fun b w'=>∃C',(∃C2 s rhoA XI rest live lo,InG R C' C2 s rhoA XI rest live lo)/\C'.yv=C.yv/\C'.rho0=C.rho0/\C'.Y (if b then rest else []) b/\C'.w0=w' /\ C'.E0=O/\(C'.Pi0=fun b o=>C'.X b o \/ V b o)/\Rel C' w' O V /\
  (∀b,O b->w'.heap[b]? = w.heap[b]?)/\Keeps w (fun b o=>C.X b o \/ V b o) w' (fun b o=>C'.X b o \/ V b o)/\w.heap.size<=w'.heap.size/\Ext w w':=by
 obtain⟨hlo,hI,hlens⟩:lo=R.lo .ready none/\R.I (ys::rest) s/\∀z∈ys::rest,z.length=R.ps.size:=by
  rcases h.st with⟨_,hlo,hI,hlens⟩ | ⟨hf,_⟩
  ·exact⟨hlo,hI,hlens⟩
  ·cases hf
 subst hlo;have hlen:ys.length=R.ps.size:=hlens ys (by simp);obtain⟨m1,m2,m3⟩:=h.sat.moves rfl h.X h.pi hR h.dis h.oc;have hllt:R.l<C.w0.heap.size:=(AS7.1 h.rl).1;have hl:w.heap[R.l]? = some (.loop (R.lo .ready none)):=(m3 R.l hllt h.lE).trans h.rl;have hT:∀b o,Prv (C2.plus V).X (A2 s.regs) rhoA b o↔(C.X b o \/ V b o):=by
  intro b o;rw[h.X];show ((C2.X b o \/ V b o) \/ PvR s.regs rhoA b o)↔((C2.X b o \/ PvR s.regs rhoA b o) \/ V b o);constructor
  ·rintro ((h|h)|h)
   ·exact .inl (.inl h)
   ·exact .inr h
   ·exact .inl (.inr h)
  ·rintro ((h|h)|h)
   ·exact .inl (.inl h)
   ·exact .inr h
   ·exact .inl (.inr h)
 have hVO:∀b o,V b o->R.OS O b:=fun b o hv=>.inl (hR.vo b o hv);refine⟨R.l,R.fn,_,R.asg,R.body,h.yv,run_yield hl (by simp[RP.lo];omega),?_⟩;refine roundIn_of_wpIn trivial ?_;show R.asg.wpIn (FW (some R.l)) 0 P _ { tmps:=(R.ps.zip vs).foldl (fun tmps (x:Tmp×Value)=>match x with|(t,a)=>tmps.setIfInBounds t a) R.act.tmps,defers:=[] } w;rw[AB8];have hs0:=Uk hact hps hgl hts h m1 hlen hvs (fun i hi=>(hv i hi).keeps (Keeps.of_imp fun b o hp=>(hT b o).1 hp));have hL0:=XT h hR m1;have hro1:AL9 (R.pr.lift R.rA R.rR w (Dq R C2 s rhoA V w).Pi0 (R.OS O) V hVO) (some R.l):=by rintro l' hl' C' ⟨C2',V0,hL⟩;cases hl';exact⟨_,(hL.os R.l (.inr (.inl rfl))).trans hl,hL.dis R.l (.inr (.inl rfl))⟩
 refine wpIn_mono (casg (R.pr.lift R.rA R.rR w (Dq R C2 s rhoA V w).Pi0 (R.OS O) V hVO) (some R.l) hro1 _ _ _ _ w _ ⟨C2,_,hL0⟩ hs0 ((Wr _ _).trans hact) (hround ys rest s h.keys h.ng hI)) ?_;intro e a1 w1 he;cases e with
 |exit id=>obtain⟨_,_,_,_,_,_,hf⟩:=he;exact hf.elim
 |goto t=>obtain⟨_,_,_,_,_,_,hf⟩:=he;exact hf.elim
 |ret=>obtain⟨_,_,_,_,_,_,hf⟩:=he;exact hf.elim
 |panic ch=>obtain⟨_,_,_,_,_,_,_,_,_,_,hf⟩:=he;exact hf.elim
 |outgrown=>exact he.elim
 |normal=>
  obtain⟨C1,s1',rho1',⟨C2',V1,hL1⟩,hs1',hsz1,hu⟩:=he;obtain⟨s1,rho1,hw1,_,hs1⟩:=hu C1 a1 w1 rho1' hs1';obtain⟨j1,j2,j3,j4,j5,j6⟩:=hL1.joint hVO hs1.rel;have hl1:w1.heap[R.l]? = some (.loop (R.lo .ready none)):=(j2 R.l (.inr (.inl rfl))).trans hl;refine⟨w1.putObj R.l (.loop (R.lo .busy none)),run_beginRound hl1 rfl,?_⟩;have hsB:=hs1.pokeFresh hl1 (.loop (R.lo .busy none));have hl2:(w1.putObj R.l (.loop (R.lo .busy none))).heap[R.l]? = some (.loop (R.lo .busy none)):=Bh0 (AS7.1 hl1).1;have hLB:LiftG R.pr R.rA R.rR (w1.putObj R.l (.loop (R.lo .busy none))) (Prv C1.X (A2 s1.regs) rho1) (R.OS O) V (C1.fresh (w1.putObj R.l (.loop (R.lo .busy none))) (TQ s1.regs rho1 a1.defers) (Prv C1.X (A2 s1.regs) rho1)) C2' (PvR s1.regs rho1):=
   ⟨hL1.g,hL1.r2,hL1.X,hL1.Y,hL1.yv,hL1.rho,rfl,j1.poke hl1 (.inl (.inr (.inl rfl))) _,fun b _=>rfl,Keeps.refl _ _,j4,AS4 _,Ext.refl _⟩
  have hro2:AL9 (R.pr.lift R.rA R.rR (w1.putObj R.l (.loop (R.lo .busy none))) (Prv C1.X (A2 s1.regs) rho1) (R.OS O) V hVO) (some R.l):=by rintro l' hl' C' ⟨C2',V0,hL⟩;cases hl';exact⟨_,(hL.os R.l (.inr (.inl rfl))).trans hl2,hL.dis R.l (.inr (.inl rfl))⟩
  have hk2:Keeps w (fun b o=>C.X b o \/ V b o) (w1.putObj R.l (.loop (R.lo .busy none))) (Prv C1.X (A2 s1.regs) rho1):=by refine (Keeps.of_imp fun b o hp=>(hT b o).1 hp:Keeps w _ w (Dq R C2 s rhoA V w).Pi0).trans (j3.trans fun b o v hp hc=>⟨?_,hp⟩);rw[<- hc];refine AW1 (AX2 ?_);rintro rfl;simp[World.cell?,hl1]at hc
  have hb2:∀b,R.OS O b->b≠R.l->(w1.putObj R.l (.loop (R.lo .busy none))).heap[b]? = w.heap[b]?:=fun b hb hne=>(AX2 hne).trans (j2 b hb);have hs2:w.heap.size<=(w1.putObj R.l (.loop (R.lo .busy none))).heap.size:=by rw[AV8];exact j5
  have hx2:Ext w (w1.putObj R.l (.loop (R.lo .busy none))):=j6.trans ⟨rfl,rfl⟩;show R.body.wpIn (FW (some R.l)) 0 P _ a1 _;refine wpIn_mono (cbody (R.pr.lift R.rA R.rR (w1.putObj R.l (.loop (R.lo .busy none))) (Prv C1.X (A2 s1.regs) rho1) (R.OS O) V hVO) (some R.l) hro2 _ _ _ _ _ _ ⟨C2',_,hLB⟩ hsB hsz1 hw1) ?_;have fin:∀(e:KP) (c:Code) (a3:Act) (w3:World),Aw6 e c->NextOk (R.pr.lift R.rA R.rR (w1.putObj R.l (.loop (R.lo .busy none))) (Prv C1.X (A2 s1.regs) rho1) (R.OS O) V hVO) R.n (fun s=>semUp s fun s=>∃cs,A2 s.regs R.gh=some (.ghost cs)/\cs.length=R.ts.length/\A2 (del R.gh s.regs) R.gh=none/\R.Q e ⟨V4 R.ts cs,del R.gh s.regs⟩) a3 w3 ->
   ∃v w',(Instr.endRound R.l (some c)).run P w3=.ok v w' /\ ∃b:Bool,Ending.returned v=.returned (.bool b)/\∃C',(∃C2 s rhoA XI rest live lo,InG R C' C2 s rhoA XI rest live lo)/\C'.yv=C.yv/\C'.rho0=C.rho0/\C'.Y (if b then rest else []) b/\C'.w0=w' /\ C'.E0=O/\(C'.Pi0=fun b o=>C'.X b o \/ V b o)/\Rel C' w' O V /\
    (∀b,O b->w'.heap[b]? = w.heap[b]?)/\Keeps w (fun b o=>C.X b o \/ V b o) w' (fun b o=>C'.X b o \/ V b o)/\w.heap.size<=w'.heap.size/\Ext w w':=by
   rintro e c a3 w3 hjc ⟨C3,s3,rho3,⟨C2f,V3,hL3⟩,hs3,hsz3,hu3⟩;obtain⟨s4,rho4,⟨cs,hgh,hcs,hdel,hQ⟩,_,hs4⟩:=hu3 C3 a3 w3 rho3 hs3;obtain⟨C',f1,f2,f3,f4,f5,f6,f7,f8,f9,f10,f11,f12,f13⟩:=Aw7 h hR hgl hts hL3 hs4 hgh hcs hdel hk2 hb2 hs2 hx2 hl2 (rest1:=[]) (live1:=false) (lo1:=R.lo .done (some c)) (.inr ⟨rfl,rfl,c,e,rfl,hjc,hQ⟩);exact⟨.bool false,_,run_endRound (some c) f12,false,rfl,C',⟨_,_,_,_,_,_,_,f1⟩,f2,f3,f4,f5,f6,f7,f8,f9,f10,f11,f13⟩
  intro e a3 w3 he;cases e with
  |normal=>obtain⟨C3,s3,rho3,⟨C2f,V3,hL3⟩,hs3,hsz3,hu3⟩:=he;obtain⟨s4,rho4,⟨cs,hgh,hcs,hdel,hI'⟩,_,hs4⟩:=hu3 C3 a3 w3 rho3 hs3;obtain⟨C',f1,f2,f3,f4,f5,f6,f7,f8,f9,f10,f11,f12,f13⟩:=Aw7 h hR hgl hts hL3 hs4 hgh hcs hdel hk2 hb2 hs2 hx2 hl2 (rest1:=rest) (live1:=true) (lo1:=R.lo .ready none) (.inl ⟨rfl,rfl,hI',fun ys hys=>hlens ys (AU9 _ hys)⟩);exact⟨.bool true,_,run_endRound none f12,true,rfl,C',⟨_,_,_,_,_,_,_,f1⟩,f2,f3,f4,f5,f6,f7,f8,f9,f10,f11,f13⟩
  |ret=>exact fin .ret .ret a3 w3 rfl he
  |exit id=>exact fin (.exit id) (.exit id) a3 w3 rfl he
  |goto t=>exact fin (.goto t) (.goto t) a3 w3 rfl he
  |panic ch=>obtain⟨_,_,_,_,_,_,_,_,_,_,hf⟩:=he;exact hf.elim
  |outgrown=>exact he.elim
end
end Go.AM
set_option linter.unusedVariables false
namespace Go.AM
section
variable {P:Program}{C:Ctx}{st:St}{a:Act}{w:World}{rho:Nat->Value}{𝒢 : Prot P}{n:Nat}{Q:J3}{ro:Option Nat}
def RP.prot (R:RP P)(hact:R.act.tmps.size=R.n)(hps:∀t∈R.ps.toList,t<R.n)(hgl:R.gh<1000)(hts:R.ts.Nodup)(casg:HO P R.n R.asg)(cbody:HO P R.n R.body)
 (hround:∀ys rest s,s.env.map (·.1)=R.ts->A2 s.regs R.gh=none->R.I (ys::rest) s->awp (GD P) P R.asg (fun e s'=>match e with | .normal=>semUp s' fun s'=>awp (GD P) P R.body (DE (GD P) R.gh R.ts (R.I rest) R.Q) s' | _=>False) ⟨HG R.ps.toList ys s.env,ins R.gh (.ghost (s.env.map (·.2))) s.regs⟩):Prot P where
 G:=fun C=>∃C2 s rhoA XI rest live lo,InG R C C2 s rhoA XI rest live lo
 tab:=by
  rintro C ⟨C2,s,rhoA,XI,rest,live,lo,h⟩;refine ((R.pr.tab C2 h.g).keeps h.sat.keep).keeps (Keeps.of_imp fun b o hp=>?_);rw[h.pi,h.X]at hp;rcases hp with (hp|hp)|hp
  ·exact .inl (.inl hp)
  ·exact .inr hp
  ·exact .inl (.inr hp)
 call:=by rintro C w O V ys rest vs ⟨C2,s,rhoA,XI,rest0,live,lo,h⟩ hR hY hvs hv;rw[h.Y]at hY;obtain⟨rfl,rfl⟩:=hY;exact Ul hact hps hgl hts casg cbody hround h hR hvs hv
theorem Sat.mark (h:Sat C st a w rho){w' : World}(hsz:w.heap.size<=w'.heap.size)(hheap:∀b,b<w.heap.size->w'.heap[b]? = w.heap[b]?)(hxt:Ext w w'){mk:List Deferred}
 (hm:mk=[] \/ ∃r,mk=[{ target:=.collected r,args:=#[] }]/\w.heap.size<=r/\w'.heap[r]? = some (.deferred (some []))):Sat C st { a with defers:=mk++a.defers } w' rho:=by
 obtain⟨h1,_⟩:=h.grow hsz hheap hxt;rcases hm with rfl|⟨r,rfl,hr,hd⟩
 ·exact h1
 ·refine⟨h1.toSatE,h1.env,h1.pin,?_,?_⟩
  ·refine AX4.2 ⟨fun hmem=>?_,h.marks.1⟩;obtain⟨r',e1,_,e2,_⟩:=h.marks.2 _ hmem;cases e1
   have:=(AS7.1 e2).1;omega
  ·intro d hd';rcases AW0.1 hd' with rfl|hd'
   ·exact⟨r,rfl,.inr (AX0 h.size hr),hd,fun off hX=>by have:=h.hp.bound r off hX;omega⟩
   ·exact h1.marks.2 d hd'
theorem RC {f:FuncId}{vs:Array Value}{fn:Func}(hf:P.funcs[f]? = some fn)(hb:fn.body.isSome=true)(hname:(fn.name == "runtime.NumGoroutine")=false):(callFunc f vs).run P w=.ok (.enter f vs) w:=by
 have hn' : ¬fn.name = "runtime.NumGoroutine" := by simpa using hname
 obtain⟨c,hc⟩:=AU0.1 hb;simp[callFunc,hf,hn',hc]
set_option maxHeartbeats 2000000 in
theorem Um {g:Operand}{ps:Array Tmp}{asg body:Code}(hps:(ps.toList.all fun t=>Nat.blt t n)=true)(casg:HO P n asg)(cbody:HO P n body):HO P n (.rangeFunc g ps asg body):=by
 intro 𝒢 ro hro Q C st a w rho hG h hsz hw;obtain⟨f,first,caps,as,bs,objs,ids,ts,gh,L,I,Fin,h1,⟨fn,hfn,hfb,hfname⟩,hny,hd,hr1,hr2,hob,hgl,hng,hids,hts,hlens,hup,hround,hend,hF⟩:=hw;refine wpIn_rangeFunc ?_;intro fid _;obtain⟨l,mk,D,w1,hent,hxt,hl,hlsz,hwsz,hheap,hmk⟩:∃(l:Nat) (mk:List Deferred) (D:Nat) (w1:World),(Instr.enterLoop fid a.tmps ps asg body ro).run P w=.ok (l,mk) w1/\Ext w w1 /\
  w1.heap[l]? = some (.loop { state:=.ready,pending:=none,fn:=fid,tmps:=a.tmps,params:=ps,assign:=asg,body:=body,defers:=D })/\w.heap.size<=l/\w.heap.size<=w1.heap.size/\(∀b,b<w.heap.size->w1.heap[b]? = w.heap[b]?) /\
  (mk=[] \/ ∃r,mk=[{ target:=.collected r,args:=#[] }]/\w.heap.size<=r/\w1.heap[r]? = some (.deferred (some []))):=by
  cases ro with
  |none=>
   refine⟨_,_,w.heap.size,_,run_enterLoop_outer fid a.tmps ps asg body,⟨rfl,rfl⟩,?_,by omega,by simp;omega,?_,.inr ⟨w.heap.size,rfl,AS4 _,?_⟩⟩
   ·have:=Bf0 (w.alloc (.deferred (some []))) (.loop { state:=.ready,pending:=none,fn:=fid,tmps:=a.tmps,params:=ps,assign:=asg,body:=body,defers:=w.heap.size })
    simpa using this
   ·intro b hb;rw[heap_alloc_old _ _ b (by simp;omega),heap_alloc_old _ _ b hb]
   ·rw[heap_alloc_old _ _ _ (by simp)];exact Bf0 w _
  |some l0=>
   obtain⟨r,hr,hE⟩:=hro l0 rfl C hG;have hr' : w.heap[l0]? = some (.loop r):=by rw[h.same l0 (AS7.1 hr).1 hE];exact hr
   refine⟨w.heap.size,[],r.defers,w.alloc (.loop { state:=.ready,pending:=none,fn:=fid,tmps:=a.tmps,params:=ps,assign:=asg,body:=body,defers:=r.defers }),?_,⟨rfl,rfl⟩,Bf0 w _,AS4 _,by simp,fun b hb=>heap_alloc_old _ _ b hb,.inl rfl⟩;unfold Instr.enterLoop;simp only[AV6,run_getLoop hr',Result.andThen,AX5,run_newObj_alloc]
 have hA:=h.mark hwsz hheap hxt hmk;obtain⟨act,hact⟩:∃act:Act,act={ a with defers:=mk++a.defers }:=⟨_,rfl⟩;have hacts:act.tmps.size=n:=by rw[hact];exact hsz
 rw[<- hact]at hA;obtain⟨x,y,hx,hrx,hry⟩:=Uh hA h1;have hxy:=RepV.append hrx hry;obtain⟨hobl,hobg⟩:=X6 hob;obtain⟨args0,hargs0,hrl⟩:∃args0,Cx ids (first++caps)=some args0/\args0=as++bs:=by
  have:∀(l m l' m' : List AV),Cx ids l=some l' -> Cx ids m=some m' -> Cx ids (l++m)=some (l' ++ m'):=by
   intro l
   induction l with
   |nil=>intro m l' m' hl hm;simp only[Cx,AS0]at hl;subst hl;simpa using hm
   |cons z l ih=>
    intro m l' m' hl hm;simp only[Cx]at hl;split at hl
    ·rename_i z' l2 hz hl2;cases hl;simp only[AV9,Cx,hz,ih m l2 m' hl2 hm]
    ·cases hl
  exact⟨_,this _ _ _ _ hr1 hr2,rfl⟩
 subst hrl;have hS1:=Jy hA hd hob hny trivial hargs0 (vs:=x++y) hxy.1 hxy.2;have hidx:∀j∈ids,Lv (A2 st.regs) j:=by intro j hj;obtain⟨p,hp⟩:=AY2.1 hj;obtain⟨o,_,ho,_⟩:=hobg p j hp;simp[Lv,ho]
 obtain⟨VI,hVI⟩:∃VI:Nat->Nat->Prop,VI=fun b off=>∃j o,j∈ids/\A2 st.regs j=some o/\G5 (rho j) o=some b/\IS o off:=⟨_,rfl⟩;obtain⟨hsus,hsuspi⟩:=hA.suspend hd (E:=V4 ts (ts.map (get st.env))) (V:=VI) (fun t=>by
  obtain⟨e1,e2⟩:=Ll ts (ts.map (get st.env)) t (by simp) hts;by_cases hm:t∈ts
  ·obtain⟨i,hi⟩:=AY2.1 hm;exact .inl (by rw[e1 i hi,AR7,AS5,hi];rfl)
  ·exact .inr (e2 hm)) (fun b off=>by rw[hVI]) hidx
 obtain⟨s1,rho1,⟨hk1,hn1,hI1⟩,hup1,hs1⟩:=hup _ act w1 rho hsus;obtain⟨rI,hrI⟩:∃rI:Nat->Value,rI=fun p=>if p=ids.length then .func (.yield l) #[] #[]else rho (ids.getD p 0):=⟨_,rfl⟩
 obtain⟨R,hRdef⟩:∃R:RP P,R={ pr:=𝒢,n:=n,Q:=Q,act:=act,l:=l,fn:=fid,D:=D,rA:=C.rho0,r0:=rI,ts:=ts,gh:=gh,I:=I,ps:=ps,asg:=asg,body:=body }:=⟨_,rfl⟩;obtain⟨CI,hCI⟩:∃CI:Ctx,CI={ X:=fun b o=>C.X b o \/ PvR s1.regs rho1 b o,w0:=w1,E0:=fun b=>∃j o,j∈ids/\A2 st.regs j=some o/\G5 (rho j) o=some b,Pi0:=fun b o=>(C.X b o \/ PvR s1.regs rho1 b o) \/ VI b o,rho0:=rI,Y:=fun r b=>r=L/\b=true,yv:=.func (.yield l) #[] #[] }:=⟨_,rfl⟩;have hlC:C.E0 l \/ C.w0.heap.size<=l:=.inr (AX0 h.size hlsz);have hVIx:∀b,CI.E0 b->∃off,VI b off:=by
  intro b hb;subst hCI;obtain⟨j,o,hj,ho,hbo⟩:=hb;cases o with
  |vec e k m f vw=>
   refine⟨m*k,?_⟩;rw[hVI];refine⟨j,_,hj,ho,hbo,?_⟩;cases vw
   ·trivial
   ·exact AS4 _
  |cells cs=>exact⟨0,by rw[hVI];exact⟨j,_,hj,ho,hbo,trivial⟩⟩
  |map es=>exact⟨0,by rw[hVI];exact⟨j,_,hj,ho,hbo,trivial⟩⟩
  |arr n f=>exact⟨0,by rw[hVI];exact⟨j,_,hj,ho,hbo,trivial⟩⟩
  |ghost cs=>simp[G5]at hbo
  |yld r b=>simp[G5]at hbo
  |dead=>simp[G5]at hbo
 have hEl:∀b,CI.E0 b->b<w1.heap.size/\b<w.heap.size:=by
  intro b hb;subst hCI;obtain⟨j,o,hj,ho,hbo⟩:=hb
  have:=(h.hp.holds j o ho).lt hbo
  exact⟨by omega,this⟩
 have hin:InG R CI C s1 rho1 VI L true (R.lo .ready none):=by
  subst hRdef;refine⟨hG,rfl,by subst hCI;exact hs1,by subst hCI;rfl,by subst hCI;rfl,?_,?_,?_,?_,hlC,fun off hX=>?_,?_,by subst hCI;rfl,by subst hCI;rfl,by subst hCI;rfl,hk1,hn1,.inl ⟨rfl,rfl,hI1,hlens⟩⟩
  ·rintro b hb (hF|hF)
   ·obtain⟨off,hv⟩:=hVIx b hb;obtain⟨i,oi,hi,hbi⟩:=hF;exact hs1.hp.out i oi b off hi hbi (.inr hv)
   ·subst hCI;obtain⟨j,o,hj,ho,hbo⟩:=hb;obtain⟨r,e1,_,e2,_⟩:=hA.marks.2 _ hF;cases e1;exact (hA.hp.holds j o ho).kind hbo e2
  ·intro b hb;subst hCI;obtain⟨j,o,hj,ho,hbo⟩:=hb;exact h.own b ⟨j,o,ho,hbo⟩
  ·intro b hb
   have:=(hEl b hb).1
   subst hCI;exact this
  ·have e:RP.lo { pr:=𝒢,n:=n,Q:=Q,act:=act,l:=l,fn:=fid,D:=D,rA:=C.rho0,r0:=rI,ts:=ts,gh:=gh,I:=I,ps:=ps,asg:=asg,body:=body } .ready none={ state:=.ready,pending:=none,fn:=fid,tmps:=a.tmps,params:=ps,assign:=asg,body:=body,defers:=D }:=by simp[RP.lo,hact]
   rw[e];subst hCI;exact hl
  ·have:=h.hp.bound l off hX;omega
  ·intro hE
   have:=(hEl l hE).2;omega
 have hne:ids.length ∉ List.range ids.length:=by simp
 have hrgI:∀p,A2 (objRegs (objs++[.yld L true])) p=if p=ids.length then some (.yld L true)else A2 (objRegs objs) p:=by
  intro p;rw[D2,D2];by_cases e:p=ids.length
  ·subst e;rw[if_pos rfl,<- hobl];simp
  ·rw[if_neg e];by_cases hlt:p<objs.length
   ·rw[AX8 hlt]
   ·rw[AW6 (by simp;omega),AW6 (by omega)]
 have hT:∀b o,(CI.X b o \/ VI b o)->Prv C.X (A2 st.regs) rho b o:=by
  intro b o hp;refine (hsuspi b o).1 (hup1 b o ?_);subst hCI;rcases hp with (hp|hp)|hp
  ·exact .inl (.inl hp)
  ·exact .inr hp
  ·exact .inl (.inr hp)
 have hprI:∀b off,Prv CI.X (A2 (objRegs objs)) (fun p=>rho (ids.getD p 0)) b off↔(CI.X b off \/ VI b off):=by
  intro b off;refine or_congr Bc0 ?_;rw[hVI];constructor
  ·rintro⟨p,o',hp,hb,hpr⟩;rw[D2]at hp;have hlt:p<ids.length:=by rw[<- hobl];exact (AS9.1 hp).1
   obtain⟨o,o2,e1,e2,e3⟩:=hobg p _ (AS2 hlt);rw[hp]at e3;cases e3;simp only[Ck (AS2 hlt),X5 e2]at hb;exact⟨_,o,Bg8 hlt,e1,hb,(HN e2 off).1 hpr⟩
  ·rintro⟨j,o,hj,ho,hb,hpr⟩;obtain⟨p,hp⟩:=AY2.1 hj;obtain⟨o1,o2,e1,e2,e3⟩:=hobg p j hp;rw[ho]at e1;cases e1;refine⟨p,o2,by rw[D2];exact e3,?_,(HN e2 off).2 hpr⟩;simp only[Ck hp,X5 e2];exact hb
 have hkI:Keeps w1 (Prv (C.callee st.regs w1 rho ids).X (A2 (objRegs objs)) (fun p=>rho (ids.getD p 0))) w1 (Prv CI.X (A2 (objRegs objs)) (fun p=>rho (ids.getD p 0))):=
  Keeps.of_imp fun b o hp=>(Od hob b o).2 (hT b o ((hprI b o).1 hp))
 have hEI:SatE CI (objRegs objs) w1 (fun p=>rho (ids.getD p 0)):=by
  refine⟨⟨fun p o hp=>(hS1.hp.holds p o hp).keeps hkI (fun j hj=>⟨hj,rfl⟩) fun b _=>rfl,hS1.hp.sep,?_,?_⟩,by subst hCI;exact Ext.refl _,by subst hCI;exact AS4 _,by subst hCI;exact fun b _ _=>rfl,?_,?_,?_⟩
  ·intro p o b off hp hb hX;have hE:CI.E0 b:=by
    rcases hS1.own b ⟨p,o,hp,hb⟩with h1|h1
    ·subst hCI;exact h1
    ·have:=(hS1.hp.holds p o hp).lt hb
     have h1:w1.heap.size<=b:=h1;omega
   have hd':=hin.dis b hE;obtain⟨off',hv⟩:=hVIx b hE;subst hCI;rcases hX with hX|⟨i,oi,hi,hbi,_⟩
   ·rw[hVI]at hv;obtain⟨j,oj,hj,ho,hbo,_⟩:=hv;exact h.hp.out j oj b off ho hbo hX
   ·exact hd' (.inl ⟨i,oi,hi,hbi⟩)
  ·intro b off hX;subst hCI;rcases hX with hX|⟨i,oi,hi,hbi,_⟩
   ·have:=h.hp.bound b off hX;omega
   ·exact (hs1.hp.holds i oi hi).lt hbi
  ·have:CI.Pi0=fun b o=>CI.X b o \/ VI b o:=by subst hCI;rfl
   rw[this];have hw0:CI.w0=w1:=by subst hCI;rfl
   rw[hw0];exact Keeps.of_imp fun b o hp=>(hprI b o).1 hp
  ·intro b hb;rcases hS1.own b hb with h1|h1
   ·exact .inl (by subst hCI;exact h1)
   ·exact .inr (by subst hCI;exact h1)
  ·intro p r b hp;exact absurd (hS1.yld p r b hp).1 (fun h=>h)
 obtain⟨g1,g2,g3⟩:=hEI.add (R':=objRegs (objs++[.yld L true])) (j:=ids.length) (by rw[D2,AW6 (by omega)]) (o:=.yld L true) (v:=.func (.yield l) #[] #[]) (fun u=>rfl) hrgI
  (fun _ _=>⟨l,rfl⟩) (fun r b he=>by cases he;subst hCI;exact⟨⟨rfl,rfl⟩,rfl⟩)
 have hrIeq:(fun i=>if i=ids.length then Value.func (.yield l) #[] #[]else rho (ids.getD i 0))=rI:=by rw[hrI]
 rw[hrIeq]at g1 g2;have g3' : ∀i,Lv (A2 (objRegs objs)) i->Lv (A2 (objRegs (objs++[.yld L true]))) i/\rI i=rho (ids.getD i 0):=fun i hi=>by
  have:=g3 i hi
  rw[hrI];exact this
 have hyvI:rI ids.length=.func (.yield l) #[] #[]:=by rw[hrI];simp
 have hkA:Keeps w1 (PiS C st rho) w1 (Prv CI.X (A2 (objRegs (objs++[.yld L true]))) rI):=Keeps.of_imp fun b o hp=>hT b o ((hprI b o).1 ((g2 b o).1 hp));have hrenI:∀p j:Nat,ids[p]? = some j->Lv (A2 st.regs) j->Lv (A2 (objRegs (objs++[.yld L true]))) p/\rI p=rho j:=by intro p j hp _;obtain⟨o,o2,e1,e2,e3⟩:=hobg p j hp;obtain⟨q1,q2⟩:=g3' p (by simp[Lv,D2,e3]);exact⟨q1,by rw[q2,Ck hp]⟩
 have hlvI:Lv (A2 (objRegs (objs++[.yld L true]))) ids.length:=by simp[Lv,hrgI]
 have ren:∀{vs:Array Value}{l l' : List AV},RepV w1 (PiS C st rho) (Lv (A2 st.regs)) rho vs l->Cx ids l=some l' -> RepV w1 (Prv CI.X (A2 (objRegs (objs++[.yld L true]))) rI) (Lv (A2 (objRegs (objs++[.yld L true])))) rI vs l':=by intro vs l l' hv hr;obtain⟨e1,e2⟩:=BM hr;exact⟨hv.1.trans e1,fun i hi=>(hv.2 i (by omega)).ren hkA hrenI (e2 i (by omega))⟩
 have hvals:RepV w1 (Prv CI.X (A2 (objRegs (objs++[.yld L true]))) rI) (Lv (A2 (objRegs (objs++[.yld L true])))) rI (x ++ #[.func (.yield l) #[] #[]]++y) (as++[.yf ids.length]++bs):=
  RepV.append (RepV.append (ren hrx hr1) ⟨rfl,fun i hi=>by
   simp only[AX6]at hi;obtain rfl:i=0:=by omega
   exact .yf ids.length l hlvI hyvI⟩) (ren hry hr2)
 have hvals' : as++[.yf ids.length]++bs=as ++ .yf ids.length::bs:=by simp
 rw[hvals']at hvals;have hSI:Sat CI ⟨argEnv (as ++ .yf ids.length::bs),objRegs (objs++[.yld L true])⟩ ⟨x ++ #[.func (.yield l) #[] #[]]++y,[]⟩ w1 rI:=by
  refine⟨g1,fun t=>?_,fun j _ _=>by subst hCI;rfl,Ba8,fun d hd=>by simp at hd⟩;show RepA w1 _ _ rI _ (get (argEnv (as ++ .yf ids.length::bs)) t);rw[AJ];by_cases ht:t<(as ++ .yf ids.length::bs).length
  ·exact hvals.2 t ht
  ·rw[AR7,AW6 (by omega)];exact .top _
 have hpsn:∀t∈R.ps.toList,t<R.n:=by
  subst hRdef;intro t ht;rw[AT4]at hps
  have:=hps t ht
  simpa using this
 have hRact:R.act=act:=by subst hRdef;rfl
 have hRl:R.l=l:=by subst hRdef;rfl
 have hcall:=hF (RP.prot R (by subst hRdef;exact hacts) hpsn (by subst hRdef;exact hgl) (by subst hRdef;exact hts) (by subst hRdef;exact casg) (by subst hRdef;exact cbody) (by subst hRdef;exact hround)) CI w1 _ rI ⟨C,s1,rho1,VI,L,true,_,hin⟩ hSI hvals.1;obtain⟨nx,w2,hrun,hcall⟩:=hcall;rw[RC hfn hfb hfname]at hrun;cases hrun;have hev:a.eval g=.func (.func f) x y:=by rw[hact]at hx;exact hx
 have hres:(resolve a.eval (rangeCall g l) 0).run P w1=.ok { target:=.fn (.func f) y,args:=x ++ #[.func (.yield l) #[] #[]] } w1:=by
  have e1:(rangeCall g l).args.map a.eval = #[.func (.yield l) #[] #[]]:=by simp[Act.eval]
  have e2:resolve a.eval (rangeCall g l) 0=Deferred.ofValue (a.eval g) #[.func (.yield l) #[] #[]]:=by rw[<- e1];rfl
  rw[e2,hev];simp[Deferred.ofValue]
 have hinv:(invoke (.fn (.func f) y) (x ++ #[.func (.yield l) #[] #[]])).run P w1=.ok (.enter f (x ++ #[.func (.yield l) #[] #[]]++y)) w1:=by simp only[invoke];exact RC hfn hfb hfname
 have hcall2:CallsIn (FW ro) (0-1) P f (x ++ #[.func (.yield l) #[] #[]]++y) w1 (rangePost (FW ro) 0 P l (WP 𝒢 n Q) { a with defers:=mk++a.defers }):=by
  refine (Og hcall).mono ?_;rintro e w' ⟨C',r,objs',ks,rho',⟨C2,s2,rhoA2,XI2,rest2,live2,lo2,hin2⟩,⟨b,hb1,_,hFin,hb2⟩,hE,hend',_⟩;rw[<- hact];obtain⟨hY,_⟩:=hE.yld ids.length [] b (by rw[D2];exact hb1);rw[hin2.Y]at hY;obtain⟨hr2',hb'⟩:=hY;subst hb';have hrel:Rel C' w' (Own (A2 (objRegs objs')) rho') (PvR (objRegs objs') rho'):=
   ⟨hE.ext,hE.size,hE.same,hE.keep,hE.own,fun b off ⟨j,o,hj,hb⟩=>hE.hp.out j o b off hj hb,fun b hb=>hE.hp.lt hb,hE.hp.bound,fun b o ⟨j,oj,hj,hb,_⟩=>⟨j,oj,hj,hb⟩⟩
  obtain⟨n1,_,n3⟩:=hin2.sat.moves rfl hin2.X hin2.pi hrel hin2.dis hin2.oc;obtain⟨n4,n5⟩:=n1.minus;have hl' : w'.heap[R.l]? = some (.loop lo2):=(n3 R.l (AS7.1 hin2.rl).1 hin2.lE).trans hin2.rl;rw[hRl]at hl';have hG2 : 𝒢.G C2:=by have:=hin2.g;subst hRdef;exact this
  have hlown:C2.E0 l \/ C2.w0.heap.size<=l:=by have:=hin2.lown;rw[hRl]at this;exact this
  rw[hRact]at n4;cases r with
  |ret v'=>
   obtain⟨v,rfl,_⟩:=hend';rcases hin2.st with⟨hlv1,hlo,hI2,_⟩ | ⟨_,_,c,e,hlo,hj,hQ⟩
   ·refine⟨none,w'.putObj l (.loop { lo2 with state:=.exhausted }),?_,?_⟩
    ·rw[run_endLoop hl' (by rw[hlo];simp[RP.lo])];rw[hlo];rfl
    ·refine⟨C2,s2,rhoA2,hG2,(n4.poke hl' _ hlown).1,hacts,?_⟩;rw[<- hr2']at hI2;exact hend s2 (.ret v') (by have:=hin2.keys;subst hRdef;exact this) (by have:=hin2.ng;subst hRdef;exact this) (by subst hRdef;exact hI2) (hlv1 ▸ hFin)
   ·refine⟨some c,w'.putObj l (.loop { lo2 with state:=.exhausted }),?_,?_⟩
    ·rw[run_endLoop hl' (by rw[hlo];simp[RP.lo])];rw[hlo];rfl
    ·have hnx:NextOk 𝒢 n (Q e) act (w'.putObj l (.loop { lo2 with state:=.exhausted })):=⟨C2,s2,rhoA2,hG2,(n4.poke hl' _ hlown).1,hacts,by subst hRdef;exact hQ⟩;cases e with
     |ret=>cases hj;exact wpIn_ret hnx
     |exit id=>cases hj;exact wpIn_exit hnx
     |goto t=>cases hj;exact wpIn_goto hnx
     |normal=>exact hj.elim
     |panic x=>exact hj.elim
  |panic x=>
   obtain⟨v,rfl,hv⟩:=hend';rcases hin2.st with⟨hlv1,hlo,hI2,_⟩ | ⟨hlv,_⟩
   ·refine⟨C2,s2,rhoA2,v,x,rfl,hG2,n4,hacts,hv.keeps (Keeps.of_imp ?_),?_⟩
    ·intro b o hp;exact .inl (by rw[hin2.X];exact hp)
    ·rw[<- hr2']at hI2;exact hend s2 (.panic x) (by have:=hin2.keys;subst hRdef;exact this) (by have:=hin2.ng;subst hRdef;exact this) (by subst hRdef;exact hI2) (hlv1 ▸ hFin)
   ·obtain⟨z,hz⟩:=hb2 hlv;cases hz
 exact⟨l,mk,w1,_,w1,f,_,w1,hent,hres,fun _ _=>trivial,hinv,fun h=>by simp[FW,Fence.wide]at h,hcall2⟩
theorem XU (n:Nat)(c:Code)(hok:Af n c=true):HO P n c:=Uj (fun _ _ _ _ hps=>Um hps) c hok
theorem AJ3 (P:Program):G9 (GD P) P where
 refl:=fun s K h=>semUp.refl h
 trans:=fun s K h=>semUp.trans h
 mono:=fun s K K' hk h=>semUp.mono hk h
 bool:=fun st t b K hg h=>semUp.bool hg h
 nil:=fun st t k n f K hg h1 h2=>semUp.nil hg h1 h2
 frz:=fun st j ps K hj hK=>semUp.frz hj hK
 trunc:=fun st j j' n N k e f K h1 h2 h3 h4 hK=>semUp.trunc h1 h2 h3 h4 hK
 toArr:=fun st j n f K hj hK=>semUp.toArr hj hK
 ofArr:=fun st j n f K hj hK=>semUp.ofArr hj hK
 le:=fun ids s t K hle hK=>semUp.le hle hK
 less:=fun s t K h1 h2 hK=>semUp.less h1 h2 hK
 eqv:=fun s t K h1 h2 hK=>semUp.eqv h1 h2 hK
 func:=fun f fn code args objs Q hf hb hname hok hn ho hw=>XR (fun c=>XU _ c) hf hb hname rfl hok hn ho hw
 argLe:=fun f args args' objs Q hle h 𝒢 C w vs rho hG hS hvs=>by
  have hlen:∀{l m:List AV},Rf l m->l.length=m.length:=by
   intro l
   induction l with
   |nil=>intro m h;cases m with
    |nil=>rfl
    |cons=>exact h.elim
   |cons a r ih=>intro m h;cases m with
    |nil=>exact h.elim
    |cons b s=>simp only[AV1,ih h.2]
  have hget:∀{w:World}{Pi:Nat->Nat->Prop}{live:Nat->Prop}{rho:Nat->Value}{v:Value}{l m:List AV},Rf l m->∀t,RepA w Pi live rho v (l.getD t .top)->RepA w Pi live rho v (m.getD t .top):=by
   intro w Pi live rho v l
   induction l with
   |nil=>intro m h t ht;cases m with
    |nil=>exact ht
    |cons=>exact h.elim
   |cons a r ih=>intro m h t ht;cases m with
    |nil=>exact h.elim
    |cons b s=>
     cases t with
     |zero=>
      rcases h.1 with rfl|⟨x,y,rfl,rfl,hl⟩
      ·exact ht
      ·exact .p _ _ (ht.toP.leP hl)
     |succ t=>exact ih h.2 t ht
  exact h 𝒢 C w vs rho hG ⟨hS.toSatE,fun t=>by
   have:=hS.env t
   rw[AJ]at this⊢;exact hget hle t this,hS.pin,hS.marks⟩ (hvs.trans (hlen hle))
 monoF:=fun f args objs Q Q' hq h 𝒢 C w vs rho hG hS hvs=>(h 𝒢 C w vs rho hG hS hvs).mono fun e w' ⟨C',r,objs',ks,rho',h1,h2,h3⟩=>⟨C',r,objs',ks,rho',h1,hq _ _ _ h2,h3⟩
end
end Go.AM
set_option linter.unusedVariables false
namespace Go.AM
inductive Cls where
 |n|r|w
 |l (js:List Nat)|a (js:List Nat)
 deriving DecidableEq,Inhabited
def AB9:Cls->Cls->Bool
 |.n,_|_,.n | .r,.r | .r,.l _ | .l _,.r | .l _,.l _=>false
 |.l i,.a j | .a i,.l j | .a i,.a j=>i.any fun q=>j.contains q
 |_,_=>true
def HQ (q:Nat):Cls->Bool
 |.w=>true
 |.a js=>js.contains q
 |_=>false
def Ab3 (q:Nat):Cls->Bool
 |.n=>false
 |.l js | .a js=>js.contains q
 |_=>true
theorem Ez {q:Nat}{c d:Cls}(h:HQ q c=true)(h' : Ab3 q d=true):AB9 c d=true/\AB9 d c=true:=by
 have hm:∀{i j:List Nat},i.contains q=true->j.contains q=true->(i.any fun q=>j.contains q)=true:=fun hi hj=>List.any_eq_true.2 ⟨q,by simpa using hi,hj⟩;cases c with
 |w=>cases d<;>first|(cases h';done)|exact⟨rfl,rfl⟩
 |a i=>
  cases d with
  |n=>cases h'
  |l j=>exact⟨hm h h',hm h' h⟩
  |a j=>exact⟨hm h h',hm h' h⟩
  |_=>exact⟨rfl,rfl⟩
 |_=>cases h
theorem Ho {q:Nat}{c:Cls}(h:HQ q c=true):Ab3 q c=true:=by cases c<;>first|(cases h;done)|exact h|rfl
def XV (acc:List (List Nat))(o:Oper):List Nat:=(o.after.toList.filter CN).flatMap fun e=>e.on::acc.getD e.on []
def PN:List Oper->List (List Nat)->List (List Nat)
 |[],acc=>acc
 |o::r,acc=>PN r (acc++[XV acc o])
def AM1 (ops:List Oper):List (List Nat):=PN ops []
def Un:Operand->List Nat
 |.tmp t=>[t]
 |_=>[]
def reads (ops:List Oper)(o:Oper):List Nat:=o.op.operands.toList.flatMap Un++match o.guard with
 |some (j,_)=>[DD ops j]
 |none=>[]
def Fv (ops:List Oper)(ci cj:Cls)(oi oj:Oper):Bool:=
 !AB9 ci cj &&
 (match oi.dst with|some d=>!(reads ops oj).contains d&&decide (oj.dst≠some d)|none=>true) &&
 (match oj.dst with|some d=>!(reads ops oi).contains d|none=>true)
def JC (ops:List Oper)(cls:List Cls):Bool:=
 GG ops&&(cls.length==ops.length) &&
 (List.range ops.length).all fun j=>(List.range j).all fun i=>
  match ops[i]?,ops[j]? with
  |some oi,some oj=>((AM1 ops).getD j []).contains i||Fv ops (cls.getD i .n) (cls.getD j .n) oi oj
  |_,_=>true
def isP:AV->Bool
 |.p _=>true
 |_=>false
def isN (env:Env):Op->Bool
 |.move _ | .assign _ | .pick .. | .build .. | .nilCheck _ | .binOp .. | .unOp .. | .fieldAddr .. | .field .. | .index .. | .extract .. | .makeFunc ..=>true
 |.load _ a=>isP (aev env a)
 |.convert _ _ x=>isP (aev env x)
 |.makeInterface _ x=>isP (aev env x)
 |.indexAddr _ x _=>isP (aev env x)
 |.slice _ x _ _ _=>isP (aev env x)
 |.lookup _ m k _=>isP (aev env m)&&isP (aev env k)
 |.call { callee:=.builtin .len,args,.. }=>args.toList.all fun x=>isP (aev env x)
 |.call { callee:=.builtin .min,.. } | .call { callee:=.builtin .max,.. }=>true
 |_=>false
section
variable {P:Program}
theorem PO {env:Env}{R R' : D1}{d:Nat}{o:Op}{c:List Prop}{v:AV}(hn:isN env o=true)(h:aop P env R d o=some ⟨c,v,R'⟩):R' = R/\∀R2,aop P env R2 d o=some ⟨c,v,R2⟩:=by
 cases o with
 |move x=>simp only[aop,AS0,Out.mk.injEq]at h⊢;obtain⟨rfl,rfl,rfl⟩:=h;simp
 |assign x=>simp only[aop,AS0,Out.mk.injEq]at h⊢;obtain⟨rfl,rfl,rfl⟩:=h;simp
 |pick x y z=>simp only[aop]at h⊢;split at h<;>simp_all
 |build t ps=>
  simp only[aop]at h⊢;split at h
  ·split at h<;>simp_all
  ·cases h
 |nilCheck x=>simp only[aop]at h⊢;split at h<;>simp_all
 |binOp op t x y yt=>simp only[aop]at h⊢;split at h<;>simp_all
 |unOp op t x=>simp only[aop]at h⊢;split at h<;>simp_all
 |fieldAddr t x f=>simp only[aop]at h⊢;split at h<;>simp_all
 |field t x f=>simp only[aop]at h⊢;split at h<;>simp_all
 |index t x i=>
  simp only[aop]at h⊢;split at h
  ·split at h<;>simp_all
  ·cases h
 |extract x i=>
  simp only[aop]at h⊢;split at h
  ·split at h<;>simp_all
  ·cases h
 |makeFunc f a b=>cases f<;>simp only[aop]at h⊢<;>simp_all
 |load t a=>simp only[isN]at hn;simp only[aop]at h⊢;cases hx:aev env a<;>simp only[hx,isP,AS6]at hn;simp only[hx]at h⊢;rename_i x;cases x<;>simp only[load]at h⊢<;>first|(cases h;done)|(split at h<;>simp_all)
 |convert s t x=>
  simp only[isN]at hn;cases hx:aev env x<;>simp only[hx,isP,AS6]at hn;simp only[aop,hx]at h⊢;rename_i x;have he:∀R R2 k,elems R k (.p x)=elems R2 k (.p x):=by intro R R2 k;unfold elems;split<;>simp_all
  split at h
  ·split at h<;>simp_all
  ·split at h<;>simp_all
  ·split at h<;>simp_all
  ·split at h
   ·split at h
    ·rename_i n f h2 h3;simp only[AS0,Out.mk.injEq]at h;obtain⟨rfl,rfl,rfl⟩:=h;refine⟨rfl,fun R2=>?_⟩;rw[he R R2]at h3
     simp_all
    ·cases h
   ·cases h
  ·cases h
 |makeInterface t x=>
  simp only[isN]at hn;cases hx:aev env x<;>simp only[hx,isP,AS6]at hn;simp only[aop,hx,HE]at h⊢;split at h
  ·rename_i h1 h2;simp only[AS0,AU5]at h1;obtain⟨rfl,rfl⟩:=h1;split at h<;>simp_all
  ·cases h
 |indexAddr t x i=>
  simp only[isN]at hn;cases hx:aev env x<;>simp only[hx,isP,AS6]at hn;rename_i y;simp only[aop,hx]at h⊢;split at h
  ·rename_i n hi;have he:∀R R2,DT P R t (.p y) n=DT P R2 t (.p y) n:=by intro R R2;unfold DT;split<;>simp_all
   split at h
   ·rename_i hq;simp only[AS0,Out.mk.injEq]at h;obtain⟨rfl,rfl,rfl⟩:=h;refine⟨rfl,fun R2=>?_⟩;rw[he R R2]at hq;simp[hq]
   ·cases h
  ·cases h
 |slice t x lo hi mx=>
  cases mx with
  |some _=>simp[aop]at h
  |none=>
   simp only[isN]at hn;cases hx:aev env x<;>simp only[hx,isP,AS6]at hn;rename_i y;have he:∀R R2 lo hi c a R',DU P R t (.p y) lo hi=some (c,a,R')->R' = R/\DU P R2 t (.p y) lo hi=some (c,a,R2):=by
    intro R R2 lo hi c a R' h;unfold DU at h⊢;split at h
    ·split at h<;>simp_all
    ·split at h
     ·split at h<;>simp_all
     ·cases h
    ·split at h<;>simp_all
    ·simp_all
    ·simp_all
   have fin:∀lo hi,(match DU P R t (.p y) lo hi with|some (c,a,regs)=>some (Out.mk c a regs)|none=>none)=some ⟨c,v,R'⟩ ->
    R' = R/\∀R2,(match DU P R2 t (.p y) lo hi with|some (c,a,regs)=>some (Out.mk c a regs)|none=>none)=some ⟨c,v,R2⟩:=by
    intro lo hi h;cases hq:DU P R t (.p y) lo hi with
    |none=>rw[hq]at h;cases h
    |some q=>obtain⟨c',a',r'⟩:=q;rw[hq]at h;simp only[AS0,Out.mk.injEq]at h;obtain⟨rfl,rfl,rfl⟩:=h;refine⟨(he _ R _ _ _ _ _ hq).1,fun R2=>?_⟩;simp only[(he _ R2 _ _ _ _ _ hq).2]
   simp only[aop,hx]at h⊢;split at h<;>first|exact fin _ _ h|cases h
 |lookup t m k ok=>
  simp only[isN,AS3]at hn;cases hm:aev env m<;>simp only[hm,isP,AS6,false_and]at hn;rename_i y;cases hk:aev env k<;>simp only[hk,AS6,and_false]at hn;rename_i z;have he:∀R R2 k,IQ P R t (.p y) k ok=IQ P R2 t (.p y) k ok:=by
   intro R R2 k;unfold IQ;split
   ·rename_i kt e ht;cases Kf P kt k with
    |false=>rfl
    |true=>
     cases y with
     |v u=>cases u<;>first|rfl|(rename_i r;cases r<;>rfl)
     |_=>rfl
   ·rfl
  simp only[aop,hm,hk,HE]at h⊢;split at h
  ·rename_i hq;simp only[AS0,Out.mk.injEq]at h;obtain⟨rfl,rfl,rfl⟩:=h;refine⟨rfl,fun R2=>?_⟩;rw[he R R2]at hq;simp[hq]
  ·cases h
 |call c=>
  obtain⟨callee,args,types⟩:=c;cases callee with
  |builtin b=>
   cases b with
   |len=>
    simp only[aop]at h⊢;split at h
    ·rename_i x t hx ht;simp only[isN,hx,Bf1,Bk1,Bf2]at hn;have he:∀R R2,Zy P R t (aev env x)=Zy P R2 t (aev env x):=by intro R R2;cases hy:aev env x<;>simp only[hy,isP,AS6]at hn;unfold Zy;split<;>simp_all
     cases hq:Zy P R t (aev env x)with
     |none=>rw[hq]at h;cases h
     |some q=>rw[hq]at h;simp only[AS0,Out.mk.injEq]at h;obtain⟨rfl,rfl,rfl⟩:=h;refine⟨rfl,fun R2=>?_⟩;rw[he R R2]at hq;simp[hq]
    ·cases h
   |min=>simp only[aop]at h⊢;split at h<;>simp_all
   |max=>simp only[aop]at h⊢;split at h<;>simp_all
   |_=>simp[isN]at hn
  |_=>simp[isN]at hn
 |_=>simp[isN]at hn
theorem Ab4 {env env' : Env}{x:Operand}(h:∀t∈Un x,get env t=get env' t):aev env x=aev env' x:=by
 cases x with
 |tmp t=>exact h t (by simp[Un])
 |_=>rfl
theorem JD {env env' : Env}{place:Nat->Option (Nat×Nat)}:∀(l:List (Nat×Operand)) (cs:List AV),(∀q∈l,aev env q.2=aev env' q.2)->Ju env place l cs=Ju env' place l cs
 |[],cs,_=>rfl
 |(i,x)::r,cs,h=>by
  have hx:aev env x=aev env' x:=h (i,x) (by simp);simp only[Ju,hx];split
  ·split
   ·exact JD r _ fun q hq=>h q (AU9 _ hq)
   ·rfl
  ·rfl
theorem Fw {env env' : Env}{R:D1}{d:Nat}{o:Op}(h:∀x∈o.operands.toList,aev env x=aev env' x):aop P env R d o=aop P env' R d o:=by
 cases o with
 |build t ps=>
  have:∀q∈ps.toList,aev env q.2=aev env' q.2:=fun q hq=>h q.2 (by simp only[Op.operands];simpa using ⟨q.1,by simpa using hq⟩)
  simp only[aop,JD ps.toList _ this]
 |buildSlice t n ps=>
  have:(ps.toList.map fun q=>aev env q.2)=ps.toList.map fun q=>aev env' q.2:=AU6 fun q hq=>h q.2 (by simp only[Op.operands];simpa using ⟨q.1,by simpa using hq⟩)
  simp only[aop,this]
 |makeFunc f a b=>have h1:a.toList.map (aev env)=a.toList.map (aev env'):=AU6 fun q hq=>h q (by simp[Op.operands];exact .inl (by simpa using hq));have h2:b.toList.map (aev env)=b.toList.map (aev env'):=AU6 fun q hq=>h q (by simp[Op.operands];exact .inr (by simpa using hq));cases f<;>simp only[aop,h1,h2]
 |makeMap t r=>cases r<;>simp only[aop]
 |slice t x lo hi mx=>
  have hx:=h x (by simp[Op.operands]);have hl:lo.map (fun o=>asInt (aev env o))=lo.map (fun o=>asInt (aev env' o)):=by
   cases lo with
   |none=>rfl
   |some l=>simp only[AT0];rw[h l (by simp[Op.operands])]
  have hh:hi.map (fun o=>asInt (aev env o))=hi.map (fun o=>asInt (aev env' o)):=by
   cases hi with
   |none=>rfl
   |some l=>simp only[AT0];rw[h l (by simp[Op.operands])]
  cases mx<;>simp only[aop,hx,hl,hh]
 |call c=>
  obtain⟨callee,args,types⟩:=c;cases callee with
  |builtin b=>
   have h1:args.toList.map (aev env)=args.toList.map (aev env'):=AU6 fun q hq=>h q (by simp[Op.operands,Call.operands];simpa using hq);cases b with
   |len=>
    simp only[aop];cases hl:args.toList with
    |nil=>rfl
    |cons x r=>
     rw[hl]at h1;simp only[AU8,Ba1]at h1;cases r with
     |nil=>cases types.toList with
      |nil=>rfl
      |cons t r=>cases r<;>simp only[h1.1]
     |cons _ _=>rfl
   |append=>
    simp only[aop];cases hl:args.toList with
    |nil=>rfl
    |cons x r=>
     rw[hl]at h1;simp only[AU8,Ba1]at h1;cases r with
     |nil=>rfl
     |cons y r=>
      simp only[AU8,Ba1]at h1;cases r with
      |nil=>
       cases types.toList with
       |nil=>rfl
       |cons t r=>
        cases r with
        |nil=>rfl
        |cons t2 r=>cases r<;>first|rfl|simp only[h1.1,h1.2.1]
      |cons _ _=>rfl
   |min=>simp only[aop,h1]
   |max=>simp only[aop,h1]
   |_=>first|rfl|simp only[aop]
  |_=>first|rfl|simp only[aop]
 |move x=>simp only[aop,h x (by simp[Op.operands])]
 |assign x=>simp only[aop,h x (by simp[Op.operands])]
 |pick x y z=>simp only[aop,h x (by simp[Op.operands]),h y (by simp[Op.operands]),h z (by simp[Op.operands])]
 |box t x=>simp only[aop,h x (by simp[Op.operands])]
 |load t x=>simp only[aop,h x (by simp[Op.operands])]
 |store t x y=>simp only[aop,h x (by simp[Op.operands]),h y (by simp[Op.operands])]
 |nilCheck x=>simp only[aop,h x (by simp[Op.operands])]
 |binOp op t x y yt=>simp only[aop,h x (by simp[Op.operands]),h y (by simp[Op.operands])]
 |unOp op t x=>simp only[aop,h x (by simp[Op.operands])]
 |convert s t x=>simp only[aop,h x (by simp[Op.operands])]
 |makeInterface t x=>simp only[aop,h x (by simp[Op.operands])]
 |makeSlice t l c=>simp only[aop,h l (by simp[Op.operands]),h c (by simp[Op.operands])]
 |fieldAddr t x f=>simp only[aop,h x (by simp[Op.operands])]
 |field t x f=>simp only[aop,h x (by simp[Op.operands])]
 |indexAddr t x i=>simp only[aop,h x (by simp[Op.operands]),h i (by simp[Op.operands])]
 |index t x i=>simp only[aop,h x (by simp[Op.operands]),h i (by simp[Op.operands])]
 |lookup t m k ok=>simp only[aop,h m (by simp[Op.operands]),h k (by simp[Op.operands])]
 |mapUpdate t m k x=>simp only[aop,h m (by simp[Op.operands]),h k (by simp[Op.operands]),h x (by simp[Op.operands])]
 |extract x i=>simp only[aop,h x (by simp[Op.operands])]
 |_=>first|rfl|simp only[aop]
end
end Go.AM
set_option linter.unusedVariables false
namespace Go.AM
section
variable (S:Br) (P:Program)
def Dr (all:List Oper)(env:Env)(o:Oper):Option Bool:=
 match o.guard with
 |none=>some true
 |some (j,want)=>(yv (get env (DD all j))).map fun b=>decide (b=some want)
def Ab5:AV->Bool
 |.vec _ | .vecp _ _=>false
 |_=>true
def An3 (env:Env)(o:Op)(r:AV):Prop:=
 ∃c f fn as' args r',o=.call c/\c.callee=.value f/\((c.args.toList.map (aev env)).all Ab5)=true/\TV env f (c.args.toList.map (aev env))=some (fn,as')/\Cx [] as' = some args/\Al6 S fn args r' /\ r=unA [] r'
def AC0 (env:Env)(regs:D1)(d:Nat)(o:Op)(r:AV)(regs' : D1):Prop:=
 ∃c f as regs1 fn as' args objs objs' ks r' ids,o=.call c/\c.callee=.value f/\MU regs (c.args.toList.map (aev env))=some (as,regs1)/\TV env f as=some (fn,as')/\Cx ids as' = some args/\J4 ids regs1 ids=some objs /\
  FunO S fn args objs r' objs' ks/\F7 ids=true/\DV objs=true/\CL regs1 ids ks d objs'.length=true /\
  r=unA (N9 d ids ks objs'.length) r' /\ regs' = Zz (N9 d ids ks objs'.length) (N9 d ids ks objs'.length) objs' (O0 ids ks regs1)
def clsF (cl:Cls)(a b:Prop):Prop:=match cl with
 |.n=>a
 |.r=>b
 |_=>True
def clsX (cl:Cls)(env:Env)(regs:D1)(d:Nat)(o:Op)(c:List Prop)(v:AV)(regs' : D1):Prop:=match cl with
 |.l js=>regs' = regs/\∀R2,(∀q∈js,A2 R2 q=A2 regs q)->aop P env R2 d o=some ⟨c,v,R2⟩
 |.a js=>∀R2,(∀q∈js,A2 R2 q=A2 regs q)->∃R3,aop P env R2 d o=some ⟨c,v,R3⟩/\(∀q∈js,A2 R3 q=A2 regs' q)/\∀q,q ∉ js->A2 R3 q=A2 R2 q
 |_=>True
def An4 (cl:Cls)(env:Env)(regs:D1)(d:Nat)(o:Op)(v:AV)(regs' : D1):Prop:=
 (∃c,aop P env regs d o=some ⟨c,v,regs'⟩/\D9 c/\clsF cl (isN env o=true) (regs' = regs)/\clsX P cl env regs d o c v regs') \/
 (An3 S env o v/\regs' = regs) \/
 (cl=.w/\AC0 S env regs d o v regs') \/
 (∃c x,Rb P env o=some (c,x)/\D9 c/\v=.p x/\regs' = regs)
def Oj (d:Option Nat)(a:AV)(env:Env):Env:=match d with
 |some d=>ins d a env
 |none=>env
def MV (all:List Oper):List Cls->List Oper->Env->D1->(Env->D1->Prop)->Prop
 |cl::cls,o::rest,env,regs,k=>∃b,Dr all env o=some b /\
  if b=true then ∃v regs',An4 S P cl env regs (o.dst.getD 0) o.op v regs' /\ MV all cls rest (Oj o.dst v env) regs' k
  else MV all cls rest (Oj o.dst AY env) regs k
 |_,[],env,regs,k=>k env regs
 |[],_::_,_,_,_=>False
end
section
variable {S:Br}{P:Program}
structure An5 (S:Br) (P:Program) (all:List Oper) (cls:List Cls) (E:Nat->Env) (R:Nat->D1) (V:Nat->AV):Prop where
 step:∀i o,all[i]? = some o->∃b,Dr all (E i) o=some b /\
  (if b=true then An4 S P (cls.getD i .n) (E i) (R i) (o.dst.getD 0) o.op (V i) (R (i+1))else V i=AY/\R (i+1)=R i)/\E (i+1)=Oj o.dst (V i) (E i)
theorem Ws (all:List Oper):∀(rest:List Oper) (cls:List Cls) (i:Nat) (env:Env) (regs:D1) (k:Env->D1->Prop),MV S P all cls rest env regs k->cls.length=rest.length ->
 ∃(E:Nat->Env) (R:Nat->D1) (V:Nat->AV),E 0=env/\R 0=regs/\k (E rest.length) (R rest.length) /\
  ∀j o,rest[j]? = some o->∃b,Dr all (E j) o=some b /\
   (if b=true then An4 S P (cls.getD j .n) (E j) (R j) (o.dst.getD 0) o.op (V j) (R (j+1))else V j=AY/\R (j+1)=R j)/\E (j+1)=Oj o.dst (V j) (E j)
 |[],[],i,env,regs,k,h,_=>⟨fun _=>env,fun _=>regs,fun _=>.top,rfl,rfl,h,fun j o hj=>by simp at hj⟩
 |[],_::_,i,env,regs,k,h,hl=>by simp at hl
 |_::_,[],i,env,regs,k,h,hl=>by simp at hl
 |o::rest,cl::cls,i,env,regs,k,h,hl=>by
  obtain⟨b,hb,h⟩:=h;have key:∃v regs',(if b=true then An4 S P cl env regs (o.dst.getD 0) o.op v regs' else v=AY/\regs' = regs)/\MV S P all cls rest (Oj o.dst v env) regs' k:=by
   cases b with
   |true=>simp only[if_true]at h⊢;exact h
   |false=>simp only[AS6,if_false]at h⊢;exact⟨_,_,⟨rfl,rfl⟩,h⟩
  obtain⟨v,regs',hs,hrest⟩:=key;obtain⟨E,R,V,h1,h2,h3,h4⟩:=Ws all rest cls (i+1) _ _ k hrest (by simpa using hl);refine⟨fun j=>match j with|0=>env|j+1=>E j,fun j=>match j with|0=>regs|j+1=>R j,fun j=>match j with|0=>v|j+1=>V j,rfl,rfl,h3,?_⟩;intro j o' hj;cases j with
  |zero=>simp only[AX7,AS0]at hj;subst hj;refine⟨b,hb,?_,h1⟩;simp only[List.getD_cons_zero,h2];exact hs
  |succ j=>
   have:=h4 j o' (by simpa using hj)
   simpa using this
def Gy (all:List Oper)(V:Nat->AV)(env:Env)(D:Nat->Bool)(x:Nat):Nat->AV
 |0=>get env x
 |m+1=>if D m=true/\(all[m]?).bind (·.dst)=some x then V m else Gy all V env D x m
theorem CQ {all:List Oper}{V:Nat->AV}{env:Env}{D D' : Nat->Bool}{x:Nat}:∀{m:Nat},(∀j,j<m->(all[j]?).bind (·.dst)=some x->D j=D' j)->Gy all V env D x m=Gy all V env D' x m
 |0,_=>rfl
 |m+1,h=>by
  simp only[Gy];rw[CQ (m:=m) fun j hj hd=>h j (by omega) hd];by_cases hd:(all[m]?).bind (·.dst)=some x
  ·rw[h m (by omega) hd]
  ·simp[hd]
theorem RD {all:List Oper}{V:Nat->AV}{env:Env}{D:Nat->Bool}{x i:Nat}(hi:D i=true)(hx:(all[i]?).bind (·.dst)=some x):∀{m:Nat},i<m->(∀j,i<j->j<m->(all[j]?).bind (·.dst)=some x->D j=false)->Gy all V env D x m=V i
 |0,h,_=>by omega
 |m+1,h,hno=>by
  simp only[Gy];by_cases e:i=m
  ·subst e;rw[if_pos ⟨hi,hx⟩]
  ·rw[if_neg]
   ·exact RD hi hx (by omega) fun j h1 h2=>hno j h1 (by omega)
   ·rintro⟨h1,h2⟩;rw[hno m (by omega) (by omega) h2]at h1;cases h1
theorem Ct (env:Env)(d t:Nat)(x:AV):get (ins d x env) t=if d=t then x else get env t:=by
 induction env with
 |nil=>simp[ins,get]
 |cons p r ih=>
  obtain⟨i,b⟩:=p;simp only[ins];split
  ·simp only[get]
  ·split
   ·rename_i h;subst h;simp only[get];split<;>rfl
   ·rename_i h1 h2;simp only[get,ih];by_cases h:i=t
    ·simp only[h,if_true];rw[if_neg (by omega)]
    ·simp only[h,if_false]
theorem Wt (env:Env)(d:Option Nat)(t:Nat)(x:AV):get (Oj d x env) t=if d=some t then x else get env t:=by
 cases d with
 |none=>simp[Oj]
 |some d=>simp[Oj,Ct]
theorem RE {all:List Oper}{cls:List Cls}{E:Nat->Env}{R:Nat->D1}{V:Nat->AV}(h:An5 S P all cls E R V)(x:Nat):∀m,m<=all.length->get (E m) x=Gy all V (E 0) (fun j=>decide (j<m)) x all.length:=by
 have h1:∀m,m<=all.length->get (E m) x=Gy all V (E 0) (fun _=>true) x m:=by
  intro m
  induction m with
  |zero=>intro _;rfl
  |succ m ih=>intro hm;obtain⟨o,ho⟩:∃o,all[m]? = some o:=⟨_,AS2 (by omega)⟩;obtain⟨b,_,_,h3⟩:=h.step m o ho;rw[h3,Wt];simp only[Gy,ho,AS1,true_and];rw[ih (by omega)]
 have h2:∀m n,m<=n->Gy all V (E 0) (fun j=>decide (j<m)) x n=Gy all V (E 0) (fun _=>true) x m:=by
  intro m n
  induction n with
  |zero=>
   intro h;obtain rfl:m=0:=by omega
   rfl
  |succ n ih=>
   intro hmn;by_cases e:m=n+1
   ·subst e;exact CQ fun j hj _=>by simp[hj]
   ·simp only[Gy];rw[if_neg (by simp;intro hlt;omega),ih (by omega)]
 intro m hm;rw[h1 m hm,h2 m _ hm]
theorem Ab6 {all:List Oper}{cls:List Cls}{E:Nat->Env}{R:Nat->D1}{V:Nat->AV}(h:An5 S P all cls E R V){i o q}(ho:all[i]? = some o)(hc:HQ q (cls.getD i .n)=false):A2 (R (i+1)) q=A2 (R i) q:=by
 obtain⟨b,_,h2,_⟩:=h.step i o ho;cases b with
 |false=>simp only[AS6,if_false]at h2;rw[h2.2]
 |true=>
  simp only[if_true]at h2;rcases h2 with⟨c,ha,_,hcl,hx⟩ | ⟨_,h3⟩ | ⟨h3,_⟩ | ⟨_,_,_,_,_,h3⟩
  ·cases hk:cls.getD i .n with
   |n=>rw[hk]at hcl;rw[(PO hcl ha).1]
   |r=>rw[hk]at hcl;rw[show R (i+1)=R i from hcl]
   |w=>rw[hk]at hc;cases hc
   |l j=>rw[hk]at hx;rw[hx.1]
   |a j=>rw[hk]at hx hc;obtain⟨R3,h4,_,h6⟩:=hx (R i) fun _ _=>rfl;rw[h4]at ha;cases ha;exact h6 q (by simpa[HQ]using hc)
  ·rw[h3]
  ·rw[h3]at hc;cases hc
  ·rw[h3]
theorem Uo {all:List Oper}{cls:List Cls}{E:Nat->Env}{R:Nat->D1}{V:Nat->AV}(h:An5 S P all cls E R V)(q:Nat):∀(a b:Nat),a<=b->b<=all.length->(∀j,a<=j->j<b->HQ q (cls.getD j .n)=false)->A2 (R b) q=A2 (R a) q:=by
 intro a b
 induction b with
 |zero=>
  intro h1 _ _;obtain rfl:a=0:=by omega
  rfl
 |succ b ih=>
  intro h1 h2 h3;by_cases e:a=b+1
  ·rw[e]
  ·obtain⟨o,ho⟩:∃o,all[b]? = some o:=⟨_,AS2 (by omega)⟩;rw[Ab6 h ho (h3 b (by omega) (by omega)),ih (by omega) (by omega) fun j h4 h5=>h3 j h4 (by omega)]
theorem Lo {o:Oper}{k:St->Prop}{Q:J3}{st:St}{c:List Prop}{v:AV}{R' : D1}(h:aop P st.env st.regs (o.dst.getD 0) o.op=some ⟨c,v,R'⟩)(hc:D9 c)(hk:k (put { st with regs:=R' } o.dst v)):wOp S P o k Q st:=by
 unfold wOp;split
 ·rename_i he;rw[he]at h;simp[aop]at h
 ·rename_i he;rw[he]at h;simp[aop]at h
 ·rename_i he;rw[he]at h;simp[aop]at h
 ·exact .inl ⟨_,h,hc,hk⟩
theorem An6 {o:Oper}{k:St->Prop}{Q:J3}{st:St}{c:List Prop}{x:PV}(h:Rb P st.env o.op=some (c,x))(hc:D9 c)(hk:k (put st o.dst (.p x))):wOp S P o k Q st:=by
 unfold wOp;split
 ·rename_i he;rw[he]at h;simp[Rb]at h
 ·rename_i he;rw[he]at h;simp[Rb]at h
 ·rename_i he;rw[he]at h;simp[Rb]at h
 ·exact .inr ⟨_,_,h,hc,hk⟩
theorem XW {env env' : Env}{o:Op}(h:∀x∈o.operands.toList,aev env x=aev env' x):Rb P env o=Rb P env' o:=by
 cases o with
 |buildSlice t n parts=>
  have:(parts.toList.map fun q=>aev env q.2)=parts.toList.map fun q=>aev env' q.2:=AU6 fun q hq=>h q.2 (by simp only[Op.operands];simpa using ⟨q.1,by simpa using hq⟩)
  simp only[Rb,this]
 |_=>rfl
theorem RF (ops:List Oper):∀(rest:List Oper) (acc:List (List Nat)),acc.length+rest.length=ops.length->ops.drop acc.length=rest->∀i,(i<acc.length->(PN rest acc).getD i []=acc.getD i []) /\
 (acc.length<=i->i<ops.length->∃o,ops[i]? = some o/\∃pre,(PN rest acc).getD i []=XV pre o/\∀j,j<i->pre.getD j []=(PN rest acc).getD j [])
 |[],acc,hl,hd,i=>⟨fun _=>rfl,fun h1 h2=>by simp at hl;omega⟩
 |o::rest,acc,hl,hd,i=>by
  have ho:ops[acc.length]? = some o:=by
   have:(ops.drop acc.length)[0]? = some o:=by rw[hd];rfl
   simpa using this
  have hd' : ops.drop (acc++[XV acc o]).length=rest:=by
   have:(ops.drop acc.length).drop 1=rest:=by rw[hd];rfl
   rw[Bc8]at this;simpa using this
  have ih:=fun i=>RF ops rest (acc++[XV acc o]) (by simp at hl⊢;omega) hd' i;have hlow:∀j,j<acc.length->(PN (o::rest) acc).getD j []=acc.getD j []:=by intro j hj;simp only[PN];rw[(ih j).1 (by simp;omega)];simp[AR7,AX8 hj]
  refine⟨hlow i,fun h1 h2=>?_⟩;by_cases e:i=acc.length
  ·subst e;refine⟨o,ho,acc,?_,fun j hj=>(hlow j hj).symm⟩;simp only[PN];rw[(ih acc.length).1 (by simp)];simp[AR7]
  ·simp only[PN];exact (ih i).2 (by simp;omega) h2
theorem Jb {ops:List Oper}(hdep:GG ops=true){D:Nat->Bool}(hD:∀i o,D i=true->ops[i]? = some o->∀e∈o.after.toList,CN e=true->D e.on=true) :∀(i:Nat) (o:Oper),ops[i]? = some o->(∀e∈o.after.toList,CN e=true->D e.on=true)->∀j∈(AM1 ops).getD i [],D j=true:=by
 intro i
 induction i using Nat.strongRecOn with
 |_ i ih=>
  intro o ho hready j hj;have hlt:i<ops.length:=(AS9.1 ho).1;obtain⟨o',ho',pre,h1,h2⟩:=(RF ops ops [] (by simp) (by simp) i).2 (by simp) hlt;rw[ho]at ho';cases ho';have h1:(AM1 ops).getD i []=XV pre o:=h1;rw[h1]at hj;unfold XV at hj;rw[List.mem_flatMap]at hj;obtain⟨e,he,hj⟩:=hj;rw[Bd7]at he;obtain⟨he,hb⟩:=he;have hon:e.on<i:=by
   unfold GG at hdep;rw[AT4]at hdep
   have:=hdep i (by simpa using hlt)
   simp only[ho,AT4,AT6,AU3,decide_eq_true_eq]at this;rcases this e he with h3|h3
   ·rw[hb]at h3;cases h3
   ·exact h3
  have hDe:=hready e he hb;rcases AW0.1 hj with rfl|hj
  ·exact hDe
  ·rw[h2 e.on hon]at hj;obtain⟨oe,hoe⟩:∃oe,ops[e.on]? = some oe:=⟨_,AS2 (by omega)⟩;exact ih e.on hon oe hoe (hD e.on oe hDe hoe) j hj
end
end Go.AM
set_option linter.unusedVariables false
namespace Go.AM
section
variable {S:Br}{P:Program}
theorem Ok {regs:D1}:∀{l:List AV},l.all Ab5=true->MU regs l=some (l,regs)
 |[],_=>rfl
 |a::r,h=>by simp only[Bf1,AS3]at h;have ih:=Ok (regs:=regs) h.2;cases a<;>simp only[MU,ih]<;>simp[Ab5]at h
theorem Ol {env env' : Env}{f:Operand}{as:List AV}(h:aev env f=aev env' f):TV env f as=TV env' f as:=by unfold TV;rw[h]
theorem Om {all:List Oper}{V:Nat->AV}{env:Env}{x:Nat}:∀m,Gy all V env (fun _=>false) x m=get env x
 |0=>rfl
 |m+1=>by simp only[Gy];rw[if_neg (by simp),Om m]
theorem Wu (hS:G9 S P){F:J3}{K:List It}{id:Nat}{ops:Array Oper}{env:Env}{regs:D1}(cls:List Cls)(hmix:P.follows .mixedOrders=true)(hok:JC ops.toList cls=true)
 (h:MV S P ops.toList cls ops.toList env regs fun env regs=>G S P F (.pop .normal K ⟨env,regs⟩)):G S P F (.code (.region id ops true) K ⟨env,regs⟩):=by
 simp only[G,awp,if_true];generalize ops.toList=all at hok h;simp only[JC,AS3,beq_iff_eq,AT4,AW2]at hok;obtain⟨⟨hdep,hlen⟩,hpair⟩:=hok;obtain⟨E,R,V,hE0,hR0,hk,hstep⟩:=Ws all all cls 0 env regs _ h hlen;have T:An5 S P all cls E R V:=⟨hstep⟩;have hpr:∀(i j:Nat) (oi oj:Oper),i<j->all[i]? = some oi->all[j]? = some oj->i∈(AM1 all).getD j [] \/ Fv all (cls.getD i .n) (cls.getD j .n) oi oj=true:=by
  intro i j oi oj hij hi hj
  have:=hpair j (AS9.1 hj).1 i hij
  simp only[hi,hj,AT6,AV2,decide_eq_true_eq]at this;exact this
 let down:(Nat->Bool)->Prop:=fun D=>∀i o,D i=true->all[i]? = some o->∀e∈o.after.toList,CN e=true->D e.on=true
 let Inv:(Nat->Bool)->St->Prop:=fun D s=>down D/\(∀x,get s.env x=Gy all V env D x all.length) /\
  ∀q,∃k,k<=all.length/\(∀i,i<all.length->HQ q (cls.getD i .n)=true->(D i=true↔i<k))/\A2 s.regs q=A2 (R k) q
 refine⟨hmix,hdep,Inv,⟨fun i o hi=>(by cases hi),fun x=>(Om _).symm,fun q=>⟨0,Ba0 _,fun i _ _=>by simp,by rw[hR0]⟩⟩,?_,?_⟩
 ·intro D i s o ⟨hD,henv,hreg⟩ ho hDi hready;have hin:i<all.length:=(AS9.1 ho).1;have hanc:=Jb hdep hD i o ho hready;have hbef:∀j oj,j<i->all[j]? = some oj->D j=true \/ Fv all (cls.getD j .n) (cls.getD i .n) oj o=true:=fun j oj hj hoj=>
   (hpr j i oj o hj hoj ho).imp (hanc j) fun h=>h
  have haft:∀j oj,i<j->all[j]? = some oj->D j=true->Fv all (cls.getD i .n) (cls.getD j .n) o oj=true:=by
   intro j oj hj hoj hDj;rcases hpr i j o oj hj ho hoj with h1|h1
   ·have:=Jb hdep hD j oj hoj (hD j oj hDj hoj) i h1
    rw[hDi]at this;cases this
   ·exact h1
  have hrd:∀x∈reads all o,get s.env x=get (E i) x:=by
   intro x hx;rw[henv x,RE T x i (by omega),hE0];refine CQ fun j hj hd=>?_;obtain⟨oj,hoj⟩:∃oj,all[j]? = some oj:=⟨_,AS2 hj⟩;simp only[hoj,AS1]at hd;by_cases e:j<i
   ·simp only[e,decide_true];rcases hbef j oj e hoj with h1|h1
    ·exact h1
    ·simp only[Fv,hd,AS3,AU3,AV2,decide_eq_false_iff_not]at h1;exact absurd hx h1.1.2.1
   ·simp only[e,decide_false];by_cases e2:j=i
    ·subst e2;exact hDi
    ·cases hDj:D j with
     |false=>rfl
     |true=>have h1:=haft j oj (by omega) hoj hDj;simp only[Fv,hd,AS3,AU3,AV2,decide_eq_false_iff_not]at h1;exact absurd hx h1.2
  have hops:∀x∈o.op.operands.toList,aev s.env x=aev (E i) x:=fun x hx=>Ab4 fun t ht=>hrd t (AU2 _ (List.mem_flatMap.2 ⟨x,hx,ht⟩));have hq:∀q,Ab3 q (cls.getD i .n)=true->A2 s.regs q=A2 (R i) q:=by
   intro q hn;obtain⟨k,hkn,hW,hr⟩:=hreg q;rw[hr];by_cases hki:k<=i
   ·refine (Uo T q k i hki (by omega) fun j h1 h2=>?_).symm;cases hw:HQ q (cls.getD j .n)with
    |false=>rfl
    |true=>
     obtain⟨oj,hoj⟩:∃oj,all[j]? = some oj:=⟨_,AS2 (by omega)⟩;rcases hbef j oj h2 hoj with h3|h3
     ·have:=(hW j (by omega) hw).1 h3;omega
     ·simp only[Fv,(Ez hw hn).1,Bd4,Bb8,AS6]at h3
   ·refine Uo T q i k (by omega) hkn fun j h1 h2=>?_;cases hw:HQ q (cls.getD j .n)with
    |false=>rfl
    |true=>
     have hDj:D j=true:=(hW j (by omega) hw).2 h2;by_cases e:j=i
     ·subst e;rw[hDi]at hDj;cases hDj
     ·obtain⟨oj,hoj⟩:∃oj,all[j]? = some oj:=⟨_,AS2 (by omega)⟩;have h3:=haft j oj (by omega) hoj hDj;simp only[Fv,(Ez hw hn).2,Bd4,Bb8,AS6]at h3
  obtain⟨b,hb,hs,hEi⟩:=hstep i o ho;have hdown:down fun j=>if j=i then true else D j:=by
   intro j oj hj hoj e he hbe;by_cases e1:j=i
   ·subst e1;rw[ho]at hoj;cases hoj
    have:=hready e he hbe
    show (if e.on=j then true else D e.on)=true;split
    ·rfl
    ·exact this
   ·have hj' : D j=true:=by
     have hj:(if j=i then true else D j)=true:=hj
     rwa [if_neg e1]at hj
    have:=hD j oj hj' hoj e he hbe
    show (if e.on=i then true else D e.on)=true;split
    ·rfl
    ·exact this
  have henv' : ∀x,get (Oj o.dst (V i) s.env) x=Gy all V env (fun j=>if j=i then true else D j) x all.length:=by
   intro x;rw[Wt];by_cases hd:o.dst=some x
   ·rw[if_pos hd];refine (RD (by simp) (by simp[ho,hd]) hin fun j h1 h2 h3=>?_).symm;have hne:j≠i:=by omega
    simp only[hne,if_false];obtain⟨oj,hoj⟩:∃oj,all[j]? = some oj:=⟨_,AS2 h2⟩;simp only[hoj,AS1]at h3;cases hDj:D j with
    |false=>rfl
    |true=>have h4:=haft j oj h1 hoj hDj;simp[Fv,hd,h3]at h4
   ·rw[if_neg hd,henv x];refine CQ fun j hj h3=>?_;have hne:j≠i:=by rintro rfl;rw[ho]at h3;exact hd h3
    simp[hne]
  have hInv:∀R',(∀q,HQ q (cls.getD i .n)=true->A2 R' q=A2 (R (i+1)) q)->(∀q,HQ q (cls.getD i .n)=false->A2 R' q=A2 s.regs q)->Inv (fun j=>if j=i then true else D j) (put ⟨s.env,R'⟩ o.dst (V i)):=by
   intro R' h1 h2;refine⟨hdown,?_,fun q=>?_⟩
   ·intro x
    have:=henv' x
    cases hd:o.dst<;>simp only[hd,put,Oj]at this⊢<;>exact this
   ·have hput:(put ⟨s.env,R'⟩ o.dst (V i)).regs=R':=by cases o.dst<;>rfl
    rw[hput];cases hw:HQ q (cls.getD i .n)with
    |false=>
     obtain⟨k,hkn,hW,hr⟩:=hreg q;refine⟨k,hkn,fun j hj hwj=>?_,(h2 q hw).trans hr⟩;have hne:j≠i:=by rintro rfl;rw[hw]at hwj;cases hwj
     simp only[hne,if_false];exact hW j hj hwj
    |true=>
     refine⟨i+1,by omega,fun j hj hwj=>?_,h1 q hw⟩;by_cases e:j=i
     ·simp[e]
     ·simp only[e,if_false];obtain⟨oj,hoj⟩:∃oj,all[j]? = some oj:=⟨_,AS2 hj⟩;constructor
      ·intro hDj;by_cases hlt:i<j
       ·have h3:=haft j oj hlt hoj hDj;simp only[Fv,(Ez hw (Ho hwj)).1,Bd4,Bb8,AS6]at h3
       ·omega
      ·intro hlt;rcases hbef j oj (by omega) hoj with h3|h3
       ·exact h3
       ·simp only[Fv,(Ez hwj (Ho hw)).1,Bd4,Bb8,AS6]at h3
  obtain⟨RT,hRT,hRT2⟩:∃RT,(∀q,A2 s.regs q=A2 RT q)/\((cls.getD i .n=.r \/ cls.getD i .n=.w)->RT=R i):=by
   by_cases hall:cls.getD i .n=.r \/ cls.getD i .n=.w
   ·exact⟨R i,fun q=>hq q (by rcases hall with h1|h1<;>rw[h1]<;>rfl),fun _=>rfl⟩
   ·exact⟨s.regs,fun _=>rfl,fun h=>absurd h hall⟩
  have hsame:R (i+1)=R i->Inv (fun j=>if j=i then true else D j) (put ⟨s.env,RT⟩ o.dst (V i)):=fun hRi=>
   hInv RT (fun q hw=>by rw[<- hRT q,hq q (Ho hw),hRi]) fun q _=>(hRT q).symm
  have hrun:b=true->wOp S P o (Inv fun j=>if j=i then true else D j) (kp S P K F) ⟨s.env,RT⟩:=by
   intro hbt;rw[hbt,if_pos rfl]at hs;rcases hs with⟨c,ha,hc,hcl,hcx⟩ | ⟨hp,hRi⟩ | ⟨hw,hdet⟩ | ⟨c,x,ha,hc,hvx,hRi⟩
   ·cases hc' : cls.getD i .n with
    |n=>rw[hc']at hcl;have h1:=PO hcl ha;have ha':=h1.2 RT;rw[<- Fw hops]at ha';exact Lo ha' hc (hsame h1.1)
    |r=>rw[hc']at hcl;rw[<- Fw hops,<- hRT2 (.inl hc')]at ha;refine Lo ha hc ?_;have hcl:R (i+1)=R i:=hcl;rw[hcl,<- hRT2 (.inl hc')];exact hsame hcl
    |w=>rw[<- Fw hops,<- hRT2 (.inr hc')]at ha;exact Lo ha hc (hInv _ (fun _ _=>rfl) fun q hw=>by rw[hc']at hw;cases hw)
    |l js=>
     rw[hc']at hcx;have ha':=hcx.2 RT fun q hj=>by rw[<- hRT q];exact hq q (by rw[hc'];simpa[Ab3]using hj)
     rw[<- Fw hops]at ha';exact Lo ha' hc (hsame hcx.1)
    |a js=>
     rw[hc']at hcx;obtain⟨R3,ha',h3,h4⟩:=hcx RT fun q hj=>by rw[<- hRT q];exact hq q (by rw[hc'];simpa[Ab3]using hj)
     rw[<- Fw hops]at ha';refine Lo ha' hc (hInv R3 (fun q hw=>?_) fun q hw=>?_)
     ·rw[hc']at hw;exact h3 q (by simpa[HQ]using hw)
     ·rw[hc']at hw;rw[h4 q (by simpa[HQ]using hw),hRT q]
   ·obtain⟨c,f,fn,as',args,r',e1,e2,e3,e4,e5,e6,e7⟩:=hp;obtain⟨callee,cargs,types⟩:=c;simp only at e2 e3 e4;subst e2;have hargs:cargs.toList.map (aev s.env)=cargs.toList.map (aev (E i)):=AU6 fun x hx=>hops x (by rw[e1];simp[Op.operands,Call.operands];exact .inr (by simpa using hx));have hf:aev s.env f=aev (E i) f:=hops f (by rw[e1];simp[Op.operands,Call.operands]);unfold wOp;rw[e1];refine .inl ⟨_,RT,fn,as',by rw[hargs];exact .inl (Ok e3),by rw[Ol hf];exact e4,[],args,[],rfl,e5,rfl,rfl,hS.monoF _ _ _ _ _ ?_ e6⟩;rintro _ _ _ ⟨rfl,rfl,rfl⟩;refine⟨rfl,?_⟩
    have:(N9 (o.dst.getD 0) [] [] ([]:List Obj).length)=[]:=rfl
    rw[this];show Inv _ (put ⟨s.env,RT⟩ o.dst (unA [] r'));rw[<- e7];exact hsame hRi
   ·obtain⟨c,f,as,regs1,fn,as',args,objs,objs',ks,r',ids,e1,e2,e3,e4,e5,e6,e7,e8,e9,e10,e11,e12⟩:=hdet;obtain⟨callee,cargs,types⟩:=c;simp only at e2 e3;subst e2;have hargs:cargs.toList.map (aev s.env)=cargs.toList.map (aev (E i)):=AU6 fun x hx=>hops x (by rw[e1];simp[Op.operands,Call.operands];exact .inr (by simpa using hx));have hf:aev s.env f=aev (E i) f:=hops f (by rw[e1];simp[Op.operands,Call.operands]);unfold wOp;rw[e1];refine .inl ⟨as,regs1,fn,as',by rw[hargs,hRT2 (.inr hw)];exact .inl e3,by rw[Ol hf];exact e4,ids,args,objs,e8,e5,e6,e9,hS.monoF _ _ _ _ _ ?_ e7⟩;rintro _ _ _ ⟨rfl,rfl,rfl⟩;refine⟨e10,?_⟩;show Inv _ (put ⟨s.env,_⟩ o.dst (unA _ r'));rw[<- e11,<- e12];exact hInv _ (fun _ _=>rfl) fun q h=>by rw[hw]at h;cases h
   ·rw[<- XW hops]at ha;have hfin:=hsame hRi;rw[hvx]at hfin;exact An6 ha hc hfin
  have hskip:b=false->Inv (fun j=>if j=i then true else D j) (put ⟨s.env,RT⟩ o.dst AY):=by intro hbf;rw[hbf]at hs;simp only[AS6,if_false]at hs;obtain⟨hv,hRi⟩:=hs;rw[<- hv];exact hsame hRi
  refine hS.eqv s ⟨s.env,RT⟩ _ (fun _=>rfl) hRT ?_;cases hg:o.guard with
  |none=>simp only[Dr,hg,AS0]at hb;exact hrun hb.symm
  |some q=>
   obtain⟨j,want⟩:=q;simp only[Dr,hg,AT9]at hb;obtain⟨b0,hy,hb0⟩:=hb;have hsl:get s.env (DD all j)=get (E i) (DD all j):=hrd _ (AT1 _ (by simp[hg]));refine⟨b0,by rw[hsl];exact hy,?_⟩;by_cases hbw:b0=some want
   ·rw[if_pos hbw];exact hrun (by rw[<- hb0];simp[hbw])
   ·rw[if_neg hbw];exact hskip (by rw[<- hb0];simp[hbw])
 ·intro D s ⟨hD,henv,hreg⟩ hall;refine hS.eqv s ⟨E all.length,R all.length⟩ _ (fun x=>?_) (fun q=>?_) hk
  ·show get s.env x=get (E all.length) x;rw[henv x,RE T x _ (AS4 _),hE0];exact CQ fun j hj _=>by simp[hall j hj,hj]
  ·obtain⟨k,hkn,hW,hr⟩:=hreg q;rw[hr];refine (Uo T q k all.length hkn (AS4 _) fun j h1 h2=>?_).symm;cases hw:HQ q (cls.getD j .n)with
   |false=>rfl
   |true=>have:=(hW j h2 hw).1 (hall j h2);omega
end
end Go.AM
set_option linter.unusedVariables false
namespace Go.AM
def clsOf:Op->Cls
 |.store .. | .alloc _ | .box .. | .buildSlice .. | .makeMap .. | .makeSlice .. | .mapUpdate .. | .entryStore .. | .mapEntry ..=>.w
 |.load .. | .indexAddr .. | .lookup ..=>.r
 |.call { callee:=.builtin .len,.. } | .call { callee:=.builtin .cap,.. }=>.r
 |.call { callee:=.builtin .min,.. } | .call { callee:=.builtin .max,.. }=>.n
 |.call _=>.w
 |_=>.n
def isR (env:Env):Op->Bool
 |.load .. | .indexAddr ..=>true
 |.lookup _ _ k _=>isP (aev env k)
 |.call { callee:=.builtin .len,.. }=>true
 |o=>isN env o
def inJ (js:List Nat):AV->Bool
 |.p _=>true
 |.vec i=>js.contains i
 |.vecp i _=>js.contains i
 |_=>false
def adJ (js:List Nat):AV->Bool
 |.reg i _=>js.contains i
 |.elt i _ _ _=>js.contains i
 |_=>false
def isL (js:List Nat)(env:Env):Op->Bool
 |.load _ a=>adJ js (aev env a)
 |.indexAddr _ x _=>adJ js (aev env x)||inJ js (aev env x)
 |.call { callee:=.builtin .len,args,.. }=>args.toList.all fun x=>inJ js (aev env x)
 |_=>false
def isA (js:List Nat)(env:Env)(d:Nat):Op->Bool
 |.alloc _=>js.contains (nid d 0)
 |.box _ _=>js.contains (nid d 0)
 |.store _ a _=>adJ js (aev env a)
 |.call { callee:=.builtin .append,args,.. }=>js.contains (nid d 0)&&args.toList.all fun x=>inJ js (aev env x)
 |_=>false
def AC1 (cl:Cls)(env:Env)(d:Nat)(o:Op):Bool:=match cl with
 |.n=>isN env o
 |.r=>isR env o
 |.w=>true
 |.l j=>isL j env o
 |.a j=>isA j env d o
structure SRes:Type 1 where
 conds:List Prop
 cls:List Cls
 rest:List Oper
 env:Env
 regs:D1
def AM2 (kn:List Nat)(all:List Oper)(env:Env)(o:Oper):Bool:=match o.guard with
 |none=>false
 |some (j,_)=>match kn.contains j with
  |true=>false
  |false=>match get env (DD all j)with
   |.p (.bb _)=>true
   |_=>false
def MW (P:Program)(kn:List Nat)(all:List Oper):List Cls->List Oper->List Prop->Env->D1->SRes
 |cl::cls,o::rest,c,env,regs=>
  match AM2 kn all env o with
  |true=>⟨c,cl::cls,o::rest,env,regs⟩
  |false=>match Dr all env o with
  |some true=>match Aw0 o.op&&AC1 cl env (o.dst.getD 0) o.op with
   |true=>match aop P env regs (o.dst.getD 0) o.op with
    |none=>⟨c,cl::cls,o::rest,env,regs⟩
    |some ⟨p,v,regs'⟩=>fA v fun v=>fR regs' fun regs'=>fC p c fun c=>
     match o.dst with
     |some d=>ZM d v env fun env=>MW P kn all cls rest c env regs'
     |none=>MW P kn all cls rest c env regs'
   |false=>⟨c,cl::cls,o::rest,env,regs⟩
  |some false=>match o.dst with
   |some d=>ZM d AY env fun env=>MW P kn all cls rest c env regs
   |none=>MW P kn all cls rest c env regs
  |none=>⟨c,cl::cls,o::rest,env,regs⟩
 |cls,rest,c,env,regs=>⟨c,cls,rest,env,regs⟩
section
variable {S:Br}{P:Program}
theorem An7 {env:Env}{R R' : D1}{d:Nat}{o:Op}{c:List Prop}{v:AV}(hr:isR env o=true)(h:aop P env R d o=some ⟨c,v,R'⟩):R' = R:=by
 have gen:isN env o=true->R' = R:=fun hn=>(PO hn h).1;cases o with
 |load t a=>
  simp only[aop]at h;split at h
  ·simp only[AS0,Out.mk.injEq]at h;exact h.2.2.symm
  ·cases h
 |indexAddr t x i=>
  simp only[aop]at h;split at h
  ·split at h
   ·simp only[AS0,Out.mk.injEq]at h;exact h.2.2.symm
   ·cases h
  ·cases h
 |lookup t m k ok=>
  simp only[isR]at hr;cases hk:aev env k<;>simp only[hk,isP,AS6]at hr;simp only[aop,hk,HE]at h;split at h
  ·simp only[AS0,Out.mk.injEq]at h;exact h.2.2.symm
  ·cases h
 |call cc=>
  obtain⟨callee,args,types⟩:=cc;cases callee with
  |builtin b=>
   cases b with
   |len=>
    simp only[aop]at h;split at h
    ·split at h
     ·simp only[AS0,Out.mk.injEq]at h;exact h.2.2.symm
     ·cases h
    ·cases h
   |_=>exact gen hr
  |_=>exact gen hr
 |_=>exact gen hr
theorem Lp (regs:D1)(d t:Nat)(x:Obj):A2 (ins d x regs) t=if d=t then some x else A2 regs t:=by
 induction regs with
 |nil=>simp[ins,A2]
 |cons p r ih=>
  obtain⟨i,b⟩:=p;simp only[ins];split
  ·simp only[A2]
  ·split
   ·rename_i h;subst h;simp only[A2];split<;>rfl
   ·rename_i h1 h2;simp only[A2,ih];by_cases h:i=t
    ·simp only[h,if_true];rw[if_neg (by omega)]
    ·simp only[h,if_false]
theorem Wv {js:List Nat}{a:AV}(h:adJ js a=true):∃i∈js,(∃off,a=.reg i off) \/ ∃k n off,a=.elt i k n off:=by
 cases a with
 |reg i off=>exact⟨i,by simpa[adJ]using h,.inl ⟨off,rfl⟩⟩
 |elt i k n off=>exact⟨i,by simpa[adJ]using h,.inr ⟨k,n,off,rfl⟩⟩
 |_=>cases h
section
variable {js:List Nat}{R R2:D1}(hR:∀q∈js,A2 R2 q=A2 R q)
include hR
theorem An8 {t:TypeId}{a:AV}(ha:adJ js a=true):load P R2 t a=load P R t a:=by obtain⟨i,hi,⟨off,rfl⟩ | ⟨k,n,off,rfl⟩⟩:=Wv ha<;>simp only[load,hR i hi]
theorem XX {t:TypeId}{x:AV}{n:Int}(ha:(adJ js x||inJ js x)=true):DT P R2 t x n=DT P R t x n:=by
 cases x with
 |vec i=>
  have hi:i∈js:=by simpa[adJ,inJ]using ha
  unfold DT;cases tk P t with
  |none=>rfl
  |some k=>cases k<;>first|rfl|simp only[hR i hi]
 |vecp i m=>
  have hi:i∈js:=by simpa[adJ,inJ]using ha
  unfold DT;cases tk P t with
  |none=>rfl
  |some k=>cases k<;>first|rfl|simp only[hR i hi]
 |reg i off=>unfold DT;cases tk P t with
  |none=>rfl
  |some k=>cases k<;>rfl
 |p y=>unfold DT;cases tk P t with
  |none=>rfl
  |some k=>cases k<;>cases y<;>rfl
 |elt i k n off=>unfold DT;cases tk P t with
  |none=>rfl
  |some k=>cases k<;>rfl
 |_=>cases ha
theorem An9 {t:TypeId}{x:AV}(ha:inJ js x=true):Zy P R2 t x=Zy P R t x:=by
 cases x with
 |vec i=>
  have hi:i∈js:=by simpa[inJ]using ha
  unfold Zy;cases tk P t with
  |none=>rfl
  |some k=>cases k<;>first|rfl|simp only[hR i hi]
 |vecp i m=>unfold Zy;cases tk P t with
  |none=>rfl
  |some k=>cases k<;>rfl
 |p y=>unfold Zy;split<;>simp_all
 |_=>cases ha
theorem RG {k:Nat}{x:AV}(ha:inJ js x=true):elems R2 k x=elems R k x:=by
 cases x with
 |vec i=>
  have hi:i∈js:=by simpa[inJ]using ha
  simp only[elems,hR i hi]
 |vecp i m=>
  have hi:i∈js:=by simpa[inJ]using ha
  simp only[elems,hR i hi]
 |p y=>unfold elems;split<;>simp_all
 |_=>cases ha
theorem Ab7 {e:TypeId}{k:Nat}{x:AV}{q:Nat×(Nat->List PV)×Bool×D1}(ha:inJ js x=true)(h:Ra R e k x=some q) :(Ra R2 e k x=some (q.1,q.2.1,q.2.2.1,R2)/\q.2.2.2=R) \/ ∃j∈js,Ra R2 e k x=some (q.1,q.2.1,q.2.2.1,ins j .dead R2)/\q.2.2.2=ins j .dead R:=by
 cases x with
 |vec i=>
  have hi:i∈js:=by simpa[inJ]using ha
  simp only[Ra]at h⊢;rw[hR i hi]
  right
  refine⟨i,hi,?_⟩;cases hr:A2 R i with
  |none=>simp[hr]at h
  |some o=>
   cases o with
   |vec e' m n f vw=>
    simp only[hr]at h⊢;split at h
    ·rename_i hc;cases h;exact⟨by rw[if_pos hc],rfl⟩
    ·cases h
   |_=>simp[hr]at h
 |vecp i m=>
  have hi:i∈js:=by simpa[inJ]using ha
  simp only[Ra]at h⊢;rw[hR i hi]
  right
  refine⟨i,hi,?_⟩;cases hr:A2 R i with
  |none=>simp[hr]at h
  |some o=>
   cases o with
   |vec e' m n f vw=>
    cases vw with
    |true=>simp[hr]at h
    |false=>
     simp only[hr]at h⊢;split at h
     ·rename_i hc;cases h;exact⟨by rw[if_pos hc],rfl⟩
     ·cases h
   |_=>simp[hr]at h
 |p y=>
  left
  unfold Ra at h⊢;split at h
  ·cases h;exact⟨rfl,rfl⟩
  ·rename_i h1;cases h1
  ·rename_i h1;cases h1
  ·cases h
 |_=>cases ha
theorem Ab8 {t:TypeId}{a x:AV}{c:List Prop}{R' : D1}(ha:adJ js a=true)(h:store P R t a x=some (c,R')):∃i∈js,∃o,R' = ins i o R/\store P R2 t a x=some (c,ins i o R2):=by
 obtain⟨i,hi,hai⟩:=Wv ha;refine⟨i,hi,?_⟩;have h2:=hR i hi;have fin:∀(p:Prop) [Decidable p] (c0:List Prop) (o:Obj),(if p then some (c0,ins i o R)else none)=some (c,R')->∃o',R' = ins i o' R/\(if p then some (c0,ins i o R2)else none)=some (c,ins i o' R2):=by
  intro p _ c0 o h;split at h
  ·rename_i hc;simp only[AS0,AU5]at h;obtain⟨rfl,rfl⟩:=h;exact⟨o,rfl,by rw[if_pos hc]⟩
  ·cases h
 cases hts:tsz P t with
 |none=>simp[store,hts]at h
 |some m=>
  cases hst:BK x with
  |false=>simp[store,hts,hst]at h
  |true=>
   cases hr:A2 R i with
   |none=>rcases hai with⟨off,rfl⟩ | ⟨k,n,off,rfl⟩<;>simp[store,hts,hst,hr]at h
   |some o=>
    rw[hr]at h2;rcases hai with⟨off,rfl⟩ | ⟨k,n,off,rfl⟩
    ·simp only[store,hts,hst,hr,h2]at h⊢;cases o with
     |cells cs=>exact fin _ _ _ h
     |arr n f=>
      cases x with
      |p y=>cases y with
       |agg ps=>exact fin _ _ _ h
       |_=>exact fin _ _ _ h
      |_=>simp at h
     |_=>simp at h
    ·simp only[store,hts,hst,hr,h2]at h⊢;cases o with
     |vec e k' n' f vw=>
      cases vw with
      |true=>simp at h
      |false=>cases x with
       |p y=>exact fin _ _ _ h
       |_=>simp at h
     |_=>simp at h
end
theorem Ao0 {js:List Nat}{env:Env}{R R' : D1}{d:Nat}{o:Op}{c:List Prop}{v:AV}(hr:isL js env o=true)(h:aop P env R d o=some ⟨c,v,R'⟩):R' = R/\∀R2,(∀q∈js,A2 R2 q=A2 R q)->aop P env R2 d o=some ⟨c,v,R2⟩:=by
 cases o with
 |load t a=>
  simp only[isL]at hr;simp only[aop]at h⊢;cases hl:load P R t (aev env a)with
  |none=>simp[hl]at h
  |some q=>obtain⟨c',a'⟩:=q;simp only[hl,AS0,Out.mk.injEq]at h;obtain⟨rfl,rfl,rfl⟩:=h;exact⟨rfl,fun R2 h2=>by rw[An8 h2 hr,hl]⟩
 |indexAddr t x i=>
  simp only[isL]at hr;simp only[aop]at h⊢;cases hi:asInt (aev env i)with
  |none=>simp[hi]at h
  |some n=>
   simp only[hi]at h⊢;cases hl:DT P R t (aev env x) n with
   |none=>simp[hl]at h
   |some q=>obtain⟨c',a'⟩:=q;simp only[hl,AS0,Out.mk.injEq]at h;obtain⟨rfl,rfl,rfl⟩:=h;exact⟨rfl,fun R2 h2=>by rw[XX h2 hr,hl]⟩
 |call cc=>
  obtain⟨callee,args,types⟩:=cc;cases callee with
  |builtin b=>
   cases b with
   |len=>
    simp only[isL]at hr;simp only[aop]at h⊢;split at h
    ·rename_i x t hx ht;simp only[hx,Bf1,Bk1,Bf2]at hr;cases hl:Zy P R t (aev env x)with
     |none=>simp[hl]at h
     |some n=>simp only[hl,AS0,Out.mk.injEq]at h;obtain⟨rfl,rfl,rfl⟩:=h;exact⟨rfl,fun R2 h2=>by simp only[An9 h2 hr,hl]⟩
    ·cases h
   |_=>cases hr
  |_=>cases hr
 |_=>cases hr
theorem Ao1 {js:List Nat}{env:Env}{R R' : D1}{d:Nat}{o:Op}{c:List Prop}{v:AV}(hr:isA js env d o=true)(h:aop P env R d o=some ⟨c,v,R'⟩) :∀R2,(∀q∈js,A2 R2 q=A2 R q)->∃R3,aop P env R2 d o=some ⟨c,v,R3⟩/\(∀q∈js,A2 R3 q=A2 R' q)/\∀q,q ∉ js->A2 R3 q=A2 R2 q:=by
 intro R2 h2;have up:∀{A B:D1}(i:Nat) (x:Obj),i∈js->(∀q∈js,A2 A q=A2 B q)->(∀q,q ∉ js->A2 A q=A2 R2 q)->(∀q∈js,A2 (ins i x A) q=A2 (ins i x B) q)/\∀q,q ∉ js->A2 (ins i x A) q=A2 R2 q:=by intro A B i x hi h1 h2;refine⟨fun q hq=>by rw[Lp,Lp,h1 q hq],fun q hq=>?_⟩;rw[Lp,if_neg (by rintro rfl;exact hq hi),h2 q hq]
 have one:=fun {i:Nat}(x:Obj) (hi:i∈js)=>up i x hi h2 fun _ _=>rfl;cases o with
 |alloc t=>
  have hj:nid d 0∈js:=by simpa[isA]using hr
  simp only[aop,h2 _ hj]at h⊢;split at h
  ·rename_i z h1 h3;split at h
   ·rename_i hz;simp only[AS0,Out.mk.injEq]at h;obtain⟨rfl,rfl,rfl⟩:=h;exact⟨_,by simp only[h1,h3,hz,if_true],one _ hj⟩
   ·cases h
  ·cases h
 |box t x=>
  have hj:nid d 0∈js:=by simpa[isA]using hr
  simp only[aop,h2 _ hj]at h⊢;split at h
  ·rename_i h1 h3;simp only[AS0,Out.mk.injEq]at h;obtain⟨rfl,rfl,rfl⟩:=h;exact⟨_,by simp only[h1,h3],one _ hj⟩
  ·cases h
 |store t a x=>
  simp only[isA]at hr;simp only[aop]at h⊢;split at h
  ·rename_i hs;simp only[AS0,Out.mk.injEq]at h;obtain⟨rfl,rfl,rfl⟩:=h;obtain⟨i,hi,o,rfl,hs2⟩:=Ab8 h2 hr hs;exact⟨_,by simp only[hs2],one _ hi⟩
  ·cases h
 |call cc=>
  obtain⟨callee,args,types⟩:=cc;cases callee with
  |builtin b=>
   cases b with
   |append=>
    simp only[isA,AS3]at hr;have hj:nid d 0∈js:=by simpa using hr.1
    have hr:=hr.2;simp only[aop,h2 _ hj]at h⊢;split at h
    ·rename_i s x t t2 hx ht;simp only[hx,Bf1,Bk1,Bf2,AS3]at hr;split at h
     ·rename_i e k2 hk1 hk2;split at h
      ·rename_i m z hz1 hz2 hz3;split at h
       ·rename_i n g l f vw regs1 hn he htk;split at h
        ·rename_i hc;simp only[AS0,Out.mk.injEq]at h;obtain⟨rfl,rfl,rfl⟩:=h;rcases Ab7 h2 hr.1 htk with⟨h3,h4⟩ | ⟨j,hjj,h3,h4⟩
         ·simp only at h3 h4;subst h4;refine⟨ins (nid d 0) (.vec e m (l+n) (R9 l f g) vw) R2,?_,one _ hj⟩;simp only[RG h2 hr.2,hz1,hz2,hz3,hn,he,h3];rw[if_pos hc]
         ·simp only at h3 h4;subst h4;have h5:=one (i:=j) .dead hjj;refine⟨ins (nid d 0) (.vec e m (l+n) (R9 l f g) vw) (ins j .dead R2),?_,up _ _ hj h5.1 h5.2⟩;simp only[RG h2 hr.2,hz1,hz2,hz3,hn,he,h3];rw[if_pos hc]
        ·cases h
       ·cases h
      ·cases h
     ·cases h
    ·cases h
   |_=>cases hr
  |_=>cases hr
 |_=>cases hr
theorem XY {cl:Cls}{env:Env}{R R' : D1}{d:Nat}{o:Op}{c:List Prop}{v:AV}(hr:AC1 cl env d o=true)(h:aop P env R d o=some ⟨c,v,R'⟩):clsF cl (isN env o=true) (R' = R)/\clsX P cl env R d o c v R':=by
 cases cl with
 |n=>exact⟨hr,trivial⟩
 |r=>exact⟨An7 hr h,trivial⟩
 |w=>exact⟨trivial,trivial⟩
 |l j=>exact⟨trivial,Ao0 hr h⟩
 |a j=>exact⟨trivial,Ao1 hr h⟩
variable {kn:List Nat}{all:List Oper}{k:Env->D1->Prop}
theorem Lq:∀(cls:List Cls) (rest:List Oper) (c:List Prop) (env:Env) (regs:D1),D9 (MW P kn all cls rest c env regs).conds ->
 D9 c/\(MV S P all (MW P kn all cls rest c env regs).cls (MW P kn all cls rest c env regs).rest (MW P kn all cls rest c env regs).env (MW P kn all cls rest c env regs).regs k->MV S P all cls rest env regs k)
 |[],[],c,env,regs,h=>⟨h,fun h=>h⟩
 |[],_::_,c,env,regs,h=>⟨h,fun h=>h⟩
 |_::_,[],c,env,regs,h=>⟨h,fun h=>h⟩
 |cl::cls,o::rest,c,env,regs,h=>by
  simp only[MW]at h⊢;cases hst:AM2 kn all env o with
  |true=>simp only[hst]at h⊢;exact⟨h,fun h=>h⟩
  |false=>
  simp only[hst]at h⊢;cases hg:Dr all env o with
  |none=>simp only[hg]at h⊢;exact⟨h,fun h=>h⟩
  |some b=>
   cases b with
   |true=>
    simp only[hg]at h⊢;cases ha:(Aw0 o.op&&AC1 cl env (o.dst.getD 0) o.op)with
    |false=>simp only[ha]at h⊢;exact⟨h,fun h=>h⟩
    |true=>
     simp only[ha]at h⊢;simp only[AS3]at ha;cases hp:aop P env regs (o.dst.getD 0) o.op with
     |none=>simp only[hp]at h⊢;exact⟨h,fun h=>h⟩
     |some q=>
      obtain⟨p,v,regs'⟩:=q;simp only[hp,ZN,Az9,AK6]at h⊢;have fin:∀(env' : Env),env' = Oj o.dst v env->(D9 (p++c)/\(MV S P all (MW P kn all cls rest (p++c) env' regs').cls (MW P kn all cls rest (p++c) env' regs').rest (MW P kn all cls rest (p++c) env' regs').env (MW P kn all cls rest (p++c) env' regs').regs k->MV S P all cls rest env' regs' k)) ->
       D9 c/\(MV S P all (MW P kn all cls rest (p++c) env' regs').cls (MW P kn all cls rest (p++c) env' regs').rest (MW P kn all cls rest (p++c) env' regs').env (MW P kn all cls rest (p++c) env' regs').regs k->MV S P all (cl::cls) (o::rest) env regs k):=by
       rintro env' rfl ⟨h1,h2⟩;obtain⟨h3,h4⟩:=(CM _ _).1 h1;exact⟨h3,fun hs=>⟨true,hg,by rw[if_pos rfl];exact⟨v,regs', .inl ⟨p,hp,h4,XY ha.2 hp⟩,h2 hs⟩⟩⟩
      cases hd:o.dst with
      |some d=>simp only[hd,Hj]at h⊢;exact fin _ (by simp[hd,Oj]) (Lq cls rest _ _ _ h)
      |none=>simp only[hd]at h⊢;exact fin _ (by simp[hd,Oj]) (Lq cls rest _ _ _ h)
   |false=>
    simp only[hg]at h⊢;cases hd:o.dst with
    |some d=>simp only[hd,Hj]at h⊢;obtain⟨h1,h2⟩:=Lq cls rest _ _ _ h;exact⟨h1,fun hs=>⟨false,hg,by simp only[AS6,if_false,hd,Oj];exact h2 hs⟩⟩
    |none=>simp only[hd]at h⊢;obtain⟨h1,h2⟩:=Lq cls rest _ _ _ h;exact⟨h1,fun hs=>⟨false,hg,by simp only[AS6,if_false,hd,Oj];exact h2 hs⟩⟩
theorem s_go {cls cls' : List Cls}{rest rest' : List Oper}{c:List Prop}{env env' : Env}{regs regs' : D1}(h:MW P kn all cls rest [] env regs=⟨c,cls',rest',env',regs'⟩)(hc:D9 c)(hk:MV S P all cls' rest' env' regs' k):MV S P all cls rest env regs k:=by
 have:=Lq (S:=S) (kn:=kn) (k:=k) cls rest [] env regs (by rw[h];exact hc)
 rw[h]at this;exact this.2 hk
theorem s_end {cls:List Cls}{env:Env}{regs:D1}(h:k env regs):MV S P all cls [] env regs k:=by cases cls<;>exact h
theorem AM3 {cl:Cls}{cls:List Cls}{o:Oper}{rest:List Oper}{env:Env}{regs:D1}{c:Call}{f:Operand}{fn:FuncId}{as' args:List AV}{r:AV}(hg:Dr all env o=some true)(ho:o.op=.call c)(hf:c.callee=.value f)
 (ha:((c.args.toList.map (aev env)).all Ab5)=true) (hw:TV env f (c.args.toList.map (aev env))=some (fn,as')) (hr:Cx [] as' = some args) (hF:Al6 S fn args r)
 (hk:MV S P all cls rest (Oj o.dst (unA [] r) env) regs k):MV S P all (cl::cls) (o::rest) env regs k:=
 ⟨true,hg,by rw[if_pos rfl];exact⟨_,regs,.inr (.inl ⟨⟨c,f,fn,as',args,r,ho,hf,ha,hw,hr,hF,rfl⟩,rfl⟩),hk⟩⟩
theorem AC2 {cls:List Cls}{o:Oper}{rest:List Oper}{env:Env}{regs regs1:D1}{c:Call}{f:Operand}{as:List AV}{fn:FuncId}{as' args:List AV}{objs objs' : List Obj}{ks:List Bool}{r:AV}(ids:List Nat)(hg:Dr all env o=some true)(ho:o.op=.call c)(hf:c.callee=.value f)
 (ha:MU regs (c.args.toList.map (aev env))=some (as,regs1)) (hw:TV env f as=some (fn,as')) (hr:Cx ids as' = some args) (hob:J4 ids regs1 ids=some objs) (hF:FunO S fn args objs r objs' ks)
 (hd:F7 ids=true) (hy:DV objs=true) (hn:CL regs1 ids ks (o.dst.getD 0) objs'.length=true)
 (hk:MV S P all cls rest (Oj o.dst (unA (N9 (o.dst.getD 0) ids ks objs'.length) r) env) (Zz (N9 (o.dst.getD 0) ids ks objs'.length) (N9 (o.dst.getD 0) ids ks objs'.length) objs' (O0 ids ks regs1)) k) :
 MV S P all (.w::cls) (o::rest) env regs k:=
 ⟨true,hg,by rw[if_pos rfl];exact⟨_,_,.inr (.inr (.inl ⟨rfl,c,f,as,regs1,fn,as',args,objs,objs',ks,r,ids,ho,hf,ha,hw,hr,hob,hF,hd,hy,hn,rfl,rfl⟩)),hk⟩⟩
theorem Ao2 {cl:Cls}{cls:List Cls}{o:Oper}{rest:List Oper}{env:Env}{regs:D1}{c:List Prop}{x:PV}(hg:Dr all env o=some true)(ha:Rb P env o.op=some (c,x))(hc:D9 c)
 (hk:MV S P all cls rest (Oj o.dst (.p x) env) regs k):MV S P all (cl::cls) (o::rest) env regs k:=
 ⟨true,hg,by rw[if_pos rfl];exact⟨_,regs,.inr (.inr (.inr ⟨c,x,ha,hc,rfl,rfl⟩)),hk⟩⟩
def AR0 (o:Op):Cls:=match o with
 |.buildSlice ..=>.n
 |o=>clsOf o
theorem Ao3 (hS:G9 S P){F:J3}{K:List It}{id:Nat}{ops:Array Oper}{st:St}{cls:List Cls}(hmix:P.follows .mixedOrders=true)(hcls:ops.toList.map (fun o=>AR0 o.op)=cls)(hok:JC ops.toList cls=true)
 (h:MV S P ops.toList cls ops.toList st.env st.regs fun env regs=>G S P F (.pop .normal K ⟨env,regs⟩)):G S P F (.code (.region id ops true) K st):=
 Wu hS cls hmix hok h
end
end Go.AM
set_option linter.unusedVariables false
namespace Go.AM
section
variable {S:Br}{P:Program}{F:J3}{K:List It}{st:St}
theorem Jc (hS:G9 S P){f:FuncId}{fn:Func}{code:Code}{args:List AV}{objs:List Obj}{Q:KQ->List Obj->List Bool->Prop}{rs:List ResultVar}(hf:P.funcs[f]? = some fn)(hc:fn.body=some code)(hn:args.length<=fn.ntmps)(ho:objs.length<1000)
 (hrs:fn.results.toList=rs) (hco:Af fn.ntmps code=true) (hnm:(fn.name == "runtime.NumGoroutine")=false)
 (h:G S P (BP S P objs.length rs Q) (.code code [] { env:=argEnv args,regs:=objRegs objs })):S.F f args objs Q:=by
 subst hrs;exact hS.func f fn code args objs _ hf hc hnm hco hn ho (hS.refl _ _ h)
theorem AC3 (hS:G9 S P){all rest:List Oper}{o:Oper}{c:Call}{f:Operand}{j:Nat}{xs ys:List PV}{regs:D1}{rest0:List (List PV)}
 (hg:Cn all st.env o=some true) (ho:o.op=.call c) (hf:c.callee=.value f) (hy:aev st.env f=.yf j) (hv:IP st.regs (c.args.toList.map (aev st.env))=some (xs,regs))
 (hr:A2 regs j=some (.yld (ys::rest0) true)) (hon:Ex j regs=true) (hle:Az7 xs ys)
 (hk:∀b:Bool,G S P F (.ops all rest K (put { st with regs:=ins j (.yld (if b then rest0 else []) b) regs } o.dst (.p (.bb b))))):G S P F (.ops all (o::rest) K st):=by
 refine DW hS hg ?_;unfold wOp;obtain⟨callee,cargs,types⟩:=c;simp only at hf hv;subst hf;rw[ho];exact .inr ⟨j,xs,regs,ys,rest0,hy,hv,hr,hon,hle,hk⟩
theorem Ao4 (hS:G9 S P){all rest:List Oper}{o:Oper}{c:Call}{rv:Operand}{m:String}{as:List AV}{regs:D1}{t:TypeId}{y:PV}{fn:FuncId}{args:List AV}{r:AV}
 (hg:Cn all st.env o=some true) (ho:o.op=.call c) (hf:c.callee=.invoke rv m) (ha:MU st.regs (c.args.toList.map (aev st.env))=some (as,regs)) (hrv:aev st.env rv=.p (.iface t y)) (hm:Rd P t m=some fn)
 (hr:Cx [] (.p y::as)=some args) (hF:Al6 S fn args r)
 (hk:G S P F (.ops all rest K (put { env:=st.env,regs:=regs } o.dst (unA [] r)))):G S P F (.ops all (o::rest) K st):=by
 refine DW hS hg ?_;unfold wOp;obtain⟨callee,cargs,types⟩:=c;simp only at hf ha;subst hf;rw[ho];refine⟨as,regs,t,y,fn,ha,hrv,hm,[],args,[],rfl,hr,rfl,rfl,hS.monoF _ _ _ _ _ ?_ hF⟩;rintro _ _ _ ⟨rfl,rfl,rfl⟩;exact⟨rfl,hk⟩
theorem AC4 (hS:G9 S P){all rest:List Oper}{o:Oper}{x:Operand}{t:TypeId}{y:PV}(hg:Cn all st.env o=some true)(ho:o.op=.panic x)(hx:aev st.env x=.p (.iface t y))(hk:G S P F (.pop (.panic (.iface t y)) K st)):G S P F (.ops all (o::rest) K st):=by refine DW hS hg ?_;unfold wOp;rw[ho];exact⟨t,y,hx,hk⟩
def Dn (S:Br)(f:FuncId)(first caps:List AV)(objs:List Obj)(L:List (List PV)):Prop:=
 S.F f (first ++ .yf objs.length::caps) (objs++[.yld L true]) fun r objs' ks=>∃b,objs'[objs.length]? = some (.yld [] b)/\ks[objs.length]? = some true/\∃a,r=.ret a
def Bb (S:Br)(P:Program)(body:Code)(gh:Nat)(ts:List Nat)(next:St->Prop)(Q:J3):J3
 |.normal,s=>S.up s fun s=>awp S P body (DE S gh ts next Q) s
 |_,_=>False
theorem G_asg (hS:G9 S P){body:Code}{gh:Nat}{ts:List Nat}{next:St->Prop}{Q:J3}(h:G S P (DE S gh ts next Q) (.code body [] st)):G S P (Bb S P body gh ts next Q) (.pop .normal [] st):=
 hS.refl _ _ h
def Ao5 {X:Type}(s:X->St)(J:List (List PV)->X->Prop)(rest:List (List PV))(t:St):Prop:=∃x,t=s x/\J rest x
theorem Ab9 (hS:G9 S P){g:Operand}{ps:Array Tmp}{asg body:Code}{f:FuncId}{first caps as bs:List AV}{objs:List Obj}(ids ts:List Nat)(gh:Nat)(L:List (List PV)){X:Type}(s:X->St)(J:List (List PV)->X->Prop)(x0:X)(idl:List (Nat×Nat))
 (hp:DC st.env g=some (f,first,caps)) (hfn:∃fn,P.funcs[f]? = some fn/\fn.body.isSome=true/\(fn.name == "runtime.NumGoroutine")=false) (hob:J4 ids st.regs ids=some objs) (hny:DV objs=true) (hd:F7 ids=true) (hr1:Cx ids first=some as) (hr2:Cx ids caps=some bs) (hol:objs.length=ids.length)
 (hgh:gh<1000) (hng:A2 st.regs gh=none) (hil:ids.length<1000) (hts:F7 ts=true) (hlen:∀ys∈L,ys.length=ps.size)
 (hF:Dn S f as bs objs L) (hle:Le idl ⟨V4 ts (ts.map (get st.env)),O0 ids (ids.map fun _=>false) st.regs⟩ (s x0)) (h0:J L x0) (hk:∀x,(s x).env.map (·.1)=ts) (hn:∀x,A2 (s x).regs gh=none)
 (hround:∀ys rest x,J (ys::rest) x->G S P (Bb S P body gh ts (Ao5 s J rest) (kp S P K F)) (.code asg [] ⟨HG ps.toList ys (s x).env,ins gh (.ghost ((s x).env.map (·.2))) (s x).regs⟩))
 (hend:∀x,J [] x->G S P F (.pop .normal K (s x))):G S P F (.code (.rangeFunc g ps asg body) K st):=by
 have hdup:∀{l:List Nat},F7 l=true->l.Nodup:=by
  intro l
  induction l with
  |nil=>intro _;exact Ba8
  |cons a r ih=>intro h;simp only[F7,AS3,AU3,AV2,decide_eq_false_iff_not]at h;exact AX4.2 ⟨h.1,ih h.2⟩
 refine⟨f,first,caps,as,bs,objs,ids,ts,gh,L,Ao5 s J,fun _ r=>∃a,r=.ret a,hp,hfn,hny,hd,hr1,hr2,hob,hgh,hng,hil,hdup hts,hlen,hS.le idl _ _ _ hle ⟨hk x0,hn x0,x0,rfl,h0⟩,?_,?_,?_⟩
 ·rintro ys rest _ _ _ ⟨x,rfl,hJ⟩;have h:=hround ys rest x hJ;have e:Bb S P body gh ts (Ao5 s J rest) (kp S P K F)=fun e s'=>match e with
   |.normal=>S.up s' fun s'=>awp S P body (DE S gh ts (Ao5 s J rest) (kp S P K F)) s'
   |_=>False:=by funext e s';cases e<;>rfl
  rw[e]at h;exact h
 ·rintro _ r _ _ ⟨x,rfl,hJ⟩ ⟨a,rfl⟩;exact hend x hJ
 ·rw[<- hol];refine hS.monoF _ _ _ _ _ ?_ hF;rintro r o ks ⟨b,h1,h2,h3⟩;exact⟨b,h1,h2,h3,fun _=>h3⟩
theorem Up (hS:G9 S P){gh:Nat}{ts:List Nat}{X:Type}{s:X->St}{J:List (List PV)->X->Prop}{rest:List (List PV)}{Q:J3}(st1:St){cs:List AV}(x:X)(idl:List (Nat×Nat))(hle:Le idl st st1)(hg:A2 st1.regs gh=some (.ghost cs))(hl:cs.length=ts.length)(hd:A2 (del gh st1.regs) gh=none)
 (he:(⟨V4 ts cs,del gh st1.regs⟩:St)=s x) (hJ:J rest x):G S P (DE S gh ts (Ao5 s J rest) Q) (.pop .normal [] st):=
 hS.le idl _ _ _ hle ⟨cs,hg,hl,hd,x,he,hJ⟩
theorem Ww (hS:G9 S P){gh:Nat}{ts:List Nat}{next:St->Prop}{e:KP}(he:match e with | .normal | .panic _=>False|_=>True)(st1:St){cs:List AV}(idl:List (Nat×Nat))(hle:Le idl st st1)(hg:A2 st1.regs gh=some (.ghost cs))(hl:cs.length=ts.length)(hd:A2 (del gh st1.regs) gh=none)
 (hk:G S P F (.pop e K ⟨V4 ts cs,del gh st1.regs⟩)):G S P (DE S gh ts next (kp S P K F)) (.pop e [] st):=by
 cases e with
 |normal=>exact he.elim
 |panic x=>exact he.elim
 |exit id=>exact hS.le idl _ _ _ hle ⟨cs,hg,hl,hd,hk⟩
 |goto t=>exact hS.le idl _ _ _ hle ⟨cs,hg,hl,hd,hk⟩
 |ret=>exact hS.le idl _ _ _ hle ⟨cs,hg,hl,hd,hk⟩
end
end Go.AM
set_option linter.unusedVariables false
namespace Go.AM
theorem PP {n:Nat}(h:n<2 ^ 32):IntKind.u32.wrap (n:Int)=n:=by have h1:((n:Int) % (2 ^ 32:Int))=n:=Bc4 (by omega) (by omega);unfold IntKind.wrap;simp only[IntKind.bits,IntKind.signed,h1,Bb8,AS6,if_false]
abbrev u32 (x:BitVec 32):PV:=.v (.int .u32 x.toNat)
theorem Hq (x:BitVec 32):BitVec.ofInt 32 (x.toNat:Int)=x:=by
 apply AV7;rw[Bj4]
 have:=x.isLt
 omega
theorem EA (x y:BitVec 32):E4 .and .u32 x.toNat y.toNat=((x &&& y).toNat:Int):=by simp only[E4,IntKind.bits,Hq];exact PP (x &&& y).isLt
theorem JE (x y:BitVec 32):E4 .or .u32 x.toNat y.toNat=((x ||| y).toNat:Int):=by simp only[E4,IntKind.bits,Hq];exact PP (x ||| y).isLt
theorem Ed (x y:BitVec 32):E4 .andNot .u32 x.toNat y.toNat=((x &&& ~~~ y).toNat:Int):=by simp only[E4,IntKind.bits,Hq];exact PP (x &&& ~~~ y).isLt
theorem Aw8 (x:BitVec 32)(n:Nat):shI .shr .u32 x.toNat n=((x >>> n).toNat:Int):=by
 simp only[shI,IntKind.bits,AR8];have hx:=x.isLt;rw[Bd2,Bc9];have e:((2:Int) ^ (min n 32))=((2 ^ (min n 32):Nat):Int):=by norm_cast
 rw[e,Bf8 _ (Bj5 _),<- Int.natCast_ediv];congr 1;by_cases h:n<=32
 ·rw[AZ0 h]
 ·rw[Be7 (by omega),AZ6 hx,AZ6];exact AT8 hx (Bb0 (by omega) (by omega))
theorem AM4 (x:BitVec 32)(n:Nat):shI .shl .u32 x.toNat n=((x <<< n).toNat:Int):=by
 simp only[shI,IntKind.bits,AR8];rw[Bh1,Nat.shiftLeft_eq];unfold IntKind.wrap;simp only[IntKind.bits,IntKind.signed,Bb8,AS6,if_false];by_cases h:n<=32
 ·rw[AZ0 h]
  norm_cast
 ·rw[Be7 (by omega)];have h1:x.toNat*2 ^ n % 2 ^ 32=0:=by obtain⟨d,rfl⟩:∃d,n=32+d:=⟨n-32,by omega⟩;rw[Nat.pow_add,<- Nat.mul_assoc,Nat.mul_right_comm,Nat.mul_mod_left]
  have h2:x.toNat*2 ^ 32 % 2 ^ 32=0:=Nat.mul_mod_left _ _;rw[h1];simp
end Go.AM
set_option linter.unusedVariables false
namespace Go.AM
theorem GJ {P:Program}{f:FuncId}{args:List PV}{r:AV}(hent:∀as w,(callFunc f as).run P w=.ok (.enter f as) w)
 (h:∀(w:World) (Pi:Nat->Nat->Prop) (vs:Array Value),TabOk P w Pi->(∀b off,Pi b off->b<w.heap.size)->vs.size=args.length->(∀i,i<args.length->RepP w Pi (vs.getD i undef) (args.getD i default)) ->
  Calls P f vs w fun e w'=>∃v,e=.returned v/\RowKit.Below w.heap.size w w' /\ ∀live rho,RepA w' Pi live rho v r):Al6 (GD P) f (args.map .p) r:=by
 intro 𝒢 C w vs rho hG hs hsz;have h0:=h w (Prv C.X (A2 (objRegs [])) rho) vs ((𝒢.tab C hG).keeps hs.keep) (fun b off hp=>by
  rcases hp with hp|⟨j,o,hj,_⟩
  ·exact hs.hp.bound b off hp
  ·simp[objRegs,objRegs.go,A2]at hj) (by simpa using hsz) (fun i hi=>by
  have:=hs.env i
  rw[AJ]at this;have e:(args.map AV.p).getD i .top=.p (args.getD i default):=by simp[hi]
  rw[e]at this;exact this.toP)
 refine⟨_,_,hent _ _,callsIn_wide.2 (h0.mono ?_)⟩;rintro e w' ⟨v,rfl,hb,hv⟩;have hk:Keeps w (Prv C.X (A2 (objRegs [])) rho) w' (Prv C.X (A2 (objRegs [])) rho):=fun b o v hp hc=>⟨by rw[<- hc];exact AW1 (hb.block b (AZ7 w ⟨b,o,none⟩ hc)),hp⟩
 refine⟨C,.ret r,[],[],rho,hG,⟨rfl,rfl,rfl⟩,?_,⟨v,rfl,hv _ _⟩,fun i hi=>by simp at hi⟩;have hno:∀j,A2 (objRegs []) j=none:=fun j=>by simp[objRegs,objRegs.go,A2]
 refine⟨⟨fun j o hj=>by simp[hno]at hj,fun i j oi oj b hj=>by simp[hno]at hj,fun j o b off hj=>by simp[hno]at hj,fun b off hp=>AT8 (hs.hp.bound b off hp) hb.size⟩,hs.ext.trans ⟨hb.os,hb.output⟩,AX0 hs.size hb.size,fun b hlt hE=>?_,hs.keep.trans hk,fun b hbo=>?_,fun j r b hj=>by simp[hno]at hj⟩
 ·rw[hb.block b (AT8 hlt hs.size)];exact hs.same b hlt hE
 ·obtain⟨j,o,hj,_⟩:=hbo;simp[hno]at hj
theorem PQ {P:Program}{f:FuncId}{args:List PV}{r:AV}(hent:∀as w,(callFunc f as).run P w=.ok (.enter f as) w)
 (h:∀(w:World) (Pi:Nat->Nat->Prop) (vs:Array Value),(∀b off,Pi b off->b<w.heap.size)->vs.size=args.length->(∀i,i<args.length->RepP w Pi (vs.getD i undef) (args.getD i default)) ->
  Calls P f vs w fun e w'=>∃v,e=.returned v/\RowKit.Below w.heap.size w w' /\ ∀live rho,RepA w' Pi live rho v r):Al6 (GD P) f (args.map .p) r:=
 GJ hent fun w Pi vs _=>h w Pi vs
end Go.AM
set_option linter.unusedVariables false
namespace Go.AM
open Go.RowKit Go.ChangeShapes
def AR1 (W:World):Ctx:={ X:=fun _ _=>False,w0:=W,E0:=fun _=>False,Pi0:=fun _ _=>False,rho0:=fun _=>undef,Y:=fun _ _=>False,yv:=undef }
theorem AC5 {W:World}{vs:Array Value}{args:List PV}(hsz:vs.size=args.length)(hr:∀i,i<args.length->RepP W (fun _ _=>False) (vs.getD i undef) (args.getD i default)) :Sat (AR1 W) ⟨argEnv (args.map .p),objRegs []⟩ ⟨vs,[]⟩ W (fun _=>undef):=by
 have hno:∀j,A2 (objRegs []) j=none:=fun j=>by simp[objRegs,objRegs.go,A2]
 have hprv:∀b o,¬Prv (AR1 W).X (A2 (objRegs [])) (fun _=>undef) b o:=fun b o h=>by
  rcases h with h|⟨j,o',hj,_⟩
  ·exact h
  ·simp[hno]at hj
 refine⟨⟨⟨fun j o hj=>by simp[hno]at hj,fun i j oi oj b hj=>by simp[hno]at hj,fun j o b off hj=>by simp[hno]at hj,fun b off hp=>hp.elim⟩,Ext.refl _,AS4 _,fun _ _ _=>rfl,fun b o v _ hc=>⟨hc,hprv b o⟩,fun b hb=>?_,fun j r b hj=>by simp[hno]at hj⟩,fun t=>?_,fun j _ hl=>?_,Ba8,fun d hd=>by cases hd⟩
 ·obtain⟨j,o,hj,_⟩:=hb;simp[hno]at hj
 ·show RepA W _ _ _ (vs.getD t undef) (get (argEnv (args.map .p)) t);rw[AJ];by_cases ht:t<args.length
  ·have e:(args.map AV.p).getD t .top=.p (args.getD t default):=by simp[ht]
   rw[e];exact .p _ _ ((hr t ht).keeps fun b o v _ hc=>⟨hc,hprv b o⟩)
  ·have e:(args.map AV.p).getD t .top=.top:=by simp[Bb7 ht]
   rw[e];exact .top _
 ·obtain⟨o,ho⟩:=hl
structure AM5 (W w' : World):Prop where
 os:w'.os=W.os
 output:w'.output=W.output
 size:W.heap.size<=w'.heap.size
 block:∀b,b<W.heap.size->w'.heap[b]? = W.heap[b]?
theorem Pv {P:Program}{f:FuncId}{args:List PV}(hent:∀as w,(callFunc f as).run P w=.ok (.enter f as) w)(h:Al6 (GD P) f (args.map .p) (.p (.bb true)))
 {W:World}{vs:Array Value}(hT:TabOk P W fun _ _=>False) (hsz:vs.size=args.length) (hr:∀i,i<args.length->RepP W (fun _ _=>False) (vs.getD i undef) (args.getD i default)) :
 Calls P f vs W fun e w'=>e=.returned (.bool true)/\AM5 W w':=by
 obtain⟨nx,w1,h1,h2⟩:=h (Prot.triv P (AR1 W) (fun _ _ h=>h) hT) (AR1 W) W vs _ rfl (AC5 hsz hr) (by simpa using hsz);rw[hent]at h1;cases h1;refine (callsIn_wide.1 h2).mono ?_;rintro e w' ⟨C',r,objs',ks,rho',rfl,⟨rfl,rfl,rfl⟩,hE,⟨v,rfl,hv⟩,_⟩;cases hv with
 |p _ _ hp=>cases hp;exact⟨rfl,hE.ext.1,hE.ext.2,hE.size,fun b hb=>hE.same b hb fun h=>h⟩
section
variable {H:Type}{enc:TypeId×Value->H}{P:Program}
theorem Ao6 {W w' : World}(h:AM5 W w')(may:MemPlace->Prop):W.keptBut w' may:=by
 refine⟨h.os,h.output,fun i hi=>?_⟩;rw[h.block i hi];generalize W.heap[i]? = o;cases o with
 |none=>trivial
 |some o=>cases o<;>first|exact⟨rfl,rfl,rfl,fun _ _=>rfl⟩ | exact .inr ⟨rfl,rfl⟩ | rfl
theorem Ac0 {W w' : World}(h:AM5 W w'){p:MemPlace}(hp:p.block<W.heap.size):W.sameAt w' p:=by have hb:RowKit.Below W.heap.size W { w' with tape:=W.tape }:=⟨h.os,rfl,h.output,h.size,fun k hk=>h.block k hk⟩;exact hb.same hp
theorem JF {W w' : World}(hk:AM5 W w')(hl:laidOutB P=true){sp:Nat->Bool}:∀{ts:List TypeId}{vs:List Value}{ds:List (DataW H)}{ps:List MemPlace},(∀t∈ts,P.readableRec t=true/\t<P.types.size) ->
 (∀p∈ps,p.block<W.heap.size)->(∀p∈ps,sp p.block=true)->DataW.TrodAll enc P W 0 (fun _=>true) true ts vs ds ps->DataW.TrodAll enc P w' 0 sp true ts vs ds ps
 |[],[],[],_,_,_,_,h=>h
 |t::ts,v::vs,d::ds,_,hr,hlt,hs,⟨p,q,h1,h2,e⟩=>by subst e;refine⟨p,q,?_,JF hk hl (fun t ht=>hr t (AW0.2 (.inr ht))) (fun x hx=>hlt x (AT1 _ hx)) (fun x hx=>hs x (AT1 _ hx)) h2,rfl⟩;exact WideElems.Trod_stays hl (hr t (by simp)).1 (hr t (by simp)).2 h1 (fun x hx=>Ac0 hk (hlt x (AU2 _ hx))) (fun x hx=>hs x (AU2 _ hx))
theorem Ak8 {f:Func}{s:ChangeSpec}{tb:TypeId}{W W' : World}{args:Array Value}{ds gs:List (DataW H)}{before:List MemPlace}(hvars:s.vars=[])(hres:f.resultTypes = #[tb])(htb:P.underlying tb=some .bool)(hl:laidOutB P=true)
 (hread:∀t∈f.params.toList,P.readableRec t=true/\t<P.types.size) (hW:DataW.Whole enc P f.params.toList s.vars false W args.toList ds gs before)
 (hfn:s.fn H ds={ results:=[.lit (.bool true)],args:=ds,vars:=[] }) (hk:AM5 W W'):s.post enc P f false true false false W args (.bool true) W':=by
 have hlt:∀p∈before,p.block<W.heap.size:=fun p hp=>hW.lt p hp;have hW0:=hW;obtain⟨p,q,hA,hV,rfl,hz,hn⟩:=hW;rw[hvars]at hV;obtain⟨rfl,rfl⟩:=trodVars_none hV;simp only[AY9]at hlt hW0;have hA' : ∀sp:Nat->Bool,(∀x∈p,sp x.block=true)->DataW.TrodAll enc P W' 0 sp true f.params.toList args.toList (s.fn H (ds++[])).args p:=fun sp hsp=>by rw[AY9,hfn];exact JF hk hl hread hlt hsp hA
 have hR:∀(b:Nat) (sp:Nat->Bool) (hd:Bool),DataW.TrodAll enc P W' b sp hd f.resultTypes.toList ((Value.bool true).resultList f.resultTypes.size) (s.fn H (ds++[])).results []:=fun b sp hd=>by rw[AY9,hfn,hres];exact⟨[],[],shut_bool htb _,rfl,rfl⟩
 have hV' : ∀sp:Nat->Bool,DataW.TrodVars enc P W' sp s.vars (s.fn H (ds++[])).vars []:=fun sp=>by rw[AY9,hfn,hvars];rfl
 refine⟨ds,[],p,[],p,[],hW0,hR _ _ _,hA' _ (fun x hx=>by simpa using hlt x hx),hV' _,Ao6 hk _,fun _=>?_⟩;refine⟨ok_one hres rfl (by simp[Value.okWide,htb,Cell.okWide,Cell.ok]),_,_,([]++p)++[],⟨[]++p,[],trodAll_append (hA' _ fun _ _=>rfl) (hR _ _ _),hV' _,rfl,?_,?_⟩,?_⟩
 ·intro b off hp;have hp' : MemPlace.cell b off∈p:=by simpa using hp
  have:=hz b off (by simpa using hp')
  have hb:=hlt _ hp';simp only[MemPlace.block]at hb;simp only[World.frozen?,hk.block b hb]at this⊢;exact this
 ·intro ha
  have:=hn ha
  simpa using this
 ·intro p' hp _;simpa using hp
end
end Go.AM
set_option linter.unusedVariables false
namespace Go.AM
open Go.RowKit Go.ChangeShapes Go.Deep
def TR (l:List Nat):Nat:=l.foldr (· + ·) 0
theorem RH (a:Nat)(l:List Nat):TR (a::l)=a+TR l:=rfl
structure Bulk {H:Type}(B:DataW H->Nat):Prop where
 int:∀k n,1<=B (.lit (.int k n))
 bool:∀b,1<=B (.lit (.bool b))
 str:∀l,l.length+1<=B (.lit (.string l))
 nil:1<=B .nil
 slice:∀es sp,TR (es.map B)+1<=B (.slice es sp)
 agg:∀ps,TR (ps.map B)+1<=B (.agg ps)
mutual
inductive Gz (P:Program):Nat->TypeId->List PV->Prop
 |int {m:Nat}{t:TypeId}{k:IntKind}{n:Int}(ht:P.underlying t=some (.int k)) (hw:(Lit.int k n).wf=true) (hm:1<=m):Gz P m t [.v (.int k n)]
 |bool {m:Nat}{t:TypeId}{b:Bool}(ht:P.underlying t=some .bool) (hm:1<=m):Gz P m t [.bb b]
 |str {m:Nat}{t:TypeId}{l:List UInt8}(ht:P.underlying t=some .string) (hm:l.length+1<=m):Gz P m t [.str l]
 |slice {m:Nat}{t e:TypeId}{n:Nat}{f:Nat->List PV}(ms:Nat->Nat) (ht:P.underlying t=some (.slice e)) (hl:∀i,i<n->(f i).length=P.cellsOf e) (h:∀i,i<n->Gz P (ms i) e (f i))
  (hm:TR ((List.range n).map ms)+1<=m):Gz P m t [.sl false (P.cellsOf e) n f]
 |arr {m m' : Nat}{t e:TypeId}{n:Nat}{pvs:List PV}(ht:P.underlying t=some (.array n e)) (h:Fb P m (List.replicate n e) pvs) (hm:m+1<=m'):Gz P m' t pvs
 |struct {m m' : Nat}{t:TypeId}{fs:Array Field}{pvs:List PV}(ht:P.underlying t=some (.struct fs)) (h:Fb P m (fs.toList.map (·.type)) pvs) (hm:m+1<=m'):Gz P m' t pvs
inductive Fb (P:Program):Nat->List TypeId->List PV->Prop
 |nil {m:Nat}:Fb P m [] []
 |cons {a b m:Nat}{t:TypeId}{ts:List TypeId}{p q:List PV}(h:Gz P a t p) (h' : Fb P b ts q) (hm:a+b<=m):Fb P m (t::ts) (p++q)
end
def CRep (W:World)(cs:List Value)(pvs:List PV):Prop:=
 cs.length=pvs.length/\∀i,i<pvs.length->RepP W (fun _ _=>False) (cs.getD i undef) (pvs.getD i default)/\(cs.getD i undef).oneCell' = true
theorem RI {α : Type}(a b:List α)(d : α){i:Nat}(h:i<a.length):(a++b).getD i d=a.getD i d:=by simp[AR7,AX8 h]
theorem RJ {α : Type}(a b:List α)(d : α){i:Nat}(h:a.length<=i):(a++b).getD i d=b.getD (i-a.length) d:=by simp[AR7,Bc6 h]
theorem CRep.append {W:World}{a b:List Value}{p q:List PV}(h:CRep W a p)(h' : CRep W b q):CRep W (a++b) (p++q):=by
 refine⟨by simp[h.1,h'.1],fun i hi=>?_⟩;by_cases hlt:i<p.length
 ·rw[RI _ _ _ (by rw[h.1];exact hlt),RI _ _ _ hlt];exact h.2 i hlt
 ·have hlt' : i-p.length<q.length:=by simp at hi;omega
  rw[RJ _ _ _ (by rw[h.1];omega),RJ _ _ _ (by omega),h.1];exact h'.2 _ hlt'
theorem CRep.one {W:World}{v:Value}{x:PV}(h:RepP W (fun _ _=>False) v x)(h1:v.oneCell' = true):CRep W [v] [x]:=by
 refine⟨rfl,fun i hi=>?_⟩;obtain rfl:i=0:=by simpa using hi
 exact⟨h,h1⟩
def Av1 (P:Program)(T:List TypeId):Bool:=T.all fun t=>match P.underlying t with
 |some (.int _)|some .bool|some .string=>true
 |some (.slice e)=>T.contains e&&decide (0<P.cellsOf e)
 |some (.array _ e)=>T.contains e
 |some (.struct fs)=>fs.toList.all fun f=>T.contains f.type
 |_=>false
section
variable {H:Type}{enc:TypeId×Value->H}{P:Program}{W:World}
theorem Oo {B:DataW H->Nat}{r:TypeId->List Value->Option (DataW H×List MemPlace)}(T:TypeId->Prop)
 (ih:∀t cs x,T t->r t cs=some x->∃pvs,CRep W cs pvs/\Gz P (B x.1) t pvs) :
 ∀(fs:List Field) (xs:List (DataW H×List MemPlace)) (cs:List Value) (base:Nat),(∀f∈fs,T f.type)->cs.length=(fs.map fun f=>P.cellsOf f.type).sum ->
  (∀(j:Nat) f,fs[j]? = some f->f.offset=base+((fs.take j).map fun f=>P.cellsOf f.type).sum)->xs.length=fs.length ->
  (∀(i:Nat) f,fs[i]? = some f->r f.type ((cs.drop (f.offset-base)).take (P.cellsOf f.type))=xs[i]?) ->
  ∃pvs,CRep W cs pvs/\Fb P (TR (xs.map fun x=>B x.1)) (fs.map (·.type)) pvs
 |[],xs,cs,base,_,hl,_,hx,_=>by obtain rfl:xs=[]:=AW4 hx;obtain rfl:cs=[]:=AW4 (by simpa using hl);exact⟨[],⟨rfl,fun i hi=>absurd hi (by simp)⟩,.nil⟩
 |f::fs,xs,cs,base,hT,hl,ho,hx,hr=>by
  cases xs with
  |nil=>simp at hx
  |cons x xs=>
   have h0:=ho 0 f rfl;simp only[Bi6,Bh7,List.sum_nil,Bg0]at h0;have hr0:=hr 0 f rfl;rw[h0,Nat.sub_self,Bg2]at hr0;obtain⟨p,hp,hs⟩:=ih _ _ _ (hT f (by simp)) hr0;simp only[AU8,Bj6]at hl;obtain⟨q,hq,hs'⟩:=Oo T ih fs xs (cs.drop (P.cellsOf f.type)) (base+P.cellsOf f.type) (fun g hg=>hT g (by simp[hg])) (by simp[hl])
    (fun j g hg=>by
     have:=ho (j+1) g (by simpa using hg)
     simp only[Bb5,AU8,Bj6]at this;omega) (by simpa using hx)
    (fun i g hg=>by
     have:=hr (i+1) g (by simpa using hg)
     have hog:=ho (i+1) g (by simpa using hg);simp only[Bb5,AU8,Bj6]at hog;rw[Bc8,show P.cellsOf f.type+(g.offset-(base+P.cellsOf f.type))=g.offset-base by omega];simpa using this)
   refine⟨p++q,?_,.cons hs hs' (AS4 _)⟩
   have:=hp.append hq
   rwa [Bc3]at this
theorem Wx {B:DataW H->Nat}{r:TypeId->List Value->Option (DataW H×List MemPlace)}{e:TypeId}(ih:∀cs x,r e cs=some x->∃pvs,CRep W cs pvs/\Gz P (B x.1) e pvs) :∀(n:Nat) (xs:List (DataW H×List MemPlace)) (cs:List Value),cs.length=n*P.cellsOf e->xs.length=n->(∀i,i<n->r e ((cs.drop (i*P.cellsOf e)).take (P.cellsOf e))=xs[i]?) ->
  ∃pvs,CRep W cs pvs/\Fb P (TR (xs.map fun x=>B x.1)) (List.replicate n e) pvs
 |0,xs,cs,hl,hx,_=>by obtain rfl:xs=[]:=AW4 hx;obtain rfl:cs=[]:=AW4 (by simpa using hl);exact⟨[],⟨rfl,fun i hi=>absurd hi (by simp)⟩,.nil⟩
 |n+1,xs,cs,hl,hx,hr=>by
  cases xs with
  |nil=>simp at hx
  |cons x xs=>
   have hr0:=hr 0 (by omega);rw[Nat.zero_mul,Bg2]at hr0;obtain⟨p,hp,hs⟩:=ih _ _ hr0;rw[Be4]at hl;obtain⟨q,hq,hs'⟩:=Wx ih n xs (cs.drop (P.cellsOf e)) (by simp[hl]) (by simpa using hx) (fun i hi=>by
    have:=hr (i+1) (by omega)
    rw[Bc8,show P.cellsOf e+i*P.cellsOf e=(i+1)*P.cellsOf e by rw[Be4];omega];simpa using this)
   refine⟨p++q,?_,.cons hs hs' (AS4 _)⟩
   have:=hp.append hq
   rwa [Bc3]at this
theorem IN (K:Kids P (· < P.types.size)){B:DataW H->Nat}(hB:Bulk B){T:List TypeId}(hT:Av1 P T=true)(hTl:∀t∈T,t<P.types.size):∀(fuel:Nat) (t:TypeId) (cs:List Value) (x:DataW H×List MemPlace),t∈T ->
 DataW.trod enc P W 0 (fun _=>true) true fuel t cs=some x->∃pvs,CRep W cs pvs/\Gz P (B x.1) t pvs:=by
 intro fuel
 induction fuel with
 |zero=>intro t cs x _ h;simp[DataW.trod]at h
 |succ n ih=>
  intro t cs x ht h;have hp:=AT4.1 hT t ht;cases hu:P.underlying t with
  |none=>simp[hu]at hp
  |some d=>
   cases d with
   |bool=>obtain⟨b,rfl,rfl⟩:=DataW.trod_bool hu h;exact⟨[.bb b],.one (.bb b) rfl,.bool hu (hB.bool b)⟩
   |int k=>obtain⟨m,rfl,rfl,hw⟩:=DataW.trod_int hu h;exact⟨[.v (.int k m)],.one (.v _) rfl,.int hu hw (hB.int _ _)⟩
   |string=>
    obtain⟨s,rfl,rfl,_⟩:=DataW.trod_string hu h;refine⟨[.str s.data.toList],.one ?_ rfl,.str hu (hB.str _)⟩
    have:=RepP.str (w:=W) (Pi:=fun _ _=>False) s.data.toList
    simpa using this
   |slice e=>
    simp only[hu,AS3,AV2,decide_eq_true_eq]at hp;obtain⟨hpe,hpk⟩:=hp;rcases DataW.trod_slice hu h with⟨rfl,rfl⟩ | ⟨a,len,cap,elems,rest,n',hn,rfl,rfl,_,hlen,_,hel,hall,_⟩
    ·exact⟨[.sl false (P.cellsOf e) 0 fun _=>[]],.one (.slnil _ _) rfl,.slice (fun _=>0) hu (fun i hi=>absurd hi (by omega)) (fun i hi=>absurd hi (by omega)) (by simpa[TR]using hB.nil)⟩
    ·obtain rfl:n' = n:=by omega
     have each:∀i,i<len->∃z:List PV×(Nat×(Nat->Value)),z.1.length=P.cellsOf e/\Gz P z.2.1 e z.1/\z.2.1=B (elems.getD i (.nil,[])).1 /\
      ∀j,j<P.cellsOf e->W.cell? ((a.add (i*P.cellsOf e)).add j)=some (z.2.2 j)/\RepP W (fun _ _=>False) (z.2.2 j) (z.1.getD j default)/\(z.2.2 j).oneCell' = true:=by
      intro i hi;have hk:=hall i hi;have hi' : i<elems.length:=by omega
      rw[AS2 hi']at hk;obtain⟨cs',h1,h2⟩:=AZ8.1 hk;obtain⟨pvs,hc,hs⟩:=ih _ _ _ hpe h2;obtain⟨_,hl',hcell⟩:=World.cells?_some h1;refine⟨(pvs,(_,fun j=>cs'.getD j undef)),by rw[<- hc.1,hl'],hs,?_,fun j hj=>⟨?_,(hc.2 j (by rw[<- hc.1,hl'];exact hj)).1,(hc.2 j (by rw[<- hc.1,hl'];exact hj)).2⟩⟩
      ·simp[AR7,AS2 hi']
      ·rw[hcell j hj];simp[AS2 (show j<cs'.length by omega)]
     obtain⟨z,hz⟩:=choose_lt (α:=List PV×(Nat×(Nat->Value))) each;obtain⟨b,off,sp⟩:=a;have hsp:0<len->sp=none:=fun h0=>by
      have:=((hz 0 h0).2.2.2 0 hpk).1
      simpa[Addr.add]using World.cell?_spot this
     refine⟨[.sl false (P.cellsOf e) len fun i=>(z i).1],.one (.sl false b off cap (P.cellsOf e) len _ (fun i j=>(z i).2.2 j) hlen (fun i hi=>(hz i hi).1) (fun i j hi hj=>?_) (fun i j hi hj=>((hz i hi).2.2.2 j hj).2.1) sp hsp) rfl,
      .slice (fun i=>(z i).2.1) hu (fun i hi=>(hz i hi).1) (fun i hi=>(hz i hi).2.1) ?_⟩
     ·have:=((hz i hi).2.2.2 j hj).1
      obtain rfl:=hsp (by omega);refine⟨?_,fun h=>h,((hz i hi).2.2.2 j hj).2.2⟩;rw[<- this,Bi4,Bi4]
     ·refine AX0 (Nat.succ_le_succ (Bk2 (congrArg TR ?_))) (hB.slice (elems.map (·.1)) (rest.map (·.1)));apply List.ext_getElem
      ·simp[hel]
      ·intro i h1 h2;simp only[AW8,List.length_range]at h1
       have:=(hz i h1).2.2.1
       simp only[List.getElem_map,List.getElem_range,this];simp[AR7,AS2 (show i<elems.length by omega)]
   |array k e=>
    simp only[hu,AV2,decide_eq_true_eq]at hp;obtain⟨xs,n',hn,rfl,hl,hx,hr⟩:=DataW.trod_array hu h;obtain⟨_,h2⟩:=K.array (hTl t ht) hu;obtain rfl:n' = n:=by omega
    obtain⟨pvs,hc,hs⟩:=Wx (B:=B) (W:=W) (r:=DataW.trod enc P W 0 (fun _=>true) true n') (fun cs x hx=>ih e cs x hp hx) k xs cs (by rw[hl,h2]) hx hr;refine⟨pvs,hc,.arr hu hs ?_⟩
    have:=hB.agg (xs.map (·.1))
    simpa[AZ2,AY8]using this
   |struct fs=>
    simp only[hu]at hp;obtain⟨xs,n',hn,rfl,hl,hx,hr⟩:=DataW.trod_struct hu h;obtain⟨h1,h2,h3⟩:=K.struct (hTl t ht) hu;obtain rfl:n' = n:=by omega
    obtain⟨pvs,hc,hs⟩:=Oo (B:=B) (W:=W) (r:=DataW.trod enc P W 0 (fun _=>true) true n') (· ∈ T) ih fs.toList xs cs 0 (fun f hf=>by have:=AT4.1 hp f hf;simpa using this) (by rw[hl,h2])
     (fun j f hf=>by rw[h3 j f hf];omega) (by simpa using hx) (fun i f hf=>by rw[Nat.sub_zero];exact hr i f (by simpa using hf))
    refine⟨pvs,hc,.struct hu hs ?_⟩
    have:=hB.agg (xs.map (·.1))
    simpa[AZ2,AY8]using this
   |_=>simp[hu]at hp
end
end Go.AM
set_option linter.unusedVariables false
namespace Go.AM
section
variable {S:Br}{P:Program}
theorem Uq {d:Option Nat}{k k' : St->Prop}{Q Q' : J3}(hk:∀s,k s->k' s)(hq:∀e s,Q e s->Q' e s)(r:KQ)(s:St)(h:GF d k Q r s):GF d k' Q' r s:=by
 cases r with
 |ret a=>exact hk _ h
 |panic x=>exact hq _ _ h
theorem KB (hS:G9 S P){o:Oper}{k k' : St->Prop}{Q Q' : J3}(hk:∀s,k s->k' s)(hq:∀e s,Q e s->Q' e s){st:St}(h:wOp S P o k Q st):wOp S P o k' Q' st:=by
 have hcall:∀d ids f args st,TU S d ids f args st (GF o.dst k Q)->TU S d ids f args st (GF o.dst k' Q'):=by rintro d ids f args st ⟨a,ob,h1,h2,h3,h4,h5⟩;exact⟨a,ob,h1,h2,h3,h4,hS.monoF _ _ _ _ _ (fun r o ks ⟨h6,h7⟩=>⟨h6,Uq hk hq _ _ h7⟩) h5⟩
 unfold wOp at h⊢;split at h
 ·rcases h with⟨as,regs,f',as',h1,h2,ids,h3⟩ | ⟨j,xs,regs,ys,rest,h1,h2,h3,h4,h5,h6⟩
  ·exact .inl ⟨as,regs,f',as',h1,h2,ids,hcall _ _ _ _ _ h3⟩
  ·exact .inr ⟨j,xs,regs,ys,rest,h1,h2,h3,h4,h5,fun b=>hk _ (h6 b)⟩
 ·obtain⟨as,regs,t,y,f',h1,h2,h3,ids,h4⟩:=h;exact⟨as,regs,t,y,f',h1,h2,h3,ids,hcall _ _ _ _ _ h4⟩
 ·obtain⟨t,y,h1,h2⟩:=h;exact⟨t,y,h1,hq _ _ h2⟩
 ·rcases h with⟨out,h1,h2,h3⟩ | ⟨c,x,h1,h2,h3⟩
  ·exact .inl ⟨out,h1,h2,hk _ h3⟩
  ·exact .inr ⟨c,x,h1,h2,hk _ h3⟩
theorem Fx (hS:G9 S P){all:List Oper}{Q Q' : J3}(hq:∀e s,Q e s->Q' e s):∀(rest:List Oper) {st:St},Gx S P all rest Q st->Gx S P all rest Q' st
 |[],st,h=>hq _ _ h
 |o::rest,st,h=>by
  simp only[Gx]at h⊢;refine hS.mono _ _ _ (fun t h=>?_) h;split at h
  ·exact KB hS (fun s=>Fx hS hq rest) hq h
  ·obtain⟨b,h1,h2⟩:=h;refine⟨b,h1,?_⟩;split
   ·rename_i hb;rw[if_pos hb]at h2;exact KB hS (fun s=>Fx hS hq rest) hq h2
   ·rename_i hb;rw[if_neg hb]at h2;exact Fx hS hq rest h2
theorem Jd (hS:G9 S P){all:List Oper}{o:Oper}{k k' : St->Prop}{Q Q' : J3}(hk:∀s,k s->k' s)(hq:∀e s,Q e s->Q' e s){st:St}(h:Fm S P all o k Q st):Fm S P all o k' Q' st:=by
 unfold Fm at h⊢;refine hS.mono _ _ _ (fun t h=>?_) h;split at h
 ·exact KB hS hk hq h
 ·obtain⟨b,h1,h2⟩:=h;refine⟨b,h1,?_⟩;split
  ·rename_i hb;rw[if_pos hb]at h2;exact KB hS hk hq h2
  ·rename_i hb;rw[if_neg hb]at h2;exact hk _ h2
theorem Ao7 (hS:G9 S P){ops:List Oper}{Q:J3}{st:St}(hm:P.follows .mixedOrders=true)(hd:GG ops=true)(h:S.up st fun s=>Xy S P ops Q s):Xy S P ops Q st:=by
 refine⟨hm,hd,fun D s=>S.up s fun s'=>∃Inv:(Nat->Bool)->St->Prop,Inv D s' /\
  (∀D i s o,Inv D s->ops[i]? = some o->D i=false->(∀e∈o.after.toList,CN e=true->D e.on=true) ->
   Fm S P ops o (Inv fun j=>if j=i then true else D j) Q s) /\
  ∀D s,Inv D s->(∀i,i<ops.length->D i=true)->S.up s (Q .normal),?_,?_,?_⟩
 ·refine hS.mono _ _ _ (fun s hs=>?_) h;obtain⟨_,_,Inv,h1,h2,h3⟩:=hs;exact⟨Inv,h1,h2,h3⟩
 ·intro D i s o hi ho hDi hde
  have:S.up s fun s'=>Fm S P ops o (fun t=>S.up t fun t'=>∃Inv:(Nat->Bool)->St->Prop,Inv (fun j=>if j=i then true else D j) t' /\
   (∀D i s o,Inv D s->ops[i]? = some o->D i=false->(∀e∈o.after.toList,CN e=true->D e.on=true) ->
    Fm S P ops o (Inv fun j=>if j=i then true else D j) Q s) /\
   ∀D s,Inv D s->(∀i,i<ops.length->D i=true)->S.up s (Q .normal)) Q s':=by
   refine hS.mono _ _ _ (fun s' hs'=>?_) hi;obtain⟨Inv,h1,h2,h3⟩:=hs';exact Jd hS (fun t ht=>hS.refl _ _ ⟨Inv,ht,h2,h3⟩) (fun _ _ h=>h) (h2 D i s' o h1 ho hDi hde)
  unfold Fm at this⊢;exact hS.trans _ _ this
 ·intro D s hi hall;refine hS.trans _ _ (hS.mono _ _ _ (fun s' hs'=>?_) hi);obtain⟨Inv,h1,h2,h3⟩:=hs';exact h3 D s' h1 hall
theorem PS (hS:G9 S P){k k' : St->Prop}{Q Q' : J3}(hk:∀s,k s->k' s)(hq:∀e s,Q e s->Q' e s)(e:KP)(s:St)(h:thn S k Q e s):thn S k' Q' e s:=by
 cases e with
 |normal=>exact hS.mono _ _ _ hk h
 |_=>exact hq _ _ h
theorem XZ (hS:G9 S P){g:Nat}{ts:List Nat}{next:St->Prop}{Q Q' : J3}(hq:∀e s,Q e s->Q' e s)(e:KP)(s:St)(h:DE S g ts next Q e s):DE S g ts next Q' e s:=by
 cases e with
 |normal=>exact h
 |panic x=>exact h
 |_=>exact hS.mono _ _ _ (fun t ⟨cs,h1,h2,h3,h4⟩=>⟨cs,h1,h2,h3,hq _ _ h4⟩) h
theorem Bc (hS:G9 S P):∀(c:Code) {Q Q' : J3},(∀e s,Q e s->Q' e s)->∀{st:St},awp S P c Q st->awp S P c Q' st
 |.skip,Q,Q',hq,st,h=>hq _ _ h
 |.label _,Q,Q',hq,st,h=>hq _ _ h
 |.region _ ops draw,Q,Q',hq,st,h=>by
  unfold awp at h⊢;split
  ·rename_i hb;rw[if_pos hb]at h;obtain⟨h1,h2,Inv,h3,h4,h5⟩:=h;exact⟨h1,h2,Inv,h3,fun D i s o a b c d=>Jd hS (fun _ h=>h) hq (h4 D i s o a b c d),fun D s a b=>hS.mono _ _ _ (fun t=>hq _ t) (h5 D s a b)⟩
  ·rename_i hb;rw[if_neg hb]at h;exact Fx hS hq _ h
 |.seq a b,Q,Q',hq,st,h=>Bc hS a (PS hS (fun s=>Bc hS b hq) hq) h
 |.cond c t e,Q,Q',hq,st,h=>by
  obtain⟨b,h1,h2⟩:=h;refine⟨b,h1,?_⟩;split
  ·rename_i hb;rw[if_pos hb]at h2;exact Bc hS t hq h2
  ·rename_i hb;rw[if_neg hb]at h2;exact Bc hS e hq h2
 |.block id b,Q,Q',hq,st,h=>Bc hS b (fun e s h=>by
  cases e with
  |exit i=>simp only[blk]at h⊢;split at h<;>simp_all
  |_=>exact hq _ _ h) h
 |.loop b,Q,Q',hq,st,h=>by
  obtain⟨X,s,J,m,h1,h2⟩:=h;refine⟨X,s,J,m,h1,fun x hx=>Bc hS b (fun e t h=>?_) (h2 x hx)⟩;cases e with
  |normal=>exact h
  |_=>exact hq _ _ h
 |.scope b,Q,Q',hq,st,h=>Bc hS b (fun e s h=>by
  cases e with
  |goto l=>exact h
  |_=>exact hq _ _ h) h
 |.exit id,Q,Q',hq,st,h=>hq _ _ h
 |.goto l,Q,Q',hq,st,h=>hq _ _ h
 |.ret,Q,Q',hq,st,h=>hq _ _ h
 |.rangeFunc g ps asg body,Q,Q',hq,st,h=>by
  obtain⟨f,first,caps,as,bs,objs,ids,ts,gh,L,I,Fin,h1,h2,h3,h4,h5,h6,h7,h8,h9,h10,h11,h12,h13,h14,h15,h16⟩:=h;refine⟨f,first,caps,as,bs,objs,ids,ts,gh,L,I,Fin,h1,h2,h3,h4,h5,h6,h7,h8,h9,h10,h11,h12,h13,?_,?_,h16⟩
  ·intro ys rest s a b c;refine Bc hS asg (fun e t h=>?_) (h14 ys rest s a b c);cases e with
   |normal=>exact hS.mono _ _ _ (fun t h=>Bc hS body (XZ hS hq) h) h
   |_=>exact h
  ·intro s r a b c d
   have:=h15 s r a b c d
   cases r with
   |ret v=>exact hq _ _ this
   |panic x=>exact hq _ _ this
 |.refuse _,Q,Q',hq,st,h=>h
theorem Ao8 (hS:G9 S P){F:J3}(hF:∀s,S.up s (F .normal)->F .normal s):∀(K:List It) (s:St),S.up s (kp S P K F .normal)->kp S P K F .normal s
 |[],s,h=>hF s h
 |.code c::K,s,h=>hS.trans _ _ (hS.mono _ _ _ (fun t h=>h) h)
 |.blk id::K,s,h=>Ao8 hS hF K s h
 |.lp X s' J m n::K,s,h=>hS.trans _ _ h
 |.mid M::K,s,h=>hS.trans _ _ h
 |.scp::K,s,h=>Ao8 hS hF K s h
theorem AM6 (hS:G9 S P){F:J3}(hF:∀s,S.up s (F .normal)->F .normal s){K:List It}{M:St->Prop}(hM:∀t,M t->G S P F (.pop .normal K t))(e:KP)(s:St)(h:kp S P (.mid M::K) F e s):kp S P K F e s:=by
 cases e with
 |normal=>exact Ao8 hS hF K s (hS.mono _ _ _ hM h)
 |_=>exact h
end
end Go.AM
set_option linter.unusedVariables false
namespace Go.AM
section
variable {S:Br}{P:Program}{F:J3}{K:List It}{st:St}
theorem Wy (hS:G9 S P){all rest:List Oper}{o:Oper}{t:TypeId}{m k:Operand}{ok:Bool}{key:PV}{regs:D1}{j:Nat}{es:List (PV×PV)}{kt e:TypeId}{x:PV}{b:Bool}{fd:Option PV}
 (hg:Cn all st.env o=some true) (ho:o.op=.lookup t m k ok) (hv:HE st.regs (aev st.env k)=some (key,regs)) (hm:aev st.env m=.mref j) (hr:A2 regs j=some (.map es))
 (ht:tk P t=some (.map kt e)) (hk:Kf P kt key=true) (hf:find (MX P kt) key es=some fd) (hx:(match fd with|some x=>some (x,true)|none=>(KO P e).map fun z=>(z,false))=some (x,b)) (hc:D9 (Pw P kt))
 (hn:G S P F (.ops all rest K (put { st with regs:=regs } o.dst (if ok then .tup [.p x,.bool b]else .p x)))):G S P F (.ops all (o::rest) K st):=by
 refine Aw1 hS (out:=⟨Pw P kt,if ok then .tup [.p x,.bool b]else .p x,regs⟩) hg ?_ (fun c hc'=>by rw[ho]at hc';cases hc') (fun x hx'=>by rw[ho]at hx';cases hx') hc hn;rw[ho];simp only[aop,hv,hm,IQ,ht,hk,hr,hf];cases fd with
 |some y=>simp only[AS0,AU5]at hx;obtain⟨rfl,rfl⟩:=hx;rfl
 |none=>
  simp only at hx⊢;cases hz:KO P e with
  |none=>simp[hz]at hx
  |some z=>simp only[hz,AT0,AS0,AU5]at hx;obtain⟨rfl,rfl⟩:=hx;rfl
theorem Ur (hS:G9 S P){all rest:List Oper}{o:Oper}{t:TypeId}{m k x:Operand}{key y:PV}{regs:D1}{j:Nat}{es es' : List (PV×PV)}{kt e:TypeId}
 (hg:Cn all st.env o=some true) (ho:o.op=.mapUpdate t m k x) (hk0:aev st.env k=.p key) (hv:HE st.regs (aev st.env x)=some (y,regs)) (hm:aev st.env m=.mref j) (hr:A2 regs j=some (.map es))
 (ht:tk P t=some (.map kt e)) (hk:Kf P kt (nP key)=true) (hu:upd (MX P kt) (nP key) y es=some es') (hc:D9 (Pw P kt))
 (hn:G S P F (.ops all rest K (put { st with regs:=ins j (.map es') regs } o.dst Xx))):G S P F (.ops all (o::rest) K st):=by
 refine Aw1 hS (out:=⟨Pw P kt,Xx,ins j (.map es') regs⟩) hg ?_ (fun c hc'=>by rw[ho]at hc';cases hc') (fun x hx'=>by rw[ho]at hx';cases hx') hc hn;rw[ho];simp only[aop,hv,hm,hk0,ht,hk,hr,hu]
end
end Go.AM
set_option linter.unusedVariables false
namespace Go.AM
abbrev Str:=List UInt8
structure Sl (α : Type) where
 n:Nat
 g:Nat -> α
instance {α : Type} [Inhabited α]:Inhabited (Sl α):=⟨⟨0,fun _=>default⟩⟩
namespace Sl
variable {α : Type}
def toList (s:Sl α):List α:=(List.range s.n).map s.g
abbrev nil [Inhabited α]:Sl α:=⟨0,fun _=>default⟩
abbrev rep (n:Nat)(a : α):Sl α:=⟨n,fun _=>a⟩
abbrev sub (s:Sl α)(a b:Nat):Sl α:=⟨b-a,fun i=>s.g (a+i)⟩
abbrev drop (s:Sl α)(a:Nat):Sl α:=⟨s.n-a,fun i=>s.g (a+i)⟩
abbrev take (s:Sl α)(b:Nat):Sl α:=⟨b,s.g⟩
abbrev push (s:Sl α)(a : α):Sl α:=⟨s.n+1,fun i=>if i<s.n then s.g i else a⟩
abbrev app (s t:Sl α):Sl α:=⟨s.n+t.n,fun i=>if i<s.n then s.g i else t.g (i-s.n)⟩
abbrev upd (s:Sl α)(k:Nat)(a : α):Sl α:=⟨s.n,fun i=>if i=k then a else s.g i⟩
abbrev of [Inhabited α](l:List α):Sl α:=⟨l.length,fun i=>l.getD i default⟩
end Sl
abbrev vSl {α : Type}(k:Nat)(c : α -> List PV)(s:Sl α):PV:=.sl false k s.n fun i=>c (s.g i)
abbrev pI (k:IntKind)(n:Int):PV:=.v (.int k n)
abbrev Z4 (l:Str)(i:Int):Int:=(((l.getD i.toNat 0).toNat:Nat):Int)
abbrev pN (n:Int):AV:=.p (.v (.int .i64 n))
abbrev pU (n:Int):AV:=.p (.v (.int .u32 n))
abbrev pB (b:Bool):AV:=.p (.bb b)
abbrev I5:PV:=.v (.slice none 0 0)
section
variable {R:Type}
def U3 {A:Type}(N:Nat)(body:(A->Option R)->A->Option R):A->Option R:=match N with
 |0=>fun _=>none
 |N+1=>fun a=>body (U3 N body) a
variable {A B C D E F G H:Type}
def P6 (N:Nat)(body:(A->B->Option R)->A->B->Option R)(a:A)(b:B):Option R:=U3 N (fun self x=>body (fun a b=>self (a,b)) x.1 x.2) (a,b)
def AC6 (N:Nat)(body:(A->B->C->Option R)->A->B->C->Option R)(a:A)(b:B)(c:C):Option R:=U3 N (fun self x=>body (fun a b c=>self (a,b,c)) x.1 x.2.1 x.2.2) (a,b,c)
def Ak6 (N:Nat)(body:(A->B->C->D->Option R)->A->B->C->D->Option R)(a:A)(b:B)(c:C)(d:D):Option R:=U3 N (fun self x=>body (fun a b c d=>self (a,b,c,d)) x.1 x.2.1 x.2.2.1 x.2.2.2) (a,b,c,d)
theorem P0 {N:Nat}{body:(A->Option R)->A->Option R}{a:A}:U3 (N+1) body a=body (U3 N body) a:=rfl
theorem D3 {N:Nat}{body:(A->B->Option R)->A->B->Option R}{a:A}{b:B}:P6 (N+1) body a b=body (P6 N body) a b:=rfl
theorem S6 {N:Nat}{body:(A->B->C->D->Option R)->A->B->C->D->Option R}{a:A}{b:B}{c:C}{d:D}:Ak6 (N+1) body a b c d=body (Ak6 N body) a b c d:=rfl
def lt {K:Type}(k:K)(f:K->Option R):Option R:=f k
end
section
variable {R X Y:Type}{r:R}
theorem itT {b:Bool}{x y:Option R}(hb:b=true)(h:(if b=true then x else y)=some r):x=some r:=by rwa [if_pos hb]at h
theorem itF {b:Bool}{x y:Option R}(hb:b=false)(h:(if b=true then x else y)=some r):y=some r:=by rwa [if_neg (by simp[hb])]at h
theorem D8 {p:Prop}[Decidable p]{x:Option R}(h:(if p then x else none)=some r):p/\x=some r:=by
 split at h
 ·exact⟨by assumption,h⟩
 ·cases h
theorem B7 {x:Option X}{f:X->Option R}(h:x.bind f=some r):∃a,x=some a/\f a=some r:=AZ8.1 h
theorem B5 {a b:R}(h:some a=some b):a=b:=AU4 h
end
section
variable {S:Br}{P:Program}{F:J3}{K:List It}{st:St}
theorem A4 (hS:G9 S P){n:Nat}{rs:List ResultVar}{Q:KQ->List Obj->List Bool->Prop}(s:St)(h:S.up s (BP S P n rs Q .normal)):BP S P n rs Q .normal s:=hS.trans _ _ h
theorem AM7 (hS:G9 S P){b:Code}{R A:Type}{body:(A->Option R)->A->Option R}{N:Nat}{a0:A}{r:R}(h:U3 N body a0=some r)(s:A->St)(ids:List (Nat×Nat))(hle:Le ids st (s a0))
 (hr:∀(X:Type) (s' : X->St) (J:X->Prop) (m:X->Nat) (n:Nat) (self:A->Option R) (a:A),(∀st ids a,Le ids st (s a)->self a=some r->G S P F (.pop .normal (.lp X s' J m n::K) st))->body self a=some r->G S P F (.code b (.lp X s' J m n::K) (s a))) :
 G S P F (.code (.loop b) K st):=by
 refine Aw2 hS (X:=Nat×A) (fun x=>s x.2) (fun x=>U3 x.1 body x.2=some r) (fun x=>x.1) (N,a0) ids hle h ?_;rintro⟨n,a⟩ hx;cases n with
 |zero=>cases hx
 |succ n=>exact hr _ _ _ _ _ (U3 n body) a (fun st ids a hle h=>ZR hS (n,a) ids hle h (Nat.lt_succ_self n)) hx
theorem Ac1 (hS:G9 S P){all rest:List Oper}{o:Oper}(t:St)(ids:List (Nat×Nat))(hle:Le ids st t)(h:G S P F (.ops all (o::rest) K t)):G S P F (.ops all (o::rest) K st):=
 ZQ hS (hS.le ids _ _ _ hle h)
end
theorem pm:(∀b,(true||b)=true)/\(∀b,(b||true)=true)/\(∀b,(false||b)=b)/\(∀b,(b||false)=b)/\(∀b,(true&&b)=b)/\(∀b,(b&&true)=b)/\(∀b,(false&&b)=false)/\(∀b,(b&&false)=false)/\((!true)=false)/\((!false)=true)/\((false=true)=False)/\((true=true)=True):=by refine⟨?_,?_,?_,?_,?_,?_,?_,?_,?_,?_,?_,?_⟩<;>simp
section
variable {regs:D1}{ids:List (Nat×Nat)}
variable {env r:Env}{t:Nat}{a b:AV}{x y:PV}
theorem eP (hg:get env t=a)(h:viewP regs a=some y)(h' : KT regs ids env r):KT regs ids env ((t,.p y)::r):=Aw3 hg (le_p h) h'
theorem eM {i j:Nat}(hg:get env t=.mref i)(h:lk ids j=some i)(h' : KT regs ids env r):KT regs ids env ((t,.mref j)::r):=Aw3 hg (ZS h) h'
theorem Fc {α : Type}{c : α -> List PV}{n:Nat}{v:Sl α}{f:Nat->List PV}{z cs:List PV}{x : α}(h:∀i,i<n->f i=c (v.g i))(hn:n=v.n)(hx:cs=c x):∀i,i<n+1->R9 n f (D4 z [(0,cs)]) i=c ((v.push x).g i):=by
 subst hn hx;intro i hi;show (if i<v.n then f i else D4 z [(0,c x)] (i-v.n))=c (if i<v.n then v.g i else x);split
 ·exact h i ‹_›
 ·obtain rfl:i=v.n:=by omega
  simp[D4]
theorem Ya {α : Type}{c : α -> List PV}{n m:Nat}{v w:Sl α}{f g:Nat->List PV}(h:∀i,i<n->f i=c (v.g i))(hn:n=v.n)(h' : ∀i,i<m->g i=c (w.g i))(hm:m=w.n):∀i,i<n+m->R9 n f g i=c ((v.app w).g i):=by
 subst hn hm;intro i hi;show (if i<v.n then f i else g (i-v.n))=c (if i<v.n then v.g i else w.g (i-v.n));split
 ·exact h i ‹_›
 ·exact h' _ (by omega)
theorem Ao9 {α : Type}{c : α -> List PV}{n k:Nat}{v:Sl α}{f:Nat->List PV}{e:Nat->List PV}{x : α}(h:∀i,i<n->f i=c (v.g i))(hx:k<n->e k=c x):∀i,i<n->(fun l=>if l=k then e l else f l) i=c ((v.upd k x).g i):=by
 intro i hi;show (if i=k then e i else f i)=c (if i=k then x else v.g i);split
 ·subst_vars;exact hx hi
 ·exact h i hi
theorem same {n:Nat}{f:Nat->List PV}:∀i,i<n->f i=f i:=fun _ _=>rfl
end
end Go.AM
namespace Go.AM
abbrev cI (k:IntKind)(n:Int):List PV:=[.v (.int k n)]
abbrev cB (b:Bool):List PV:=[.bb b]
abbrev cS (s:Str):List PV:=[.str s]
abbrev cL {α : Type}(k:Nat)(c : α -> List PV)(s:Sl α):List PV:=[vSl k c s]
section
variable {S:Br}{P:Program}{F:J3}{K:List It}{st:St}
end
section
variable {regs:D1}{ids:List (Nat×Nat)}
theorem le_yf {i j:Nat}(h:lk ids j=some i):leA regs ids (.yf i) (.yf j):=by unfold leA;exact⟨i,h,rfl⟩
theorem AM8 {l m:List AV}(h:leL regs ids l m):leA regs ids (.tup l) (.tup m):=by unfold leA;exact⟨l,rfl,h⟩
theorem AM9 {l m:List AV}(h:leL regs ids l m):leA regs ids (.agr l) (.agr m):=by unfold leA;exact⟨l,rfl,h⟩
end
end Go.AM
namespace Go.AM
def Oq {κ ν : Type}(kP : κ -> PV)(vP : ν -> PV)(es:List (κ × ν)):List (PV×PV):=es.map fun p=>(kP p.1,vP p.2)
def CR {κ ν : Type}(eq : κ -> κ -> Bool)(k : κ):List (κ × ν)->Option ν
 |[]=>none
 |(a,v)::es=>if eq k a=true then some v else CR eq k es
def PT {κ ν : Type}(eq : κ -> κ -> Bool)(k : κ)(v : ν):List (κ × ν)->List (κ × ν)
 |[]=>[(k,v)]
 |(a,x)::es=>if eq k a=true then (k,v)::es else (a,x)::PT eq k v es
theorem Us {κ ν : Type}(kP : κ -> PV)(vP : ν -> PV)(es:List (κ × ν)):(Oq kP vP es).length=es.length:=by simp[Oq]
theorem Fy {κ ν : Type}{kP : κ -> PV}{vP : ν -> PV}{cmp:PV->PV->Option Bool}{eq : κ -> κ -> Bool}(hc:∀a b,cmp (kP a) (kP b)=some (eq a b))(k : κ):∀es:List (κ × ν),find cmp (kP k) (Oq kP vP es)=some ((CR eq k es).map vP)
 |[]=>rfl
 |(a,v)::es=>by
  show (match cmp (kP k) (kP a)with|some true=>some (some (vP v))|some false=>find cmp (kP k) (Oq kP vP es)|none=>none)=some ((CR eq k ((a,v)::es)).map vP);rw[hc];simp only[CR];cases h:eq k a
  ·simpa using Fy hc k es
  ·rfl
theorem KC {κ ν : Type}{kP : κ -> PV}{vP : ν -> PV}{cmp:PV->PV->Option Bool}{eq : κ -> κ -> Bool}(hc:∀a b,cmp (kP a) (kP b)=some (eq a b))(k : κ)(x : ν):∀es:List (κ × ν),upd cmp (kP k) (vP x) (Oq kP vP es)=some (Oq kP vP (PT eq k x es))
 |[]=>rfl
 |(a,v)::es=>by
  show (match cmp (kP k) (kP a)with|some true=>some ((kP k,vP x)::Oq kP vP es)|some false=>(upd cmp (kP k) (vP x) (Oq kP vP es)).map ((kP a,vP v) :: ·)|none=>none)=some (Oq kP vP (PT eq k x ((a,v)::es)));rw[hc];simp only[PT];cases h:eq k a
  ·simp only[KC hc k x es,AT0,if_false,AS6];rfl
  ·rfl
abbrev eqS (a b:Str):Bool:=a==b
def AJ6 {X Y:Type}(o:Option X)(a:Y)(f:X->Y):Y:=match o with
 |none=>a
 |some x=>f x
theorem optN {X R:Type}{r:R}{o:Option X}{a:Option R}{f:X->Option R}(ho:o=none)(h:AJ6 o a f=some r):a=some r:=by subst ho;exact h
theorem optS {X R:Type}{r:R}{o:Option X}{x:X}{a:Option R}{f:X->Option R}(ho:o=some x)(h:AJ6 o a f=some r):f x=some r:=by subst ho;exact h
theorem RK {X Y:Type}(a:Y)(f:X->Y):AJ6 none a f=a:=rfl
theorem Ac2 {X Y:Type}(x:X)(a:Y)(f:X->Y):AJ6 (some x) a f=f x:=rfl
section
variable {R T A B C D:Type}
def iter0 (L:List T)(body:Option R->T->Option R)(k:Option R):Option R:=match L with
 |[]=>k
 |t::L=>body (iter0 L body k) t
def K0 (L:List T)(body:(A->Option R)->T->A->Option R)(k:A->Option R)(a:A):Option R:=match L with
 |[]=>k a
 |t::L=>body (K0 L body k) t a
end
section
variable {S:Br}{P:Program}{F:J3}{K:List It}{st:St}
theorem AC7 (hS:G9 S P){g:Operand}{ps:Array Tmp}{asg body:Code}{f:FuncId}{first caps as bs:List AV}{objs:List Obj}{R T A:Type}{enc:T->List PV}{L:List T}{mb:(A->Option R)->T->A->Option R}{mk:A->Option R}{a0:A}{r:R}
 (ids ts:List Nat) (gh:Nat) (s:A->St) (idl:List (Nat×Nat)) (h:K0 L mb mk a0=some r) (hF:Dn S f as bs objs (L.map enc))
 (hp:DC st.env g=some (f,first,caps)) (hfn:∃fn,P.funcs[f]? = some fn/\fn.body.isSome=true/\(fn.name == "runtime.NumGoroutine")=false) (hob:J4 ids st.regs ids=some objs) (hny:DV objs=true) (hd:F7 ids=true) (hr1:Cx ids first=some as) (hr2:Cx ids caps=some bs) (hol:objs.length=ids.length)
 (hgh:Nat.blt gh 1000=true) (hng:A2 st.regs gh=none) (hil:Nat.blt ids.length 1000=true) (hts:F7 ts=true) (hlen:∀t:T,(enc t).length=ps.size)
 (hle:Le idl ⟨V4 ts (ts.map (get st.env)),O0 ids (ids.map fun _=>false) st.regs⟩ (s a0)) (hk:∀a,(s a).env.map (·.1)=ts) (hn:∀a,A2 (s a).regs gh=none)
 (hround:∀(t:T) (next:St->Prop) (self:A->Option R) (a:A),(∀(st st1:St) (cs:List AV) (idl:List (Nat×Nat)) (a:A),Le idl st st1->A2 st1.regs gh=some (.ghost cs)->cs.length=ts.length->A2 (del gh st1.regs) gh=none->(⟨V4 ts cs,del gh st1.regs⟩:St)=s a->self a=some r->G S P (DE S gh ts next (kp S P K F)) (.pop .normal [] st)) ->
  mb self t a=some r->G S P (Bb S P body gh ts next (kp S P K F)) (.code asg [] ⟨HG ps.toList (enc t) (s a).env,ins gh (.ghost ((s a).env.map (·.2))) (s a).regs⟩))
 (hend:∀a,mk a=some r->G S P F (.pop .normal K (s a))):G S P F (.code (.rangeFunc g ps asg body) K st):=by
 refine Ab9 hS ids ts gh (L.map enc) s (fun rest a=>∃L',rest=L'.map enc/\K0 L' mb mk a=some r) a0 idl hp hfn hob hny hd hr1 hr2 hol (by simpa[Bb2]using hgh) hng (by simpa[Bb2]using hil) hts (fun ys hy=>?_) hF hle ⟨L,rfl,h⟩ hk hn ?_ ?_
 ·obtain⟨t,_,rfl⟩:=AY4.1 hy;exact hlen t
 ·rintro ys rest a ⟨L',hL,hx⟩;cases L' with
  |nil=>cases hL
  |cons t L'=>simp only[AU8,Ba1]at hL;obtain⟨rfl,rfl⟩:=hL;refine hround t _ (K0 L' mb mk) a (fun st st1 cs idl a hle h1 h2 h3 h4 h5=>?_) hx;exact Up hS st1 a idl hle h1 h2 h3 h4 ⟨L',rfl,h5⟩
 ·rintro a ⟨L',hL,hx⟩;cases L' with
  |nil=>exact hend a hx
  |cons t L'=>cases hL
theorem Ap0 (hS:G9 S P){g:Operand}{ps:Array Tmp}{asg body:Code}{f:FuncId}{first caps as bs:List AV}{objs:List Obj}{R T A:Type}{enc:T->List PV}{L:List T}{mb:(A->Option R)->T->A->Option R}{mk:A->Option R}{a0:A}{r0:R}
 (ids ts:List Nat) (gh:Nat) (s:A->R->St) (idl:List (Nat×Nat)) (h:K0 L mb mk a0=some r0) (hF:Dn S f as bs objs (L.map enc))
 (hp:DC st.env g=some (f,first,caps)) (hfn:∃fn,P.funcs[f]? = some fn/\fn.body.isSome=true/\(fn.name == "runtime.NumGoroutine")=false) (hob:J4 ids st.regs ids=some objs) (hny:DV objs=true) (hd:F7 ids=true) (hr1:Cx ids first=some as) (hr2:Cx ids caps=some bs) (hol:objs.length=ids.length)
 (hgh:Nat.blt gh 1000=true) (hng:A2 st.regs gh=none) (hil:Nat.blt ids.length 1000=true) (hts:F7 ts=true) (hlen:∀t:T,(enc t).length=ps.size)
 (hle:Le idl ⟨V4 ts (ts.map (get st.env)),O0 ids (ids.map fun _=>false) st.regs⟩ (s a0 r0)) (hk:∀a r,(s a r).env.map (·.1)=ts) (hn:∀a r,A2 (s a r).regs gh=none)
 (hround:∀(t:T) (next:St->Prop) (self:A->Option R) (a:A) (r:R),(∀(st st1:St) (cs:List AV) (idl:List (Nat×Nat)) (a:A) (r:R),Le idl st st1->A2 st1.regs gh=some (.ghost cs)->cs.length=ts.length->A2 (del gh st1.regs) gh=none->(⟨V4 ts cs,del gh st1.regs⟩:St)=s a r->self a=some r->G S P (DE S gh ts next (kp S P K F)) (.pop .normal [] st)) ->
  mb self t a=some r->G S P (Bb S P body gh ts next (kp S P K F)) (.code asg [] ⟨HG ps.toList (enc t) (s a r).env,ins gh (.ghost ((s a r).env.map (·.2))) (s a r).regs⟩))
 (hend:∀a r,mk a=some r->G S P F (.pop .normal K (s a r))):G S P F (.code (.rangeFunc g ps asg body) K st):=by
 refine Ab9 hS ids ts gh (L.map enc) (fun x:A×R=>s x.1 x.2) (fun rest x=>∃L',rest=L'.map enc/\K0 L' mb mk x.1=some x.2) (a0,r0) idl hp hfn hob hny hd hr1 hr2 hol (by simpa[Bb2]using hgh) hng (by simpa[Bb2]using hil) hts (fun ys hy=>?_) hF hle ⟨L,rfl,h⟩ (fun x=>hk x.1 x.2) (fun x=>hn x.1 x.2) ?_ ?_
 ·obtain⟨t,_,rfl⟩:=AY4.1 hy;exact hlen t
 ·rintro ys rest ⟨a,r⟩ ⟨L',hL,hx⟩;cases L' with
  |nil=>cases hL
  |cons t L'=>simp only[AU8,Ba1]at hL;obtain⟨rfl,rfl⟩:=hL;refine hround t _ (K0 L' mb mk) a r (fun st st1 cs idl a r hle h1 h2 h3 h4 h5=>?_) hx;exact Up hS st1 (a,r) idl hle h1 h2 h3 h4 ⟨L',rfl,h5⟩
 ·rintro⟨a,r⟩ ⟨L',hL,hx⟩;cases L' with
  |nil=>exact hend a r hx
  |cons t L'=>cases hL
end
end Go.AM
namespace Go.AM
section
variable {S:Br}{P:Program}{all:List Oper}{k:Env->D1->Prop}
end
end Go.AM
