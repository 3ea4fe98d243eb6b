/- Part 2. -/
import Derived.Test.YthnfmkeomcncgaaGreatDoorMA
import Derived.Laws.IdiomRangeMap
import Derived.RangeFuncRecord
import Derived.Lib.TrailingZeros
import Derived.Lib.ItoaNum
import Derived.ProofKit
import Derived.WideKeyArgs
import Derived.Deep.Slices
import Derived.OpenShut
set_option linter.defProp false
set_option linter.unusedSimpArgs false
set_option linter.unusedVariables false
set_option linter.unusedSectionVars false
namespace Go.AM
def Lq:=@decide_eq_true_eq
def Cd8:=@Option.bind_some
def Cg4:=@List.append_nil
def Cg6:=@Bool.or_eq_true
def Cg7:=@BitVec.eq_of_toNat_eq
def Cg8:=@Go.World.putObj_size
def Ch2:=@Array.getElem?_eq_some_iff
def Ch6:=@List.contains_eq_mem
def Ch7:=@List.mem_append_left
def Ci1:=@List.mem_append_right
def Ci2:=@List.mem_cons
def Ci4:=@Go.World.putObj_heap_other
def Ci7:=@List.mem_cons_of_mem
def Cj3:=@List.mem_of_getElem?
def Cj6:=@List.nodup_cons
def Ck0:=@List.mem_iff_getElem?
def Ck7:=@Classical.byContradiction
def Cl0:=@List.mem_map
def Cm6:=@Bool.false_and
def Cm7:=@Nat.shiftRight_eq_div_pow
def Cm9:=@Nat.pow_le_pow_right
def Cn0:=@BitVec.toNat_ushiftRight
def Co1:=@List.length_eq_zero_iff
def Co5:=@List.nodup_nil
def Cp0:=@Array.getElem?_append
def Cp1:=@List.take_append_drop
def Cp4:=@Bool.and_true
def Cq2:=@List.mem_filter
def Cq4:=@List.length_eq_one_iff
def Cq5:=@BitVec.toNat_shiftLeft
def Cr0:=@Nat.min_eq_right
def Cr2:=@Go.World.alloc_heap_new
def Cr6:=@List.getElem?_append_right
def Cr7:=@Int.fdiv_eq_ediv_of_nonneg
def Cr9:=@List.drop_zero
def Cs1:=@Go.Oper.uponIn_value
def Ct1:=@Nat.le_of_not_lt
def Ct2:=@List.getElem_mem
def Ct3:=@Nat.shiftLeft_eq
def Ct7:=@Go.World.putObj_heap_same
def Cu8:=@Array.size_map
def Cv3:=@Array.all_eq_true'
def Cv4:=@Int.natCast_nonneg
def Cv9:=@List.all_nil
def Cw0:=@Nat.le_of_eq
section
variable {P:Program}{C:Ctx}{st:St}{a:Act}{w:World}{rho:Nat->Value}{o:Oper}{d:Nat}{out:Out}
def Bp7 (h:Sat C st a w rho){t:TypeId}{x:Operand}(l:o.op=.range t x)(g:aop P st.env st.Uu d o.op=some out):OpOk P C o st a w rho out:=by
 rw[l]at g;simp only[aop]at g
 repeat' split at g<;>try contradiction
 rename_i kt vt j ht hx _ _ es n hn;cases g;have c:=h.aev x;rw[hx]at c;obtain⟨r,q,s,i⟩:∃r,a.eval x=.map (some r)/\Lv (A2 st.Uu) j/\rho j=.map (some r):=by generalize a.eval x=z at c;cases c<;>grind
 have m:=h.hp.holds j _ n;rw[i]at m;obtain⟨b,Ya,clock,hb,h1,u,h3,v,h5⟩:=m;cases hb;have f:j≠nid d 0:=by grind
 have y:clock=es.length:=v.trans u;obtain⟨k1,k2,k3⟩:=h.fresh (Dp d 0) hn (.blk [1,es.length,es.length] j) (.pointer (some ⟨w.heap.size,0,none⟩)) (w':=w.alloc (.mapIter (some r) clock #[] clock)) (by simp)
  (λb hb=>heap_alloc_old w _ hb) (λb hb=>by grind[G0,R8]) (λhk=>by
   refine⟨by simp_all[Lv,A4,Js,Cl4],?_,w.heap.size,rfl,?_⟩
   .simp only[Js f,i];exact⟨by grind,λe=>by cases e⟩
   simp only[Js f,i];rw[heap_alloc_new w _]
   grind[Cc3])
 refine⟨_,_,_,_,?_,.inl rfl,k1,⟨k2,k3⟩,.reg _ 0 w.heap.size (by simp[Lv,A4]) (by simp)⟩;have hu:P.underlying t=some (.map kt vt):=Nd ht;simp[execOp,l,q,run_range_map w t kt vt r Ya clock hu h1]
def Ap4 (w:World)(ty:TypeId)(b bm since c0:Nat)(seen:Array Nat)(es:Array MapEntry)(clock:Nat)(l:w.heap[b]? = some (.mapIter (some bm) since seen c0))(hb:w.heap[bm]? = some (.map es clock))(a:∀x∈es.toList,x.born<since)(f:since<=c0) :((leftOf es seen).size=0/\(Instr.next (.pointer (some ⟨b,0,none⟩)) false ty).run P w=.ok (.tuple #[.bool false]) w) \/
 ∃e∈(leftOf es seen).toList,∃w1:World,(w1=w \/ w1=w.drew)/\(Instr.next (.pointer (some ⟨b,0,none⟩)) false ty).run P w=.ok (.tuple #[.bool true,e.key,e.val]) { w1 with heap:=w1.heap.setIfInBounds b (.mapIter (some bm) since (seen.push e.born) clock) }:=by
 simp only[Instr.next,getObj,Cg2,Sem.run,l,hb,Result.andThen,next_test_false seen es since c0 a f,Ce4,Lp];unfold leftOf;have c:∀x∈(Array.filter (λe=>!seen.contains e.born) es).toList,x.born<since:=(by grind);generalize Array.filter (λe=>!seen.contains e.born) es=L at c⊢;have e1:L.filter (λx=>decide (x.born<since))=L:=Array.filter_eq_self.2 (by grind);have e2:L.filter (λx=>decide (x.born >= since)) = #[]:=by
  rw[Array.filter_eq_empty_iff]
  grind
 simp only[e1,e2,Array.append_empty];by_cases o:L.size=0
 .left
  have:L = #[]:=Array.eq_empty_of_size_eq_zero o
  subst this;refine⟨rfl,?_⟩;simp[choose,Sem.run,Question.forced]
 right
 have g:L.isEmpty=false:=by grind
 simp only[g,Ce4,Lp,Array.empty_append,Cu8];have i:∃(j:Nat) (w1:World),j<L.size/\(w1=w \/ w1=w.drew)/\(choose (Question.mapNext L.size)).run P w=.ok j w1:=by
  by_cases q:L.size<=1
  .exact⟨0,w,by omega,.inl rfl,by grind[choose,Sem.run,Question.forced]⟩
  exact⟨_,w.drew,Nat.mod_lt _ (by omega),.inr rfl,by simp only[choose,Sem.run,Question.forced,Lq,q,Lp,Question.cut];rfl⟩
 obtain⟨j,w1,s,d,m⟩:=i;refine⟨L[j],by simp,w1,d,?_⟩;have r:w1.heap[b]? = some (.mapIter (some bm) since seen c0):=by rcases d with rfl|rfl<;>exact l
 have n:∀o' : Go.Obj,(setObj b o').run P w1=.ok () { w1 with heap:=w1.heap.setIfInBounds b o' }:=λo'=>by
  grind[setObj,Sem.run]
 simp_all
def BI7 (h:Sat C st a w rho){x:Operand}(ho:o.op=.next x false){j cl last jm:Nat}{seen:List Nat}{es:List (PV×PV)}(hx:aev st.env x=.reg j 0)(hj:A2 st.Uu j=some (.blk (1::cl::last::seen) jm))(hm:A2 st.Uu jm=some (.map es))(hcl:cl=es.length)(m:cl<=last) :((∀i,i<es.length->i∈seen)/\OpOk P C o st a w rho ⟨[],.tup [.p (.bb false)],st.Uu⟩) \/
 ∃i,i<es.length/\i ∉ seen/\OpOk P C o st a w rho ⟨[],.tup [.p (.bb true),.p (es.getD i default).1,.p (es.getD i default).2],ins j (.blk (1::cl::es.length::(i::seen)) jm) st.Uu⟩:=by
 have hne:j≠jm:=by grind
 obtain⟨hljm,r,b,a0,g⟩:=h.hp.holds j _ hj;obtain⟨bm,Ya,clock,a1,a2,hsz,s,hclk,c⟩:=h.hp.holds jm _ hm;have n:=h.aev x;rw[hx]at n;have hv:a.eval x=.pointer (some ⟨b,0,none⟩):=by generalize a.eval x=z at n;cases n<;>grind
 rw[a1]at g;have g:w.heap[b]? = some (.mapIter (some bm) cl seen.reverse.toArray last):=g;have t:∀y∈Ya.toList,y.born<cl:=by
  intro y hy;obtain⟨i,l,rfl⟩:=Ck5 hy;have d : i<Ya.size:=by omega
  have hb:(Ya.toList[i]).born=i:=by have:=c i d;simpa[Array.getD,d]using this
  omega
 have f:∀e,e∈(leftOf Ya seen.reverse.toArray).toList ↔ ∃i,i<es.length/\i ∉ seen/\e=Ya.getD i default/\e.born=i:=by
  intro e;simp only[leftOf,Array.toList_filter,Cq2,Cf6,List.contains_toArray,Ch6,decide_eq_false_iff_not,List.mem_reverse];constructor
  .rintro⟨h1,h2⟩;obtain⟨i,l,rfl⟩:=Ck5 h1;have d : i<Ya.size:=by omega
   have hb:=c i d;have e1:Ya.getD i default=Ya.toList[i]:=by simp[d]
   rw[e1]at hb
   grind
  simp_all
 rcases Ap4 (P:=P) w o.type b bm cl last seen.reverse.toArray Ya clock g a2 t m with⟨g1,g2⟩ | ⟨e,he,w1,u,g2⟩
 .refine .inl ⟨λi l=>?_,?_⟩
  .refine Ck7 λhs=>?_
   have:=(f (Ya.getD i default)).2 ⟨i,l,hs,rfl,c i (by omega)⟩
   have hl:(leftOf Ya seen.reverse.toArray).toList.length=0:=by omega
   rw[Co1.1 hl]at this
   grind
  exact OpOk.pure (v:=.tuple #[.bool false]) h (by simp_all[execOp]) (.tup _ _ rfl λi l=>match i,l with
   |0,_=>.p _ _ (.bb _)
   |_+1,l=>by grind)
 obtain⟨i,l,hs,a3,hb⟩:=(f e).1 he;refine .inr ⟨i,l,hs,?_⟩;have hlt:b<w.heap.size:=(by grind);have hh1:w1.heap=w.heap:=by rcases u with rfl|rfl<;>rfl
 have hbb:bm≠b:=by grind
 obtain⟨k1,k2,k3⟩:=h.modify (ob:=.blk (1::cl::es.length::(i::seen)) jm) hj (b:=b) (by grind[G0,R8]) (λ_=>trivial) (λb' hb'=>by grind[G0,R8])
  (w':={ w1 with heap:=w1.heap.setIfInBounds b (.mapIter (some bm) cl (seen.reverse.toArray.push e.born) clock) }) (by grind) (by grind) (λhk=>by
   refine⟨by simp_all[Lv,A4,Js],⟨r.1,λe=>by cases e⟩,b,a0,?_⟩
   grind[Array.getElem?_setIfInBounds_self_of_lt,Cc3]) (hext:=by rcases u with rfl|rfl<;>exact⟨rfl,rfl⟩)
 refine⟨_,.tuple #[.bool true,e.key,e.val],_,_,?_,.inl rfl,k1,⟨k2,k3⟩,?_⟩
 .simp_all[execOp]
 obtain⟨r1,r2⟩:=s i l;rw[<- a3]at r1 r2;exact .tup _ _ rfl λq hq=>match q,hq with
  |0,_=>.p _ _ (.bb _)
  |1,_=>.p _ _ (r1.keeps k2)
  |2,_=>.p _ _ (r2.keeps k2)
  |_+3,hq=>by grind
def Bp8 (h:Sat C st a w rho){x:Operand}(ho:o.op=.entry x)(r:aop P st.env st.Uu d o.op=some out)(hc:D2 out.cond):OpOk P C o st a w rho out:=by
 rw[ho]at r;simp only[aop]at r
 repeat' split at r<;>try contradiction
 rename_i j hx _ cl last jm _ _ es i seen hm hj;cases r;obtain⟨rfl,hi⟩:last=es.length/\i<es.length:=by grind[D2]
 obtain⟨hljm,htup,b,hrj,f⟩:=h.hp.holds j _ hj;obtain⟨bm,Ya,clock,t,u,y,m,n,c⟩:=h.hp.holds jm _ hm;have g:=h.aev x;rw[hx]at g;have hv:a.eval x=.pointer (some ⟨b,0,none⟩):=by generalize a.eval x=z at g;cases g<;>grind
 rw[t]at f;have f:w.heap[b]? = some (.mapIter (some bm) cl (i::seen).reverse.toArray es.length):=f;have a0 : i<Ya.size:=by omega
 have hf:Ya.find? (·.born==i)=some (Ya.getD i default):=by
  rw[<- Array.find?_toList];have hn:(Ya.toList.map (·.born)).Nodup:=by
   have:Ya.toList.map (·.born)=List.range Ya.size:=by
    refine List.ext_getElem (by simp) λq h1 h2=>?_;have s:q<Ya.size:=by grind
    have:=c q s
    simp_all
   rw[this];grind
  have a1:Ya.getD i default∈Ya.toList:=by simp_all
  have:=find_born (Ya.getD i default) Ya.toList hn a1
  rw[c i a0]at this;omega
 obtain⟨r1,r2⟩:=m i hi;refine OpOk.pure (v:=.tuple #[(Ya.getD i default).key,(Ya.getD i default).val]) h ?_ (.tup _ _ rfl λq s=>match q,s with
  |0,_=>.p _ _ r1
  |1,_=>.p _ _ r2
  |_+2,s=>by grind)
 have l:(i::seen).reverse.toArray.back? = some i:=by grind
 simp only[execOp,ho,hv,Instr.entry,getObj,Cg2,Sem.run,f,u,Result.andThen,l,n.trans y,bne_self_eq_false,Ce4,Lp,hf];rfl
theorem AZ8 (h:Sat C st a w rho)(f:bop P st.Uu d o.op=some out):OpOk P C o st a w rho out:=by
 unfold bop at f
 repeat' split at f<;>try contradiction
 rename_i t ho _ _ _ _ e hb q hn g;cases f;obtain⟨i,v,hi,s,u⟩:=CX q;have c:nid d 1≠nid d 0:=by grind[nid]
 obtain⟨a1,a2,a3⟩:=h.fresh (j:=nid d 1) (by have:=Dp d 1;omega) g (.vec e 1 0 (λ_=>[]) false) (.slice none 0 0) (w':=w) (Ce5 _) (λ_ _=>rfl) (λb hb=>by grind[G0,R8]) (λ_=>.inl ⟨rfl,rfl⟩);have l:A2 (ins (nid d 1) (.vec e 1 0 (λ_=>[]) false) st.Uu) (nid d 0)=none:=by rw[A4,Js c];omega
 have m:v.cells = #[.pointer none,.slice none 0 0]:=by
  have hl:v.cells.toList.map Uf=[.v (.pointer none),.v (.slice none 0 0)]:=u.symm
  match hc:v.cells.toList,hl with
  |[],hl=>grind
  |[x],hl=>grind
  |x::y::z::r,hl=>grind
  |[x,y],hl=>simp at hl;have hx:=O6 w (λ_ _=>False) x;have hy:=O6 w (λ_ _=>False) y;rw[hl.1]at hx;rw[hl.2]at hy;rw[<- Array.toList_inj,hc,hx.toV,hy.toV]
 obtain⟨k1,k2,k3⟩:=a1.fresh (Dp d 0) l (.blk [0,t,0] (nid d 1)) (.pointer (some ⟨w.heap.size,0,none⟩)) (w':=w.alloc (.cells v.cells t)) (by simp)
  (λb hb=>heap_alloc_old w _ hb) (λb hb=>by grind[G0,R8]) (λhk=>by
   refine⟨by simp_all[Lv,A4,Js,Cl4],?_,w.heap.size,rfl,?_⟩
   .simp only[Js c,Lo];exact⟨by grind,by grind⟩
   simp only[Js c,Lo];rw[heap_alloc_new w _,m];rfl)
 have n:=Kp.trans (⟨a2,a3⟩:Kp C st.Uu (ins (nid d 1) (.vec e 1 0 (λ_=>[]) false) st.Uu) w w rho _) ⟨k2,k3⟩;refine⟨_,_,_,_,?_,.inl rfl,k1,n,.reg _ 0 w.heap.size (by simp[Lv,A4]) (by simp)⟩
 simp_all[execOp,Instr.alloc,Bo7,newVar,newRow]
end
section
variable {P:Program}{C:Ctx}{st:St}{a:Act}{w:World}{rho:Nat->Value}{o:Oper}{out:Out}{d:Nat}
theorem AZ9 (h:Sat C st a w rho)(g:aop P st.env st.Uu d o.op=some out)(hc:D2 out.cond):OpOk P C o st a w rho out:=by
 cases j:o.op with
 |move x=>rw[j]at g;simp only[aop,Cd9]at g;subst g;exact AY5 h (.inl j) rfl rfl
 |assign x=>rw[j]at g;simp only[aop,Cd9]at g;subst g;exact AY5 h (.inr j) rfl rfl
 |pick c x y=>exact BH9 h j g
 |alloc t=>exact Bo8 h j g
 |box t x=>exact BU6 h j g
 |build t ps=>exact Bp6 h j g
 |buildSlice t n ps=>exact Xo h j g hc
 |load t x=>exact BI1 h j g hc
 |store t x y=>exact Bo9 h j g hc
 |nilCheck x=>exact Ao7 h j g
 |binOp op t x y yt=>exact Bp5 h j g hc
 |unOp op t x=>exact BI2 h j g
 |convert s t x=>exact AL2 h j g hc
 |makeInterface t x=>exact Qz h j g
 |makeFunc f x y=>
  cases f with
  |func f=>exact Ao8 h j g
  |_=>rw[j]at g;simp[aop]at g
 |makeMap t r=>
  cases r with
  |none=>exact AL0 h j g
  |some r=>rw[j]at g;simp[aop]at g
 |makeSlice t l c=>exact ZR h j g hc
 |slice t x lo hi mx=>
  cases mx with
  |none=>exact Bp3 h j g hc
  |some r=>rw[j]at g;simp[aop]at g
 |fieldAddr t x f=>exact ZL h j g
 |field t x f=>exact Bp0 h j g hc
 |indexAddr t x i=>exact ZO h j g hc
 |index t x i=>exact Bp2 h j g hc
 |lookup t m k ok=>exact AZ5 h j g hc
 |mapUpdate t m k x=>exact Pz h j g hc
 |insert t m k x=>
  have:=Pz (o:={ o with op:=.mapUpdate t m k x }) (d:=d) h rfl (by rw[j]at g;exact g) hc
  simpa[OpOk,execOp,j]using this
 |mapEntry t m k=>exact Ap3 h j g hc
 |entryStore t m s x=>exact Xn h j g hc
 |extract x i=>exact AK9 h j g
 |range t x=>exact Bp7 h j g
 |entry x=>exact Bp8 h j g hc
 |call c=>
  obtain⟨callee,args,types⟩:=c;cases callee with
  |builtin b=>
   cases b with
   |len=>exact BU7 (c:=⟨.builtin .len,args,types⟩) h rfl j g
   |append=>exact AZ7 (c:=⟨.builtin .append,args,types⟩) h rfl j g hc
   |min=>exact ZM (c:=⟨.builtin .min,args,types⟩) h (.inl rfl) j g
   |max=>exact ZM (c:=⟨.builtin .max,args,types⟩) h (.inr rfl) j g
   |_=>rw[j]at g;simp[aop]at g
  |_=>rw[j]at g;simp[aop]at g
 |_=>rw[j]at g;simp[aop]at g
end
structure Rel (C:Ctx) (w:World) (O:Nat->Prop) (V:Nat->Nat->Prop):Prop where
 ext:Ext C.w0 w
 size:C.w0.heap.size<=w.heap.size
 same:∀b,b<C.w0.heap.size->¬C.E0 b->w.heap[b]? = C.w0.heap[b]?
 keep:Ux C.w0 C.Pi0 w (λb o=>C.X b o \/ V b o)
 own:∀b,O b->C.E0 b \/ C.w0.heap.size<=b
 out:∀b off,O b->¬C.X b off
 lt:∀b,O b->b<w.heap.size
 bnd:∀b off,C.X b off->b<w.heap.size
 vo:∀b o,V b o->O b
def BU8 (P:Program)(yv:Value)(vs:Array Value)(w:World)(R:Bool->World->Prop):Prop:= ∃l fn tmps assign body,yv=.func (.yield l) #[] #[]/\(Instr.yield l vs).run P w=.ok (.round l fn tmps assign body) w /\ RoundIn Fence.wide 0 P l fn tmps assign body w λe w'=>∃b:Bool,e=.returned (.bool b)/\R b w'
def RB (s:String):List Value:=ite (s == "math/bits.deBruijn64tab") (Lib.deBruijn64tab.map λn=>.int .u8 (n:Nat)) (ite (s == "internal/strconv.uint64pow10") (Lib.pow10Tab.map λn=>.int .u64 n) [])
def TabOk (P:Program)(w:World)(Pi:Nat->Nat->Prop):Prop:=∀(g:Nat) (s:Global) (j:Nat) (v:Value),P.globals[g]? = some s->(RB s.name)[j]? = some v->w.cell? ⟨g,j,none⟩=some v/\¬Pi g j
def TabOk.keeps {P:Program}{w w' : World}{Pi Pi' : Nat->Nat->Prop}(h:TabOk P w Pi)(hk:Ux w Pi w' Pi'):TabOk P w' Pi':=λg s j v hs a=>hk g j v (h g s j v hs a).2 (h g s j v hs a).1
def TabX (P:Program)(w:World)(E:Nat->Prop):Prop:=∀(g:Nat) (s:Global),P.globals[g]? = some s->RB s.name≠[]->(∃t fr,w.heap[g]? = some (.cells (RB s.name).toArray t fr))/\¬E g
def TabE (P:Program)(w:World)(Pi:Nat->Nat->Prop)(E:Nat->Prop):Prop:=TabOk P w Pi/\TabX P w E
def TabE.keeps {P:Program}{w w' : World}{Pi Pi' : Nat->Nat->Prop}{E E' : Nat->Prop}(h:TabE P w Pi E)(hk:Ux w Pi w' Pi')(hs:∀b,b<w.heap.size->¬E b->w'.heap[b]? = w.heap[b]?)(d:∀b,b<w.heap.size->E' b->E b):TabE P w' Pi' E':=
 ⟨h.1.keeps hk,λg s a hn=>by
  obtain⟨⟨t,fr,h1⟩,f⟩:=h.2 g s a hn;have c:g<w.heap.size:=(Ch2.1 h1).1
  grind⟩
structure Prot (P:Program) where
 G:Ctx->Prop
 tab:∀C,G C->TabE P C.w0 C.Pi0 C.E0
 call:∀(C:Ctx) (w:World) (O:Nat->Prop) (V:Nat->Nat->Prop) (ys:List PV) (rest:List (List PV)) (vs:Array Value),G C->Rel C w O V->C.Y (ys::rest) true->vs.size=ys.length ->
  (∀i,i<ys.length->Uy w (λb o=>C.X b o \/ V b o) (vs.getD i undef) (ys.getD i default)) ->
  BU8 P C.yv vs w λb w'=>∃C',G C' /\ C'.yv=C.yv/\C'.rho0=C.rho0/\C'.Y (ite b rest []) b/\C'.w0=w' /\ C'.E0=O/\(C'.Pi0=λb o=>C'.X b o \/ V b o)/\Rel C' w' O V /\
   (∀b,O b->w'.heap[b]? = w.heap[b]?)/\Ux w (λb o=>C.X b o \/ V b o) w' (λb o=>C'.X b o \/ V b o)/\w.heap.size<=w'.heap.size/\Ext w w'
def Prot.triv (P:Program)(C:Ctx)(a:∀r b,¬C.Y r b)(c:TabE P C.w0 C.Pi0 C.E0):Prot P:=
 ⟨λC'=>C' = C,λC' h=>h ▸ c,λC' w O V ys rest vs d hR f=>by subst d;exact Ke f (a _ _)⟩
def Ap5 (l:List Deferred)(b:Nat):Prop:=({ target:=.collected b,args:=#[] }:Deferred)∈l
def PvR (R:C6)(rho:Nat->Value)(b off:Nat):Prop:=∃j o,A2 R j=some o/\G0 (rho j) o b/\MT o off
def An4 (R:C6)(rho:Nat->Value)(l:List Deferred)(b:Nat):Prop:=Own (A2 R) rho b \/ Ap5 l b
def CallF (P:Program)(f:FuncId)(vs:Array Value)(w:World)(R:Ending->World->Prop):Prop:=
 ∃nx w1,(callFunc f vs).run P w=.ok nx w1/\match nx with
  |.enter f' as=>CallsIn Fence.wide 0 P f' as w1 R
  |.value v=>R (.returned v) w1
  |.row row as=>RowsIn Fence.wide 0 P row as w1 λv w'=>R (.returned v) w'
  |_=>False
def CallF.mono {P:Program}{f:FuncId}{vs:Array Value}{w:World}{R R' : Ending->World->Prop}(h:CallF P f vs w R)(b:∀e w',R e w' -> R' e w'):CallF P f vs w R':=by
 obtain⟨nx,w1,h1,a⟩:=h;refine⟨nx,w1,h1,?_⟩;cases nx with
 |enter f' as=>exact a.mono b
 |value v=>grind
 |row row as=>grind[RowsIn.mono]
 |_=>exact a
def Bp9 (w:World)(Pi:Nat->Nat->Prop)(live:Nat->Prop)(rho:Nat->Value)(e:Ending):ARes->Prop
 |.ret a=>∃v,e=.returned v/\Yj w Pi live rho v a
 |.panic x=>∃v,e=.panicked [{ v,recovered:=false }]/\Uy w Pi v x
def SemF (P:Program)(f:FuncId)(args:List AV)(objs:List Obj)(Q:ARes->List Obj->List Bool->Prop):Prop:= ∀(𝒢 : Prot P) (C:Ctx) (w:World) (vs:Array Value) (rho:Nat->Value),𝒢.G C->Sat C ⟨Yl args,Uv objs⟩ ⟨vs,[]⟩ w rho->vs.size=args.length -> CallF P f vs w λe w'=>∃C' r objs' ks rho', 𝒢.G C' /\ Q r objs' ks/\SatE C' (Uv objs') w' rho' /\ Bp9 w' (Prv C'.X (A2 (Uv objs')) rho') (Lv (A2 (Uv objs'))) rho' e r/\∀i:Nat,ks[i]? = some true->i<objs'.length/\rho' i=rho i
def semUp (st:St)(K:St->Prop):Prop:=∀C a w rho,Sat C st a w rho->∃st' rho',K st' /\ (∀b off,Prv C.X (A2 st'.Uu) rho' b off->Prv C.X (A2 st.Uu) rho b off)/\Sat C st' a w rho'
def Ia (P:Program):X4:=⟨SemF P,semUp⟩
section
variable {w w' : World}{Pi Pi' : Nat->Nat->Prop}{live live' : Nat->Prop}{rho rho' : Nat->Value}
theorem T0:∀{ids:List Nat}{j p:Nat},idx ids j=some p->ids[p]? = some j
 |[],j,p,h=>by grind[idx]
 |i::r,j,p,h=>by
  simp only[idx]at h;split at h
  .grind
  split at h
  .rename_i n hn;cases h;simpa using T0 hn
  grind
theorem Eq {ids:List Nat}:∀{l l' : List AV},Fc ids l=some l' -> l.length=l'.length/\∀i,i<l.length->Zs ids (l.getD i .top)=some (l'.getD i .top)
 |[],l',h=>by simp only[Fc,Cd9]at h;subst h;exact⟨rfl,λi b=>Ke b (by simp)⟩
 |a::r,l',h=>by
  simp only[Fc]at h;split at h
  .rename_i a' r' ha c;cases h;obtain⟨h1,d⟩:=Eq c
   grind
  grind
def Vx {ids:List Nat}:∀{l:List AV},unL ids l=l.map (unA ids)
 |[]=>rfl
 |a::r=>by simp only[unL,Cf8,Vx]
def Yj.ren {ids:List Nat}(hk:Ux w Pi w' Pi')(g:∀p j,ids[p]? = some j->live j->live' p/\rho' p=rho j){v:Value}{a:AV}(h:Yj w Pi live rho v a):∀{a' : AV},Zs ids a=some a' -> Yj w' Pi' live' rho' v a':=by
 induction h with
 |p v x h=>intro a' c;simp only[Zs,Cd9]at c;subst c;exact .p _ _ (h.nP.keeps hk)
 |reg j off b hl h=>
  intro a' c;simp only[Zs]at c;split at c
  .rename_i p hp;cases c;obtain⟨h1,d⟩:=g p j (T0 hp) hl;exact .reg p off b h1 (d.trans h)
  grind
 |vec j base n cap hl h=>
  intro a' c;simp only[Zs]at c;split at c
  .rename_i p hp;cases c;obtain⟨h1,d⟩:=g p j (T0 hp) hl;exact .vec p base n cap h1 (d.trans h)
  grind
 |vecp j m base n cap hl h hm=>
  intro a' c;simp only[Zs]at c;split at c
  .rename_i p hp;cases c;obtain⟨h1,d⟩:=g p j (T0 hp) hl;exact .vecp p m base n cap h1 (d.trans h) hm
  grind
 |elt j k i off b n cap hl h=>
  intro a' c;simp only[Zs]at c;split at c
  .rename_i p hp;cases c;obtain⟨h1,d⟩:=g p j (T0 hp) hl;exact .elt p k i off b n cap h1 (d.trans h)
  grind
 |Uz j r hl h=>
  intro a' c;simp only[Zs]at c;split at c
  .rename_i p hp;cases c;obtain⟨h1,d⟩:=g p j (T0 hp) hl;exact .Uz p r h1 (d.trans h)
  grind
 |clo f x y a b hx hy ha hb iha ihb=>
  intro a' c;simp only[Zs]at c;split at c
  .rename_i a2 b2 h1 d;cases c;obtain⟨l1,g1⟩:=Eq h1;obtain⟨l2,g2⟩:=Eq d;exact .clo f x y a2 b2 (hx.trans l1) (hy.trans l2) (by grind) (by grind)
  grind
 |tup x a hx ha ih=>
  intro a' c;simp only[Zs]at c;split at c
  .rename_i a2 h1;cases c;obtain⟨l1,g1⟩:=Eq h1;exact .tup x a2 (hx.trans l1) (by grind)
  grind
 |agr x a hx h1' ha ih=>
  intro a' c;simp only[Zs]at c;split at c
  .rename_i a2 h1;cases c;obtain⟨l1,g1⟩:=Eq h1;exact .agr x a2 (hx.trans l1) (by grind) (by grind)
  grind
 |yf j l hl h=>
  intro a' c;simp only[Zs]at c;split at c
  .rename_i p hp;cases c;obtain⟨h1,d⟩:=g p j (T0 hp) hl;exact .yf p l h1 (d.trans h)
  grind
 |top v=>intro a' c;simp only[Zs,Cd9]at c;subst c;exact .top _
def Yj.un {ids:List Nat}(hk:Ux w Pi w' Pi')(g:∀p,live p->live' (ids.getD p 0)/\rho' (ids.getD p 0)=rho p){v:Value}{a:AV}(h:Yj w Pi live rho v a):Yj w' Pi' live' rho' v (unA ids a):=by
 induction h with
 |p v x h=>exact .p _ _ (h.keeps hk)
 |reg j off b hl h=>obtain⟨h1,c⟩:=g j hl;exact .reg _ off b h1 (c.trans h)
 |vec j base n cap hl h=>obtain⟨h1,c⟩:=g j hl;exact .vec _ base n cap h1 (c.trans h)
 |vecp j m base n cap hl h hm=>obtain⟨h1,c⟩:=g j hl;exact .vecp _ m base n cap h1 (c.trans h) hm
 |elt j k i off b n cap hl h=>obtain⟨h1,c⟩:=g j hl;exact .elt _ k i off b n cap h1 (c.trans h)
 |Uz j r hl h=>obtain⟨h1,c⟩:=g j hl;exact .Uz _ r h1 (c.trans h)
 |clo f x y a b hx hy ha hb iha ihb=>
  simp only[unA,Vx];refine .clo f x y _ _ (by grind) (by grind) (λi o=>?_) λi o=>?_
  all_goals grind
 |tup x a hx ha ih=>
  simp only[unA,Vx];refine .tup x _ (by grind) λi o=>?_;have d : i<a.length:=by grind
  have:=ih i d
  grind
 |agr x a hx h1' ha ih=>
  simp only[unA,Vx];refine .agr x _ (by grind) (by grind) λi o=>?_;have d : i<a.length:=by grind
  have:=ih i d
  grind
 |yf j l hl h=>obtain⟨h1,c⟩:=g j hl;exact .yf _ l h1 (c.trans h)
 |top v=>exact .top v
def Yk.ren {ids:List Nat}(hk:Ux w Pi w' Pi')(v:∀p j,ids[p]? = some j->live j->live' p/\rho' p=rho j){h:Value}{o o' : Obj}(hb:∀b,G0 h o b->w'.heap[b]? = w.heap[b]?)(a:Vn ids o=some o')(s:Yk w Pi live rho h o):Yk w' Pi' live' rho' h o':=by
 cases o with
 |cells cs=>
  simp only[Vn]at a;split at a
  .rename_i cs' t;cases a;obtain⟨l1,g1⟩:=Eq t;obtain⟨b,c,T,rfl,h1,m,d⟩:=s;exact⟨b,c,T,rfl,(hb b rfl).trans h1,m.trans l1,λi q=>⟨(d i (by omega)).1.ren hk v (g1 i (by omega)),(d i (by omega)).2⟩⟩
  grind
 |vec e k n f vw=>
  simp only[Vn,Cd9]at a;subst a;rcases s with hn|⟨b,cap,c,rfl,h1,m,d,y,z,h6⟩
  .exact .inl hn
  exact .inr ⟨b,cap,c,rfl,(hb b rfl).trans h1,m,d,y,z,λi j q u=>⟨(h6 i j q u).1.keeps hk,(h6 i j q u).2⟩⟩
 |map es=>simp only[Vn,Cd9]at a;subst a;obtain⟨b,Ya,clock,rfl,h1,m,d,h9⟩:=s;exact⟨b,Ya,clock,rfl,(hb b rfl).trans h1,m,λi q=>⟨(d i q).1.keeps hk,(d i q).2.keeps hk⟩,h9⟩
 |arr n f=>simp only[Vn,Cd9]at a;subst a;obtain⟨b,c,T,rfl,h1,m,d⟩:=s;exact⟨b,c,T,rfl,(hb b rfl).trans h1,m,λi q=>⟨(d i q).1.keeps hk,(d i q).2⟩⟩
 |blk l jr=>
  simp only[Vn]at a;split at a
  .rename_i jr' u;cases a;obtain⟨g1,g2,b,rfl,h1⟩:=s;obtain⟨g3,g4⟩:=v _ _ (T0 u) g1;exact⟨g3,by rw[g4];omega,b,rfl,by rw[g4];exact (hb b rfl).trans h1⟩
  grind
 |ghost cs=>
  simp only[Vn]at a;split at a
  .rename_i cs' t;cases a;obtain⟨l1,g1⟩:=Eq t;obtain⟨vs,rfl,h1,m⟩:=s;exact⟨vs,rfl,h1.trans l1,λi q=>(m i (by omega)).ren hk v (g1 i (by omega))⟩
  grind
 |yld r b=>simp only[Vn,Cd9]at a;subst a;exact s
 |dead=>simp only[Vn,Cd9]at a;subst a;trivial
 |fam e n jr x=>
  simp only[Vn]at a;split at a
  .rename_i jr' u;cases a;obtain⟨rv,g1,g2,hv⟩:=s;obtain⟨g3,g4⟩:=v _ _ (T0 u) g1;refine⟨rv,g3,g4.trans g2,?_⟩;rcases hv with hv|⟨b,cap,c,rfl,h1,m,d,y,z,h6⟩
   .grind
   exact .inr ⟨b,cap,c,rfl,(hb b rfl).trans h1,m,d,y,z,trivial⟩
  grind
 |rows n g=>simp only[Vn,Cd9]at a;grind[KO]
def Bn {ids:List Nat}{h:Value}{o o' : Obj}(a:Vn ids o=some o'):G0 h o' = G0 h o:=by
 cases o<;>simp only[Vn]at a
 case fam=>split at a<;>cases a;rfl
 case blk=>split at a<;>cases a;rfl
 case cells=>split at a<;>cases a;rfl
 case ghost=>split at a<;>cases a;rfl
 all_goals grind
def Nk {ids:List Nat}{o o' : Obj}(a:Vn ids o=some o')(off:Nat):MT o' off↔MT o off:=by
 cases o<;>simp only[Vn]at a
 case fam=>split at a<;>cases a;exact Cp5
 case blk=>split at a<;>cases a;exact Cp5
 case cells=>split at a<;>cases a;exact Cp5
 case ghost=>split at a<;>cases a;exact Cp5
 all_goals grind
def Yk.un {ids:List Nat}(hk:Ux w Pi w' Pi')(u:∀p,live p->live' (ids.getD p 0)/\rho' (ids.getD p 0)=rho p){h:Value}{o:Obj}(hb:∀b,G0 h o b->w'.heap[b]? = w.heap[b]?)(s:Yk w Pi live rho h o):Yk w' Pi' live' rho' h (unO ids o):=by
 cases o with
 |cells cs=>
  obtain⟨b,c,T,rfl,h1,d,a⟩:=s;simp only[unO,Vx];refine⟨b,c,T,rfl,(hb b rfl).trans h1,by grind,λi m=>?_⟩;have t : i<cs.length:=by grind
  refine⟨?_,(a i t).2⟩
  have:=(a i t).1.un hk u
  grind
 |vec e k n f vw=>
  rcases s with hn|⟨b,cap,c,rfl,h1,d,a,v,y,z⟩
  .exact .inl hn
  exact .inr ⟨b,cap,c,rfl,(hb b rfl).trans h1,d,a,v,y,λi j m hj=>⟨(z i j m hj).1.keeps hk,(z i j m hj).2⟩⟩
 |map es=>obtain⟨b,Ya,clock,rfl,h1,d,a,h9⟩:=s;exact⟨b,Ya,clock,rfl,(hb b rfl).trans h1,d,λi m=>⟨(a i m).1.keeps hk,(a i m).2.keeps hk⟩,h9⟩
 |arr n f=>obtain⟨b,c,T,rfl,h1,d,a⟩:=s;exact⟨b,c,T,rfl,(hb b rfl).trans h1,d,λi m=>⟨(a i m).1.keeps hk,(a i m).2⟩⟩
 |blk l jr=>obtain⟨g1,g2,b,rfl,h1⟩:=s;obtain⟨g3,g4⟩:=u _ g1;exact⟨g3,by rw[g4];omega,b,rfl,by rw[g4];exact (hb b rfl).trans h1⟩
 |ghost cs=>
  obtain⟨vs,rfl,h1,d⟩:=s;simp only[unO,Vx];refine⟨vs,rfl,by grind,λi m=>?_⟩;have t : i<cs.length:=by grind
  have:=(d i t).un hk u
  grind
 |yld r b=>exact s
 |dead=>trivial
 |fam e n jr x=>
  obtain⟨rv,g1,g2,hv⟩:=s;obtain⟨g3,g4⟩:=u _ g1;refine⟨rv,g3,g4.trans g2,?_⟩;rcases hv with hv|⟨b,cap,c,rfl,h1,d,a,v,y,z⟩
  .grind
  cases x with
  |none=>exact .inr ⟨b,cap,c,rfl,(hb b rfl).trans h1,d,a,v,y,trivial⟩
  |some q=>exact .inr ⟨b,cap,c,rfl,(hb b rfl).trans h1,d,a,v,y,z.un hk u⟩
 |rows n g=>exact KO hk hb s
def Xp {ids:List Nat}{h:Value}{o:Obj}:G0 h (unO ids o)=G0 h o:=by cases o<;>rfl
def Ba0 {ids:List Nat}{o:Obj}(off:Nat):MT (unO ids o) off↔MT o off:=by cases o<;>exact Cp5
theorem F4 (objs:List Obj)(j:Nat):A2 (Uv objs) j=objs[j]?:=by
 have a:∀(objs:List Obj) (n:Nat) (acc:C6),A2 (Uv.go n objs acc) j=ite (n<=j/\j<n+objs.length) (objs[j-n]?) (A2 acc j):=by
  intro objs
  induction objs with
  |nil=>grind[Uv.go]
  |cons o r ih=>
   grind[Uv.go,A2,List.length_cons]
 unfold Uv;rw[a];by_cases h:j<objs.length
 .rw[Jk (by omega)];simp
 rw[Js (by omega),Ci0 (by omega)];rfl
def Da (args:List AV)(j:Nat):get (Yl args) j=args.getD j .top:=by
 have a:∀(objs:List AV) (n:Nat) (acc:Env),get (Yl.go n objs acc) j=ite (n<=j/\j<n+objs.length) (objs.getD (j-n) .top) (get acc j):=by
  intro objs
  induction objs with
  |nil=>grind[Yl.go]
  |cons o r ih=>
   grind[Yl.go,get,List.length_cons]
 simp_all[Yl,get]
def Bo {ids:List Nat}{Uu:C6}:∀{l:List Nat}{objs:List Obj},M9 ids Uu l=some objs->objs.length=l.length/\∀(p j:Nat),l[p]? = some j->∃o o',A2 Uu j=some o/\Vn ids o=some o' /\ objs[p]? = some o'
 |[],objs,h=>by simp only[M9,Cd9]at h;subst h;exact⟨rfl,λp j hp=>by simp at hp⟩
 |j::l,objs,h=>by
  simp only[M9]at h;split at h
  .rename_i o b;split at h
   .rename_i o' l' h1 a;cases h;obtain⟨c,d⟩:=Bo a
    grind
   grind
  grind
def DS:∀{l:List Nat},I5 l=true->l.Nodup
 |[],_=>Co5
 |a::r,h=>by simp only[I5,Ce2,Cf6,Ch6,decide_eq_false_iff_not]at h;exact Cj6.2 ⟨h.1,DS h.2⟩
theorem Ht:∀{l:List Nat}(h:l.Nodup) {p q j:Nat}(hp:l[p]? = some j) (b:l[q]? = some j),p=q
 |[],h,p,q,j,hp,b=>by grind
 |a::l,h,p,q,j,hp,b=>by
  obtain⟨h1,c⟩:=Cj6.1 h;cases p with
  |zero=>
   grind
  |succ p=>
   cases q with
   |zero=>
    grind
   |succ q=>exact congrArg (· + 1) (Ht (j:=j) c (by grind) (by grind))
theorem Vy:∀{l:List Obj},GM l=true->∀(p:Nat) (r:List (List PV)) (b:Bool),l[p]? ≠ some (.yld r b)
 |[],_,p,r,b=>by simp
 |o::l,h,p,r,b=>by
  cases p with
  |zero=>grind[List.getElem?_cons_zero,Option.some.injEq,GM]
  |succ p=>simp only[List.getElem?_cons_succ];exact Vy (by cases o<;>simp[GM]at h<;>exact h) p r b
end
def BR2 (C:Ctx)(R:C6)(rho:Nat->Value)(ids:List Nat)(b off:Nat):Prop:= C.X b off \/ ∃j o,j ∉ ids/\A2 R j=some o/\G0 (rho j) o b/\MT o off
def Ctx.callee (C:Ctx)(R:C6)(w:World)(rho:Nat->Value)(ids:List Nat):Ctx where
 X:=BR2 C R rho ids
 w0:=w
 E0:=λb=>∃j o,j∈ids/\A2 R j=some o/\G0 (rho j) o b
 Pi0:=Prv C.X (A2 R) rho
 rho0:=λp=>rho (ids.getD p 0)
 Y:=λ_ _=>False
 yv:=C.yv
section
variable {P:Program}{C:Ctx}{st:St}{a:Act}{w:World}{rho:Nat->Value}
theorem Fd {ids:List Nat}{p j:Nat}(h:ids[p]? = some j):ids.getD p 0=j:=by grind
def Vz {R:C6}{ids:List Nat}{objs:List Obj}(d:M9 ids R ids=some objs)(b off:Nat) :Prv (BR2 C R rho ids) (A2 (Uv objs)) (λp=>rho (ids.getD p 0)) b off↔Prv C.X (A2 R) rho b off:=by
 obtain⟨hl,l⟩:=Bo d;constructor
 .rintro ((f|⟨j,o,_,m,hb,hp⟩)|⟨p,o',hp,hb,g⟩)
  .exact .inl f
  .exact .inr (by grind)
  rw[F4]at hp;have a:p<ids.length:=by rw[<- hl];grind
  obtain⟨o,o2,h1,c,i⟩:=l p _ (Ce3 a);rw[hp]at i;cases i;simp only[Fd (Ce3 a),Bn c]at hb;exact .inr ⟨_,o,h1,hb,(Nk c off).1 g⟩
 rintro (f|⟨j,o,m,hb,hp⟩)
 .exact .inl (.inl f)
 by_cases hm:j∈ids
 .obtain⟨p,a,rfl⟩:=Cm8.1 hm;obtain⟨o1,o2,h1,c,i⟩:=l p _ (Ce3 a);rw[m]at h1;cases h1;refine .inr ⟨p,o2,by rw[F4];omega,?_,(Nk c off).2 hp⟩;simp only[Fd (Ce3 a),Bn c];omega
 exact .inl (.inr (by grind))
def PA (h:Sat C st a w rho){ids:List Nat}{objs:List Obj}{as args:List AV}{vs:Array Value}(hd:I5 ids=true)(m:M9 ids st.Uu ids=some objs)(hny:GM objs=true)(n:True)
 (hr:Fc ids as=some args) (hvs:vs.size=as.length) (hv:∀i,i<as.length->RS C st w rho (vs.getD i undef) (as.getD i .top)) :
 Sat (C.callee st.Uu w rho ids) ⟨Yl args,Uv objs⟩ ⟨vs,[]⟩ w (λp=>rho (ids.getD p 0)):=by
 obtain⟨hl,hg⟩:=Bo m;have a0:=DS hd;have hpi:=Vz (C:=C) (rho:=rho) m;have hk:Ux w (Prv C.X (A2 st.Uu) rho) w (Prv (BR2 C st.Uu rho ids) (A2 (Uv objs)) (λp=>rho (ids.getD p 0))):=
  λb o v hp hc=>by grind
 have c:∀p o',A2 (Uv objs) p=some o' -> ∃j o,ids[p]? = some j/\A2 st.Uu j=some o/\Vn ids o=some o' /\ rho (ids.getD p 0)=rho j:=by
  grind[F4,List.getElem?_eq_some_iff,List.getElem?_eq_getElem,Fd]
 have f:∀p j,ids[p]? = some j->Lv (A2 st.Uu) j->Lv (A2 (Uv objs)) p/\rho (ids.getD p 0)=rho j:=by
  grind[Lv,F4,Fd]
 refine⟨⟨⟨?_,?_,?_,?_⟩,Ext.refl _,Ce5 _,λb _ _=>rfl,hk,?_,?_⟩,?_,λj _ _=>rfl,Co5,by grind⟩
 .intro p o' hp;obtain⟨j,o,h1,d,g,l⟩:=c p o' hp;show Yk w _ _ _ (rho (ids.getD p 0)) o';rw[l];exact (h.hp.holds j o d).ren hk f (λb _=>rfl) g
 .intro p q op oq b hp hq r s;obtain⟨j,o,h1,d,g,l⟩:=c p op hp;obtain⟨j',o',h1',x,y,z⟩:=c q oq hq;simp only[l,z,Bn g,Bn y]at r s
  have:=h.hp.sep j j' o o' b d x r s
  grind[Ht]
 .intro p o' b off hp hb u;obtain⟨j,o,h1,d,g,l⟩:=c p o' hp;simp only[l,Bn g]at hb;rcases u with u|⟨j',o2,hj',h5,h6,_⟩
  .exact h.hp.out j o b off d hb u
  have:=h.hp.sep j j' o o2 b d h5 hb h6
  grind
 .rintro b off (u|⟨j,o,_,hj,hb,_⟩)
  .exact h.hp.bound b off u
  exact (h.hp.holds j o hj).lt hb
 .rintro b ⟨p,o',hp,hb⟩;obtain⟨j,o,h1,d,g,l⟩:=c p o' hp;simp only[l,Bn g]at hb;exact .inl ⟨j,o,by grind,d,hb⟩
 .grind[F4,Ke,Vy]
 intro t;show Yj w _ _ _ (vs.getD t undef) (get (Yl args) t);rw[Da];obtain⟨h1,d⟩:=Eq hr;by_cases ht:t<as.length
 .exact (hv t ht).ren hk f (d t ht)
 rw[Ce0,Ci0 (by omega)];exact .top _
def AC8 (all:List Nat)(j:Nat):∀(ids:List Nat) (objs:List Obj) (Uu:C6),ids.Nodup->ids.length=objs.length ->
 A2 (back all ids objs Uu) j=match idx ids j with
  |some p=>(objs[p]?).map (unO all)
  |none=>A2 Uu j
 |[],objs,Uu,_,hl=>by
  cases objs with
  |nil=>rfl
  |cons=>grind
 |i::ids,[],Uu,_,hl=>by grind
 |i::ids,o::objs,Uu,hn,hl=>by
  obtain⟨h1,a⟩:=Cj6.1 hn;simp only[back];rw[AC8 all j ids objs _ a (by grind)];simp only[idx];by_cases e:i=j
  .subst e
   have:idx ids i=none:=by
    cases hx:idx ids i with
    |none=>rfl
    |some p=>exact Ke (Cj3 (T0 hx)) h1
   grind[A4]
  simp only[e,Lp]
  grind[idx,A4]
theorem Hu (j:Nat):∀(ids:List Nat) (ks:List Bool) (Uu:C6),ids.Nodup ->
 A2 (K9 ids ks Uu) j=match idx ids j with
  |some p=>if ks[p]? = some true then A2 Uu j else some .dead
  |none=>A2 Uu j
 |[],ks,Uu,_=>by cases ks<;>rfl
 |i::ids,[],Uu,hn=>by
  obtain⟨h1,a⟩:=Cj6.1 hn;simp only[K9];rw[Hu j ids [] _ a];simp only[idx];by_cases e:i=j
  .grind[idx,Ke,List.mem_of_getElem?,T0,A4]
  simp only[e,Lp]
  grind[idx,A4]
 |i::ids,k::ks,Uu,hn=>by
  obtain⟨h1,a⟩:=Cj6.1 hn;simp only[K9];have b:idx ids i=none:=by
   cases hx:idx ids i with
   |none=>rfl
   |some p=>exact Ke (Cj3 (T0 hx)) h1
  by_cases hk:k=true
  .rw[Jk hk,Hu j ids ks _ a]
   grind[idx]
  rw[Js hk,Hu j ids ks _ a];simp only[idx];by_cases e:i=j
  .grind[A4]
  simp only[e,Lp]
  grind[idx,A4]
theorem Xq {ids:List Nat}{j:Nat}(h:j∈ids):∃p,idx ids j=some p:=by
 induction ids with
 |nil=>grind
 |cons i r ih=>
  simp only[idx];by_cases e:i=j
  .simp_all
  grind
theorem BC3 {ids:List Nat}(hn:ids.Nodup){p j:Nat}(h:ids[p]? = some j):idx ids j=some p:=by obtain⟨q,a⟩:=Xq (Cj3 h);rw[a,Ht hn (T0 a) h]
theorem Ba1 {n p:Nat}(h:p<n):(List.range n)[p]? = some p:=by grind
def OF {d:Nat}{ids:List Nat}{ks:List Bool}{n p j:Nat}(h:(I3 d ids ks n)[p]? = some j):p<n/\((ids[p]? = some j/\ks[p]? = some true) \/ (j=nid d p/\∀i,ids[p]? = some i->ks[p]? ≠ some true)):=by
 grind[I3,Option.map_eq_some_iff]
def AL5 {d:Nat}{ids:List Nat}{ks:List Bool}{n:Nat}:(I3 d ids ks n).length=n:=by simp[I3]
theorem RC {Uu:C6}{ids:List Nat}{ks:List Bool}{d n p:Nat}(a:Z6 Uu ids ks d n=true)(hp:p<n)(b:∀i,ids[p]? = some i->ks[p]? ≠ some true):A2 Uu (nid d p)=none:=by
 unfold Z6 at a;rw[Ce8]at a
 have:=a p (by grind)
 simp_all
def PB:∀{l:List Nat},(∀p q j:Nat,l[p]? = some j->l[q]? = some j->p=q)->l.Nodup
 |[],_=>Co5
 |a::l,h=>by
  refine Cj6.2 ⟨λhm=>?_,PB λp q j hp b=>?_⟩
  .obtain⟨p,hp⟩:=Ck0.1 hm
   have:=h 0 (p+1) a (by simp) (by grind)
   omega
  have:=h (p+1) (q+1) j (by grind) (by grind)
  omega
def ZY {Uu:C6}{ids:List Nat}{ks:List Bool}{d n:Nat}{objs:List Obj}(a:M9 ids Uu ids=some objs)(o:ids.Nodup)(r:Z6 Uu ids ks d n=true):(I3 d ids ks n).Nodup:=by
 refine PB λp q j hp f=>?_;obtain⟨h1,b⟩:=OF hp;obtain⟨s,c⟩:=OF f;obtain⟨_,t⟩:=Bo a;rcases b with⟨b,g⟩ | ⟨i,b⟩<;>rcases c with⟨c,l⟩ | ⟨m,c⟩
 all_goals grind[Ht,RC,nid]
def AC9 (new:List Nat)(rho rho' : Nat->Value)(j:Nat):Value:=match idx new j with
 |some p=>rho' p
 |none=>rho j
def AL6 (h:Sat C st a w rho){ids:List Nat}{objs objs' : List Obj}{ks:List Bool}{d:Nat}{w' : World}{rho' : Nat->Value}(hd:I5 ids=true)(hob:M9 ids st.Uu ids=some objs)
 (y:SatE (C.callee st.Uu w rho ids) (Uv objs') w' rho') (hks:∀i:Nat,ks[i]? = some true->i<objs'.length/\rho' i=rho (ids.getD i 0)) (hf:Z6 st.Uu ids ks d objs'.length=true) :
 let new:=I3 d ids ks objs'.length
 let R':=back new new objs' (K9 ids ks st.Uu)
 Sat C { st with Uu:=R' } a w' (AC9 new rho rho')/\Kp C st.Uu R' w w' rho (AC9 new rho rho') /\
  Ux w' (Prv (BR2 C st.Uu rho ids) (A2 (Uv objs')) rho') w' (Prv C.X (A2 R') (AC9 new rho rho')) /\
  ∀p,Lv (A2 (Uv objs')) p->Lv (A2 R') (new.getD p 0)/\AC9 new rho rho' (new.getD p 0)=rho' p:=by
 intro new R';have z:=DS hd;obtain⟨hl,hg⟩:=Bo hob;have hnd:new.Nodup:=ZY hob z hf;have hnl:new.length=objs'.length:=AL5;have hR:∀j,A2 R' j=match idx new j with
  |some p=>(objs'[p]?).map (unO new)
  |none=>A2 (K9 ids ks st.Uu) j:=λj=>AC8 new j new objs' _ hnd hnl
 have hD:∀j,A2 (K9 ids ks st.Uu) j=match idx ids j with
  |some p=>if ks[p]? = some true then A2 st.Uu j else some .dead
  |none=>A2 st.Uu j:=λj=>Hu j ids ks _ z
 have hnew:∀j p,idx new j=some p->p<objs'.length/\((ids[p]? = some j/\rho' p=rho j/\Lv (A2 st.Uu) j) \/ (A2 st.Uu j=none/\1000<=j)):=by
  intro j p hp;obtain⟨h1,f⟩:=OF (T0 hp);refine⟨h1,?_⟩;rcases f with⟨f,t⟩ | ⟨rfl,f⟩
  all_goals grind[Fd,Lv,RC,Dp]
 have a0:∀j,idx new j=none->j∈ids->A2 R' j=some .dead:=by
  intro j c hm;rw[hR j,c]
  grind[Xq,I3,Ba1,T0,BC3]
 have u:∀j,idx new j=none->j ∉ ids->A2 R' j=A2 st.Uu j:=by
  grind[idx,Ke,List.mem_of_getElem?,T0]
 have l:∀j p,idx new j=some p->∃o',objs'[p]? = some o' /\ A2 R' j=some (unO new o')/\AC9 new rho rho' j=rho' p:=by
  grind[List.getElem?_eq_getElem,AC9]
 have hrn:∀j,idx new j=none->AC9 new rho rho' j=rho j:=λj c=>by grind[AC9]
 have s:∀j,Lv (A2 st.Uu) j->Lv (A2 R') j/\AC9 new rho rho' j=rho j:=by
  grind[idx,Lv]
 have hback:∀p,p<objs'.length->idx new (new.getD p 0)=some p:=by
  grind[List.getElem?_eq_getElem,BC3]
 have hpi:∀b off,Prv C.X (A2 R') (AC9 new rho rho') b off->Prv (BR2 C st.Uu rho ids) (A2 (Uv objs')) rho' b off:=by
  rintro b off (hX|⟨j,o,c,hb,hp⟩)
  .exact .inl (.inl hX)
  cases hx:idx new j with
  |some p=>obtain⟨o',h1,f,t⟩:=l j p hx;rw[f]at c;cases c;rw[t,Xp]at hb;exact .inr ⟨p,o',by rw[F4];omega,hb,(Ba0 off).1 hp⟩
  |none=>
   by_cases hm:j∈ids
   .rw[a0 j hx hm]at c;grind[G0,R8]
   rw[u j hx hm]at c;rw[hrn j hx]at hb;exact .inl (.inr (by grind))
 have hk2:Ux w' (Prv (BR2 C st.Uu rho ids) (A2 (Uv objs')) rho') w' (Prv C.X (A2 R') (AC9 new rho rho')):=λb o v hp hc=>(by grind);have hlb:∀p,Lv (A2 (Uv objs')) p->Lv (A2 R') (new.getD p 0)/\AC9 new rho rho' (new.getD p 0)=rho' p:=by
  grind[Lv,F4,List.getElem?_eq_some_iff,Option.eq_some_of_isSome]
 have hyld:∀(p:Nat) r b,objs'[p]? ≠ some (.yld r b):=by intro p r b hp;exact (y.yld p r b (by rw[F4];omega)).1
 obtain⟨g1,g2⟩:=h.step (R':=R') (rho':=AC9 new rho rho') (w':=w') (λj=>j∈ids \/ ∃p,idx new j=some p)
  (by grind)
  s y.size
  (λj c hj'=>by
   grind[idx,Ke,Xq,T0,Lv])
  (λj r b g c=>by
   cases hx:idx new j with
   |some p=>
    obtain⟨o',h1,f,t⟩:=l j p hx;rw[f]at c
    have:o' = .yld r b:=by cases o'<;>simp[unO]at c⊢;omega
    grind
   |none=>
    grind)
  (λb hb hno=>y.same b hb (by rintro⟨j,o,hm,c,m⟩;grind))
  (λj o b g c m=>by
   cases hx:idx new j with
   |some p=>
    obtain⟨o',h1,f,t⟩:=l j p hx;rw[f]at c;cases c;rw[t,Xp]at m;rcases y.own b ⟨p,o',by rw[F4];omega,m⟩with⟨i,oi,hm,hi,n⟩ | hge
    .grind
    exact .inr hge
   |none=>
    grind[G0,R8])
  (λi j oi oj b x g hi c n hbj=>by
   have key:∀i oi,(i∈ids \/ ∃p,idx new i=some p)->A2 R' i=some oi->G0 (AC9 new rho rho' i) oi b->∃p o',idx new i=some p/\A2 (Uv objs') p=some o' /\ G0 (rho' p) o' b:=by
    intro i oi x hi n;cases hx:idx new i with
    |some p=>obtain⟨o',h1,f,t⟩:=l i p hx;rw[f]at hi;cases hi;rw[t,Xp]at n;exact⟨p,o',rfl,by rw[F4];omega,n⟩
    |none=>
     rcases x with hm|⟨p,hp⟩
     all_goals grind[G0,R8]
   obtain⟨p,o1,h1,f,t⟩:=key i oi x hi n;obtain⟨q,o2,h4,h5,h6⟩:=key j oj g c hbj
   have:=y.hp.sep p q o1 o2 b f h5 t h6
   grind[T0])
  (λi oi b off v x hi n hnp hc=>by
   obtain⟨h1,f⟩:=y.keep b off v hnp hc;refine⟨h1,λj o g c m hp=>f ?_⟩;cases hx:idx new j with
   |some p=>obtain⟨o',h4,h5,h6⟩:=l j p hx;rw[h5]at c;cases c;rw[h6,Xp]at m;exact .inr ⟨p,o',by rw[F4];omega,m,(Ba0 off).1 hp⟩
   |none=>
    rcases g with hm|⟨p,hp'⟩
    all_goals grind[G0,R8])
  (λhk j o g c=>by
   cases hx:idx new j with
   |some p=>obtain⟨o',h4,h5,h6⟩:=l j p hx;rw[h5]at c;cases c;rw[h6];exact (y.hp.holds p o' (by rw[F4];omega)).un hk2 hlb (λb _=>rfl)
   |none=>
    rcases g with hm|⟨p,hp'⟩
    .rw[a0 j hx hm]at c;cases c;trivial
    grind) y.ext
 exact⟨g1,⟨g2,s⟩,hk2,hlb⟩
end
section
variable {P:Program}{C:Ctx}{st t:St}{a:Act}{w:World}{rho:Nat->Value}
def semUp.refl {st:St}{K:St->Prop}(h:K st):semUp st K:=λC a w rho hs=>by grind
def semUp.trans {st:St}{K:St->Prop}(h:semUp st λt=>semUp t K):semUp st K:=λC a w rho hs=>
 let ⟨st',rho',h1,hp,h2⟩:=h C a w rho hs
 let ⟨st2,rho2,h3,hp',h4⟩:=h1 C a w rho' h2
 (by grind)
def semUp.mono {st:St}{K K' : St->Prop}(hk:∀t,K t->K' t)(h:semUp st K):semUp st K':=λC a w rho hs=>
 let ⟨st',rho',h1,h2⟩:=h C a w rho hs
 (by grind)
def Sat.slot (h:Sat C st a w rho){t:Nat}{x:AV}(hx:RS C st w rho (a.tmps.getD t undef) x):Sat C ⟨ins t x st.env,st.Uu⟩ a w rho:=by
 refine⟨h.toSatE,λi=>?_,h.pin,h.marks⟩;show Yj w _ _ rho _ (get (ins t x st.env) i);rw[Rp];split
 .grind
 exact h.env i
def semUp.bool {st:St}{t:Nat}{b:Bool}{K:St->Prop}(c:get st.env t=.p (.bb b))(h:K ⟨ins t (.p (.v (.bool b))) st.env,st.Uu⟩):semUp st K:=λC a w rho hs=>by
 refine⟨_,rho,h,λ_ _ h=>h,hs.slot ?_⟩
 have:=hs.env t
 rw[c]at this;rw[this.toP.toBool];exact .p _ _ (.v _)
def semUp.pq {st:St}{t:Nat}{x y:PV}{K:St->Prop}(b:get st.env t=.p x)(c:leQ x y)(h:K ⟨ins t (.p y) st.env,st.Uu⟩):semUp st K:=λC a w rho hs=>by
 refine⟨_,rho,h,λ_ _ h=>h,hs.slot ?_⟩
 have:=hs.env t
 rw[b]at this;exact .p _ _ (this.toP.leQ c)
def semUp.nil {st:St}{t k n:Nat}{f:Nat->List PV}{K:St->Prop}(g:get st.env t=.p (.sl false k n f))
 (h1:n=0->K ⟨ins t (.p (.v (.slice none 0 0))) st.env,st.Uu⟩) (i:K ⟨ins t (.p (.sl true k n f)) st.env,st.Uu⟩):semUp st K:=λC a w rho hs=>by
 have:=hs.env t
 rw[g]at this
 have:=this.toP
 generalize d:a.tmps.getD t undef=v at this;cases this with
 |slnil=>exact⟨_,rho,h1 rfl,λ_ _ h=>h,hs.slot (by rw[d];exact .p _ _ (.v _))⟩
 |sl _ b off cap _ _ _ c hn hk hc h sp hsp=>exact⟨_,rho,i,λ_ _ h=>h,hs.slot (by rw[d];exact .p _ _ (.sl true b off cap k n f c hn hk hc h sp hsp))⟩
def AD0 (n:Nat)(f:Nat->PV){i:Nat}(a:i<n):(Bo2 n f).getD i .top=.p (f i):=by grind[Bo2]
def Xr (n:Nat)(f:Nat->PV):(Bo2 n f).length=n:=by simp[Bo2]
def semUp.swap {st:St}{j:Nat}{o o' : Obj}{K:St->Prop}(l:A2 st.Uu j=some o)(hb:∀v,G0 v o' = G0 v o)(hp:∀off,MT o' off↔MT o off)(hy:∀r b,o' ≠ .yld r b)
 (z:∀{w:World}{Pi:Nat->Nat->Prop}{live:Nat->Prop}{rho:Nat->Value}{v:Value},Yk w Pi live rho v o->Yk w Pi live rho v o') (hK:K ⟨st.env,ins j o' st.Uu⟩):semUp st K:=λC a w rho hs=>by
 have d:∀i,A2 (ins j o' st.Uu) i=ite (j=i) (some o') (A2 st.Uu i):=λi=>A4 _ _ _ _
 have s:∀i,Lv (A2 (ins j o' st.Uu)) i↔Lv (A2 st.Uu) i:=λi=>by
  grind[Lv]
 have hpr:∀b off,Prv C.X (A2 (ins j o' st.Uu)) rho b off↔Prv C.X (A2 st.Uu) rho b off:=λb off=>by
  unfold Prv;refine or_congr Cp5 ⟨?_,?_⟩
  .rintro⟨i,oi,h1,q,m⟩;rw[d]at h1;split at h1
   .rename_i e;subst e;cases h1;exact⟨j,o,l,by rw[<- hb];omega,(hp off).1 m⟩
   grind
  rintro⟨i,oi,h1,q,m⟩;by_cases e:j=i
  .subst e;rw[l]at h1;cases h1;exact⟨j,o',by rw[d,Jk rfl],by rw[hb];omega,(hp off).2 m⟩
  grind
 have hk:Ux w (Prv C.X (A2 st.Uu) rho) w (Prv C.X (A2 (ins j o' st.Uu)) rho):=λb off v h1 q=>(by grind);have hl:∀i,Lv (A2 st.Uu) i->Lv (A2 (ins j o' st.Uu)) i/\rho i=rho i:=(by grind);refine⟨_,rho,hK,by grind,⟨⟨⟨λi oi f=>?_,λi i' oi oi' b c u g n=>?_,λi oi b off f g=>?_,hs.hp.bound⟩,hs.ext,hs.size,hs.same,hs.keep.trans hk,λb x=>?_,λi r b f=>?_⟩,λt=>(hs.env t).keeps hk hl,λi c y=>hs.pin i c ((s i).1 y),hs.marks⟩⟩
 .have c:A2 (ins j o' st.Uu) i=some oi:=f;clear f;rw[d]at c;split at c
  .rename_i e;subst e;cases c;exact z ((hs.hp.holds j o l).keeps hk hl λ_ _=>rfl)
  exact (hs.hp.holds i oi c).keeps hk hl λ_ _=>rfl
 .have own:∀{i:Nat}{oi:Obj}{b:Nat},A2 (ins j o' st.Uu) i=some oi->G0 (rho i) oi b->∃o2,A2 st.Uu i=some o2/\G0 (rho i) o2 b:=by
   intro i oi b c g;rw[d]at c;split at c
   all_goals simp_all
  obtain⟨o2,h1,q⟩:=own c g;obtain⟨o3,m,h4⟩:=own u n;exact hs.hp.sep i i' o2 o3 b h1 m q h4
 .have c:A2 (ins j o' st.Uu) i=some oi:=f;clear f;rw[d]at c;split at c
  .rename_i e;subst e;cases c;exact hs.hp.out j o b off l (by rw[<- hb];omega)
  exact hs.hp.out i oi b off c g
 .obtain⟨i,oi,f,g⟩:=x;have c:A2 (ins j o' st.Uu) i=some oi:=f;clear f;rw[d]at c;split at c
  .rename_i e;subst e;cases c;exact hs.own b ⟨j,o,l,by rw[<- hb];omega⟩
  exact hs.own b ⟨i,oi,c,g⟩
 have c:A2 (ins j o' st.Uu) i=some (.yld r b):=f;clear f;rw[d]at c;split at c
 .grind
 exact hs.yld i r b c
def semUp.toArr {st:St}{j n:Nat}{f:Nat->PV}{K:St->Prop}(l:A2 st.Uu j=some (.cells (Bo2 n f)))(m:K ⟨st.env,ins j (.arr n f) st.Uu⟩):semUp st K:=
 semUp.swap (o':=.arr n f) l (λ_=>rfl) (λ_=>Cp5) (by grind) (λo=>by obtain⟨b,c,T,h1,q,g,a⟩:=o;rw[Xr]at g a;exact⟨b,c,T,h1,q,g,λi d=>⟨by have:=(a i d).1;rw[AD0 n f d]at this;exact this.toP,(a i d).2⟩⟩) m
def semUp.ofArr {st:St}{j n:Nat}{f:Nat->PV}{K:St->Prop}(g:A2 st.Uu j=some (.arr n f))(l:K ⟨st.env,ins j (.cells (Bo2 n f)) st.Uu⟩):semUp st K:=
 semUp.swap (o':=.cells (Bo2 n f)) g (λ_=>rfl) (λ_=>Cp5) (by grind) (λm=>by obtain⟨b,c,T,h1,o,q,d⟩:=m;exact⟨b,c,T,h1,o,by rw[Xr];omega,λi a=>by rw[Xr]at a;rw[AD0 n f a];exact⟨.p _ _ (d i a).1,(d i a).2⟩⟩) l
def semUp.vecq {st:St}{j n k:Nat}{e:TypeId}{f g:Nat->List PV}{vw:Bool}{K:St->Prop}(r:A2 st.Uu j=some (.vec e k n f vw))(m:∀i,i<n->leC (f i) (g i))(s:K ⟨st.env,ins j (.vec e k n g vw) st.Uu⟩):semUp st K:=
 semUp.swap (o':=.vec e k n g vw) r (λ_=>rfl) (λ_=>by cases vw<;>exact Cp5) (by grind) (λt=>by
  rcases t with⟨h1,l⟩ | ⟨b,cap,c,h1,l,u,v,w,x,o⟩
  .exact .inl ⟨h1,l⟩
  exact .inr ⟨b,cap,c,h1,l,u,v,w,λi a=>by rw[<- (m i a).1];grind,λi q a d=>⟨(o i q a d).1.leQ ((m i a).2 q),(o i q a d).2⟩⟩) s
def Bq0 (j:Nat)(ps:List PV)(env:Env)(t:Nat):get (Bn6 j ps env) t=frzA j ps (get env t):=by
 induction env with
 |nil=>rfl
 |cons p r ih=>
  grind[Bn6,get]
def semUp.frz {st:St}{j:Nat}{ps:List PV}{K:St->Prop}(u:A2 st.Uu j=some (.cells (ps.map .p)))(hK:K ⟨Bn6 j ps st.env,ins j .dead st.Uu⟩):semUp st K:=λC a w rho hs=>by
 have d:∀i,A2 (ins j .dead st.Uu) i=ite (j=i) (some .dead) (A2 st.Uu i):=λi=>A4 _ _ _ _
 obtain⟨h1,hk⟩:=hs.step (D:=(· = j)) (R':=ins j .dead st.Uu) (rho':=rho) (w':=w)
  (by grind)
  (λi f=>⟨by
   grind[Lv],rfl⟩) (Ce5 _)
  (λi f hl=>by
   unfold Lv at f hl;rw[d]at hl;split at hl
   .rename_i e;subst e;rw[u]at f;exact Ke rfl f
   exact Ke hl f)
  (by grind)
  (λ_ _ _=>rfl)
  (λi o b f l hb=>by subst f;rw[d,Jk rfl]at l;cases l;cases hb)
  (by omega)
  (λi oi b off v f l hb hp hc=>⟨hc,λi' o g n m=>by subst g;rw[d,Jk rfl]at n;cases n;cases m⟩)
  (λ_ i o f l=>by subst f;rw[d,Jk rfl]at l;cases l;trivial)
 have r:∀b off,Prv C.X (A2 (ins j .dead st.Uu)) rho b off->Prv C.X (A2 st.Uu) rho b off:=by
  rintro b off (z|⟨i,o,f,hb,hp⟩)
  .exact .inl z
  rw[d]at f;split at f
  .cases f;cases hb
  exact .inr (by grind)
 refine⟨_,rho,hK,r,⟨h1.toSatE,λt=>?_,h1.pin,h1.marks⟩⟩;show Yj w _ _ rho (a.tmps.getD t undef) (get (Bn6 j ps st.env) t);rw[Bq0];have y:=h1.env t;have y:Yj w (Prv C.X (A2 (ins j .dead st.Uu)) rho) (Lv (A2 (ins j .dead st.Uu))) rho (a.tmps.getD t undef) (get st.env t):=y;have l:=hs.env t;generalize get st.env t=x at y l⊢;cases x with
 |reg i o=>
  simp only[frzA];split
  .rename_i e;subst e;generalize a.tmps.getD t undef=v at l⊢;cases l with
   |reg _ _ b hl hr=>
    obtain⟨b',c,T,e1,e2,e3,e4⟩:=hs.hp.holds i _ u;rw[hr]at e1;cases e1;have hsz:c.size=ps.length:=by grind
    refine .p _ _ (.ptr b o (ps.drop o) (λq=>c.getD (o+q) undef) (λq hq=>?_) λq hq=>?_)
    .have s:o+q<ps.length:=by grind
     refine⟨cell_of_heap e2 (by omega),?_,by grind⟩;rintro (z|⟨i',o',g,m,hp'⟩)
     .exact hs.hp.out i _ b _ u (by grind[G0,R8]) z
     rw[d]at g;split at g
     .cases g;cases m
     rename_i a0;exact a0 (hs.hp.sep i i' _ o' b u g (by grind[G0,R8]) m)
    have s:o+q<ps.length:=by grind
    have h4:=(e4 (o+q) (by simpa using s)).1;have e5:(ps.map AV.p).getD (o+q) .top=.p (ps.getD (o+q) default):=by grind
    rw[e5]at h4;have e6:(ps.drop o).getD q default=ps.getD (o+q) default:=by grind
    rw[e6];exact h4.toP.keeps hk
  omega
 |_=>exact y
def Sat.congr {s t:St}(h:Sat C s a w rho)(h1:∀x,get s.env x=get t.env x)(b:∀j,A2 s.Uu j=A2 t.Uu j):Sat C t a w rho:=by have e1:get s.env=get t.env:=funext h1;have e2:A2 s.Uu=A2 t.Uu:=funext b;obtain⟨⟨g1,g0,g2,g3,g4,g5,g6⟩,g7,g8,g9⟩:=h;rw[e2]at g1 g4 g5 g6 g7 g8;rw[e1]at g7;exact⟨⟨g1,g0,g2,g3,g4,g5,g6⟩,g7,g8,g9⟩
def semUp.eqv {s t:St}{K:St->Prop}(h1:∀x,get s.env x=get t.env x)(c:∀j,A2 s.Uu j=A2 t.Uu j)(h:K t):semUp s K:=λC a w rho hs=>
 ⟨t,rho,h,λb o hp=>by rw[funext c];omega,hs.congr h1 c⟩
def semUp.less {s t:St}{K:St->Prop}(h1:∀x,Xh (get t.env x) (get s.env x))(d:∀j,A2 s.Uu j=A2 t.Uu j)(h:K t):semUp s K:=λC a w rho hs=>by
 have c:Sat C ⟨s.env,t.Uu⟩ a w rho:=hs.congr (λ_=>rfl) d;refine⟨t,rho,h,λb o hp=>by rw[funext d];omega,c.toSatE,λx=>?_,c.pin,c.marks⟩
 have:=c.env x
 rcases h1 x with e|e|⟨y,e1,e2⟩
 .rw[e];exact .top _
 .rw[e];omega
 rw[e1];rw[show get (St.mk s.env t.Uu).env x=_ from e2]at this;exact .p _ _ (this.toP.leP (.inr (by grind)))
def BC4 {ids:List (Nat×Nat)}{j i:Nat}(h:lk ids j=some i):(j,i)∈ids:=by
 induction ids with
 |nil=>grind[lk]
 |cons p r ih=>
  grind[lk,List.mem_cons_of_mem]
theorem BU9 {ids:List (Nat×Nat)}(hn:I5 (ids.map (·.2))=true){j j' i:Nat}(h:lk ids j=some i)(h' : lk ids j' = some i):j=j':=by
 have a:=DS hn;obtain⟨p,hp⟩:=Ck0.1 (BC4 h);obtain⟨q,b⟩:=Ck0.1 (BC4 h')
 have:p=q:=Ht (j:=i) a (by rw[Ce7,hp];rfl) (by rw[Ce7,b];rfl)
 grind
def BV0 {ids:List (Nat×Nat)}(hp:AK7 ids=true){j i:Nat}(h:lk ids j=some i)(a:j<1000):i=j:=by
 induction ids with
 |nil=>grind[lk]
 |cons p r ih=>
  obtain⟨x,y⟩:=p;simp only[AK7,Ce2,Cg6,beq_iff_eq,Lq]at hp
  grind[lk]
theorem Xs {Uu:C6}{j:Nat}{o:Obj}(h:A2 Uu j=some o):(j,o)∈Uu:=by
 induction Uu with
 |nil=>grind[A2]
 |cons p r ih=>
  grind[A2,List.mem_cons_of_mem]
def Bq1 {Uu:C6}{j:Nat}(h:j∈Uu.map (·.1)):(A2 Uu j).isSome=true:=by
 induction Uu with
 |nil=>grind
 |cons p r ih=>
  grind[A2,Ke]
def Hv {Uu:C6}{ids:List (Nat×Nat)}:∀{r:C6},ZD Uu ids r->∀{j:Nat}{p:Obj},A2 r j=some p ->
 (∃i o,lk ids j=some i/\A2 Uu i=some o/\leO Uu ids o p) \/ (lk ids j=none/\∃e k f vw,p=.vec e k 0 f vw)
 |[],_,j,p,h=>by grind[A2]
 |(x,y)::r,hl,j,p,h=>by
  simp only[A2]at h;split at h
  .rename_i e;cases h;subst e;exact hl.1
  exact Hv hl.2 h
def ZZ {Uu:C6}{ids:List (Nat×Nat)}{env:Env}:∀{r:Env},Rn Uu ids env r->∀(t:Nat),(∃b,(t,b)∈r/\get r t=b/\leA Uu ids (get env t) b/\∀i∈MY (get env t) b,i∈seen env r) \/ get r t=.top
 |[],_,t=>.inr rfl
 |(x,y)::r,hl,t=>by
  simp only[get];split
  .rename_i e;subst e;exact .inl ⟨y,by simp,rfl,hl.1,λi a=>by grind[seen,List.mem_append_left]⟩
  rcases ZZ hl.2 t with⟨b,h1,c,d,f⟩ | h
  all_goals grind[List.mem_cons_of_mem,seen,List.mem_append_right]
def VA {ids:List (Nat×Nat)}{js:List Nat}:∀{r:C6},Px ids js r=true->∀{j e k n f i},(j,Obj.vec e k n f false)∈r->lk ids j=some i->i ∉ js
 |[],_,j,e,k,n,f,i,h,_=>by grind
 |p::r,hs,j,e,k,n,f,i,h,hi=>by
  rcases Ci2.1 h with h|h
  .subst h
   simp_all[Px]
  refine VA (r:=r) ?_ h hi;obtain⟨x,o⟩:=p;cases o with
  |vec _ _ _ _ b=>cases b<;>simp only[Px,Ce2]at hs<;>first|exact hs.2|omega
  |_=>exact hs
def Ms {Uu:C6}{ids:List (Nat×Nat)}:∀{l m:List AV},leL Uu ids l m->l.length=m.length/\∀i,i<l.length->leA Uu ids (l.getD i .top) (m.getD i .top)/\∀x∈MY (l.getD i .top) (m.getD i .top),x∈Ug l m
 |l,[],h=>by unfold leL at h;subst h;exact⟨rfl,λi a=>Ke a (by simp)⟩
 |l,y::m,h=>by
  unfold leL at h;obtain⟨x,r,rfl,h1,b⟩:=h;obtain⟨c,d⟩:=Ms b
  grind[Ug,List.mem_append_left,List.mem_append_right]
def Mt {js:List Nat}:∀{m:List AV},inL js m=true->∀i,i<m.length->inA js (m.getD i .top)=true
 |[],_,i,hi=>Ke hi (by simp)
 |y::m,h,i,hi=>by
  unfold inL at h;rw[Ce2]at h;cases i with
  |zero=>grind
  |succ i=>simpa using Mt h.2 i (by grind)
section
variable {Pi Pi' : Nat->Nat->Prop}{live live' : Nat->Prop}{rho' : Nat->Value}{Uu:C6}{ids:List (Nat×Nat)}{js:List Nat}
def Yj.viewP (hk:Ux w Pi w Pi'){seenP:Nat->Prop}
 (d:∀i,seenP i->∀e k n f vw base n' cap,A2 Uu i=some (.vec e k n f vw)->rho i=.slice base n' cap->n' = n/\∀m,m<=n->Uy w Pi' (.slice base m cap) (.sl false k m f))
 {v:Value}{a:AV}(h:Yj w Pi live rho v a) {x y:PV}(hx:AM.viewP Uu a=some x) (hs:∀i∈MY a (.p y),seenP i):Uy w Pi' v x:=by
 cases h with
 |p _ z hz=>simp only[AM.viewP,Cd9]at hx;subst hx;exact hz.keeps hk
 |vec j base n' cap hl hr=>
  simp only[AM.viewP]at hx;split at hx
  .rename_i e k n f vw c;cases hx;obtain⟨rfl,o⟩:=d j (hs j (by simp[MY])) _ _ _ _ _ _ _ _ c hr
   grind
  grind
 |vecp j m base n' cap hl hr hm=>
  simp only[AM.viewP]at hx;split at hx
  .rename_i e k n f vw c;cases hx;obtain⟨rfl,o⟩:=d j (hs j (by simp[MY])) _ _ _ _ _ _ _ _ c hr;rw[Ck8 hm]
   grind
  grind
 |clo f x' y' l r hx' hy' hl hr=>
  have gen:(match Zq l,Zq r with
   |some a,some b=>some (PV.fn f a b)
   |_,_=>none)=some x->Uy w Pi' (.func (.func f) x' y') x:=by
   intro g;split at g
   .rename_i a' b' ha hb;cases g;exact (Yj.clo_fn ha hb (.clo f x' y' l r hx' hy' hl hr)).keeps hk
   grind
  cases l with
  |cons _ _=>exact gen hx
  |nil=>
   cases r with
   |cons _ _=>exact gen hx
   |nil=>simp only[AM.viewP,Cd9]at hx;subst hx;have e1:x' = #[]:=(by grind);have e2:y' = #[]:=(by grind);subst e1;subst e2;exact .v _
 |_=>simp[AM.viewP]at hx
def Yj.le (hk:Ux w Pi w Pi')(t:∀j i,lk ids j=some i->rho' j=rho i)(hnil:∀j,lk ids j=none->rho' j=.slice none 0 0)(s:∀j,js.contains j=true->live' j){seenP:Nat->Prop}
 (u:∀i,seenP i->∀e k n f vw base n' cap,A2 Uu i=some (.vec e k n f vw)->rho i=.slice base n' cap->n' = n/\∀m,m<=n->Uy w Pi' (.slice base m cap) (.sl false k m f))
 {v:Value}{a:AV}(h:Yj w Pi live rho v a):∀{b:AV},leA Uu ids a b->inA js b=true->(∀i∈MY a b,seenP i)->Yj w Pi' live' rho' v b:=by
 induction h with
 |p v x h=>
  intro b' hle g hs;cases b' with
  |top=>exact .top _
  |p y'=>unfold leA at hle;obtain⟨x',c,d⟩:=hle;exact .p _ _ (((Yj.p (live:=live) v x h).viewP hk u c hs).leP d)
  |vec j'=>
   unfold leA at hle;rcases hle with⟨i',_,q⟩ | ⟨hn,q⟩
   .grind
   cases q;rw[h.toV];exact .vec j' none 0 0 (s j' (by grind[inA])) (hnil j' hn)
  |_=>simp[leA]at hle
 |reg j off b hl h=>
  intro b' hle g hs;cases b' with
  |top=>exact .top _
  |p y'=>unfold leA at hle;obtain⟨x',c,d⟩:=hle;exact .p _ _ (((Yj.reg j off b hl h).viewP hk u c hs).leP d)
  |reg j' off'=>unfold leA at hle;obtain⟨i',o,q⟩:=hle;cases q;exact .reg j' off b (s j' (by grind[inA])) ((t _ _ o).trans h)
  |_=>simp[leA]at hle
 |vec j base n cap hl h=>
  intro b' hle g hs;cases b' with
  |top=>exact .top _
  |p y'=>unfold leA at hle;obtain⟨x',c,d⟩:=hle;exact .p _ _ (((Yj.vec j base n cap hl h).viewP hk u c hs).leP d)
  |vec j'=>
   unfold leA at hle;rcases hle with⟨i',o,q⟩ | ⟨hn,q⟩
   .cases q;exact .vec j' base n cap (s j' (by grind[inA])) ((t _ _ o).trans h)
   grind
  |_=>simp[leA]at hle
 |vecp j m base n cap hl h hm=>
  intro b' hle g hs;cases b' with
  |top=>exact .top _
  |p y'=>unfold leA at hle;obtain⟨x',c,d⟩:=hle;exact .p _ _ (((Yj.vecp j m base n cap hl h hm).viewP hk u c hs).leP d)
  |vecp j' m'=>unfold leA at hle;obtain⟨i',o,q⟩:=hle;cases q;exact .vecp j' m base n cap (s j' (by grind[inA])) ((t _ _ o).trans h) hm
  |_=>simp[leA]at hle
 |elt j k i off b n cap hl h=>
  intro b' hle g hs;cases b' with
  |top=>exact .top _
  |p y'=>unfold leA at hle;obtain⟨x',c,d⟩:=hle;exact .p _ _ (((Yj.elt j k i off b n cap hl h).viewP hk u c hs).leP d)
  |elt j' k' i2 off'=>unfold leA at hle;obtain⟨i',o,q⟩:=hle;cases q;exact .elt j' k i off b n cap (s j' (by grind[inA])) ((t _ _ o).trans h)
  |_=>simp[leA]at hle
 |Uz j r hl h=>
  intro b' hle g hs;cases b' with
  |top=>exact .top _
  |p y'=>unfold leA at hle;obtain⟨x',c,d⟩:=hle;exact .p _ _ (((Yj.Uz j r hl h).viewP hk u c hs).leP d)
  |Uz j'=>unfold leA at hle;obtain⟨i',o,q⟩:=hle;cases q;exact .Uz j' r (s j' (by grind[inA])) ((t _ _ o).trans h)
  |_=>simp[leA]at hle
 |clo f x y a b hx hy ha hb iha ihb=>
  intro b' hle g hs;cases b' with
  |top=>exact .top _
  |p y'=>unfold leA at hle;obtain⟨x',c,d⟩:=hle;exact .p _ _ (((Yj.clo f x y a b hx hy ha hb).viewP hk u c hs).leP d)
  |clo f' x2 y2=>
   unfold leA at hle;obtain⟨x3,y3,q,h1,h2⟩:=hle;cases q;unfold inA at g;rw[Ce2]at g;obtain⟨l1,g1⟩:=Ms h1;obtain⟨l2,g2⟩:=Ms h2;exact .clo f x y x2 y2 (hx.trans l1) (hy.trans l2)
    (λi hi=>iha i (by omega) (g1 i (by omega)).1 (Mt g.1 i hi) λz hz=>hs z (by grind[MY,List.mem_append_left]))
    λi hi=>ihb i (by omega) (g2 i (by omega)).1 (Mt g.2 i hi) λz hz=>hs z (by grind[MY,List.mem_append_right])
  |_=>simp[leA]at hle
 |tup x a hx ha ih=>
  intro b' hle g hs;cases b' with
  |top=>exact .top _
  |p y'=>unfold leA at hle;obtain⟨x',c,d⟩:=hle;exact .p _ _ (((Yj.tup x a hx ha).viewP hk u c hs).leP d)
  |tup l2=>unfold leA at hle;obtain⟨l3,q,h1'⟩:=hle;cases q;unfold inA at g;obtain⟨l1,g1⟩:=Ms h1';exact .tup x l2 (hx.trans l1) λi hi=>ih i (by omega) (g1 i (by omega)).1 (Mt g i hi) λz hz=>hs z (by grind[MY])
  |_=>simp[leA]at hle
 |agr x a hx h1 ha ih=>
  intro b' hle g hs;cases b' with
  |top=>exact .top _
  |p y'=>unfold leA at hle;obtain⟨x',c,d⟩:=hle;exact .p _ _ (((Yj.agr x a hx h1 ha).viewP hk u c hs).leP d)
  |agr l2=>unfold leA at hle;obtain⟨l3,q,h1'⟩:=hle;cases q;unfold inA at g;obtain⟨l1,g1⟩:=Ms h1';exact .agr x l2 (hx.trans l1) (by grind) λi hi=>ih i (by omega) (g1 i (by omega)).1 (Mt g i hi) λz hz=>hs z (by grind[MY])
  |_=>simp[leA]at hle
 |yf j l hl h=>
  intro b' hle g hs;cases b' with
  |top=>exact .top _
  |p y'=>unfold leA at hle;obtain⟨x',c,d⟩:=hle;exact .p _ _ (((Yj.yf j l hl h).viewP hk u c hs).leP d)
  |yf j'=>unfold leA at hle;obtain⟨i',o,q⟩:=hle;cases q;exact .yf j' l (s j' (by grind[inA])) ((t _ _ o).trans h)
  |_=>simp[leA]at hle
 |top v=>
  intro b' hle g hs;cases b' with
  |top=>exact .top _
  |p y'=>unfold leA at hle;obtain⟨x',c,d⟩:=hle;exact .p _ _ (((Yj.top (live:=live) v).viewP hk u c hs).leP d)
  |_=>simp[leA]at hle
end
def AW8 (ids:List (Nat×Nat))(rho:Nat->Value)(j:Nat):Value:=match lk ids j with
 |some i=>rho i
 |none=>.slice none 0 0
theorem BI8 {Uu:C6}{ids:List (Nat×Nat)}{o p:Obj}(h:leO Uu ids o p){v:Value}{b:Nat}(hb:G0 v p b):G0 v o b/\∀off,MT p off->MT o off:=by
 cases p with
 |cells cs=>obtain⟨cs',rfl,_⟩:=h;exact⟨hb,λ_ h=>h⟩
 |vec e k n f vw=>
  obtain⟨g,vw',rfl,h1,c⟩:=h;refine⟨hb,λoff hp=>?_⟩;cases vw'
  .trivial
  rw[c rfl]at hp;exact hp
 |map es=>subst h;grind
 |arr n f=>obtain⟨g,rfl,_⟩:=h;exact⟨hb,λ_ h=>h⟩
 |blk l jr=>obtain⟨_,rfl,_⟩:=h;exact⟨hb,λ_ h=>h⟩
 |fam e n jr x=>obtain⟨_,_,rfl,_⟩:=h;exact⟨hb,λ_ h=>h⟩
 |rows n g=>obtain⟨g',rfl,h1⟩:=h;obtain⟨rv,d,i,a,hb⟩:=hb;exact⟨⟨rv,d,i,a,by rw[h1 i a];omega⟩,λ_ _=>trivial⟩
 |_=>simp[G0,R8]at hb
def Sat.le (h:Sat C st a w rho){ids:List (Nat×Nat)}(hle:Le ids st t):Sat C t a w (AW8 ids rho)/\∀b off,Prv C.X (A2 t.Uu) (AW8 ids rho) b off->Prv C.X (A2 st.Uu) rho b off:=by
 obtain⟨⟨hwf,hnd,hpin,hpn,hseen⟩,hE,hR⟩:=hle;have hlk:∀j i,lk ids j=some i->AW8 ids rho j=rho i:=λj i s=>by grind[AW8]
 have hnil:∀j,lk ids j=none->AW8 ids rho j=.slice none 0 0:=λj s=>by grind[AW8]
 simp only[wf,Ce2,Ce8]at hwf;obtain⟨⟨⟨_,_⟩,hwe⟩,hwr⟩:=hwf;have hjs:∀j,(t.Uu.map (·.1)).contains j=true->Lv (A2 t.Uu) j:=λj s=>Bq1 (by grind);have hown:∀j p b,A2 t.Uu j=some p->G0 (AW8 ids rho j) p b->∃i o,lk ids j=some i/\A2 st.Uu i=some o/\G0 (rho i) o b/\leO st.Uu ids o p/\∀off,MT p off->MT o off:=by
  intro j p b s hb;rcases Hv hR s with⟨i,o,h1,h2,d⟩ | ⟨h1,e,k,f,vw,rfl⟩
  all_goals grind[BI8,G0,R8]
 have hpi:∀b off,Prv C.X (A2 t.Uu) (AW8 ids rho) b off->Prv C.X (A2 st.Uu) rho b off:=by
  rintro b off (hX|⟨j,p,s,hb,hp⟩)
  .exact .inl hX
  obtain⟨i,o,_,h2,d,_,h5⟩:=hown j p b s hb;exact .inr (by grind)
 have hk:Ux w (Prv C.X (A2 st.Uu) rho) w (Prv C.X (A2 t.Uu) (AW8 ids rho)):=λb o v hp hc=>(by grind);have hv:∀i,i∈seen st.env t.env++MZ ids st.Uu t.Uu->∀e k n f vw base n' cap,A2 st.Uu i=some (.vec e k n f vw)->rho i=.slice base n' cap->n' = n/\∀m,m<=n->Uy w (Prv C.X (A2 t.Uu) (AW8 ids rho)) (.slice base m cap) (.sl false k m f):=by
  intro i hi e k n f vw base n' cap hri hrho;have hh:=h.hp.holds i _ hri;rw[hrho]at hh;rcases hh with⟨he,rfl⟩ | ⟨b,cap',c,he,h1,h2,d,h4,h5,h6⟩
  .cases he;refine⟨rfl,λm hm=>?_⟩;obtain rfl:m=0:=by omega
   exact .slnil k f
  cases he;refine⟨rfl,λm hm=>?_⟩;refine .sl false b 0 cap k m f (λi j=>c.getD (i*k+j) undef) (by omega) (by grind) (λx y hx hy=>?_) (λx y hx hy=>((h6 x y (by omega) hy).1).keeps hk) none (λ_=>rfl);have hlt:=M1 (show x<n by omega) hy;have hle' : n*k<=c.size:=by rw[d];exact Cf4 k h2
  rw[Ch0];refine⟨cell_of_heap h1 (by omega),?_,by grind⟩;rintro (hX|⟨j,p,s,hb,hp⟩)
  .exact h.hp.out i _ b _ hri (by grind[G0,R8]) hX
  obtain⟨i',o,h7,h8,h9,u,h11⟩:=hown j p b s hb
  have:=h.hp.sep i' i o _ b h8 hri h9 (by grind[G0,R8])
  subst this;rw[hri]at h8;cases h8;cases p with
  |vec e2 k2 n2 f2 vw2=>
   obtain⟨g,vw',he,h12,h13⟩:=u;cases he;cases vw2
   .exact VA hseen (Xs s) h7 hi
   grind[MT]
  |cells cs=>obtain⟨cs',he,_⟩:=u;grind
  |map es=>cases u
  |arr n f=>obtain⟨g,he,_⟩:=u;grind
  |blk l jr=>obtain⟨_,he,_⟩:=u;grind
  |ghost cs=>obtain⟨cs',he,_⟩:=u;grind
  |yld r b=>cases u
  |fam e n jr x=>obtain⟨_,_,he,_⟩:=u;grind
  |rows n g=>obtain⟨_,he,_⟩:=u;grind
  |dead=>grind[G0,R8]
 have hA:∀{v:Value}{x:AV},RS C st w rho v x->∀{y:AV},leA st.Uu ids x y->inA (t.Uu.map (·.1)) y=true->(∀i∈MY x y,i∈seen st.env t.env++MZ ids st.Uu t.Uu)->Yj w (Prv C.X (A2 t.Uu) (AW8 ids rho)) (Lv (A2 t.Uu)) (AW8 ids rho) v y:=
  λhx y hle hin hs=>hx.le (live':=Lv (A2 t.Uu)) hk hlk hnil hjs hv hle hin hs
 have hseenR:∀{r:C6}{j i:Nat}{cs cs' : List AV},(∀(q:Nat) (p:Obj),(q,p)∈r->(q,p)∈t.Uu)->lk ids j=some i->((j,Obj.cells cs)∈r/\A2 st.Uu i=some (.cells cs') \/ (j,Obj.ghost cs)∈r/\A2 st.Uu i=some (.ghost cs'))->∀x∈Ug cs' cs,x∈MZ ids st.Uu r:=by
  intro r
  induction r with
  |nil=>grind
  |cons p r ih=>
   intro j i cs cs' hsub hi hm x hx;obtain⟨q,p⟩:=p;have hrec:((j,Obj.cells cs)∈r/\A2 st.Uu i=some (.cells cs') \/ (j,Obj.ghost cs)∈r/\A2 st.Uu i=some (.ghost cs'))->x∈MZ ids st.Uu r:=(by grind);rcases hm with⟨hm,hr⟩ | ⟨hm,hr⟩
   .rcases Ci2.1 hm with he|hm
    .grind[MZ,List.mem_append_left]
    have:=hrec (.inl ⟨hm,hr⟩)
    cases p<;>simp only[MZ]<;>first|exact (by grind)|exact this
   rcases Ci2.1 hm with he|hm
   .grind[MZ,List.mem_append_left]
   have:=hrec (.inr ⟨hm,hr⟩)
   cases p<;>simp only[MZ]<;>first|exact (by grind)|exact this
 refine⟨⟨⟨⟨?_,?_,?_,λb off hX=>h.hp.bound b off hX⟩,h.ext,h.size,h.same,h.keep.trans hk,?_,?_⟩,?_,?_,h.marks⟩,hpi⟩
 .intro j p s;rcases Hv hR s with⟨i,o,h1,h2,d⟩ | ⟨h1,e,k,f,vw,rfl⟩
  .rw[hlk j i h1];have hh:=h.hp.holds i o h2;have hmem:=Xs s;have hin:=hwr _ hmem;cases p with
   |cells cs=>
    obtain⟨cs',rfl,hl⟩:=d;obtain⟨l1,g1⟩:=Ms hl;obtain⟨b,c,T,hb,h4,h5,h6⟩:=hh;refine⟨b,c,T,hb,h4,h5.trans l1,λq hq=>⟨?_,(h6 q (by omega)).2⟩⟩;refine hA (h6 q (by omega)).1 (g1 q (by omega)).1 (Mt hin q hq) λz hz=>Ci1 _ ?_
    grind
   |vec e k n f vw=>
    obtain⟨g,vw',rfl,h4,h5⟩:=d;rcases hh with hn|⟨b,cap,c,hb,h6,h7,h8,h9,u,h11⟩
    .exact .inl hn
    exact .inr ⟨b,cap,c,hb,h6,h7,h8,h9,by grind,λq r hq hr=>by rw[<- h4 q hq];exact⟨(h11 q r hq hr).1.keeps hk,(h11 q r hq hr).2⟩⟩
   |map es=>have d:o=.map es:=d;subst d;obtain⟨b,Ya,clock,hb,h4,h5,h6,h9⟩:=hh;exact⟨b,Ya,clock,hb,h4,h5,λq hq=>⟨(h6 q hq).1.keeps hk,(h6 q hq).2.keeps hk⟩,h9⟩
   |blk l jr=>obtain⟨jr',rfl,h4⟩:=d;obtain⟨g1,g2,b,hb,h5⟩:=hh;simp only[inO]at hin;exact⟨hjs jr hin,by rw[hlk _ _ h4];omega,b,hb,by rw[hlk _ _ h4];omega⟩
   |arr n f=>obtain⟨g,rfl,h7⟩:=d;obtain⟨b,c,T,hb,h4,h5,h6⟩:=hh;exact⟨b,c,T,hb,h4,h5,λq hq=>by rw[<- h7 q hq];exact⟨(h6 q hq).1.keeps hk,(h6 q hq).2⟩⟩
   |ghost cs=>obtain⟨cs',rfl,hl⟩:=d;obtain⟨l1,g1⟩:=Ms hl;obtain⟨vs,hb,h5,h6⟩:=hh;refine⟨vs,hb,h5.trans l1,λq hq=>?_⟩;refine hA (h6 q (by omega)) (g1 q (by omega)).1 (Mt hin q hq) λz hz=>Ci1 _ ?_;exact hseenR (λ_ _ h=>h) h1 (.inr ⟨hmem,h2⟩) z (by grind)
   |yld r b=>have d:o=.yld r b:=d;subst d;exact hh
   |fam e n jr x=>
    obtain⟨jr',x',rfl,h4,h5⟩:=d;obtain⟨rv,g1,g2,hv2⟩:=hh;simp only[inO,Ce2]at hin;refine⟨rv,hjs jr hin.1,by grind,?_⟩;rcases hv2 with hv2|⟨b,cap,c,hb,k1,k2,k3,k4,k5,k6⟩
    .grind
    refine .inr ⟨b,cap,c,hb,k1,k2,k3,k4,?_,?_⟩
    .grind
    cases x with
    |none=>simp
    |some q=>obtain⟨i,a⟩:=q;obtain⟨a',rfl,h6,h7⟩:=h5;refine hA k6 h7 hin.2 λz hz=>?_;cases a<;>cases a'<;>first|(simp[nov]at h6;done)|(unfold MY at hz;simp at hz)
   |rows n g=>
    obtain⟨g',rfl,h4⟩:=d;obtain⟨rv,hb,k1,k2⟩:=hh;refine⟨rv,hb,λq hq=>by rw[<- h4 q hq];exact (k1 q hq).keeps' hk λ_ _=>rfl,λq l b hq hl h8 h9=>?_⟩;rw[<- h4 q hq]at h8;rw[<- h4 l hl]at h9
    grind
   |dead=>trivial
  rw[hnil j h1];exact .inl ⟨rfl,rfl⟩
 .intro i j oi oj b hi s hbi hbj;obtain⟨i',o1,h1,h2,d,_⟩:=hown i oi b hi hbi;obtain⟨j',o2,h4,h5,h6,_⟩:=hown j oj b s hbj
  have:=h.hp.sep i' j' o1 o2 b h2 h5 d h6
  grind[BU9]
 .intro j p b off s hb;obtain⟨i,o,_,h2,d,_⟩:=hown j p b s hb;exact h.hp.out i o b off h2 d
 .rintro b ⟨j,p,s,hb⟩;obtain⟨i,o,_,h2,d,_⟩:=hown j p b s hb;exact h.own b ⟨i,o,h2,d⟩
 .intro j r b s;rcases Hv hR s with⟨i,o,h1,h2,d⟩ | ⟨h1,e,k,f,vw,he⟩
  .have d:o=.yld r b:=d;subst d;rw[hlk j i h1];exact h.yld i r b h2
  grind
 .intro x;rcases ZZ hE x with⟨b,h1,h2,d,h4⟩ | h1
  .rw[h2];exact hA (h.env x) d (hwe _ h1) (by grind)
  rw[h1];exact .top _
 intro j s hl;obtain⟨p,hp⟩:=Cf3.1 hl;rcases Hv hR hp with⟨i,o,h1,h2,d⟩ | ⟨h1,_⟩
 .have:=BV0 hpin h1 s
  subst this;rw[hlk _ _ h1];exact h.pin _ s (by grind[Lv])
 exfalso
 have:∀{r:C6},Vo ids r=true->(j,p)∈r->False:=by
  intro r
  induction r with
  |nil=>grind
  |cons q r ih=>
   intro hq hm;obtain⟨x,y⟩:=q;simp only[Vo,Ce2,Cg6,Lq]at hq
   grind
 grind[Xs]
def semUp.le {ids:List (Nat×Nat)}{K:St->Prop}(hle:Le ids st t)(b:K t):semUp st K:=λC a w rho hs=>⟨t,_,b,(hs.le hle).2,(hs.le hle).1⟩
end
def Bq2 (j n j' : Nat)(env:Env)(t:Nat):get (BB8 j n j' env) t=Bo1 j n j' (get env t):=by
 induction env with
 |nil=>rfl
 |cons p r ih=>
  grind[BB8,get]
def Ba2 (j n j' : Nat)(Uu:C6)(t:Nat):A2 (AC1 j n j' Uu) t=(A2 Uu t).map (BR0 j n j'):=by
 induction Uu with
 |nil=>rfl
 |cons p r ih=>
  grind[AC1,A2]
def Xt (j n j' : Nat):∀l:List AV,(BB9 j n j' l).length=l.length
 |[]=>rfl
 |_::r=>congrArg (· + 1) (Xt j n j' r)
def AD1 (j n j' : Nat):∀(l:List AV) (i:Nat),(BB9 j n j' l).getD i .top=Bo1 j n j' (l.getD i .top)
 |[],i=>by simp[BB9,Bo1]
 |a::r,0=>rfl
 |a::r,i+1=>by simpa[BB9]using AD1 j n j' r i
theorem AD2 {w:World}{Pi Pi' : Nat->Nat->Prop}{live live' : Nat->Prop}{rho rho' : Nat->Value}{j n j' : Nat}(hk:Ux w Pi w Pi')(hl:∀i,live i->live' i/\rho' i=rho i)(a:live' j')
 (b:∀base N cap,rho j=.slice base N cap->rho' j' = .slice base n cap) {v:Value}{x:AV}(h:Yj w Pi live rho v x):Yj w Pi' live' rho' v (Bo1 j n j' x):=by
 have c:=h.keeps hk hl;cases h with
 |vecp i m base N cap hl' hr hm=>
  simp only[Bo1];split
  .rename_i e;obtain⟨rfl,rfl⟩:=e;exact .vec j' base _ cap a (b _ _ _ hr)
  omega
 |_=>exact c
def semUp.trunc {st:St}{j j' n N k:Nat}{e:TypeId}{f:Nat->List PV}{K:St->Prop}(hj:A2 st.Uu j=some (.vec e k N f false))(hn:n<=N)(hf:A2 st.Uu j' = none)(h1:1000<=j')
 (hK:K ⟨BB8 j n j' st.env,ins j' (.vec e k n f false) (ins j .dead (AC1 j n j' st.Uu))⟩):semUp st K:=λC a w rho hs=>by
 have hne:j≠j':=by grind
 obtain⟨rho',x,y⟩:∃rho' : Nat->Value,(∀i,i≠j' -> rho' i=rho i)/\∀base M cap,rho j=.slice base M cap->rho' j' = .slice base n cap:=
  ⟨λi=>ite (i=j') (match rho j with | .slice b _ c=>.slice b n c|v=>v) (rho i),λi q=>Js q,by grind⟩
 have d:∀i,A2 (ins j' (.vec e k n f false) (ins j .dead (AC1 j n j' st.Uu))) i=ite (j' = i) (some (.vec e k n f false)) (ite (j=i) (some .dead) ((A2 st.Uu i).map (BR0 j n j'))):=λi=>by rw[A4,A4,Ba2]
 have m:=hs.hp.holds j _ hj;have a0:G0 (rho' j') (.vec e k n f false)=G0 (rho j) (.vec e k N f false):=by rcases m with⟨h,_⟩ | ⟨b,cap,c,h,_⟩<;>rw[y _ _ _ h,h]<;>rfl
 have hpriv:∀i oi b off,(i=j \/ i=j' \/ ∃cs,A2 st.Uu i=some (.cells cs))->A2 st.Uu i=some oi->G0 (rho i) oi b->Prv C.X (A2 st.Uu) rho b off:=by
  rintro i oi b off (rfl|rfl|⟨cs,hc⟩) g hb
  .rw[hj]at g;cases g;exact .inr ⟨_,_,hj,hb,trivial⟩
  .rw[hf]at g;grind
  rw[hc]at g;cases g;exact .inr ⟨_,_,hc,hb,trivial⟩
 have s:∀i o b,A2 (ins j' (.vec e k n f false) (ins j .dead (AC1 j n j' st.Uu))) i=some o->G0 (rho' i) o b ->
  ∃i0 o0,A2 st.Uu i0=some o0/\G0 (rho i0) o0 b/\(i=j' /\ i0=j \/ i≠j' /\ i0=i)/\(∀off,MT o off->MT o0 off):=by
  intro i o b g hb;rw[d]at g;split at g
  .rename_i e1;subst e1;cases g;rw[a0]at hb;exact⟨j,_,hj,hb,.inl ⟨rfl,rfl⟩,λ_ h=>h⟩
  rename_i e1;split at g
  .cases g;cases hb
  obtain⟨o0,z,rfl⟩:=Cg0.1 g;rw[x i (λh=>e1 h.symm)]at hb;refine⟨i,o0,z,?_,by omega,?_⟩
  .cases o0<;>exact hb
  cases o0<;>exact λ_ h=>h
 have u:∀i,Lv (A2 st.Uu) i->Lv (A2 (ins j' (.vec e k n f false) (ins j .dead (AC1 j n j' st.Uu)))) i/\rho' i=rho i:=by
  intro i q;have a1:i≠j':=by rintro rfl;grind[Lv]
  refine⟨?_,x i a1⟩;unfold Lv at q⊢;rw[d,Js (λh=>a1 h.symm)]
  grind
 have hlj:Lv (A2 (ins j' (.vec e k n f false) (ins j .dead (AC1 j n j' st.Uu)))) j':=by unfold Lv;rw[d,Jk rfl];rfl
 obtain⟨h2,hk⟩:=hs.step (D:=λi=>i=j \/ i=j' \/ ∃cs,A2 st.Uu i=some (.cells cs)) (R':=ins j' (.vec e k n f false) (ins j .dead (AC1 j n j' st.Uu))) (rho':=rho') (w':=w)
  (λi q=>by
   rw[d,Js (by omega),Js (by omega)];cases g:A2 st.Uu i with
   |none=>rfl
   |some o=>cases o<;>first|rfl|grind)
  u (Ce5 _)
  (λi q hl=>by
   unfold Lv at q hl;rw[d]at hl
   grind)
  (λi r b q=>by
   rw[d];split
   .simp
   rename_i e1;split
   .simp
   rename_i e2;rcases q with rfl|rfl|⟨cs,hc⟩
   .exact Ke rfl e2
   .exact Ke rfl e1
   rw[hc];simp[BR0])
  (λ_ _ _=>rfl)
  (by grind)
  (λi i' oi oj b q hi' g a2 hb a3=>by
   obtain⟨i0,o0,g1,g2,g3,_⟩:=s i oi b g hb;obtain⟨i1,o1,g1',g2',g3',_⟩:=s i' oj b a2 a3;have hs':=hs.hp.sep i0 i1 o0 o1 b g1 g1' g2 g2';have hd:∀i o,A2 (ins j' (.vec e k n f false) (ins j .dead (AC1 j n j' st.Uu))) i=some o->G0 (rho' i) o b->i≠j:=by rintro i o g hb rfl;rw[d,Js (λh=>hne h.symm),Jk rfl]at g;cases g;cases hb
   have d1:=hd i oi g hb;have d2:=hd i' oj a2 a3;rcases g3 with⟨rfl,rfl⟩ | ⟨g3,rfl⟩<;>rcases g3' with⟨rfl,rfl⟩ | ⟨g3',rfl⟩
   all_goals omega)
  (by grind)
  (λhk i o q g=>by
   rw[d]at g;split at g
   .rename_i e1;subst e1;cases g;have m:=m.keeps (w':=w) hk (by omega) (λ_ _=>rfl);rcases m with⟨h,h0⟩ | ⟨b,cap,c,h,g1,g2,g3,g4,g5,g6⟩
    .refine .inl ⟨?_,by omega⟩
     have:=y _ _ _ h
     rw[this]
     have:n=0:=by omega
     rw[this]
    exact .inr (by grind)
   rename_i e1;split at g
   .cases g;trivial
   rename_i e2;obtain⟨o0,z,rfl⟩:=Cg0.1 g;rw[x i (λh=>e1 h.symm)];have hh:=hs.hp.holds i _ z;cases o0 with
   |cells cs=>
    obtain⟨b,c,T,g0,g1,g2,g3⟩:=hh;refine⟨b,c,T,g0,g1,by rw[Xt];omega,λl hl=>?_⟩;rw[Xt]at hl;rw[AD1]
    grind[AD2]
   |_=>exact (by grind))
 refine⟨_,rho',hK,?_,⟨h2.toSatE,λt=>?_,h2.pin,h2.marks⟩⟩
 .rintro b off (hX|⟨i,o,q,hb,hp⟩)
  .exact .inl hX
  obtain⟨i0,o0,g1,g2,_,g4⟩:=s i o b q hb;exact .inr (by grind)
 show Yj w _ _ rho' (a.tmps.getD t undef) (get (BB8 j n j' st.env) t);rw[Bq2];exact AD2 hk u hlj y (hs.env t)
def Bq3 {w:World}{Pi Pi' : Nat->Nat->Prop}{live:Nat->Prop}{rho:Nat->Value}{v:Value}{o:Obj}{x:PV}(h:rowV w Pi live rho v o)(hp:Xf o=some x)(hk:Ux w Pi w Pi')
 (hb:∀b,R8 v o=some b->∀off,¬Pi' b off):Uy w Pi' v x:=by
 unfold Xf at hp;split at hp
 .rename_i e k n f;cases hp;rcases h with⟨rfl,rfl⟩ | ⟨b,cap,c,rfl,h1,d,m,s,q,g⟩
  .exact .slnil _ _
  refine .sl false b 0 cap k n f (λi j=>c.getD (i*k+j) undef) d q (λi l a hl=>?_) (λi l a hl=>(g i l a hl).1.keeps hk) none (λ_=>rfl);have r:=M1 a hl;have hle:n*k<=c.size:=by rw[m];exact Cf4 k d
  rw[Ch0];exact⟨cell_of_heap h1 (by omega),hb b rfl _,(g i l a hl).2⟩
 .cases hp;exact h.keeps hk
 grind
section
variable {st t:St}{j jr j' i:Nat}{g:Nat->Obj}{c:List Prop}{K:St->Prop}
def semUp.famF (he:X6 (.fam j jr g) st=some (c,t))(hc:D2 c)(hK:K t):semUp st K:=λC a w rho hs=>by
 simp only[X6]at he;split at he
 .rename_i e n f hj hf;cases he;obtain⟨h1,hrow⟩:=hc;have hne:j≠jr:=by grind
  obtain⟨rv,hrv⟩:∃rv:Array Value,(rho j=.slice none 0 0/\n=0) \/ ∃b cap,rho j=.slice (some ⟨b,0,none⟩) n cap/\w.heap[b]? = some (.cells rv e (0,0))/\n<=cap/\rv.size=cap/\cap<=maxLen /\
   ∀i,i<n->(∃x,f i=[x]/\Uy w (PiS C st rho) (rv.getD i undef) x)/\(rv.getD i undef).oneCell' = true:=by
   rcases hs.hp.holds j _ hj with⟨h,h0⟩ | ⟨b,cap,c,h,g1,g2,g3,g4,g5,g6⟩
   .simp_all
   refine⟨c,.inr ⟨b,cap,h,g1,g2,by omega,g4,λi hi=>?_⟩⟩;obtain⟨x,hx⟩:=Cq4.1 (g5 i hi)
   have:=g6 i 0 hi (by omega)
   rw[hx,Ci3,Cm1]at this
   grind
  have hnew:∀i,i<n->R8 (rv.getD i undef) (g i)=none/\∀{Pi' live' rho'},Ux w (PiS C st rho) w Pi' -> rowV w Pi' live' rho' (rv.getD i undef) (g i):=by
   intro i hi;have r:=hrow i hi;rcases hrv with⟨_,h0⟩ | ⟨b,cap,_,_,_,_,_,hx⟩
   .omega
   obtain⟨⟨x,hfx,hx⟩,_⟩:=hx i hi;rw[hfx]at r;unfold Ro at r;split at r
   .rename_i s;cases r;rw[hx.toV,s];exact⟨rfl,λ_=>.inl ⟨rfl,rfl⟩⟩
   .rename_i y s;obtain⟨r,_⟩:=r;cases r;rw[s];exact⟨rfl,λhk=>hx.keeps hk⟩
   grind
  have l:∀q,A2 (ins jr (.rows n g) (ins j (.fam e n jr none) st.Uu)) q=ite (jr=q) (some (.rows n g)) (ite (j=q) (some (.fam e n jr none)) (A2 st.Uu q)):=λq=>by rw[A4,A4]
  obtain⟨rho',hr'⟩:∃rho' : Nat->Value,rho' = λq=>ite (q=jr) (.agg rv) (rho q):=⟨_,rfl⟩
  have u:rho' jr=.agg rv:=by rw[hr'];grind
  have v:∀q,q≠jr->rho' q=rho q:=(by grind);have z:∀q,Lv (A2 st.Uu) q->Lv (A2 (ins jr (.rows n g) (ins j (.fam e n jr none) st.Uu))) q/\rho' q=rho q:=λq hq=>
   ⟨Jz (Jz hq),v q (by rintro rfl;grind[Lv])⟩
  have hwas:∀q o b,(q=j \/ q=jr)->A2 (ins jr (.rows n g) (ins j (.fam e n jr none) st.Uu)) q=some o->G0 (rho' q) o b->q=j/\G0 (rho j) (.vec e 1 n f false) b:=by
   intro q o b hq d hb;rw[l]at d;split at d
   .rename_i e1;subst e1;cases d;rw[u]at hb;obtain⟨rv',he,i,hi,hb⟩:=hb
    grind
   rename_i e1;obtain rfl:q=j:=(by omega);rw[Jk rfl]at d;cases d;rw[v q hne]at hb;exact⟨rfl,hb⟩
  obtain⟨h2,h3⟩:=hs.re (λq=>q=j \/ q=jr) (R':=ins jr (.rows n g) (ins j (.fam e n jr none) st.Uu)) (rho':=rho')
   (by grind) z
   (λq hq m=>by
    rcases FV m with rfl|m
    .omega
    rcases FV m with rfl|m
    all_goals grind[Ke,ZX])
   (by grind)
   (by grind)
   (by grind)
   (λq o hq d off=>by
    rcases hq with rfl|rfl
    .rw[hj]at d;cases d;trivial
    grind)
   (λ_ hk q o hq d=>by
    rw[l]at d;split at d
    .rename_i e1;subst e1;cases d;rw[u];exact⟨rv,rfl,by grind,by grind⟩
    rename_i e1;obtain rfl:q=j:=(by omega);rw[Jk rfl]at d;cases d;rw[v q hne];refine⟨rv,by unfold Lv;rw[l,Jk rfl];rfl,u,?_⟩
    grind)
  grind
 grind
def semUp.famO (v:X6 (.over j i) st=some (c,t))(hc:D2 c)(hK:K t):semUp st K:=λC a w rho hs=>by
 simp only[X6]at v;split at v
 .rename_i e n jr hj;split at v
  .rename_i m g x;cases v;obtain⟨rfl,hi0⟩:=hc;have hne:j≠jr:=by grind
   obtain⟨rv,l1,l2,y⟩:=hs.hp.holds j _ hj;obtain⟨rv',e1,z,hdis⟩:=hs.hp.holds jr _ x;rw[l2]at e1;cases e1;have r:∀q,A2 (ins jr (.rows m λl=>ite (l=i) (.dead) (g l)) (ins j (.fam e m jr (some (i,.top))) st.Uu)) q=ite (jr=q) (some (.rows m λl=>ite (l=i) (.dead) (g l))) (ite (j=q) (some (.fam e m jr (some (i,.top)))) (A2 st.Uu q)):=λq=>by rw[A4,A4]
   have hrowb:∀l b,R8 (rv.getD l undef) (ite (l=i) (.dead) (g l))=some b->R8 (rv.getD l undef) (g l)=some b:=by
    intro l b h;split at h
    .cases h
    omega
   have s:∀q o b,(q=j \/ q=jr)->A2 (ins jr (.rows m λl=>ite (l=i) (.dead) (g l)) (ins j (.fam e m jr (some (i,.top))) st.Uu)) q=some o->G0 (rho q) o b->∃oi,A2 st.Uu q=some oi/\G0 (rho q) oi b:=by
    intro q o b u d hb;rw[r]at d;split at d
    .rename_i e1;subst e1;cases d;obtain⟨rv',v,l,hl,hb⟩:=hb;exact⟨_,x,rv',v,l,hl,by rw[l2]at v;grind⟩
    rename_i e1;obtain rfl:q=j:=(by omega);rw[Jk rfl]at d;cases d;exact⟨_,hj,hb⟩
   obtain⟨h2,h3⟩:=hs.re (λq=>q=j \/ q=jr) (R':=ins jr (.rows m λl=>ite (l=i) (.dead) (g l)) (ins j (.fam e m jr (some (i,.top))) st.Uu)) (rho':=rho)
    (by grind) (λq u=>⟨Jz (Jz u),rfl⟩)
    (λq u f=>by
     rcases FV f with rfl|f
     .grind
     rcases FV f with rfl|f
     all_goals grind[Ke,ZX])
    (by grind)
    (by grind)
    (λq q' o o' b u f d ho' hb hb'=>by obtain⟨o1,g1,g2⟩:=s q o b u d hb;obtain⟨o2,g3,g4⟩:=s q' o' b f ho' hb';exact hs.hp.sep q q' o1 o2 b g1 g3 g2 g4)
    (λq o u d off=>by
     rcases u with rfl|rfl
     .rw[hj]at d;cases d;trivial
     rw[x]at d;cases d;trivial)
    (λ_ hk q o u d=>by
     rw[r]at d;split at d
     .rename_i e1;subst e1;cases d;refine⟨rv,l2,λl hl=>?_,by grind⟩;by_cases e:l=i
      .simp only[Jk e];trivial
      simp only[Js e];exact (z l hl).keeps' hk λ_ _=>rfl
     rename_i e1;obtain rfl:q=j:=(by omega);rw[Jk rfl]at d;cases d;refine⟨rv,Jz (Jz l1),l2,?_⟩;rcases y with h|⟨b,cap,c,g1,g2,g3,g4,g5,g6,g7⟩
     .omega
     exact .inr ⟨b,cap,c,g1,g2,g3,g4,g5,by grind,.top _⟩)
   grind
  grind
 grind
def semUp.famP (he:X6 (.pub j) st=some (c,t))(hc:D2 c)(hK:K t):semUp st K:=λC a w rho hs=>by
 simp only[X6]at he;split at he
 .rename_i e n jr hj;split at he
  .rename_i m g f;cases he;obtain⟨rfl,hpr⟩:=hc;have hne:j≠jr:=by grind
   obtain⟨rv,l1,l2,u⟩:=hs.hp.holds j _ hj;obtain⟨rv',e1,v,hdis⟩:=hs.hp.holds jr _ f;rw[l2]at e1;cases e1;have s:∀q,A2 (ins jr .dead (ins j (.vec e 1 m (λi=>[(Xf (g i)).getD default]) false) st.Uu)) q=ite (jr=q) (some .dead) (ite (j=q) (some (.vec e 1 m (λi=>[(Xf (g i)).getD default]) false)) (A2 st.Uu q)):=λq=>by rw[A4,A4]
   have y:∀q o b,A2 (ins jr .dead (ins j (.vec e 1 m (λi=>[(Xf (g i)).getD default]) false) st.Uu)) q=some o->G0 (rho q) o b->q≠jr/\∃oi,A2 st.Uu q=some oi/\G0 (rho q) oi b:=by
    intro q o b d hb;rw[s]at d;split at d
    .cases d;cases hb
    rename_i e1;refine⟨λe=>e1 e.symm,?_⟩;split at d
    .rename_i e2;subst e2;cases d;exact⟨_,hj,hb⟩
    grind
   obtain⟨h2,h3⟩:=hs.re (λq=>q=j \/ q=jr) (R':=ins jr .dead (ins j (.vec e 1 m (λi=>[(Xf (g i)).getD default]) false) st.Uu)) (rho':=rho)
    (by grind) (λq z=>⟨Jz (Jz z),rfl⟩)
    (λq z r=>by
     rcases FV r with rfl|r
     .grind
     rcases FV r with rfl|r
     all_goals grind[Ke,ZX])
    (by grind)
    (by grind)
    (by grind)
    (λq o z d off=>by
     rcases z with rfl|rfl
     .rw[hj]at d;cases d;trivial
     rw[f]at d;cases d;trivial)
    (λ_ hk q o z d=>by
     rw[s]at d;split at d
     .cases d;trivial
     rename_i e1;obtain rfl:q=j:=(by omega);rw[Jk rfl]at d;cases d;rcases u with h|⟨b,cap,c,g1,g2,g3,g4,g5,g6,g7⟩
     .exact .inl h
     refine .inr ⟨b,cap,c,g1,g2,g3,by omega,g5,λ_ _=>rfl,λi l hi hl=>?_⟩;obtain rfl:l=0:=by omega
     rw[Ci3,Cm1];refine⟨?_,(g6 i hi).1⟩;rw[(g6 i hi).2 (by simp)];obtain⟨x,hx⟩:=Cf3.1 (hpr i hi);show Uy w _ _ ((Xf (g i)).getD default);rw[hx];refine Bq3 (v i hi) hx hk λb' hb' off hp=>?_;have hbr:G0 (rho jr) (.rows m g) b':=⟨rv,l2,i,hi,hb'⟩;rcases hp with hX|⟨q',o',h5,h6,_⟩
     .exact hs.hp.out jr _ b' off f hbr hX
     obtain⟨h7,oi,h8,h9⟩:=y q' o' b' h5 h6;exact h7 (hs.hp.sep q' jr oi _ b' h8 f h9 hbr))
   grind
  grind
 grind
def Ba3 {o o' : Obj}{a:AV}(h:rowA j' o=some (a,o')):(∀v b,R8 v o' = some b->R8 v o=some b)/\(∀off,MT o' off)/\(∀r b,o' ≠ .yld r b)/\(∀n g,o' ≠ .rows n g) /\
 ∀{w Pi Pi' live live' rho rho' v},Ux w Pi w Pi' -> rowV w Pi live rho v o->live' j' -> rho' j' = v->Yk w Pi' live' rho' v o' /\ Yj w Pi' live' rho' v a:=by
 unfold rowA at h;split at h
 .rename_i e k n f;cases h;refine⟨λ_ _ h=>h,λ_=>trivial,by grind,by grind,λhk c hl d=>?_⟩;refine⟨c.keeps' hk λ_ _=>rfl,?_⟩;obtain⟨base,cap,hs⟩:=Nb (vw:=false) (e:=e) (k:=k) (n:=n) (f:=f) c;rw[hs]at d⊢;exact .vec j' _ _ _ hl d
 .rename_i es;cases h;refine⟨λ_ _ h=>h,λ_=>trivial,by grind,by grind,λhk c hl d=>?_⟩;refine⟨c.keeps' hk λ_ _=>rfl,?_⟩;obtain⟨b,Ya,clock,hs,_⟩:=c;rw[hs]at d⊢;exact .Uz j' b hl d
 .cases h;exact⟨λ_ _ h=>(nomatch h),λ_=>trivial,by grind,by grind,λhk c hl d=>⟨trivial,.p _ _ (c.keeps hk)⟩⟩
 grind
def Bq4 {v:Value}{o:Obj}(h:∀n g,o ≠ .rows n g){b:Nat}(hb:G0 v o b):R8 v o=some b:=by
 cases o with
 |rows n g=>grind
 |_=>exact hb
def semUp.famT (z:X6 (.take j i j') st=some (c,t))(hc:D2 c)(hK:K t):semUp st K:=λC a w rho hs=>by
 simp only[X6]at z;split at z
 .rename_i e n jr hj hf;split at z
  .rename_i m g r;split at z
   .rename_i av o' hra;cases z;obtain⟨⟨h1,rfl⟩,hi0⟩:=hc;obtain⟨s1,s2,s3,s4,s5⟩:=Ba3 hra;have v:j≠jr:=by grind
    have hn1:j≠j':=by grind
    have hn2:jr≠j':=by grind
    obtain⟨rv,l1,l2,hfam⟩:=hs.hp.holds j _ hj;obtain⟨rv',e1,hrow,hdis⟩:=hs.hp.holds jr _ r;rw[l2]at e1;cases e1;obtain⟨R',a0⟩:∃R' : C6,R' = ins j' o' (ins jr (.rows m λl=>ite (l=i) (.dead) (g l)) (ins j (.fam e m jr (some (i,av))) st.Uu)):=⟨_,rfl⟩;have s:∀q,A2 R' q=ite (j' = q) (some o') (ite (jr=q) (some (.rows m λl=>ite (l=i) (.dead) (g l))) (ite (j=q) (some (.fam e m jr (some (i,av)))) (A2 st.Uu q))):=λq=>by rw[a0,A4,A4,A4]
    obtain⟨rho',hr'⟩:∃rho' : Nat->Value,rho' = λq=>ite (q=j') (rv.getD i undef) (rho q):=⟨_,rfl⟩
    have hr1:rho' j' = rv.getD i undef:=by rw[hr'];grind
    have a1:∀q,q≠j' -> rho' q=rho q:=(by grind);have u:∀q,Lv (A2 st.Uu) q->Lv (A2 R') q/\rho' q=rho q:=λq hq=>
     ⟨by rw[a0];grind[Jz],a1 q (by rintro rfl;grind[Lv])⟩
    have hrowb:∀l b,R8 (rv.getD l undef) (ite (l=i) (.dead) (g l))=some b->l≠i/\R8 (rv.getD l undef) (g l)=some b:=by
     intro l b h;split at h
     .cases h
     grind
    have hlj:Lv (A2 R') j':=by unfold Lv;rw[s,Jk rfl];rfl
    have y:∀q o b,(q=j \/ q=jr \/ q=j')->A2 R' q=some o->G0 (rho' q) o b ->
     (q=j' /\ R8 (rv.getD i undef) (g i)=some b) \/ (q=jr/\∃l,l<m/\l≠i/\R8 (rv.getD l undef) (g l)=some b) \/ (q=j/\G0 (rho j) (.fam e m jr none) b):=by
     intro q o b hq d hb;rw[s]at d;split at d
     .rename_i e1;subst e1;cases d;rw[hr1]at hb;exact .inl ⟨rfl,s1 _ _ (Bq4 s4 hb)⟩
     rename_i e1;rw[a1 q (λe=>e1 e.symm)]at hb;split at d
     .rename_i e2;subst e2;cases d;obtain⟨rv',z,l,hl,hb⟩:=hb;rw[l2]at z;grind
     rename_i e2;obtain rfl:q=j:=(by omega);rw[Jk rfl]at d;cases d;exact .inr (.inr ⟨rfl,hb⟩)
    have x:∀l b,l<m->R8 (rv.getD l undef) (g l)=some b->G0 (rho jr) (.rows m g) b:=λl b hl hb=>⟨rv,l2,l,hl,hb⟩;obtain⟨h2,h3⟩:=hs.re (λq=>q=j \/ q=jr \/ q=j') (R':=R') (rho':=rho')
     (by grind) u
     (λq hq f=>by
      rw[a0]at f;rcases FV f with rfl|f
      .omega
      rcases FV f with rfl|f
      .grind
      rcases FV f with rfl|f
      all_goals grind[Ke,ZX])
     (by grind)
     (by grind)
     (λq q' o o2 b hq f d ho' hb hb'=>by
      rcases y q o b hq d hb with⟨rfl,h⟩ | ⟨rfl,l,hl,hli,h⟩ | ⟨rfl,h⟩<;>rcases y q' o2 b f ho' hb' with⟨rfl,h'⟩ | ⟨rfl,l',hl',hli',h'⟩ | ⟨rfl,h'⟩
      .rfl
      .grind
      .exact Ke (hs.hp.sep _ _ _ _ b hj r h' (x i b hi0 h)) v
      .grind
      .rfl
      .exact Ke (hs.hp.sep _ _ _ _ b hj r h' (x l b hl h)) v
      .exact Ke (hs.hp.sep _ _ _ _ b hj r h (x i b hi0 h')) v
      .exact Ke (hs.hp.sep _ _ _ _ b hj r h (x l' b hl' h')) v
      rfl)
     (λq o hq d off=>by
      rcases hq with rfl|rfl|rfl
      .rw[hj]at d;cases d;trivial
      .rw[r]at d;cases d;trivial
      grind)
     (λ_ hk q o hq d=>by
      rw[s]at d;split at d
      .grind
      rename_i e1;rw[a1 q (λe=>e1 e.symm)];split at d
      .rename_i e2;subst e2;cases d;refine⟨rv,l2,λl hl=>?_,by grind⟩;by_cases e:l=i
       .simp only[Jk e];trivial
       simp only[Js e];exact (hrow l hl).keeps' hk λ_ _=>rfl
      rename_i e2;obtain rfl:q=j:=(by omega);rw[Jk rfl]at d;cases d;refine⟨rv,(u jr l1).1,by grind,?_⟩
      grind)
    grind
   grind
  grind
 grind
def VB (jo:Option Nat)(Uu:C6)(q:Nat):A2 (Ao2 jo Uu) q=ite (jo=some q) (some .dead) (A2 Uu q):=by
 cases jo with
 |none=>simp[Ao2]
 |some j=>simp[Ao2,A4]
def AD3 {C:Ctx}{a:Act}{w:World}{rho:Nat->Value}(hs:Sat C st a w rho){x:AV}{jo:Option Nat}{o:Obj}(h:ofA st.Uu x=some (jo,o)){v:Value}(j:RS C st w rho v x) :(∀j',jo=some j' -> A2 st.Uu j' = some o/\rho j' = v/\(∀off,MT o off)/\(∀e n r y,o ≠ .fam e n r y)/\∀n g,o ≠ .rows n g)/\(∀b,R8 v o=some b->∃j',jo=some j' /\ G0 (rho j') o b) /\
 ∀{Pi' live' rho'},Ux w (PiS C st rho) w Pi' -> rowV w Pi' live' rho' v o:=by
 unfold ofA at h;split at h
 .rename_i j';split at h
  .rename_i e k l f d;cases h;have i:=hs.hp.holds j' _ d;have c:rho j' = v:=by cases j;omega
   rw[c]at i;exact⟨λq m=>by cases m;exact⟨d,c,λ_=>trivial,by grind,by grind⟩,λb hb=>⟨j',rfl,by rw[c];exact hb⟩,λhk=>rowV.keeps' (o:=.vec e k l f false) hk i λ_ _=>rfl⟩
  grind
 .rename_i j';split at h
  .rename_i es d;cases h;have i:=hs.hp.holds j' _ d;have c:rho j' = v:=by cases j;omega
   rw[c]at i;exact⟨λq m=>by cases m;exact⟨d,c,λ_=>trivial,by grind,by grind⟩,λb hb=>⟨j',rfl,by rw[c];exact hb⟩,λhk=>rowV.keeps' (o:=.map es) hk i λ_ _=>rfl⟩
  grind
 .cases h;exact⟨by grind,λ_ hb=>(nomatch hb),λhk=>j.toP.keeps hk⟩
 grind
def semUp.famB (he:X6 (.put j j') st=some (c,t))(hc:D2 c)(hK:K t):semUp st K:=λC a w rho hs=>by
 simp only[X6]at he;split at he
 .rename_i e n jr i x hj hf;split at he
  .rename_i m g jo o f ho;cases he;obtain⟨⟨h1,rfl⟩,hi0⟩:=hc;obtain⟨rv,l1,l2,hfam⟩:=hs.hp.holds j _ hj;obtain⟨rv',e1,hrow,hdis⟩:=hs.hp.holds jr _ f;rw[l2]at e1;cases e1;obtain⟨b0,cap,c,g1,g2,g3,g4,g5,g6,g7⟩:=hfam.resolve_left (λh=>by omega);obtain⟨s1,s2,s3⟩:=AD3 hs ho g7;have hne:j≠jr:=by grind
   have hn1:j≠j':=by grind
   have hn2:jr≠j':=by grind
   have y:∀q,jo=some q->q≠j/\q≠jr/\q≠j':=by
    grind
   obtain⟨rn,r⟩:∃rn:Array Value,∀q,q<m->rn.getD q undef=ite (q=i) (c.getD i undef) (rv.getD q undef):=
    ⟨Array.ofFn (n:=m) λq=>ite (q.1=i) (c.getD i undef) (rv.getD q.1 undef),λq v=>by simp[Ce1,v]⟩
   obtain⟨R',hR'⟩:∃R' : C6,R' = ins j' (.rows m λq=>ite (q=i) o (g q)) (Ao2 jo (ins jr .dead (ins j (.fam e m j' none) st.Uu))):=⟨_,rfl⟩;have s:∀q,A2 R' q=ite (j' = q) (some (.rows m λq=>ite (q=i) o (g q))) (ite (jo=some q) (some .dead) (ite (jr=q) (some .dead) (ite (j=q) (some (.fam e m j' none)) (A2 st.Uu q)))):=λq=>by rw[hR',A4,VB,A4,A4]
   obtain⟨rho',hr'⟩:∃rho' : Nat->Value,rho' = λq=>ite (q=j') (.agg rn) (rho q):=⟨_,rfl⟩
   have z:rho' j' = .agg rn:=by rw[hr'];grind
   have a0:∀q,q≠j' -> rho' q=rho q:=(by grind);have hlv:∀q,Lv (A2 R') q↔q=j' \/ Lv (A2 st.Uu) q:=by
    intro q;unfold Lv;rw[s]
    grind
   have a1:∀q,Lv (A2 st.Uu) q->Lv (A2 R') q/\rho' q=rho q:=λq v=>
    ⟨(hlv q).2 (.inr v),a0 q (by rintro rfl;grind[Lv])⟩
   have hwas:∀q o2 b,(q=j \/ q=jr \/ q=j' \/ jo=some q)->A2 R' q=some o2->G0 (rho' q) o2 b ->
    (q=j' /\ ((∃q',jo=some q' /\ G0 (rho q') o b) \/ ∃l,l<m/\R8 (rv.getD l undef) (g l)=some b)) \/ (q=j/\G0 (rho j) (.fam e m jr (some (i,x))) b):=by
    intro q o2 b v d hb;rw[s]at d;split at d
    .rename_i e1;subst e1;cases d;rw[z]at hb;obtain⟨rv',he,l,hl,hb⟩:=hb;cases he;rw[r l hl]at hb;refine .inl ⟨rfl,?_⟩;by_cases e:l=i
     .grind
     grind
    rename_i e1;split at d
    .cases d;cases hb
    rename_i e2;split at d
    .cases d;cases hb
    rename_i e3;obtain rfl:q=j:=(by grind);rw[Jk rfl]at d;cases d;rw[a0 q hn1]at hb;exact .inr ⟨rfl,hb⟩
   have a2:∀l b,l<m->R8 (rv.getD l undef) (g l)=some b->G0 (rho jr) (.rows m g) b:=λl b hl hb=>⟨rv,l2,l,hl,hb⟩;have hcross:∀b,((∃q',jo=some q' /\ G0 (rho q') o b) \/ ∃l,l<m/\R8 (rv.getD l undef) (g l)=some b)->¬G0 (rho j) (.fam e m jr (some (i,x))) b:=by
    rintro b (⟨q',k1,k2⟩ | ⟨l,hl,k2⟩) hb
    .exact (y q' k1).1 (hs.hp.sep _ _ _ _ b (s1 q' k1).1 hj k2 hb)
    exact hne (hs.hp.sep _ _ _ _ b hj f hb (a2 l b hl k2))
   obtain⟨h2,h3⟩:=hs.re (λq=>q=j \/ q=jr \/ q=j' \/ jo=some q) (R':=R') (rho':=rho')
    (by grind) a1
    (by grind)
    (by grind)
    (λq o2 b v d hb=>by
     rcases hwas q o2 b v d hb with⟨rfl,⟨q',k1,k2⟩ | ⟨l,hl,k2⟩⟩ | ⟨rfl,h⟩
     .grind
     all_goals grind)
    (by grind)
    (λq o2 v d off=>by
     rcases v with rfl|rfl|rfl|v
     .rw[hj]at d;cases d;trivial
     .rw[f]at d;cases d;trivial
     all_goals grind)
    (λ_ hk q o2 v d=>by
     rw[s]at d;split at d
     .rename_i e1;subst e1;cases d;rw[z];refine⟨rn,rfl,λl hl=>?_,λl l' b hl hl' hb u=>?_⟩
      .rw[r l hl];by_cases e:l=i
       .grind
       simp only[Js e];exact (hrow l hl).keeps' hk λ_ _=>rfl
      rw[r l hl]at hb;rw[r l' hl']at u;by_cases e:l=i<;>by_cases e' : l' = i
      .rw[e,e']
      .simp only[Jk e]at hb;simp only[Js e']at u;obtain⟨q',k1,k2⟩:=s2 b hb;exact Ke (hs.hp.sep _ _ _ _ b (s1 q' k1).1 f k2 (a2 l' b hl' u)) (y q' k1).2.1
      .simp only[Js e]at hb;simp only[Jk e']at u;obtain⟨q',k1,k2⟩:=s2 b u;exact Ke (hs.hp.sep _ _ _ _ b (s1 q' k1).1 f k2 (a2 l b hl hb)) (y q' k1).2.1
      grind
     rename_i e1;split at d
     .cases d;trivial
     rename_i e2;split at d
     .cases d;trivial
     rename_i e3;obtain rfl:q=j:=(by grind);rw[Jk rfl]at d;cases d;rw[a0 q hn1];refine⟨rn,by grind,z,.inr ⟨b0,cap,c,g1,g2,g3,g4,g5,λl hl=>⟨(g6 l hl).1,λ_=>?_⟩,trivial⟩⟩;rw[r l hl]
     grind)
   grind
  grind
 grind
def semUp.famH (he:X6 (.psh j j') st=some (c,t))(hc:D2 c)(hK:K t):semUp st K:=λC a w rho hs=>by
 simp only[X6]at he;split at he
 .rename_i e n jr m x hj hf;split at he
  .rename_i m1 g jo o u ho;cases he;obtain⟨h1,rfl,rfl⟩:=hc;obtain⟨rv,l1,l2,hfam⟩:=hs.hp.holds j _ hj;obtain⟨rv',e1,hrow,hdis⟩:=hs.hp.holds jr _ u;rw[l2]at e1;cases e1;obtain⟨b0,cap,c,g1,g2,g3,g4,g5,g6,g7⟩:=hfam.resolve_left (λh=>by omega);obtain⟨s1,s2,s3⟩:=AD3 hs ho g7;have hne:j≠jr:=by grind
   have hn1:j≠j':=by grind
   have hn2:jr≠j':=by grind
   have z:∀q,jo=some q->q≠j/\q≠jr/\q≠j':=by intro q i;obtain⟨k1,_,_,k4,k5⟩:=s1 q i;exact⟨by grind,by grind,by grind⟩
   obtain⟨rn,v⟩:∃rn:Array Value,∀q,q<m+1->rn.getD q undef=ite (q=m) (c.getD m undef) (rv.getD q undef):=
    ⟨Array.ofFn (n:=m+1) λq=>ite (q.1=m) (c.getD m undef) (rv.getD q.1 undef),λq i=>by simp[Ce1,i]⟩
   obtain⟨R',hR'⟩:∃R' : C6,R' = ins j' (.rows (m+1) λq=>ite (q=m) o (g q)) (Ao2 jo (ins jr .dead (ins j (.fam e (m+1) j' none) st.Uu))):=⟨_,rfl⟩;have s:∀q,A2 R' q=ite (j' = q) (some (.rows (m+1) λq=>ite (q=m) o (g q))) (ite (jo=some q) (some .dead) (ite (jr=q) (some .dead) (ite (j=q) (some (.fam e (m+1) j' none)) (A2 st.Uu q)))):=λq=>by rw[hR',A4,VB,A4,A4]
   obtain⟨rho',hr'⟩:∃rho' : Nat->Value,rho' = λq=>ite (q=j') (.agg rn) (rho q):=⟨_,rfl⟩
   have a0:rho' j' = .agg rn:=by rw[hr'];grind
   have a1:∀q,q≠j' -> rho' q=rho q:=(by grind);have hlv:∀q,Lv (A2 R') q↔q=j' \/ Lv (A2 st.Uu) q:=by
    intro q;unfold Lv;rw[s];constructor
    .intro h;split at h
     .omega
     split at h
     .grind
     split at h
     .grind
     split at h
     all_goals grind
    rintro (rfl|h)
    .rw[Jk rfl];rfl
    split;rfl;split;rfl;split;rfl;split;rfl;exact h
   have a2:∀q,Lv (A2 st.Uu) q->Lv (A2 R') q/\rho' q=rho q:=λq i=>
    ⟨(hlv q).2 (.inr i),a1 q (by rintro rfl;grind[Lv])⟩
   have y:∀q o2 b,(q=j \/ q=jr \/ q=j' \/ jo=some q)->A2 R' q=some o2->G0 (rho' q) o2 b ->
    (q=j' /\ ((∃q',jo=some q' /\ G0 (rho q') o b) \/ ∃l,l<m/\R8 (rv.getD l undef) (g l)=some b)) \/ (q=j/\G0 (rho j) (.fam e (m+1) jr (some (m,x))) b):=by
    intro q o2 b i d hb;rw[s]at d;split at d
    .rename_i e1;subst e1;cases d;rw[a0]at hb;obtain⟨rv',he,l,hl,hb⟩:=hb;cases he;rw[v l hl]at hb;refine .inl ⟨rfl,?_⟩;by_cases e:l=m
     .simp only[Jk e]at hb;exact .inl (s2 b hb)
     grind
    rename_i e1;split at d
    .cases d;cases hb
    rename_i e2;split at d
    .cases d;cases hb
    rename_i e3;obtain rfl:q=j:=(by grind);rw[Jk rfl]at d;cases d;rw[a1 q hn1]at hb;exact .inr ⟨rfl,hb⟩
   have hrb:∀l b,l<m->R8 (rv.getD l undef) (g l)=some b->G0 (rho jr) (.rows m g) b:=λl b hl hb=>⟨rv,l2,l,hl,hb⟩;have hcross:∀b,((∃q',jo=some q' /\ G0 (rho q') o b) \/ ∃l,l<m/\R8 (rv.getD l undef) (g l)=some b)->¬G0 (rho j) (.fam e (m+1) jr (some (m,x))) b:=by
    rintro b (⟨q',k1,k2⟩ | ⟨l,hl,k2⟩) hb
    .exact (z q' k1).1 (hs.hp.sep _ _ _ _ b (s1 q' k1).1 hj k2 hb)
    exact hne (hs.hp.sep _ _ _ _ b hj u hb (hrb l b hl k2))
   obtain⟨h2,h3⟩:=hs.re (λq=>q=j \/ q=jr \/ q=j' \/ jo=some q) (R':=R') (rho':=rho')
    (by grind) a2
    (by grind)
    (λq r b i=>by
     rw[s];split
     .simp
     split
     .simp
     split
     all_goals grind)
    (λq o2 b i d hb=>by
     rcases y q o2 b i d hb with⟨rfl,⟨q',k1,k2⟩ | ⟨l,hl,k2⟩⟩ | ⟨rfl,h⟩
     all_goals grind)
    (λq q' o2 o3 b i hq' d ho3 hb f=>by
     rcases y q o2 b i d hb with⟨rfl,h⟩ | ⟨rfl,h⟩<;>rcases y q' o3 b hq' ho3 f with⟨rfl,h'⟩ | ⟨rfl,h'⟩
     .rfl
     all_goals grind)
    (λq o2 i d off=>by
     rcases i with rfl|rfl|rfl|i
     .rw[hj]at d;cases d;trivial
     .rw[u]at d;cases d;trivial
     all_goals grind)
    (λ_ hk q o2 i d=>by
     rw[s]at d;split at d
     .rename_i e1;subst e1;cases d;rw[a0];refine⟨rn,rfl,λl hl=>?_,λl l' b hl hl' hb f=>?_⟩
      .rw[v l hl];by_cases e:l=m
       .grind
       simp only[Js e];exact (hrow l (by omega)).keeps' hk λ_ _=>rfl
      rw[v l hl]at hb;rw[v l' hl']at f;by_cases e:l=m<;>by_cases e' : l' = m
      .rw[e,e']
      .simp only[Jk e]at hb;simp only[Js e']at f;obtain⟨q',k1,k2⟩:=s2 b hb;exact Ke (hs.hp.sep _ _ _ _ b (s1 q' k1).1 u k2 (by grind)) (z q' k1).2.1
      .simp only[Js e]at hb;simp only[Jk e']at f;obtain⟨q',k1,k2⟩:=s2 b f;exact Ke (hs.hp.sep _ _ _ _ b (s1 q' k1).1 u k2 (by grind)) (z q' k1).2.1
      simp only[Js e]at hb;simp only[Js e']at f;exact hdis l l' b (by omega) (by omega) hb f
     rename_i e1;split at d
     .cases d;trivial
     rename_i e2;split at d
     .cases d;trivial
     rename_i e3;obtain rfl:q=j:=(by grind);rw[Jk rfl]at d;cases d;rw[a1 q hn1];refine⟨rn,by grind,a0,.inr ⟨b0,cap,c,g1,g2,g3,g4,g5,λl hl=>⟨(g6 l hl).1,λ_=>?_⟩,trivial⟩⟩;rw[v l hl];by_cases e:l=m
     all_goals grind)
   subst hR';exact⟨_,rho',hK,h3,h2⟩
  grind
 grind
def semUp.famAll {op:Xg}(a:X6 op st=some (c,t))(hc:D2 c)(b:K t):semUp st K:=match op with
 |.fam _ _ _=>semUp.famF a hc b
 |.take _ _ _=>semUp.famT a hc b
 |.over _ _=>semUp.famO a hc b
 |.put _ _=>semUp.famB a hc b
 |.psh _ _=>semUp.famH a hc b
 |.pub _=>semUp.famP a hc b
end
def FW (ro:Option Nat):Fence:={ Fence.wide with round:=ro }
def VC {ro:Option Nat}{m n:Nat}{P:Program}{f:FuncId}{vs:Array Value}{w:World}{R:Ending->World->Prop}(h:CallsIn Fence.wide m P f vs w R):CallsIn (FW ro) n P f vs w R:=
 ⟨trivial,λcs _=>h.2 cs (room_wide _)⟩
def Ba4 {ro:Option Nat}{m n:Nat}{P:Program}{f:String}{vs:Array Value}{w:World}{R:Value->World->Prop}(h:RowsIn Fence.wide m P f vs w R):RowsIn (FW ro) n P f vs w R:=
 λc cs _=>h c cs (room_wide _)
def AL7 {ro:Option Nat}{m n:Nat}{P:Program}{l:Nat}{f:FuncId}{tmps:Array Value}{as body:Code}{w:World}{R:Ending->World->Prop}(h:RoundIn Fence.wide m P l f tmps as body w R):RoundIn (FW ro) n P l f tmps as body w R:=
 ⟨trivial,λc cs _=>h.2 c cs (room_wide _)⟩
section
variable {P:Program}{C:Ctx}{st:St}{a:Act}{w:World}{rho:Nat->Value}{𝒢 : Prot P}{n:Nat}
def NextOk (𝒢 : Prot P)(n:Nat)(k:St->Prop)(a:Act)(w:World):Prop:=∃C st rho,𝒢.G C/\Sat C st a w rho/\a.tmps.size=n/\k st
def PanicOk (𝒢 : Prot P)(n:Nat)(Q:M0)(chain:List PanicEntry)(a:Act)(w:World):Prop:=∃C st rho v x,chain=[{ v,recovered:=false }] /\ 𝒢.G C/\Sat C st a w rho/\a.tmps.size=n/\Uy w (PiS C st rho) v x/\Q (.panic x) st
def WP (𝒢 : Prot P)(n:Nat)(Q:M0):Exit->Act->World->Prop
 |.normal,a,w=>NextOk 𝒢 n (Q .normal) a w
 |.exit id,a,w=>NextOk 𝒢 n (Q (.exit id)) a w
 |.goto l,a,w=>NextOk 𝒢 n (Q (.goto l)) a w
 |.ret,a,w=>NextOk 𝒢 n (Q .ret) a w
 |.panic chain,a,w=>PanicOk 𝒢 n Q chain a w
 |.outgrown,_,_=>False
theorem OG:∀(xs:List Operand) (st:St) (l:List AV) (R' : C6),Sat C st a w rho->Jt st.Uu (xs.map (aev st.env))=some (l,R') ->
 Sat C { st with Uu:=R' } a w rho/\Kp C st.Uu R' w w rho rho/\l.length=xs.length/\∀i x,xs[i]? = some x->RS C { st with Uu:=R' } w rho (a.eval x) (l.getD i .top)
 |[],st,l,R',h,he=>by simp only[Cn5,Jt,Cd9,Cf2]at he;obtain⟨rfl,rfl⟩:=he;exact⟨h,Kp.refl _ _ _ _,rfl,λi x hx=>by simp at hx⟩
 |x::xs,st,l,R',h,he=>by
  simp only[Cf8,Jt]at he;split at he
  .rename_i y R1 b;have step:Sat C { st with Uu:=R1 } a w rho/\Kp C st.Uu R1 w w rho rho/\RS C { st with Uu:=R1 } w rho (a.eval x) y:=by
    have gen:(match Fj st.Uu (aev st.env x)with|some (x,Uu)=>some (AV.p x,Uu)|none=>none)=some (y,R1)->Sat C { st with Uu:=R1 } a w rho/\Kp C st.Uu R1 w w rho rho/\RS C { st with Uu:=R1 } w rho (a.eval x) y:=by
     intro b;split at b
     .rename_i z R2 c;simp at b;obtain⟨rfl,rfl⟩:=b;obtain⟨h1,d,f⟩:=FD h (h.aev x) c;exact⟨h1,f,.p _ _ d⟩
     grind
    split at b
    .grind
    .grind
    simp at b;obtain⟨rfl,rfl⟩:=b;exact⟨h,Kp.refl _ _ _ _,h.aev x⟩
   obtain⟨h1,d,f⟩:=step;split at he
   .rename_i l' R2 g;cases he;obtain⟨m,j,n,o⟩:=OG xs { st with Uu:=R1 } l' R' h1 g;refine⟨m,d.trans j,by grind,λi z c=>?_⟩;cases i with
    |zero=>simp at c;subst c;exact j.av f
    |succ i=>grind
   grind
  grind
def Ap6 {xs:List Operand}{st:St}{l:List AV}{R' : C6}(h:Sat C st a w rho)(b:BT4 st.Uu (xs.map (aev st.env)) l R') :Sat C { st with Uu:=R' } a w rho/\Kp C st.Uu R' w w rho rho/\l.length=xs.length/\∀i x,xs[i]? = some x->RS C { st with Uu:=R' } w rho (a.eval x) (l.getD i .top):=by
 rcases b with b|⟨rfl,rfl⟩
 .grind[OG]
 refine⟨h,Kp.refl _ _ _ _,by simp,λi x hx=>?_⟩
 have:(xs.map (aev st.env)).getD i .top=aev st.env x:=by grind
 rw[this];exact h.aev x
def RD (z : 𝒢.G C)(h:Sat C st a w rho)(a0:a.tmps.size=n){d:Nat}{ids:List Nat}{f:FuncId}{as:List AV}{K:ARes->St->Prop}(hc:Ao0 (Ia P) d ids f as st K)
 {vs:Array Value}(g:vs.size=as.length) (l:∀i,i<as.length->RS C st w rho (vs.getD i undef) (as.getD i .top)) :
 CallF P f vs w λe w'=>∃st' rho' r,Sat C st' a w' rho' /\ K r st' /\ Bp9 w' (PiS C st' rho') (Lv (A2 st'.Uu)) rho' e r:=by
 obtain⟨args,objs,y,hr,m,q,hF⟩:=hc;have hs:=PA h y m q trivial hr g l;refine (hF (Prot.triv P (C.callee st.Uu w rho ids) (λ_ _ h=>h) ((𝒢.tab C z).keeps h.keep h.same λb hb ⟨j,o,_,h1,h2⟩=>(h.own b ⟨j,o,h1,h2⟩).resolve_right (Nat.not_le.2 hb))) _ w vs _ rfl hs (by rw[g];grind[Eq])).mono ?_;rintro e w' ⟨C',r,objs',ks,rho',s,⟨hf,hK⟩,hE,c,t⟩;obtain rfl:C' = C.callee st.Uu w rho ids:=s;obtain⟨g1,g2,g3,g4⟩:=AL6 h y m hE t hf;refine⟨_,_,_,g1,hK,?_⟩;cases r with
 |ret x=>obtain⟨v,u,l⟩:=c;exact⟨v,u,l.un g3 g4⟩
 |panic x=>obtain⟨v,u,l⟩:=c;exact⟨v,u,l.keeps g3⟩
def Aa0 {ro:Option Nat}{o:Oper}(m:∀t,o.dst=some t->t<n){next:Act->World->Prop}{Q' : Exit->Act->World->Prop}{k:St->Prop}{Q:M0}
 (hk:∀a' w,a'.defers=a.defers->NextOk 𝒢 n k a' w->next a' w) (l:∀chain a w,PanicOk 𝒢 n Q chain a w->Q' (.panic chain) a w) (j : 𝒢.G C) (d:a.tmps.size=n) {f:FuncId}{vs:Array Value}
 (g:(o.semAt ro a.eval).run P w=(callFunc f vs).run P w)
 (h:CallF P f vs w λe w'=>∃st' rho' r,Sat C st' a w' rho' /\ Lu o.dst k Q r st' /\ Bp9 w' (PiS C st' rho') (Lv (A2 st'.Uu)) rho' e r) :
 o.uponIn (FW ro) 0 P a next Q' ((o.semAt ro a.eval).run P w):=by
 obtain⟨nx,w1,h1,i⟩:=h;rw[g,h1];have fin:∀v w',(∃st' rho' r,Sat C st' a w' rho' /\ Lu o.dst k Q r st' /\ Bp9 w' (PiS C st' rho') (Lv (A2 st'.Uu)) rho' (.returned v) r)->next (a.put o.dst v) w':=by
  rintro v w' ⟨st',rho',r,g1,g2,g3⟩;cases r with
  |ret x=>obtain⟨v',b,c⟩:=g3;cases b;refine hk _ _ (by cases o.dst<;>rfl) ⟨C,_,rho',j,g1.put c (by grind),?_,g2⟩;rw[<- d];cases o.dst<;>simp[Act.put]
  |panic x=>obtain⟨v',b,_⟩:=g3;grind
 cases nx with
 |enter f' as=>
  rw[Oper.uponIn_enter];refine⟨λh=>by grind[FW,Fence.wide],(VC i).mono ?_⟩;intro e w' b;cases e with
  |returned v=>grind
  |panicked chain=>
   obtain⟨st',rho',r,g1,g2,g3⟩:=b;cases r with
   |ret x=>obtain⟨v',b,_⟩:=g3;grind
   |panic x=>obtain⟨v',b,c⟩:=g3;cases b;exact l _ _ _ ⟨C,st',rho',v',x,rfl,j,g1,d,c,g2⟩
  |outgrown=>obtain⟨st',rho',r,g1,g2,g3⟩:=b;cases r<;>(obtain⟨v',b,_⟩:=g3;cases b)
 |value v=>rw[Cs1];grind
 |row row as=>rw[Oper.uponIn_row];exact⟨λh=>by grind[FW,Fence.wide],(Ba4 i).mono λv w'=>fin v w'⟩
 |_=>exact i.elim
def RepV (w:World)(Pi:Nat->Nat->Prop)(live:Nat->Prop)(rho:Nat->Value)(vs:Array Value)(l:List AV):Prop:= vs.size=l.length/\∀i,i<l.length->Yj w Pi live rho (vs.getD i undef) (l.getD i .top)
def RepV.append {Pi:Nat->Nat->Prop}{live:Nat->Prop}{vs us:Array Value}{l m:List AV}(h:RepV w Pi live rho vs l)(h' : RepV w Pi live rho us m):RepV w Pi live rho (vs++us) (l++m):=by
 refine⟨by simp[h.1,h'.1],λi b=>?_⟩;simp at b;by_cases hl:i<l.length
 .have:=h.2 i hl
  have a:i<vs.size:=by rw[h.1];omega
  simp_all[Ce1,Cp0,Cj5]
 have:=h'.2 (i-l.length) (by omega)
 have a:¬i<vs.size:=by rw[h.1];omega
 simpa[Ce1,Cp0,a,hl,Cr6 (show l.length<=i by omega),h.1]using this
def RepV.ofP {Pi:Nat->Nat->Prop}{live:Nat->Prop}{vs:Array Value}{l:List PV}(hs:vs.size=l.length)(h:∀i,i<l.length->Uy w Pi (vs.getD i undef) (l.getD i default)):RepV w Pi live rho vs (l.map .p):=by
 refine⟨by grind,λi b=>?_⟩;have a : i<l.length:=by grind
 have:=h i a
 simp only[Ce0,Ce7,Ce3 a,Cf0,Ce6]at this⊢;exact .p _ _ this
def AL8 (h:Sat C st a w rho){f:Operand}{f' : FuncId}{as as' : List AV}(hw:Zt st.env f as=some (f',as')){R' : C6}(d:Kp C st.Uu R' w w rho rho){vals:Array Value}(i:RepV w (Prv C.X (A2 R') rho) (Lv (A2 R')) rho vals as) :∃x y,a.eval f=.func (.func f') x y/\RepV w (Prv C.X (A2 R') rho) (Lv (A2 R')) rho (x++vals++y) as':=by
 unfold Zt at hw;have b:=d.av (h.aev f);split at hw
 .rename_i g first caps c
  cases hw;rw[c]at b;generalize a.eval f=v at b;cases b with
  |clo _ x y _ _ hx hy ha hb=>exact⟨x,y,rfl,RepV.append (RepV.append ⟨hx,ha⟩ i) ⟨hy,hb⟩⟩
 .rename_i g x y c;split at hw
  .rename_i hx hy;cases hw;rw[c]at b;have e1:x = #[]:=by grind
   have e2:y = #[]:=by grind
   subst e1;subst e2;exact⟨#[],#[],b.toP.toV,by grind⟩
  grind
 .rename_i g first caps c
  cases hw;rw[c]at b;have b:=b.toP;generalize a.eval f=v at b;cases b with
  |fn _ x y _ _ hx hy ha hb=>exact⟨x,y,rfl,RepV.append (RepV.append (RepV.ofP hx ha) i) (RepV.ofP hy hb)⟩
 grind
def Ap7 (h:Sat C st a w rho){f:Operand}{f' : FuncId}{first caps:List AV}(hw:Hc st.env f=some (f',first,caps)) :∃x y,a.eval f=.func (.func f') x y/\RepV w (PiS C st rho) (Lv (A2 st.Uu)) rho x first/\RepV w (PiS C st rho) (Lv (A2 st.Uu)) rho y caps:=by
 unfold Hc at hw;have b:=h.aev f;split at hw
 .rename_i g first caps c
  cases hw;rw[c]at b;generalize a.eval f=v at b;cases b with
  |clo _ x y _ _ hx hy ha hb=>exact⟨x,y,rfl,⟨hx,ha⟩,⟨hy,hb⟩⟩
 .rename_i g x y c;split at hw
  .rename_i hx hy;cases hw;rw[c]at b;have e1:x = #[]:=by grind
   have e2:y = #[]:=by grind
   subst e1;subst e2;exact⟨#[],#[],b.toP.toV,⟨rfl,by grind⟩,⟨rfl,by grind⟩⟩
  grind
 .rename_i g first caps c
  cases hw;rw[c]at b;have b:=b.toP;generalize a.eval f=v at b;cases b with
  |fn _ x y _ _ hx hy ha hb=>exact⟨x,y,rfl,RepV.ofP hx ha,RepV.ofP hy hb⟩
 grind
def BR3 (args:Array Operand):(args.map a.eval).size=args.toList.length:=by simp
def RE {args:Array Operand}{i:Nat}(b:i<args.toList.length):(args.map a.eval).getD i undef=a.eval (args.toList[i]):=by
 have:i<args.size:=by omega
 simp_all
def AD4 {Pi:Nat->Nat->Prop}:∀{xs ys:List PV},BG8 xs ys->xs.length=ys.length/\∀i,i<xs.length->∀v,Uy w Pi v (xs.getD i default)->Uy w Pi v (ys.getD i default)
 |[],[],_=>by grind
 |[],y::ys,h=>by grind[BG8]
 |x::xs,[],h=>by grind[BG8]
 |x::xs,y::ys,h=>by
  obtain⟨h1,b⟩:=h;obtain⟨c,d⟩:=AD4 (Pi:=Pi) b;refine⟨by grind,λi j v a=>?_⟩;cases i with
  |zero=>
   have a:Uy w Pi v x:=by grind
   have:Uy w Pi v y:=by
    rcases h1 with rfl|⟨nn,k,n,f,g,rfl,rfl,l⟩ | ⟨k,f,rfl,rfl⟩
    .omega
    .exact a.leP (.inr (by grind))
    exact a.leP (.inr (by grind))
   grind
  |succ i=>simp_all
def Sat.rel (h:Sat C st a w rho):Rel C w (An4 st.Uu rho a.defers) (PvR st.Uu rho):=by
 refine⟨h.ext,h.size,h.same,h.keep,?_,?_,?_,λb off f=>h.hp.bound b off f,λb off ⟨j,o,c,hb,_⟩=>.inl ⟨j,o,c,hb⟩⟩
 .rintro b (hb|hb)
  .exact h.own b hb
  obtain⟨r,h1,d,_⟩:=h.marks.2 _ hb;grind
 .rintro b off (⟨j,o,c,hb⟩ | hb)
  .exact h.hp.out j o b off c hb
  obtain⟨r,h1,_,_,d⟩:=h.marks.2 _ hb;grind
 rintro b (hb|hb)
 .exact h.hp.lt hb
 obtain⟨r,h1,_,d,_⟩:=h.marks.2 _ hb;grind
def Sat.yielded (h:Sat C st a w rho){C' : Ctx}{w' : World}{j:Nat}{r0 rest:List (List PV)}{l0 live:Bool}(x:A2 st.Uu j=some (.yld r0 l0))(hY:C'.Y rest live)(hyv:C'.yv=C.yv)(y:C'.rho0=C.rho0)(hw:C'.w0=w')(hE:C'.E0=An4 st.Uu rho a.defers)
 (hPi:C'.Pi0=λb o=>C'.X b o \/ PvR st.Uu rho b o) (hR:Rel C' w' (An4 st.Uu rho a.defers) (PvR st.Uu rho)) (g:∀b,An4 st.Uu rho a.defers b->w'.heap[b]? = w.heap[b]?)
 (hk:Ux w (λb o=>C.X b o \/ PvR st.Uu rho b o) w' (λb o=>C'.X b o \/ PvR st.Uu rho b o)) (q:∀i r b,A2 st.Uu i=some (.yld r b)->i=j) :
 Sat C' { st with Uu:=ins j (.yld rest live) st.Uu } a w' rho:=by
 have l:∀i,Lv (A2 st.Uu) i->Lv (A2 (ins j (.yld rest live) st.Uu)) i/\rho i=rho i:=by
  intro i c;refine⟨?_,rfl⟩;simp only[Lv,A4];split
  .rfl
  exact c
 have hpv:∀b off,PvR (ins j (.yld rest live) st.Uu) rho b off↔PvR st.Uu rho b off:=by
  intro b off;constructor
  .rintro⟨i,o,c,hb,hp⟩;rw[A4]at c;split at c
   .cases c;simp[G0,R8]at hb
   exact⟨i,o,c,hb,hp⟩
  rintro⟨i,o,c,hb,hp⟩;refine⟨i,o,?_,hb,hp⟩;rw[A4,Js]
  .exact c
  rintro rfl;rw[x]at c;cases c;simp[G0,R8]at hb
 have m:∀b,Own (A2 (ins j (.yld rest live) st.Uu)) rho b↔Own (A2 st.Uu) rho b:=by
  intro b;constructor
  .rintro⟨i,o,c,hb⟩;rw[A4]at c;split at c
   .cases c;simp[G0,R8]at hb
   exact⟨i,o,c,hb⟩
  rintro⟨i,o,c,hb⟩;refine⟨i,o,?_,hb⟩;rw[A4,Js]
  .exact c
  rintro rfl;rw[x]at c;cases c;simp[G0,R8]at hb
 have n:∀b off,Prv C'.X (A2 (ins j (.yld rest live) st.Uu)) rho b off↔(C'.X b off \/ PvR st.Uu rho b off):=λb off=>or_congr Cp5 (hpv b off);have z:Ux w (Prv C.X (A2 st.Uu) rho) w' (Prv C'.X (A2 (ins j (.yld rest live) st.Uu)) rho):=λb o v hp hc=>
  let ⟨h1,h2⟩:=hk b o v hp hc
  ⟨h1,λs=>h2 ((n b o).1 s)⟩
 have f:∀i o,A2 (ins j (.yld rest live) st.Uu) i=some o->(i=j/\o=.yld rest live) \/ (i≠j/\A2 st.Uu i=some o):=by
  intro i o c;rw[A4]at c;split at c
  .rename_i e;cases c;exact .inl ⟨e.symm,rfl⟩
  rename_i e;exact .inr ⟨λe'=>e e'.symm,c⟩
 refine⟨⟨⟨?_,?_,?_,λb off hX=>hR.bnd b off hX⟩,hR.ext,hR.size,hR.same,?_,?_,?_⟩,λt=>(h.env t).keeps z l,?_,h.marks.1,?_⟩
 .intro i o c;rcases f i o c with⟨rfl,rfl⟩ | ⟨_,c⟩
  .exact h.hp.holds i _ x
  exact (h.hp.holds i o c).keeps z l λb hb=>g b (.inl ⟨i,o,c,hb⟩)
 .intro i i' oi oj b c u hb a0;rcases f i oi c with⟨rfl,rfl⟩ | ⟨_,c⟩
  .simp[G0,R8]at hb
  rcases f i' oj u with⟨rfl,rfl⟩ | ⟨_,u⟩
  .simp[G0,R8]at a0
  exact h.hp.sep i i' oi oj b c u hb a0
 .intro i o b off c hb;exact hR.out b off (.inl ((m b).1 ⟨i,o,c,hb⟩))
 .intro b o v hp hc;obtain⟨h1,h2⟩:=hR.keep b o v hp hc;exact⟨h1,λs=>h2 ((n b o).1 s)⟩
 .intro b hb;exact hR.own b (.inl ((m b).1 hb))
 .intro i r b c;rcases f i _ c with⟨rfl,he⟩ | ⟨hne,c⟩
  .cases he;exact⟨hY,by rw[hyv];exact (h.yld i _ _ x).2⟩
  exact Ke (q i r b c) hne
 .intro i c hl;rw[y];refine h.pin i c ?_;simp only[Lv,A4]at hl;split at hl
  .rename_i e;subst e;simp[Lv,x]
  exact hl
 intro d hd;obtain⟨r,h1,h2,h3,h4⟩:=h.marks.2 d hd;have hm:Ap5 a.defers r:=by unfold Ap5;rw[<- h1];exact hd
 refine⟨r,h1,hR.own r (.inr hm),?_,λoff=>hR.out r off (.inr hm)⟩;rw[g r (.inr hm)];exact h3
def PC {j:Nat}:∀{Uu:C6},Ie j Uu=true->∀i r b,A2 Uu i=some (.yld r b)->i=j
 |[],_,i,r,b,h=>by grind[A2]
 |(x,o)::Uu,hy,i,r,b,h=>by
  have a:Ie j Uu=true:=by cases o<;>simp only[Ie,Ce2]at hy<;>first|exact hy.2|exact hy
  simp only[A2]at h;split at h
  .simp_all[Ie,Ce2,beq_iff_eq]
  exact PC a i r b h
end
section
variable {P:Program}{C:Ctx}{st:St}{a:Act}{w:World}{rho:Nat->Value}{𝒢 : Prot P}{n:Nat}
def AL9 {t:TypeId}{m:String}{f:FuncId}(hm:ZC P t m=some f)(x:Value):(method (P.types.size+Made.depth) t x m).run P w=.ok (f,x) w:=by
 unfold ZC at hm;split at hm
 .rename_i i d b c;split at hm
  .grind
  rename_i a
  repeat' split at hm<;>try contradiction
  rename_i q g _ _ f' hp j;cases hm;show (method (P.types.size+99+1) t x m).run P w=_;generalize P.types.size+99=fuel;have l : q.path = #[]:=by grind
  cases d<;>first
   |exact Ke rfl (a _)
   |simp[method,BH8 w b,g,hp,j,follow,receiverAt,BY w c,Place.get]
 grind
def Xu (a:Act)(d:Option Nat)(v:Value):(a.put d v).tmps.size=a.tmps.size:=by cases d<;>simp[Act.put]
def AD5 {o:Oper}{k:St->Prop}{Q:M0}(hG : 𝒢.G C)(h:Sat C st a w rho)(q:a.tmps.size=n)(hd:∀t,o.dst=some t->t<n)(hw:wOp (Ia P) P o k Q st){ro:Option Nat}{next:Act->World->Prop}{Q' : Exit->Act->World->Prop}
 (hk:∀a' w,a'.defers=a.defers->NextOk 𝒢 n k a' w->next a' w) (hq:∀chain a w,PanicOk 𝒢 n Q chain a w->Q' (.panic chain) a w):o.wpIn (FW ro) 0 P a w next Q':=by
 refine⟨λf _=>trivial,?_⟩;have hdef:∀c,o.op ≠ .defer c:=by
  grind[wOp,aop,Zr,bop]
 have d:o.semAt ro a.eval=execOp a.eval o:=Oper.semAt_eq _ _ _ hdef;have u:∀t,o.dst=some t->t<a.tmps.size:=(by grind);show o.uponIn (FW ro) 0 P a next Q' ((o.semAt ro a.eval).run P w)
 unfold wOp at hw;split at hw
 .rename_i f args types he;rcases hw with⟨as,Uu,f',as',ha,hwh,ids,hc⟩ | ⟨j,xs,Uu,ys,rest,hf,hvs,hj,honly,hle,g⟩
  .obtain⟨g1,g2,g3,g4⟩:=Ap6 h ha;have hv:RepV w (Prv C.X (A2 Uu) rho) (Lv (A2 Uu)) rho (args.map a.eval) as:=
    ⟨by grind,λi hi=>by rw[RE (by omega)];grind⟩
   obtain⟨x,y,hx,a0⟩:=AL8 h hwh g2 hv;have hcf:=RD hG g1 q hc a0.1 a0.2;refine Aa0 hd hk hq hG q ?_ hcf;rw[d]
   grind[execOp,resolve,Deferred.ofValue,invoke]
  obtain⟨g1,g2,g3,g4,_⟩:=Ii args.toList st xs Uu h hvs;have hyf:=g2.av (h.aev f);rw[hf]at hyf;obtain⟨hY,hyv⟩:=g1.yld j _ _ hj;obtain⟨hl,hrep⟩:=AD4 (w:=w) (Pi:=Prv C.X (A2 Uu) rho) hle;have hcall:=𝒢.call C w _ _ ys rest (args.map a.eval) hG g1.rel hY (by grind) (λi hi=>by rw[RE (by omega)];exact hrep i (by omega) _ (by grind))
  obtain⟨l,fn,tmps,assign,body,h1,h2,h3⟩:=hcall;have hfv:a.eval f=.func (.yield l) #[] #[]:=by generalize a.eval f=v at hyf;cases hyf<;>grind
  have a1:(o.semAt ro a.eval).run P w=.ok (.round l fn tmps assign body) w:=by
   rw[d]
   grind[execOp,resolve,Deferred.ofValue,invoke]
  rw[a1,Oper.uponIn_round];refine⟨λh=>by grind[FW,Fence.wide],(AL7 h3).mono ?_⟩;rintro e w' ⟨b,rfl,C',hG',hyv',hrho',hY',hw0,hE,hPi,hR,hsame,hkeep,_⟩;have hs:=g1.yielded hj hY' hyv' hrho' hw0 hE hPi hR hsame hkeep (PC honly);exact hk _ _ (by cases o.dst<;>rfl) ⟨C',_,rho,hG',hs.put (x:=.p (.bb b)) (.p _ _ (.bb b)) u,by rw[Xu,q],g b⟩
 .rename_i r m args types he;obtain⟨as,Uu,t,y,f',ha,hr,hm,ids,hc⟩:=hw;obtain⟨g1,g2,g3,g4⟩:=OG args.toList st as Uu h ha;have hv:RepV w (Prv C.X (A2 Uu) rho) (Lv (A2 Uu)) rho (args.map a.eval) as:=
   ⟨by grind,λi hi=>by rw[RE (by omega)];grind⟩
  have a2:=g2.av (h.aev r);rw[hr]at a2;have a2:=a2.toP;obtain⟨x,hx,s⟩:∃x,a.eval r=.iface t x/\Uy w (Prv C.X (A2 Uu) rho) x y:=by generalize a.eval r=v at a2;cases a2<;>grind
  have a0:RepV w (Prv C.X (A2 Uu) rho) (Lv (A2 Uu)) rho (#[x]++args.map a.eval) (.p y::as):=
   RepV.append (vs:=#[x]) (l:=[.p y]) ⟨rfl,λi hi=>by
    simp only[Cm0]at hi;obtain rfl:i=0:=by omega
    exact .p _ _ s⟩ hv
  have hcf:=RD hG g1 q hc a0.1 a0.2;refine Aa0 hd hk hq hG q ?_ hcf;rw[d];have e0:(#[Value.iface t x]++args.map a.eval)[0]? = some (.iface t x):=by grind
  have e1:(args.map a.eval).extract 0 args.size=args.map a.eval:=by
   have:=Array.extract_size (xs:=args.map a.eval)
   rwa [Cu8]at this
  simp[execOp,he,resolve,invoke,hx,callMethod,e0,e1,AL9 hm]
 .rename_i x he;obtain⟨t,y,hx,hQ⟩:=hw;have s:=h.aev x;rw[hx]at s;have s:=s.toP;obtain⟨v,hv⟩:∃v,a.eval x=.iface t v:=by generalize a.eval x=z at s;cases s<;>grind
  have a1:(o.semAt ro a.eval).run P w=.halt (.panic (.iface t v)) w:=by
   rw[d]
   simp_all[execOp,Instr.panic,goPanic,Result.andThen]
  rw[a1,Oper.uponIn_panic];exact hq _ _ _ ⟨C,st,rho,_,_,rfl,hG,h,q,by rw[<- hv];omega,hQ⟩
 .rename_i x he;obtain⟨j,cl,last,seen,jm,es,h1,h2,h3,h4,h5,h6,h7⟩:=hw;have hw2:∃out,OpOk P C o st a w rho out/\k (AM.put { st with Uu:=out.Uu } o.dst out.val):=by
   rcases BI7 h he h1 h2 h3 h4 h5 with⟨g1,g2⟩ | ⟨i,g1,g2,g3⟩
   .exact⟨_,g2,h6 g1⟩
   grind
  obtain⟨out,⟨nx,v,w',rho',h1,h2,h3,_,h5⟩,g⟩:=hw2;have hfin:next (a.put o.dst v) w':=hk _ _ (by cases o.dst<;>rfl) ⟨C,_,rho',hG,h3.put h5 u,by rw[Xu,q],g⟩
  rw[d,h1];rcases h2 with rfl|⟨rfl,rfl⟩
  all_goals grind[Go.Oper.uponIn_value,Oper.uponIn_skip]
 have hw2:∃out,OpOk P C o st a w rho out/\k (AM.put { st with Uu:=out.Uu } o.dst out.val):=by
  rcases hw with⟨out,ha,hc,g⟩ | ⟨c,x,ha,hc,g⟩ | ⟨out,ha,hc,g⟩
  .grind[AZ9]
  .exact⟨⟨c,.p x,st.Uu⟩,AL3 h ha hc,g⟩
  grind[AZ8]
 obtain⟨out,⟨nx,v,w',rho',h1,h2,h3,_,h5⟩,g⟩:=hw2;have hfin:next (a.put o.dst v) w':=hk _ _ (by cases o.dst<;>rfl) ⟨C,_,rho',hG,h3.put h5 u,by rw[Xu,q],g⟩
 rw[d,h1];rcases h2 with rfl|⟨rfl,rfl⟩
 all_goals grind[Go.Oper.uponIn_value,Oper.uponIn_skip]
def NextOk.up {K:St->Prop}{a:Act}{w:World}(c : 𝒢.G C)(h:Sat C st a w rho)(b:a.tmps.size=n)(d:semUp st K):NextOk 𝒢 n K a w:=
 let ⟨st',rho',hK,_,hs⟩:=d C a w rho h
 ⟨C,st',rho',c,hs,b,hK⟩
def AM0 (h:Sat C st a w rho)(g:a.tmps.size=n){ops:Array Oper}{j:Nat}{o' : Oper}{d:Nat}(i:ops[j]? = some o')(f:o'.dst=some d)(l:d<n){b:Option Bool}(hy:yv (get st.env (Id ops.toList j))=some b):yielded ops a.tmps j=b:=by
 have m:Id ops.toList j=d:=by grind[Id]
 rw[m]at hy;have c:=h.env d;have ht:a.tmps[d]? = some (a.tmps.getD d undef):=by
  have:d<a.tmps.size:=by omega
  simp_all
 unfold yielded;simp only[i,f,Cd8,ht];unfold yv at hy;split at hy
 .rename_i x hx;cases hy;rw[hx]at c;rw[c.toP.toV]
 .rename_i x hx;cases hy;rw[hx]at c;rw[c.toP.toBool]
 .rename_i x hx;cases hy;rw[hx]at c;rw[c.toP.toV]
 grind
def VD {ops:Array Oper}{o:Oper}(r:Lw n ops.toList o=true)(i:∀(j:Nat) (o' : Oper) d,ops[j]? = some o' -> o'.dst=some d->d<n){K:St->Prop}{Q:M0}(y : 𝒢.G C)(h:Sat C st a w rho)(g:a.tmps.size=n)(hw:Jq (Ia P) P ops.toList o K Q st){ro:Option Nat}{next:Act->World->Prop}{Q' : Exit->Act->World->Prop}
 (hk:∀a' w,a'.defers=a.defers->NextOk 𝒢 n K a' w->next a' w) (hq:∀chain a w,PanicOk 𝒢 n Q chain a w->Q' (.panic chain) a w) :
 ite (Region.wanted o (yielded ops a.tmps)) (o.wpIn (FW ro) 0 P a w next Q') ((∀f,o.about P w a.eval=some f->(FW ro).fn f)/\next (a.put o.dst undef) w):=by
 simp only[Lw,Ce2]at r;obtain⟨z,l⟩:=r;have s:∀t,o.dst=some t->t<n:=λt ht=>by rw[ht]at z;simp_all
 obtain⟨st1,rho1,hw,_,h⟩:=hw C a w rho h;cases hg:o.guard with
 |none=>
  simp only[hg]at hw
  have:Region.wanted o (yielded ops a.tmps)=true:=by grind[Region.wanted]
  rw[Jk this];exact AD5 y h g s hw hk hq
 |some q=>
  obtain⟨j,want⟩:=q;simp only[hg]at hw l;obtain⟨b,hy,hw⟩:=hw;split at l
  .rename_i o' m;have m : ops[j]? = some o':=by grind
   obtain⟨d,u⟩:=Cf3.1 l;have hyy:=AM0 h g m u (i j o' d m u) hy;have c:Region.wanted o (yielded ops a.tmps)=(b==some want):=by grind[Region.wanted]
   by_cases hb:b=some want
   .rw[Jk hb]at hw;rw[Jk (by rw[c];grind)];exact AD5 y h g s hw hk hq
   rw[Js hb]at hw;rw[Js (by rw[c];grind)];refine⟨λf _=>trivial,hk _ _ (by cases o.dst<;>rfl) ⟨C,_,rho1,y,h.put (x:=Dm) (.p _ _ (.v _)) (by grind),by rw[Xu,g],hw⟩⟩
  grind
end
section
variable {P:Program}{C:Ctx}{st:St}{a:Act}{w:World}{rho:Nat->Value}{𝒢 : Prot P}{n:Nat}{ro:Option Nat}{ops:Array Oper}{Q:M0}
def Aa1 (a:ops.toList.all (Lw n ops.toList)=true)(j:Nat)(o' : Oper)(d:Nat)(b:ops[j]? = some o')(c:o'.dst=some d):d<n:=by
 rw[Ce8]at a
 have:=a o' (by
  have:ops.toList[j]? = some o':=by simpa using b
  exact Cj3 this)
 simp_all[Lw,Ce2]
def RF (c:ops.toList.all (Lw n ops.toList)=true):∀(l:List Oper) (i:Nat),ops.toList.drop i=l->i+l.length=ops.size->∀{C st a w rho},𝒢.G C->Sat C st a w rho->a.tmps.size=n->Lj (Ia P) P ops.toList l Q st ->
 wpOpsIn (FW ro) 0 P ops (WP 𝒢 n Q) ((List.range ops.size).drop i) a w
 |[],i,hl,hi,C,st,a,w,rho,f,h,b,hw=>by rw[Cl7 (by grind)];exact⟨C,st,rho,f,h,b,hw⟩
 |o::l,i,hl,hi,C,st,a,w,rho,f,h,b,hw=>by
  have q:i<ops.size:=by grind
  have d:(List.range ops.size).drop i=i::(List.range ops.size).drop (i+1):=by rw[Cm5 (by grind)];simp
  rw[d];have m:ops.toList[i]? = some o:=by
   have:(ops.toList.drop i)[0]? = some o:=by rw[hl];rfl
   grind
  have r:ops[i]? = some o:=by grind
  have j : ops.toList.drop (i+1)=l:=by
   have:(ops.toList.drop i).drop 1=l:=by rw[hl];rfl
   rwa [Cq8]at this
  have g:Lw n ops.toList o=true:=by
   rw[Ce8]at c
   grind
  simp only[wpOpsIn,r]
  have:=VD (ro:=ro) (Q':=WP 𝒢 n Q) (next:=wpOpsIn (FW ro) 0 P ops (WP 𝒢 n Q) ((List.range ops.size).drop (i+1))) g (Aa1 c) f h b hw
   (λa w _ ⟨C,st,rho,f,h,b,hw⟩=>RF c l (i+1) j (by grind) f h b hw) (λchain a w h=>h)
  omega
def cnt:List Bool->Nat
 |[]=>0
 |true::r=>cnt r+1
 |false::r=>cnt r
def Ba5:∀{l:List Bool}{i:Nat},l[i]? = some false->cnt (l.set i true)=cnt l+1
 |[],i,h=>by grind
 |b::r,0,h=>by grind[cnt]
 |b::r,i+1,h=>by
  have:=Ba5 (l:=r) (i:=i) (by grind)
  cases b<;>simp[cnt,this]
def Ba6:∀(l:List Bool),cnt l<=l.length
 |[]=>by simp[cnt]
 |true::r=>by simp[cnt,Ba6 r]
 |false::r=>by have:=Ba6 r;grind[cnt]
def AD6:∀{l:List Bool},l.length<=cnt l->∀i,i<l.length->l[i]? = some true
 |[],_,i,hi=>by grind
 |true::r,h,i,hi=>by
  cases i with
  |zero=>simp
  |succ i=>simpa using AD6 (l:=r) (by grind[cnt]) i (by grind)
 |false::r,h,i,hi=>by have:=Ba6 r;grind[cnt]
def Ba7 (m:Region.Mode)(ops:Array Oper):∀(fuel t:Nat) (listed:Array Bool) (acc:List Nat),Region.linearise.go m ops fuel t listed acc=acc.reverse++Region.linearise.go m ops fuel t listed []
 |0,t,listed,acc=>by simp[Region.linearise.go]
 |fuel+1,t,listed,acc=>by
  simp only[Region.linearise.go];split
  .rename_i i a;rw[Ba7 m ops fuel _ _ (i::acc),Ba7 m ops fuel _ _ [i]];simp
  simp
def AM1 (v:ops.toList.all (Lw n ops.toList)=true)(c:Ju ops.toList=true){Inv:(Nat->Bool)->St->Prop}
 (g:∀D i s o,Inv D s->ops.toList[i]? = some o->D i=false->(∀e∈o.after.toList,FR e=true->D e.on=true)->Jq (Ia P) P ops.toList o (Inv λj=>ite (j=i) true (D j)) Q s)
 (hfin:∀D s,Inv D s->(∀i,i<ops.toList.length->D i=true)->semUp s (Q .normal)):∀(fuel t:Nat) (listed:Array Bool),listed.size=ops.size->ops.size<=cnt listed.toList+fuel->∀{a w},NextOk 𝒢 n (Inv λj=>listed.getD j false) a w ->
 wpOpsIn (FW ro) 0 P ops (WP 𝒢 n Q) (Region.linearise.go .any ops fuel t listed []) a w:=by
 have d:∀(listed:Array Bool) {a w},NextOk 𝒢 n (Inv λj=>listed.getD j false) a w->(∀i,i<ops.size->listed.getD i false=true)->wpOpsIn (FW ro) 0 P ops (WP 𝒢 n Q) [] a w:=by intro listed a w h hall;obtain⟨C,st,rho,hG,hs,m,hI⟩:=h;exact NextOk.up hG hs m (by grind)
 intro fuel
 induction fuel with
 |zero=>
  intro t listed m y a w h;simp only[Region.linearise.go,List.reverse_nil];refine d listed h λi hi=>?_
  have:=AD6 (l:=listed.toList) (by grind) i (by grind)
  simp_all
 |succ fuel ih=>
  intro t listed m y a w h;simp only[Region.linearise.go];generalize z:(List.range ops.size).filter (λi=>!listed.getD i true&&((ops[i]?).map (·.after.all λe=>!Region.binds .any e||listed.getD e.on false)).getD false)=rs;split
  .rename_i i hi;rw[Ba7];have b:i∈rs:=(by grind);rw[<- z,Cq2]at b;obtain⟨hr,hc⟩:=b;simp at hr;simp only[Ce2,Cf6]at hc;obtain⟨hl,ha⟩:=hc;have ho:ops[i]? = some ops[i]:=(by grind);have hof:listed[i]? = some false:=by
    have:i<listed.size:=by omega
    simp_all
   simp only[ho,Cf0,Ce6,Cv3,Cg6,Cf6]at ha;have q:Lw n ops.toList ops[i]=true:=by
    rw[Ce8]at v
    grind
   show wpOpsIn (FW ro) 0 P ops (WP 𝒢 n Q) (i::Region.linearise.go .any ops fuel (t / rs.length) (listed.setIfInBounds i true) []) a w;simp only[wpOpsIn,ho];obtain⟨C,st,rho,hG,hs,hsz',hI⟩:=h;have hw:=g _ i st ops[i] hI (by grind) (by grind) (λe he hb=>by
    grind[FR])
   have hset:(λj=>ite (j=i) true (listed.getD j false))=λj=>(listed.setIfInBounds i true).getD j false:=by
    funext j;by_cases e:j=i
    .simp_all
    simp[Ce1,e,Cl4 e]
   rw[hset]at hw;exact VD (ro:=ro) (Q':=WP 𝒢 n Q) q (Aa1 v) hG hs hsz' hw
    (λa w _ h=>ih _ _ (by grind) (by rw[Cr5,Ba5 (by grind)];omega) h) (λchain a w h=>h)
  rename_i u;have f:rs=[]:=by
   cases rs with
   |nil=>rfl
   |cons x r=>
    rw[List.getElem?_eq_none_iff]at u
    have:=Nat.mod_lt t (show 0<(x::r).length by simp)
    omega
  subst f;refine d listed h λi hi=>?_
  induction i using Nat.strongRecOn with
  |_ i ihi=>
   cases hv:listed.getD i false with
   |true=>rfl
   |false=>
    exfalso;have b:i∈(List.range ops.size).filter (λi=>!listed.getD i true&&((ops[i]?).map (·.after.all λe=>!Region.binds .any e||listed.getD e.on false)).getD false):=by
     rw[Cq2];refine⟨by grind,?_⟩;have ho:ops[i]? = some ops[i]:=(by grind);have hlt:i<listed.size:=by omega
     simp only[ho,Cf0,Ce6,Ce2,Cf6,Cv3,Cg6];refine⟨by grind,λe he=>?_⟩;unfold Ju at c;rw[Ce8]at c
     have:=c i (by simpa using hi)
     simp only[Ci8,ho,Ce8,Cg6,Cf6,Lq]at this;rcases this e (by grind)with h1|h1
     .exact .inl h1
     grind
    rw[z]at b
    grind
end
section
variable {P:Program}{C:Ctx}{st:St}{a:Act}{w:World}{rho:Nat->Value}{𝒢 : Prot P}{n:Nat}{ro:Option Nat}{Q:M0}
def BR4 (𝒢 : Prot P)(ro:Option Nat):Prop:=∀l,ro=some l->∀C,𝒢.G C->∃r,C.w0.heap[l]? = some (.loop r)/\¬C.E0 l
def Lk (P:Program)(n:Nat)(c:Code):Prop:=∀(𝒢 : Prot P) (ro:Option Nat),BR4 𝒢 ro->∀(Q:M0) (C:Ctx) (st:St) (a:Act) (w:World) (rho:Nat->Value),𝒢.G C->Sat C st a w rho->a.tmps.size=n->awp (Ia P) P c Q st->c.wpIn (FW ro) 0 P (WP 𝒢 n Q) a w
def DT {b:Frame}{c:Code}{k:List Item}{cs:List Frame}:step P (lone (b.atR a (.code (.scope c)::k)) cs w)=.next (lone (b.atR a (.code c :: .inScope c::k)) cs w):=
 step_lone_go (by simp[stepG,stepG.exec,Frame.atR])
def Xv {b:Frame}{c:Code}{k:List Item}{cs:List Frame}:step P (lone (b.atR a (.inScope c::k)) cs w)=.next (lone (b.atR a k) cs w):=
 step_lone_go (by simp[stepG,stepG.exec,Frame.atR])
def AM2 {F:Fence}{m:Nat}{c:Code}{Q:Exit->Act->World->Prop}(h:c.wpIn F m P (λe a w=>(∀l,e ≠ .goto l)/\Q e a w) a w):(Code.scope c).wpIn F m P Q a w:=by
 intro b k cs i hb j;have f:(lone (b.atR a (.code (.scope c)::k)) cs w).fenced P F:=fenced_calm hb j rfl;obtain⟨e,a₁,w₁,⟨o,g⟩,d⟩:=h b (.inScope c::k) cs i hb j;cases e with
 |normal=>exact⟨.normal,a₁,w₁,g,.head f DT (StepsIn.trans d (.one (fenced_calm hb j rfl) Xv))⟩
 |exit id=>
  have hx:exitTo id (.inScope c::k)=exitTo id k:=by simp[exitTo]
  exact⟨_,a₁,w₁,g,λk' hk=>.head f DT (d.1 k' (by rw[hx];omega)),
   λn hk=>let ⟨k₁,h1,h2⟩:=d.2 n (by rw[hx];omega);⟨k₁,h1,.head f DT h2⟩⟩
 |goto l=>grind
 |ret=>exact⟨_,a₁,w₁,g,.of_steps (.one f DT) d⟩
 |panic ch=>exact⟨_,a₁,w₁,g,.of_steps (.one f DT) d⟩
 |outgrown=>exact⟨_,a₁,w₁,g,.of_steps (b:=b) (k:=k) (cs:=cs) (e:=.outgrown) (.one f DT) d⟩
def PanicOk.mono {Q Q' : M0}{ch:List PanicEntry}{a:Act}{w:World}(h:PanicOk 𝒢 n Q ch a w)(b:∀x s,Q (.panic x) s->Q' (.panic x) s):PanicOk 𝒢 n Q' ch a w:=
 let ⟨C,st,rho,v,x,h1,h2,h3,h4,h5,h6⟩:=h
 ⟨C,st,rho,v,x,h1,h2,h3,h4,h5,b _ _ h6⟩
def BI9 (h:Sat C st a w rho){c:Operand}{b:Bool}(hb:Rl (aev st.env c)=some b):a.eval c=.bool b:=by
 have d:=h.aev c;unfold Rl at hb;split at hb
 .rename_i x hx;cases hb;rw[hx]at d;exact d.toP.toV
 .rename_i x hx;cases hb;rw[hx]at d;exact d.toP.toBool
 grind
open Classical in
theorem AM3 {b:Code}(ih:Lk P n b)(u:BR4 𝒢 ro)(hG : 𝒢.G C)(h:Sat C st a w rho)(v:a.tmps.size=n)(hw:awp (Ia P) P (.loop b) Q st):(Code.loop b).wpIn (FW ro) 0 P (WP 𝒢 n Q) a w:=by
 obtain⟨X,s,J,m,hu,g⟩:=hw
 let at' : Act->World->X->Prop:=λa w x=>J x/\∃C rho,𝒢.G C/\Sat C (s x) a w rho/\a.tmps.size=n
 let I:Act->World->Prop:=λa w=>∃x,at' a w x
 let le:Act->World->Nat->Prop:=λa w k=>∃x,at' a w x/\m x=k
 have d:∀(p:Nat->Prop),(∃k,p k)->∃k,p k/\∀j,p j->k<=j:=by
  intro p ⟨k,hk⟩
  induction k using Nat.strongRecOn with
  |_ k ih=>
   by_cases c:∃j,j<k/\p j
   .obtain⟨j,hj,hp⟩:=c;exact ih j hj hp
   exact⟨k,hk,λj hj=>Ct1 λhlt=>c ⟨j,hlt,hj⟩⟩
 let μ : Act->World->Nat:=λa w=>if hx:∃k,le a w k then (d _ hx).choose else 0
 have hμ : ∀a w x,at' a w x->∃y,at' a w y/\m y = μ a w /\ μ a w<=m x:=by
  intro a w x hx;have c:∃k,le a w k:=⟨m x,x,hx,rfl⟩;have h1:=(d _ c).choose_spec;have h2 : μ a w=(d _ c).choose:=by simp only[μ,dif_pos c]
  obtain⟨⟨y,hy,hm⟩,hle⟩:=h1;exact⟨y,hy,by rw[h2];exact hm,by rw[h2];exact hle _ ⟨x,hx,rfl⟩⟩
 refine wpIn_loop I μ ?_ ?_
 .obtain⟨C',st',rho',i,o,f,⟨x,rfl,hJ⟩⟩:=NextOk.up hG h v hu;exact⟨x,hJ,C',rho',i,o,f⟩
 rintro a w ⟨x,hx⟩;obtain⟨y,⟨hJ,C',rho',i,o,f⟩,hm,_⟩:=hμ a w x hx;refine wpIn_mono (ih 𝒢 ro u _ C' (s y) a w rho' i o f (g y hJ)) ?_;intro e a' w' q;cases e with
 |normal=>obtain⟨C2,st2,rho2,hG2,hs2,r,hu2⟩:=q;obtain⟨C3,st3,rho3,hG3,hs3,t,⟨z,rfl,hJz,hmz⟩⟩:=NextOk.up hG2 hs2 r hu2;have hz:at' a' w' z:=⟨hJz,C3,rho3,hG3,hs3,t⟩;obtain⟨_,_,_,hle⟩:=hμ a' w' z hz;exact⟨⟨z,hz⟩,by omega⟩
 |exit id=>exact q
 |goto l=>exact q
 |ret=>exact q
 |panic ch=>exact q.mono λx s h=>h
 |outgrown=>exact q
def Ap8 (hrange:∀g ps asg body,(ps.toList.all λt=>Nat.blt t n)=true->Lk P n asg->Lk P n body->Lk P n (.rangeFunc g ps asg body)):∀(c:Code),BV n c=true->Lk P n c:=by
 intro c
 induction c with
 |skip=>exact λ_ 𝒢 ro f Q C st a w rho o h d hw=>wpIn_skip ⟨C,st,rho,o,h,d,hw⟩
 |label l=>exact λ_ 𝒢 ro f Q C st a w rho o h d hw=>wpIn_label ⟨C,st,rho,o,h,d,hw⟩
 |exit id=>exact λ_ 𝒢 ro f Q C st a w rho o h d hw=>wpIn_exit ⟨C,st,rho,o,h,d,hw⟩
 |goto l=>exact λ_ 𝒢 ro f Q C st a w rho o h d hw=>wpIn_goto ⟨C,st,rho,o,h,d,hw⟩
 |ret=>exact λ_ 𝒢 ro f Q C st a w rho o h d hw=>wpIn_ret ⟨C,st,rho,o,h,d,hw⟩
 |refuse y=>exact λ_ 𝒢 ro f Q C st a w rho o h d hw=>hw.elim
 |region id ops draw=>
  intro m 𝒢 ro f Q C st a w rho o h d hw;simp only[BV]at m;simp only[awp]at hw;cases draw with
  |false=>
   simp at hw
   have:=RF (ro:=ro) m ops.toList 0 (by simp) (by simp) o h d hw
   grind[wpIn_region]
  |true=>
   simp at hw;obtain⟨hmix,hdep,Inv,h0,z,hfin⟩:=hw;refine wpIn_region_draw λt=>?_;have hsch:Region.schedule (P.follows .mixedOrders) ops t=Region.linearise.go .any ops ops.size t (Array.replicate ops.size false) []:=by
    grind[Region.schedule,Region.linearise]
   rw[hsch];obtain⟨h1,_⟩:=h.grow (w':={ w with drawn:=w.drawn+1 }) (Ce5 _) (λ_ _=>rfl);refine AM1 m hdep z hfin _ _ _ (by simp) (by simp) ⟨C,st,rho,o,h1,d,?_⟩
   have:(λj=>(Array.replicate ops.size false).getD j false)=λ_=>false:=by funext j;simp only[Ce1,Array.getElem?_replicate];split<;>rfl
   rw[this];omega
 |seq x y ihx ihy=>
  intro m 𝒢 ro f Q C st a w rho o h d hw;simp only[BV,Ce2]at m;refine wpIn_seq (wpIn_mono (ihx m.1 𝒢 ro f _ C st a w rho o h d hw) ?_);intro e a' w' q;cases e with
  |normal=>obtain⟨C2,st2,rho2,u,v,r,hu2⟩:=q;obtain⟨C3,st3,rho3,hG3,hs3,hsz3,hw3⟩:=NextOk.up u v r hu2;exact ihy m.2 𝒢 ro f _ C3 st3 a' w' rho3 hG3 hs3 hsz3 hw3
  |exit id=>exact q
  |goto l=>exact q
  |ret=>exact q
  |panic ch=>exact q.mono λx s h=>h
  |outgrown=>exact q
 |cond c x y ihx ihy=>
  intro m 𝒢 ro f Q C st a w rho o h d hw;simp only[BV,Ce2]at m;obtain⟨b,hb,hw⟩:=hw;refine wpIn_cond (BI9 h hb) ?_;cases b
  .exact ihy m.2 𝒢 ro f _ C st a w rho o h d hw
  exact ihx m.1 𝒢 ro f _ C st a w rho o h d hw
 |block id b ih=>
  intro m 𝒢 ro f Q C st a w rho o h d hw;refine wpIn_block (wpIn_mono (ih m 𝒢 ro f _ C st a w rho o h d hw) ?_);intro e a' w' q;cases e with
  |normal=>exact q
  |exit i=>
   simp only[Exit.inBlock];obtain⟨C2,st2,rho2,u,v,r,hq⟩:=q;by_cases hi:i=id
   .simp only[blk,hi,Lo]at hq;rw[Jk hi];exact⟨C2,st2,rho2,u,v,r,hq⟩
   simp only[blk,hi,Lp]at hq;rw[Js hi];exact⟨C2,st2,rho2,u,v,r,hq⟩
  |goto l=>exact q
  |ret=>exact q
  |panic ch=>exact q.mono λx s h=>h
  |outgrown=>exact q
 |loop b ih=>exact λm 𝒢 ro f Q C st a w rho o h d hw=>AM3 (ih m) f o h d hw
 |scope b ih=>
  intro m 𝒢 ro f Q C st a w rho o h d hw;refine AM2 (wpIn_mono (ih m 𝒢 ro f _ C st a w rho o h d hw) ?_);intro e a' w' q;cases e with
  |normal=>exact⟨by grind,q⟩
  |exit id=>exact⟨by grind,q⟩
  |goto l=>obtain⟨C2,st2,rho2,u,v,r,hq⟩:=q;exact hq.elim
  |ret=>exact⟨by grind,q⟩
  |panic ch=>exact⟨by grind,q.mono λx s h=>h⟩
  |outgrown=>exact q.elim
 |rangeFunc g ps asg body iha ihb=>
  simp_all[BV,Ce2]
end
section
variable {P:Program}{C:Ctx}{st:St}{a:Act}{w:World}{rho:Nat->Value}{𝒢 : Prot P}{n:Nat}{Q:M0}
def Prot.fix (𝒢 : Prot P)(r0:Nat->Value):Prot P where
 G:=λC=>𝒢.G C/\C.rho0=r0
 tab:=λC h=>𝒢.tab C h.1
 call:=by
  intro C w O V ys rest vs a hR b hs c;obtain⟨l,fn,tmps,as,body,h1,d,f⟩:=𝒢.call C w O V ys rest vs a.1 hR b hs c;refine⟨l,fn,tmps,as,body,h1,d,f.mono ?_⟩
  grind
def Sat.unmark (h:Sat C st a w rho){d:Deferred}{ds:List Deferred}(g:a.defers=d::ds):∃r w',d.target=.collected r/\(Instr.takeDeferred r).run P w=.ok [] w' /\ Sat C st { a with defers:=ds } w' rho:=by
 obtain⟨r,rfl,l,f,m⟩:=h.marks.2 d (by rw[g];simp);have q:r<w.heap.size:=(by grind);refine⟨r,w.putObj r (.deferred none),rfl,run_takeDeferred f,?_⟩;have c:∀b,b≠r->(w.putObj r (.deferred none)).heap[b]? = w.heap[b]?:=λb hb=>Ci4 hb;have i:∀b off v,w.cell? ⟨b,off,none⟩=some v->b≠r:=by
  rintro b off v hc rfl
  grind[World.cell?]
 have hk:Ux w (Prv C.X (A2 st.Uu) rho) (w.putObj r (.deferred none)) (Prv C.X (A2 st.Uu) rho):=λb o v hp hc=>
  ⟨by rw[<- hc];grind[Go.World.cell?_of_block],hp⟩
 refine⟨⟨⟨?_,h.hp.sep,h.hp.out,λb off m=>by rw[Cg8];exact h.hp.bound b off m⟩,h.ext.trans ⟨rfl,rfl⟩,by rw[Cg8];exact h.size,?_,h.keep.trans hk,h.own,h.yld⟩,λt=>(h.env t).keeps hk (by grind),h.pin,?_,?_⟩
 .intro j o n;exact (h.hp.holds j o n).keeps hk (by grind) λb hb=>c b λe=>(h.hp.holds j o n).nd hb (by rw[e];omega)
 .intro b hb s;rw[c b (by grind)];exact h.same b hb s
 .have:=h.marks.1;rw[g]at this;grind
 intro d' u;obtain⟨r',h1,x,z,y⟩:=h.marks.2 d' (by rw[g];grind);refine⟨r',h1,x,?_,y⟩;rw[c r' ?_]
 .omega
 rintro rfl
 have:=h.marks.1;rw[g]at this
 grind
def PD {fn:Func}{R:Ending->World->Prop}{u:FrameMode}(c:u ≠ .run){tmps:Array Value}(b:∀a w,Sat C st a w rho->a.tmps=tmps->a.defers=[]->LeavesIn Fence.wide 0 P fn tmps R [] u w):∀(ds:List Deferred) (a:Act) (w:World),a.defers=ds->a.tmps=tmps->Sat C st a w rho ->
 LeavesInM Fence.wide 0 P fn tmps R ds u w
 |[],a,w,hd,ht,h=>b a w h ht hd
 |d::ds,a,w,hd,ht,h=>by obtain⟨r,w',h1,f,g⟩:=h.unmark hd;exact⟨c,.inl ⟨r,w',h1,f,PD c b ds { a with defers:=ds } w' rfl ht g⟩⟩
def Bq5 {Pi:Nat->Nat->Prop}{live:Nat->Prop}{Uu:C6}{t:TypeId}{v:Value}{x:AV}{r:List Prop×AV}(b:Yj w Pi live rho v x)(a:load P Uu t x=some r):∃ad,v=.pointer (some ad):=by
 cases b with
 |reg=>grind
 |elt=>grind
 |p _ y hy=>cases hy<;>first|exact⟨_,rfl⟩ | simp[load]at a
 |_=>simp[load]at a
def Cc4 (tmps:Array Value):ResultVar->Sem Value
 |.tmp t=>pure (tmps.getD t undef)
 |.cell a t=>do loadVar t (<- asAddr (tmps.getD a undef))
def AM4 (fn:Func)(tmps:Array Value):results fn tmps=(do
 let vs <- fn.results.mapM (Cc4 tmps)
 pure (if h:vs.size=1 then vs[0]else .tuple vs):Sem Value):=by
 unfold results;refine congrArg (λf=>((fn.results.mapM f >>= λvs=>pure (if h:vs.size=1 then vs[0]else .tuple vs)):Sem Value)) ?_;funext r;cases r<;>rfl
def Nl (h:Sat C st a w rho):∀(rs:List ResultVar) (l:List AV),Jv P st rs=some l ->
 ∃vs:List Value,(rs.mapM (Cc4 a.tmps)).run P w=.ok vs w/\vs.length=l.length/\∀i,i<l.length->RS C st w rho (vs.getD i undef) (l.getD i .top)
 |[],l,he=>by simp only[Jv,Cd9]at he;subst he;exact⟨[],by simp,rfl,λi d=>Ke d (by simp)⟩
 |r::rs,l,he=>by
  simp only[Jv]at he;split at he
  .rename_i x l' hx hl;cases he;obtain⟨vs,h1,m,n⟩:=Nl h rs l' hl;have b:∃v,(Cc4 a.tmps r).run P w=.ok v w/\RS C st w rho v x:=by
    cases r with
    |tmp t=>simp only[AX9,Cd9]at hx;subst hx;exact⟨_,rfl,h.env t⟩
    |cell y t=>
     simp only[AX9]at hx;split at hx
     .rename_i z f;cases hx;obtain⟨u,g,j⟩:=Vr h (h.env y) f trivial;obtain⟨ad,c⟩:=Bq5 (h.env y) f;rw[c]at g
      grind[Cc4,Instr.loadAt,Instr.sureAddr,asAddr]
     grind
   obtain⟨v,o,j⟩:=b;refine⟨v::vs,?_,by grind,λi d=>?_⟩
   .rw[List.mapM_cons]
    simp_all
   grind
  grind
def Xw (h:Sat C st a w rho){fn:Func}{l:List AV}(b:Jv P st fn.results.toList=some l):∃v,(results fn a.tmps).run P w=.ok v w/\RS C st w rho v (one l):=by
 obtain⟨vs,h1,c,d⟩:=Nl h _ l b;refine⟨if h:vs.toArray.size=1 then vs.toArray[0]else .tuple vs.toArray,?_,?_⟩
 .rw[AM4,Array.mapM_eq_mapM_toList]
  simp_all
 by_cases hl:l.length=1
 .obtain⟨x,rfl⟩:=Cq4.1 hl;obtain⟨v,rfl⟩:=Cq4.1 (c.trans hl)
  simp_all[one]
 rw[dif_neg (by grind)]
 have:one l=.tup l:=by
  cases l with
  |nil=>rfl
  |cons x r=>
   cases r with
   |nil=>grind
   |cons _ _=>rfl
 rw[this];refine .tup _ l (by omega) λi f=>?_
 have:=d i f
 simp_all
def RG (h:Sat C st a w rho){outs:List Nat}{objs:List Obj}(hd:I5 outs=true)(s:M9 outs st.Uu outs=some objs) :SatE C (Uv objs) w (λp=>rho (outs.getD p 0))/\Ux w (PiS C st rho) w (Prv C.X (A2 (Uv objs)) (λp=>rho (outs.getD p 0))) /\
  ∀p j:Nat,outs[p]? = some j->Lv (A2 st.Uu) j->Lv (A2 (Uv objs)) p/\rho (outs.getD p 0)=rho j:=by
 obtain⟨hl,hg⟩:=Bo s;have z:=DS hd;have c:∀p o',A2 (Uv objs) p=some o' -> ∃j o,outs[p]? = some j/\A2 st.Uu j=some o/\Vn outs o=some o' /\ rho (outs.getD p 0)=rho j:=by
  grind[F4,List.getElem?_eq_some_iff,List.getElem?_eq_getElem,Fd]
 have hpi:∀b off,Prv C.X (A2 (Uv objs)) (λp=>rho (outs.getD p 0)) b off->Prv C.X (A2 st.Uu) rho b off:=by
  rintro b off (l|⟨p,o',hp,hb,t⟩)
  .exact .inl l
  obtain⟨j,o,h1,f,d,g⟩:=c p o' hp;simp only[g,Bn d]at hb;exact .inr ⟨j,o,f,hb,(Nk d off).1 t⟩
 have hk:Ux w (PiS C st rho) w (Prv C.X (A2 (Uv objs)) (λp=>rho (outs.getD p 0))):=λb o v hp hc=>(by grind);have i:∀p j:Nat,outs[p]? = some j->Lv (A2 st.Uu) j->Lv (A2 (Uv objs)) p/\rho (outs.getD p 0)=rho j:=by
  grind[Lv,F4,Fd]
 refine⟨⟨⟨?_,?_,?_,λb off l=>h.hp.bound b off l⟩,h.ext,h.size,h.same,h.keep.trans hk,?_,?_⟩,hk,i⟩
 .intro p o' hp;obtain⟨j,o,h1,f,d,g⟩:=c p o' hp;show Yk w _ _ _ (rho (outs.getD p 0)) o';rw[g];exact (h.hp.holds j o f).ren hk i (λb _=>rfl) d
 .intro p q op oq b hp hq m n;obtain⟨j,o,h1,f,d,g⟩:=c p op hp;obtain⟨j',o',h1',u,x,y⟩:=c q oq hq;simp only[g,y,Bn d,Bn x]at m n
  have:=h.hp.sep j j' o o' b f u m n
  grind[Ht]
 .intro p o' b off hp hb l;obtain⟨j,o,h1,f,d,g⟩:=c p o' hp;simp only[g,Bn d]at hb;exact h.hp.out j o b off f hb l
 .rintro b ⟨p,o',hp,hb⟩;obtain⟨j,o,h1,f,d,g⟩:=c p o' hp;simp only[g,Bn d]at hb;exact h.own b ⟨j,o,f,hb⟩
 intro p r b hp;obtain⟨j,o,h1,f,d,g⟩:=c p _ hp
 have:o=.yld r b:=by
  cases o<;>simp only[Vn]at d
  all_goals grind
 subst this;simp only[g];exact h.yld j r b f
def AM5 {m:Nat}{outs:List Nat}(hm:m<1000){i:Nat}(hk:(Jw m outs)[i]? = some true):i<m/\outs[i]? = some i:=by
 unfold Jw at hk;rw[Ce7,Cg0]at hk
 grind
def AM6 (s:∀c,BV n c=true->Lk P n c){f:FuncId}{fn:Func}{code:Code}{args:List AV}{objs:List Obj}{Q:ARes->List Obj->List Bool->Prop}(hf:P.funcs[f]? = some fn)(hb:fn.body=some code)(hname:(fn.name == "runtime.NumGoroutine")=false)(hn:fn.ntmps=n)
 (hok:BV n code=true) (hargs:args.length<=n) (y:objs.length<1000)
 (hw:semUp ⟨Yl args,Uv objs⟩ (awp (Ia P) P code (Fk (Ia P) P objs.length fn.results.toList Q))):SemF P f args objs Q:=by
 intro 𝒢 C w vs rho hG hS hvs;have hn' : ¬fn.name = "runtime.NumGoroutine" := by grind
 refine⟨.enter f vs,w,by simp_all[callFunc],?_⟩;refine callsIn_of_wp_marks hf hb trivial ?_;have hS' : Sat C ⟨Yl args,Uv objs⟩ { tmps:=vs++Array.replicate (fn.ntmps-vs.size) undef,defers:=[] } w rho:=by
  refine⟨hS.toSatE,λt=>?_,hS.pin,hS.marks⟩
  have:=hS.env t
  by_cases ht:t<vs.size
  .simp_all[Ce1,Cp0]
  show Yj w _ _ _ _ (get (Yl args) t);rw[Da,Ce0,Ci0 (by omega)];exact .top _
 obtain⟨st1,rho1,hw1,_,hS1⟩:=hw C _ w rho hS';have hsz:(vs++Array.replicate (fn.ntmps-vs.size) undef).size=n:=by grind
 have hro:BR4 (𝒢.fix C.rho0) none:=λl h=>by cases h
 refine wpIn_mono (s code hok (𝒢.fix C.rho0) none hro _ C st1 _ w rho1 ⟨hG,rfl⟩ hS1 hsz hw1) ?_;have j:∀{C' : Ctx}{st' : St}{a' : Act}{w' : World}{rho' : Nat->Value}{outs:List Nat}{objs' : List Obj},C'.rho0=C.rho0->Sat C' st' a' w' rho' -> M9 outs st'.Uu outs=some objs' -> ∀i:Nat,(Jw objs.length outs)[i]? = some true->i<objs'.length/\rho' (outs.getD i 0)=rho i:=by intro C' st' a' w' rho' outs objs' hr hs hob i hi;obtain⟨h1,h2⟩:=AM5 y hi;obtain⟨hl,hg⟩:=Bo hob;obtain⟨o,_,ho,_⟩:=hg i i h2;refine⟨by rw[hl];grind,?_⟩;rw[Fd h2,hs.pin i (by omega) (by grind[Lv]),hr];exact (hS.pin i (by omega) (by grind[Lv,F4])).symm
 have q:∀(a' : Act) (w' : World),NextOk (𝒢.fix C.rho0) n (λst=>semUp st λst1=>∃l outs a objs',Jv P st1 fn.results.toList=some l/\I5 outs=true/\Zs outs (one l)=some a/\M9 outs st1.Uu outs=some objs' /\ Q (.ret a) objs' (Jw objs.length outs)) a' w' ->
  LeavesInM Fence.wide 0 P fn a'.tmps (λe w'=>∃C' r objs' ks rho', 𝒢.G C' /\ Q r objs' ks/\SatE C' (Uv objs') w' rho' /\
   Bp9 w' (Prv C'.X (A2 (Uv objs')) rho') (Lv (A2 (Uv objs'))) rho' e r/\∀i:Nat,ks[i]? = some true->i<objs'.length/\rho' i=rho i) a'.defers .returning w':=by
  rintro a' w' ⟨C',st',rho',m,z,hsz',hu⟩;obtain⟨st2,rho2,⟨l,outs,x,objs',h1,h2,h3,h4,h5⟩,_,g⟩:=hu C' a' w' rho' z;refine PD (C:=C') (st:=st2) (rho:=rho2) (by simp) ?_ a'.defers a' w' rfl rfl g;intro a3 w3 a0 ht hd;obtain⟨v,hv,hrep⟩:=Xw a0 h1;obtain⟨g1,g2,g3⟩:=RG a0 h2 h4;rw[ht]at hv;exact⟨v,hv,C', .ret x,objs',_,_,m.1,h5,g1,⟨v,rfl,hrep.ren g2 g3 h3⟩,j m.2 a0 h4⟩
 intro e a' w' he;cases e with
 |normal=>exact q a' w' he
 |ret=>exact q a' w' he
 |exit id=>obtain⟨_,_,_,_,_,_,h⟩:=he;exact h.elim
 |goto l=>obtain⟨_,_,_,_,_,_,h⟩:=he;exact h.elim
 |outgrown=>exact he.elim
 |panic ch=>
  obtain⟨C',st',rho',v,x,rfl,m,z,hsz',hv,outs,objs',h2,h4,h5⟩:=he
  have:∀(ds:List Deferred) (a2:Act) (w2:World),a2.defers=ds->a2.tmps=a'.tmps->Sat C' st' a2 w2 rho' -> Uy w2 (PiS C' st' rho') v x ->
   LeavesInM Fence.wide 0 P fn a'.tmps (λe w'=>∃C' r objs' ks rho', 𝒢.G C' /\ Q r objs' ks/\SatE C' (Uv objs') w' rho' /\
    Bp9 w' (Prv C'.X (A2 (Uv objs')) rho') (Lv (A2 (Uv objs'))) rho' e r/\∀i:Nat,ks[i]? = some true->i<objs'.length/\rho' i=rho i) ds (.panicking [{ v,recovered:=false }]) w2:=by
   intro ds
   induction ds with
   |nil=>intro a2 w2 hd ht g a1;obtain⟨g1,g2,g3⟩:=RG g h2 h4;exact⟨C', .panic x,objs',_,_,m.1,h5,g1,⟨v,rfl,a1.keeps g2⟩,j m.2 g h4⟩
   |cons d ds ih=>
    intro a2 w2 hd ht g a1;obtain⟨r,w3,h6,h7,h8⟩:=g.unmark (P:=P) hd;refine⟨by simp,.inl ⟨r,w3,h6,h7,ih { a2 with defers:=ds } w3 rfl ht h8 ?_⟩⟩;obtain⟨r',h9,_,h10,_⟩:=g.marks.2 d (by rw[hd];simp);have e6:r=r':=by rw[h9]at h6;grind
    subst e6;have hw3:w3=w2.putObj r (.deferred none):=by rw[run_takeDeferred h10]at h7;grind
    subst hw3;refine a1.keeps λb o u hp hc=>⟨?_,hp⟩;rw[<- hc];refine Cg5 (Ci4 ?_);rintro rfl
    grind[World.cell?]
  exact this a'.defers a' w' rfl rfl z hv
end
section
variable {P:Program}{C:Ctx}{st:St}{a:Act}{w:World}{rho:Nat->Value}{𝒢 : Prot P}{n:Nat}{Q:M0}
def Sat.poke (h:Sat C st a w rho){r:Nat}{lo:Loop}(f:w.heap[r]? = some (.loop lo))(o' : Go.Obj)(l:C.E0 r \/ C.w0.heap.size<=r):Sat C st a (w.putObj r o') rho/\∀Pi,Ux w Pi (w.putObj r o') Pi:=by
 have c:∀b,b≠r->(w.putObj r o').heap[b]? = w.heap[b]?:=λb hb=>Ci4 hb;have i:∀b off v,w.cell? ⟨b,off,none⟩=some v->b≠r:=by
  rintro b off v hc rfl
  grind[World.cell?]
 have hk:∀Pi,Ux w Pi (w.putObj r o') Pi:=λPi b o v hp hc=>⟨by rw[<- hc];grind[Go.World.cell?_of_block],hp⟩;have g:∀{Pi live rho' v ob b},Yk w Pi live rho' v ob->G0 v ob b->b≠r:=by
  rintro Pi live rho' v ob b n hb rfl
  have:=n.kind hb
  rw[f]at this;cases this
 refine⟨⟨⟨⟨?_,h.hp.sep,h.hp.out,λb off q=>by rw[Cg8];exact h.hp.bound b off q⟩,h.ext.trans ⟨rfl,rfl⟩,by rw[Cg8];exact h.size,?_,h.keep.trans (hk _),h.own,h.yld⟩,λt=>(h.env t).keeps (hk _) (by grind),h.pin,h.marks.1,?_⟩,hk⟩
 .intro j o m;exact (h.hp.holds j o m).keeps (hk _) (by grind) λb hb=>c b (g (h.hp.holds j o m) hb)
 .intro b hb s;rw[c b (by grind)];exact h.same b hb s
 intro d u;obtain⟨r',h1,x,y,z⟩:=h.marks.2 d u
 grind
def Ctx.plus (C:Ctx)(V:Nat->Nat->Prop):Ctx:={ C with X:=λb o=>C.X b o \/ V b o }
def SatE.add {R R' : C6}(h:SatE C R w rho){j:Nat}(z:A2 R j=none){o:Obj}{v:Value}(hb:∀u b,¬G0 u o b)(m : ∀i,A2 R' i=ite (i=j) (some o) (A2 R i))
 (hh:Ux w (Prv C.X (A2 R) rho) w (Prv C.X (A2 R') (λi=>ite (i=j) v (rho i)))->(∀i,Lv (A2 R) i->Lv (A2 R') i/\(ite (i=j) v (rho i))=rho i)->Yk w (Prv C.X (A2 R') (λi=>ite (i=j) v (rho i))) (Lv (A2 R')) (λi=>ite (i=j) v (rho i)) v o) (hy:∀r b,o=.yld r b->C.Y r b/\v=C.yv) :
 SatE C R' w (λi=>ite (i=j) v (rho i))/\(∀b off,Prv C.X (A2 R') (λi=>ite (i=j) v (rho i)) b off↔Prv C.X (A2 R) rho b off) /\
  (∀i,Lv (A2 R) i->Lv (A2 R') i/\(ite (i=j) v (rho i))=rho i):=by
 have f:∀i,Lv (A2 R) i->Lv (A2 R') i/\(ite (i=j) v (rho i))=rho i:=by
  intro i d;have e:i≠j:=by rintro rfl;grind[Lv]
  grind[Lv]
 have a:∀i oi b,A2 R' i=some oi->G0 (ite (i=j) v (rho i)) oi b->i≠j/\A2 R i=some oi/\G0 (rho i) oi b:=by
  grind
 have n:∀i oi,A2 R i=some oi->A2 R' i=some oi/\(ite (i=j) v (rho i))=rho i:=by
  grind
 have s:∀b off,Prv C.X (A2 R') (λi=>ite (i=j) v (rho i)) b off↔Prv C.X (A2 R) rho b off:=by
  intro b off;constructor
  .rintro (t|⟨i,oi,d,c,hp⟩)
   .exact .inl t
   obtain⟨_,h1,l⟩:=a i oi b d c;exact .inr (by grind)
  rintro (t|⟨i,oi,d,c,hp⟩)
  .exact .inl t
  obtain⟨h1,l⟩:=n i oi d;exact .inr (by grind)
 have hk:Ux w (Prv C.X (A2 R) rho) w (Prv C.X (A2 R') (λi=>ite (i=j) v (rho i))):=λb o v hp hc=>(by grind);refine⟨⟨⟨?_,?_,?_,h.hp.bound⟩,h.ext,h.size,h.same,h.keep.trans hk,?_,?_⟩,s,f⟩
 .intro i oi d;by_cases e:i=j
  .grind
  have g:=d;rw[m,Js e]at g;simp only[e,Lp];exact (h.hp.holds i oi g).keeps hk f λb _=>rfl
 .intro i i' oi oj b d g c q;obtain⟨_,h1,l⟩:=a i oi b d c;obtain⟨_,x,y⟩:=a i' oj b g q;exact h.hp.sep i i' oi oj b h1 x l y
 .intro i oi b off d c;obtain⟨_,h1,l⟩:=a i oi b d c;exact h.hp.out i oi b off h1 l
 .rintro b ⟨i,oi,d,c⟩;obtain⟨_,h1,l⟩:=a i oi b d c;exact h.own b ⟨i,oi,h1,l⟩
 intro i r b d;by_cases e:i=j
 .grind
 rw[m,Js e]at d;simp only[e,Lp];exact h.yld i r b d
def Sat.suspend (h:Sat C st a w rho){ids:List Nat}(hd:I5 ids=true){E:Env}(hE:∀t,get E t=get st.env t \/ get E t=.top){V:Nat->Nat->Prop}(n:∀b off,V b off ↔ ∃j o,j∈ids/\A2 st.Uu j=some o/\G0 (rho j) o b/\MT o off)(hlv:∀j∈ids,Lv (A2 st.Uu) j) :Sat (C.plus V) ⟨E,K9 ids (ids.map λ_=>false) st.Uu⟩ a w rho/\∀b off,Prv (C.plus V).X (A2 (K9 ids (ids.map λ_=>false) st.Uu)) rho b off↔Prv C.X (A2 st.Uu) rho b off:=by
 have a0:=DS hd;have q:∀j,A2 (K9 ids (ids.map λ_=>false) st.Uu) j=ite (j∈ids) (some .dead) (A2 st.Uu j):=by
  grind[Hu,Xq,T0,idx,Ke,List.mem_of_getElem?]
 have f:∀i oi b,A2 (K9 ids (ids.map λ_=>false) st.Uu) i=some oi->G0 (rho i) oi b->i ∉ ids/\A2 st.Uu i=some oi:=by
  intro i oi b c hb;rw[q]at c;by_cases hm:i∈ids
  .rw[Jk hm]at c;grind[G0,R8]
  grind
 have s:∀b off,Prv (C.plus V).X (A2 (K9 ids (ids.map λ_=>false) st.Uu)) rho b off↔Prv C.X (A2 st.Uu) rho b off:=by
  intro b off;constructor
  .rintro ((g|g)|⟨i,oi,c,hb,hp⟩)
   .exact .inl g
   .obtain⟨j,o,_,h1,m,u⟩:=(n b off).1 g;exact .inr (by grind)
   obtain⟨_,h1⟩:=f i oi b c hb;exact .inr (by grind)
  rintro (g|⟨i,oi,c,hb,hp⟩)
  .exact .inl (.inl g)
  by_cases hm:i∈ids
  .exact .inl (.inr (by grind))
  exact .inr (by grind)
 have hk:Ux w (Prv C.X (A2 st.Uu) rho) w (Prv (C.plus V).X (A2 (K9 ids (ids.map λ_=>false) st.Uu)) rho):=λb o v hp hc=>(by grind);have l:∀i,Lv (A2 st.Uu) i->Lv (A2 (K9 ids (ids.map λ_=>false) st.Uu)) i/\rho i=rho i:=by
  intro i c;refine⟨?_,rfl⟩
  grind[Lv]
 refine⟨⟨⟨⟨?_,?_,?_,?_⟩,h.ext,h.size,h.same,h.keep.trans hk,?_,?_⟩,?_,?_,h.marks.1,?_⟩,s⟩
 .intro i oi c;rw[q]at c;by_cases hm:i∈ids
  .rw[Jk hm]at c;cases c;trivial
  rw[Js hm]at c;exact (h.hp.holds i oi c).keeps hk l λb _=>rfl
 .intro i i' oi oj b c hi' hb x;exact h.hp.sep i i' oi oj b (f i oi b c hb).2 (by grind) hb x
 .rintro i oi b off c hb (g|g)
  .exact h.hp.out i oi b off (f i oi b c hb).2 hb g
  obtain⟨j,o,hm,h1,m,_⟩:=(n b off).1 g
  have:=h.hp.sep i j oi o b (f i oi b c hb).2 h1 hb m
  grind
 .rintro b off (g|g)
  .exact h.hp.bound b off g
  obtain⟨j,o,hm,h1,m,_⟩:=(n b off).1 g;exact (h.hp.holds j o h1).lt m
 .rintro b ⟨i,oi,c,hb⟩;exact h.own b ⟨i,oi,(f i oi b c hb).2,hb⟩
 .intro i r b c;rw[q]at c;by_cases hm:i∈ids
  .rw[Jk hm]at c;grind
  rw[Js hm]at c;exact h.yld i r b c
 .intro t;rcases hE t with y|y
  .show Yj w _ _ rho _ (get E t);rw[y];exact (h.env t).keeps hk l
  show Yj w _ _ rho _ (get E t);rw[y];exact .top _
 .intro i c hl;refine h.pin i c ?_;simp only[Lv,q]at hl;by_cases hm:i∈ids
  .grind
  rw[Js hm]at hl;exact hl
 intro d z;obtain⟨r,h1,m,u,h4⟩:=h.marks.2 d z;refine⟨r,h1,m,u,?_⟩;rintro off (g|g)
 .grind
 obtain⟨j,o,_,h5,h6,_⟩:=(n r off).1 g;exact (h.hp.holds j o h5).nd h6 u
def Sat.moves {C C' : Ctx}{V:Nat->Nat->Prop}{V' : Nat->Nat->Prop}{w' : World}{O' : Nat->Prop}(h:Sat (C.plus V) st a w rho)(hw:C'.w0=w)(q:C'.X=λb o=>C.X b o \/ PvR st.Uu rho b o)(i:C'.Pi0=λb o=>C'.X b o \/ V b o)
 (hR:Rel C' w' O' V') (s:∀b,C'.E0 b->¬An4 st.Uu rho a.defers b) (l:∀b,C'.E0 b->C.E0 b \/ C.w0.heap.size<=b) :
 Sat (C.plus V') st a w' rho/\Ux w (Prv (C.plus V).X (A2 st.Uu) rho) w' (Prv (C.plus V').X (A2 st.Uu) rho)/\∀b,b<w.heap.size->¬C'.E0 b->w'.heap[b]? = w.heap[b]?:=by
 subst hw;have c:=hR.same;have e1:∀b o,Prv (C.plus V).X (A2 st.Uu) rho b o↔C'.Pi0 b o:=by
  intro b o;rw[i,q];show ((C.X b o \/ V b o) \/ PvR st.Uu rho b o)↔((C.X b o \/ PvR st.Uu rho b o) \/ V b o)
  grind
 have e2:∀b o,Prv (C.plus V').X (A2 st.Uu) rho b o->(C'.X b o \/ V' b o):=by
  intro b o;rw[q];rintro ((h|h)|h)
  .grind
  .grind
  exact .inl (.inr h)
 have hk:Ux C'.w0 (Prv (C.plus V).X (A2 st.Uu) rho) w' (Prv (C.plus V').X (A2 st.Uu) rho):=λb o v hp hc=>
  let ⟨h1,u⟩:=hR.keep b o v (by grind) hc
  (by grind)
 have y:∀b,An4 st.Uu rho a.defers b->b<C'.w0.heap.size:=h.rel.lt;have f:∀b,An4 st.Uu rho a.defers b->w'.heap[b]? = C'.w0.heap[b]?:=(by grind);have m:∀b off,An4 st.Uu rho a.defers b->¬V' b off:=by
  intro b off hb z;rcases hR.own b (hR.vo b off z)with h1|h1
  all_goals grind
 refine⟨⟨⟨⟨?_,h.hp.sep,?_,?_⟩,h.ext.trans hR.ext,Ch9 h.size hR.size,?_,h.keep.trans hk,h.own,h.yld⟩,λt=>(h.env t).keeps hk (by grind),h.pin,h.marks.1,?_⟩,hk,c⟩
 .intro j o g;exact (h.hp.holds j o g).keeps hk (by grind) λb hb=>f b (.inl ⟨j,o,g,hb⟩)
 .rintro j o b off g hb (hx|hx)
  .exact h.hp.out j o b off g hb (.inl hx)
  exact m b off (.inl ⟨j,o,g,hb⟩) hx
 .rintro b off (hx|hx)
  .exact Cf5 (h.hp.bound b off (.inl hx)) hR.size
  exact hR.lt b (hR.vo b off hx)
 .intro b hb x;have n:b<C'.w0.heap.size:=Cf5 hb h.size;have hn:¬C'.E0 b:=by
   intro he;rcases l b he with h1|h1
   .exact x h1
   have:b<C.w0.heap.size:=hb;omega
  rw[c b n hn];exact h.same b hb x
 intro d hd;obtain⟨r,h1,u,h3,h4⟩:=h.marks.2 d hd;have hm:An4 st.Uu rho a.defers r:=.inr (by grind[Ap5]);refine⟨r,h1,u,(f r hm).trans h3,?_⟩;rintro off (hx|hx)
 .exact h4 off (.inl hx)
 grind
def Sat.minus {V:Nat->Nat->Prop}(h:Sat (C.plus V) st a w rho):Sat C st a w rho/\∀b off,Prv C.X (A2 st.Uu) rho b off->Prv (C.plus V).X (A2 st.Uu) rho b off:=by
 have f:∀b off,Prv C.X (A2 st.Uu) rho b off->Prv (C.plus V).X (A2 st.Uu) rho b off:=by
  rintro b off (c|c)
  .exact .inl (.inl c)
  exact .inr c
 have hk:Ux w (Prv (C.plus V).X (A2 st.Uu) rho) w (Prv C.X (A2 st.Uu) rho):=λb o v hp hc=>(by grind);refine⟨⟨⟨⟨?_,h.hp.sep,λj o b off g hb c=>h.hp.out j o b off g hb (.inl c),λb off c=>h.hp.bound b off (.inl c)⟩,h.ext,h.size,h.same,h.keep.trans hk,h.own,h.yld⟩,λt=>(h.env t).keeps hk (by grind),h.pin,h.marks.1,?_⟩,f⟩
 .intro j o g;exact (h.hp.holds j o g).keeps hk (by grind) λb hb=>rfl
 intro d i;obtain⟨r,h1,l,m,n⟩:=h.marks.2 d i;exact⟨r,h1,l,m,λoff c=>n off (.inl c)⟩
end
section
variable {P:Program}{n:Nat}{Q:M0}
structure LiftG (𝒢 : Prot P) (r1 r0:Nat->Value) (wS:World) (TS:Nat->Nat->Prop) (OS:Nat->Prop) (VS:Nat->Nat->Prop) (C C2:Ctx) (V0:Nat->Nat->Prop):Prop where
 g : 𝒢.G C2
 r2:C2.rho0=r1
 X:C.X=λb o=>C2.X b o \/ VS b o
 Y:C.Y=C2.Y
 yv:C.yv=C2.yv
 rho:C.rho0=r0
 pi:C.Pi0=λb o=>C.X b o \/ V0 b o
 rel:Rel C2 C.w0 (λb=>OS b \/ C.E0 b) (λb o=>VS b o \/ V0 b o)
 os:∀b,OS b->C.w0.heap[b]? = wS.heap[b]?
 keep:Ux wS TS C.w0 C.Pi0
 dis:∀b,OS b->¬C.E0 b
 size:wS.heap.size<=C.w0.heap.size
 ext:Ext wS C.w0
def or4 {a b c:Prop}:(a \/ b) \/ c↔a \/ (b \/ c):=or_assoc
def Ux.of_imp {w:World}{p q:Nat->Nat->Prop}(h:∀b o,q b o->p b o):Ux w p w q:=λb o v hp hc=>by grind
def LiftG.joint {𝒢 : Prot P}{r1 r0:Nat->Value}{wS:World}{TS:Nat->Nat->Prop}{OS:Nat->Prop}{VS:Nat->Nat->Prop}(g:∀b o,VS b o->OS b){C C2:Ctx}{V0:Nat->Nat->Prop}(h:LiftG 𝒢 r1 r0 wS TS OS VS C C2 V0)
 {w:World}{O:Nat->Prop}{V:Nat->Nat->Prop}(hR:Rel C w O V) :
 Rel C2 w (λb=>OS b \/ O b) (λb o=>VS b o \/ V b o)/\(∀b,OS b->w.heap[b]? = wS.heap[b]?)/\Ux wS TS w (λb o=>C.X b o \/ V b o)/\(∀b,OS b->¬O b)/\wS.heap.size<=w.heap.size/\Ext wS w:=by
 have a:=h.rel;have c:∀b,OS b->w.heap[b]? = C.w0.heap[b]?:=λb hb=>hR.same b (a.lt b (.inl hb)) (h.dis b hb);refine⟨⟨a.ext.trans hR.ext,Ch9 a.size hR.size,?_,?_,?_,?_,?_,λb off d=>Cf5 (a.bnd b off d) hR.size,?_⟩,λb hb=>(c b hb).trans (h.os b hb),h.keep.trans hR.keep,?_,Ch9 h.size hR.size,h.ext.trans hR.ext⟩
 .intro b hb i;rw[hR.same b (Cf5 hb a.size) λj=>by
   rcases a.own b (.inr j)with h1|h1
   all_goals grind]
  exact a.same b hb i
 .refine a.keep.trans ((Ux.of_imp ?_).trans (hR.keep.trans (Ux.of_imp ?_)))
  .intro b o hp;rw[h.pi,h.X]at hp
   grind
  intro b o hp;rw[h.X];grind
 .rintro b (hb|hb)
  .exact a.own b (.inl hb)
  rcases hR.own b hb with h1|h1
  .exact a.own b (.inr h1)
  exact .inr (Ch9 a.size h1)
 .rintro b off (hb|hb) d
  .exact a.out b off (.inl hb) d
  exact hR.out b off hb (by rw[h.X];grind)
 .rintro b (hb|hb)
  .exact Cf5 (a.lt b (.inl hb)) hR.size
  exact hR.lt b hb
 .rintro b o (f|f)
  .grind
  exact .inr (hR.vo b o f)
 intro b hb l;rcases hR.own b l with h1|h1
 .exact h.dis b hb h1
 have:=a.lt b (.inl hb);omega
def Prot.lift (𝒢 : Prot P)(r1 r0:Nat->Value)(wS:World)(TS:Nat->Nat->Prop)(OS:Nat->Prop)(VS:Nat->Nat->Prop)(a:∀b o,VS b o->OS b):Prot P where
 G:=λC=>∃C2 V0,LiftG 𝒢 r1 r0 wS TS OS VS C C2 V0
 tab:=by rintro C ⟨C2,V0,h⟩;exact ((𝒢.tab C2 h.g).keeps h.rel.keep h.rel.same (E':=C.E0) λb hb d=>(h.rel.own b (.inr d)).resolve_right (Nat.not_le.2 hb)).keeps (Ux.of_imp λb o hp=>by rw[h.pi,h.X]at hp;exact or4.1 hp) (λ_ _ _=>rfl) λ_ _ f=>f
 call:=by
  rintro C w O V ys rest vs ⟨C2,V0,h⟩ hR j hs m;obtain⟨j1,j2,j3,j4,j5,j6⟩:=h.joint a hR;have c : ∀i,i<ys.length->Uy w (λb o=>C2.X b o \/ (VS b o \/ V b o)) (vs.getD i undef) (ys.getD i default):=λi n=>
   (m i n).keeps (Ux.of_imp λb o hp=>by rw[h.X];exact or4.2 hp)
  obtain⟨l,fn,tmps,as,body,h1,q,r⟩:=𝒢.call C2 w _ _ ys rest vs h.g j1 (by rw[<- h.Y];exact j) hs c;refine⟨l,fn,tmps,as,body,h.yv.trans h1,q,r.mono ?_⟩;rintro e w' ⟨b,rfl,C2',g1,g2,g3,g4,g5,g6,g7,g8,g9,g10,g11,g12⟩;refine⟨b,rfl,{ X:=λb o=>C2'.X b o \/ VS b o,w0:=w',E0:=O,Pi0:=λb o=>(C2'.X b o \/ VS b o) \/ V b o,rho0:=C.rho0,Y:=C2'.Y,yv:=C2'.yv },⟨C2',V,?_⟩,g2.trans h.yv.symm,rfl,g4,rfl,rfl,rfl,?_,λb hb=>g9 b (.inr hb),?_,g11,g12⟩
  .refine⟨g1,g3.trans h.r2,rfl,rfl,rfl,h.rho,rfl,g8,λb hb=>(g9 b (.inl hb)).trans (j2 b hb),?_,j4,Ch9 j5 g11,j6.trans g12⟩;refine j3.trans ((Ux.of_imp ?_).trans (g10.trans (Ux.of_imp ?_)))
   .intro b o hp;rw[h.X];exact or4.2 hp
   .intro b o hp;exact or4.1 hp
  .refine⟨Ext.refl _,Ce5 _,λ_ _ _=>rfl,Ux.refl _ _,λb hb=>.inl hb,?_,λb hb=>g8.lt b (.inr hb),?_,hR.vo⟩
   .rintro b off hb (hx|hx)
    .exact g8.out b off (.inr hb) hx
    .exact j4 b (a b off hx) hb
   .rintro b off (hx|hx)
    .exact g8.bnd b off hx
    .exact g8.lt b (.inl (a b off hx))
  .refine (Ux.of_imp ?_).trans (g10.trans (Ux.of_imp ?_))
   .intro b o hp;rw[h.X];exact or4.2 hp
   .intro b o hp;exact or4.1 hp
end
section
variable {P:Program}{C:Ctx}{a:Act}{w:World}{rho:Nat->Value}{n:Nat}
def RH:∀(ts:List Nat) (l:List AV) (t:Nat),ts.length=l.length->ts.Nodup->(∀i:Nat,ts[i]? = some t->get (AK ts l) t=l.getD i .top)/\(t ∉ ts->get (AK ts l) t=.top)
 |[],[],t,_,_=>⟨by grind,λ_=>rfl⟩
 |[],_::_,t,h,_=>by grind
 |_::_,[],t,h,_=>by grind
 |x::ts,y::l,t,h,hn=>by
  obtain⟨n1,n2⟩:=Cj6.1 hn;obtain⟨h1,a⟩:=RH ts l t (by grind) n2;refine⟨λi b=>?_,λhm=>?_⟩
  .simp only[AK,get]
   grind
  simp_all[Ci2,not_or,AK,get,Js,Cl4]
def VE:∀(ts:List Nat) (l:List AV),ts.length=l.length->(AK ts l).map (·.1)=ts
 |[],[],_=>rfl
 |[],_::_,h=>by grind
 |_::_,[],h=>by grind
 |x::ts,y::l,h=>by simp[AK,VE ts l (by grind)]
def AD7:∀(E:Env) (t:Nat),(E.map (·.1)).Nodup->(∀i:Nat,(E.map (·.1))[i]? = some t->get E t=(E.map (·.2)).getD i .top)/\(t ∉ E.map (·.1)->get E t=.top)
 |[],t,_=>⟨by grind,λ_=>rfl⟩
 |(x,y)::E,t,hn=>by
  obtain⟨n1,n2⟩:=Cj6.1 hn;obtain⟨h1,a⟩:=AD7 E t n2;refine⟨λi b=>?_,λhm=>?_⟩
  .simp only[get]
   grind
  simp_all[Cf8,Ci2,not_or,get,Js,Cl4]
theorem QY {Uu:C6}{g i:Nat}(a:i≠g):A2 (del g Uu) i=A2 Uu i:=by
 induction Uu with
 |nil=>rfl
 |cons p r ih=>
  obtain⟨x,y⟩:=p;simp only[del];split
  all_goals simp_all[A2,Cl4]
def RI {Pi:Nat->Nat->Prop}{live:Nat->Prop}:∀(ps:List Nat) (ys:List PV) (vs:List Value) (E:Env) (tmps:Array Value),ps.length=ys.length->ps.length=vs.length->(∀t∈ps,t<tmps.size) ->
 (∀t,Yj w Pi live rho (tmps.getD t undef) (get E t))->(∀i,i<ys.length->Uy w Pi (vs.getD i undef) (ys.getD i default)) ->
 ∀t,Yj w Pi live rho (((ps.zip vs).foldl (λtmps (q:Nat×Value)=>tmps.setIfInBounds q.1 q.2) tmps).getD t undef) (get (MX ps ys E) t)
 |[],[],vs,E,tmps,_,h2,_,hE,_,t=>by simp_all[MX]
 |[],_::_,_,_,_,h,_,_,_,_,_=>by grind
 |_::_,[],_,_,_,h,_,_,_,_,_=>by grind
 |p::ps,y::ys,[],_,_,_,h,_,_,_,_=>by grind
 |p::ps,y::ys,v::vs,E,tmps,h1,h2,hlt,hE,hv,t=>by
  simp only[List.zip_cons_cons,List.foldl_cons,MX];refine RI ps ys vs (ins p (.p y) E) (tmps.setIfInBounds p v) (by grind) (by grind) (by grind) ?_ (λi a=>by simpa using hv (i+1) (by grind)) t;intro t;rw[Rp];by_cases e:p=t
  .subst e
   have:=hlt p (by simp)
   rw[Jk rfl];have e2:(tmps.setIfInBounds p v).getD p undef=v:=by simp_all
   rw[e2];exact .p _ _ (by simpa using hv 0 (by simp))
  simp_all
end
section
variable {w w' : World}{Pi Pi' : Nat->Nat->Prop}{live live' : Nat->Prop}{rho:Nat->Value}
def Yj.drop (hk:Ux w Pi w' Pi')(hl:∀j,live j->(∀vs,rho j ≠ .tuple vs)->live' j){v:Value}{a:AV}(h:Yj w Pi live rho v a):Yj w' Pi' live' rho v a:=by
 induction h with
 |p v x h=>exact .p v x (h.keeps hk)
 |reg j off b hj h=>exact .reg j off b (hl j hj (by rw[h];intro vs e;cases e)) h
 |vec j base n cap hj h=>exact .vec j base n cap (hl j hj (by rw[h];intro vs e;cases e)) h
 |vecp j m base n cap hj h hm=>exact .vecp j m base n cap (hl j hj (by rw[h];intro vs e;cases e)) h hm
 |elt j k i off b n cap hj h=>exact .elt j k i off b n cap (hl j hj (by rw[h];intro vs e;cases e)) h
 |Uz j r hj h=>exact .Uz j r (hl j hj (by rw[h];intro vs e;cases e)) h
 |clo f x y a b hx hy ha hb iha ihb=>exact .clo f x y a b hx hy iha ihb
 |tup x a hx ha ih=>exact .tup x a hx ih
 |agr x a hx h1 ha ih=>exact .agr x a hx h1 ih
 |yf j l hj h=>exact .yf j l (hl j hj (by rw[h];intro vs e;cases e)) h
 |top v=>exact .top v
def Yk.drop (hk:Ux w Pi w' Pi')(hl:∀j,live j->(∀vs,rho j ≠ .tuple vs)->live' j){h:Value}{o:Obj}(hb:∀b,G0 h o b->w'.heap[b]? = w.heap[b]?)(s:Yk w Pi live rho h o):Yk w' Pi' live' rho h o:=by
 cases o with
 |cells cs=>obtain⟨b,c,T,rfl,h1,m,a⟩:=s;exact⟨b,c,T,rfl,(hb b rfl).trans h1,m,λi d=>⟨(a i d).1.drop hk hl,(a i d).2⟩⟩
 |vec e k n f vw=>
  rcases s with hn|⟨b,cap,c,rfl,h1,m,a,t,u,v⟩
  .exact .inl hn
  exact .inr ⟨b,cap,c,rfl,(hb b rfl).trans h1,m,a,t,u,λi j d y=>⟨(v i j d y).1.keeps hk,(v i j d y).2⟩⟩
 |map es=>obtain⟨b,Ya,clock,rfl,h1,m,a,h9⟩:=s;exact⟨b,Ya,clock,rfl,(hb b rfl).trans h1,m,λi d=>⟨(a i d).1.keeps hk,(a i d).2.keeps hk⟩,h9⟩
 |arr n f=>obtain⟨b,c,T,rfl,h1,m,a⟩:=s;exact⟨b,c,T,rfl,(hb b rfl).trans h1,m,λi d=>⟨(a i d).1.keeps hk,(a i d).2⟩⟩
 |blk l jr=>obtain⟨g1,g2,b,rfl,h1⟩:=s;exact⟨hl jr g1 g2.1,g2,b,rfl,(hb b rfl).trans h1⟩
 |ghost cs=>obtain⟨vs,rfl,h1,m⟩:=s;exact⟨vs,rfl,h1,λi d=>(m i d).drop hk hl⟩
 |yld r b=>exact s
 |fam e n jr x=>
  obtain⟨rv,g1,g2,z⟩:=s;refine⟨rv,by grind,g2,?_⟩;rcases z with z|⟨b,cap,c,rfl,h1,m,a,t,u,v⟩
  .grind
  cases x with
  |none=>exact .inr ⟨b,cap,c,rfl,(hb b rfl).trans h1,m,a,t,u,trivial⟩
  |some q=>exact .inr ⟨b,cap,c,rfl,(hb b rfl).trans h1,m,a,t,u,v.drop hk hl⟩
 |rows n g=>grind[KO]
 |dead=>trivial
def Yk.block {h:Value}{o:Obj}(a:Yk w Pi live rho h o){b:Nat}(hb:G0 h o b):(∃c T f,w.heap[b]? = some (.cells c T f)) \/ (∃es ck,w.heap[b]? = some (.map es ck)) \/ ∃m c s l,w.heap[b]? = some (.mapIter m c s l):=by
 have:=a.kind hb
 unfold isC at this
 grind
end
section
variable {P:Program}{C:Ctx}{st:St}{a:Act}{w:World}{rho:Nat->Value}{𝒢 : Prot P}{n:Nat}{Q:M0}
def Sat.own_not {b:Nat}(h:Sat C st a w rho)(hb:Own (A2 st.Uu) rho b){o:Go.Obj}(i:w.heap[b]? = some o)(hc:∀c T f,o ≠ .cells c T f)(hm:∀es ck,o ≠ .map es ck)(n:∀m c s l,o ≠ .mapIter m c s l):False:=by
 obtain⟨j,oj,g,d⟩:=hb;rcases (h.hp.holds j oj g).block d with⟨c,T,f,h1⟩ | ⟨es,ck,h1⟩ | ⟨m,c,s,l,h1⟩
 all_goals grind
def Sat.loop_not_own {l:Nat}{lo:Loop}(h:Sat C st a w rho)(hl:w.heap[l]? = some (.loop lo)):¬An4 st.Uu rho a.defers l:=by
 rintro (hb|hb)
 .exact h.own_not hb hl (by grind) (by grind) (by grind)
 obtain⟨r,h1,_,b,_⟩:=h.marks.2 _ hb
 grind
def Rel.poke {O:Nat->Prop}{V:Nat->Nat->Prop}(h:Rel C w O V){l:Nat}{lo:Loop}(hl:w.heap[l]? = some (.loop lo))(c:O l)(o' : Go.Obj):Rel C (w.putObj l o') O V:=by
 have a:∀b,b≠l->(w.putObj l o').heap[b]? = w.heap[b]?:=λb hb=>Ci4 hb;refine⟨h.ext.trans ⟨rfl,rfl⟩,by rw[Cg8];exact h.size,?_,?_,h.own,h.out,λb hb=>by rw[Cg8];exact h.lt b hb,λb off d=>by rw[Cg8];exact h.bnd b off d,h.vo⟩
 .intro b hb f;rw[a b (λe=>by subst e;rcases h.own b c with h1|h1;all_goals grind)];exact h.same b hb f
 intro b o v hp hc;obtain⟨h1,g⟩:=h.keep b o v hp hc;refine⟨?_,g⟩;rw[<- h1];refine Cg5 (a b ?_);rintro rfl
 grind[World.cell?]
def Ctx.fresh (C:Ctx)(w:World)(E:Nat->Prop)(Pi:Nat->Nat->Prop):Ctx:={ C with w0:=w,E0:=E,Pi0:=Pi }
def Sat.pokeFresh (h:Sat C st a w rho){l:Nat}{lo:Loop}(hl:w.heap[l]? = some (.loop lo))(o' : Go.Obj) :Sat (C.fresh (w.putObj l o') (An4 st.Uu rho a.defers) (Prv C.X (A2 st.Uu) rho)) st a (w.putObj l o') rho:=by
 have c:∀b,b≠l->(w.putObj l o').heap[b]? = w.heap[b]?:=λb hb=>Ci4 hb;have hk:∀Pi,Ux w Pi (w.putObj l o') Pi:=λPi b o v hp hc=>⟨by
  rw[<- hc];refine Cg5 (c b ?_);rintro rfl
  grind[World.cell?],hp⟩
 have f:∀b,An4 st.Uu rho a.defers b->b≠l:=by rintro b hb rfl;exact h.loop_not_own hl hb
 refine⟨⟨⟨?_,h.hp.sep,h.hp.out,λb off i=>by rw[Cg8];exact h.hp.bound b off i⟩,Ext.refl _,Ce5 _,λb _ _=>rfl,Ux.refl _ _,λb hb=>.inl (.inl hb),h.yld⟩,λt=>(h.env t).keeps (hk _) (by grind),h.pin,h.marks.1,?_⟩
 .intro j o g;exact (h.hp.holds j o g).keeps (hk _) (by grind) λb hb=>c b (f b (.inl ⟨j,o,g,hb⟩))
 intro d m;obtain⟨r,h1,q,s,n⟩:=h.marks.2 d m;have hm:Ap5 a.defers r:=by grind[Ap5]
 exact⟨r,h1,.inl (.inr hm),by grind,n⟩
def RJ (ts:List Nat)(tmps:Array Value):Array Value:=(ts.map λt=>tmps.getD t undef).toArray
def AM7 (ts:List Nat)(tmps:Array Value):(RJ ts tmps).size=ts.length:=by simp[RJ]
def Aa2 {ts:List Nat}{tmps:Array Value}{i t:Nat}(h:ts[i]? = some t):(RJ ts tmps).getD i undef=tmps.getD t undef:=by simp[RJ,Ce1,h]
def BV1 {r1 r0:Nat->Value}{wS:World}{TS:Nat->Nat->Prop}{OS:Nat->Prop}{V:Nat->Nat->Prop}(x:∀b o,V b o->OS b){C2:Ctx}{V0:Nat->Nat->Prop}(hL:LiftG 𝒢 r1 r0 wS TS OS V C C2 V0)(h:Sat C st a w rho)
 {gh:Nat}{cs:List AV}{ts:List Nat}(y:A2 st.Uu gh=some (.ghost cs)) (l:cs.length=ts.length) (a9:A2 (del gh st.Uu) gh=none) (z:gh<1000) (a0:ts.Nodup) {a' : Act}
 (a1:r0 gh=.tuple (RJ ts a'.tmps)) (m : ∀j,j≠gh->r0 j=r1 j) (n:a'.defers.Nodup/\∀d∈a'.defers,∃r,d={ target:=.collected r,args:=#[] }/\wS.heap[r]? = some (.deferred (some []))) (q:∀b,Ap5 a'.defers b->OS b) (hmV:∀b off,Ap5 a'.defers b->¬V b off) :
 Sat (C2.plus V) ⟨AK ts cs,del gh st.Uu⟩ a' w rho:=by
 obtain⟨j1,j2,j3,j4,j5,_⟩:=hL.joint x h.rel;have a2:rho gh=.tuple (RJ ts a'.tmps):=by rw[h.pin gh z (by grind[Lv]),hL.rho,a1]
 have c:∀i oi,A2 (del gh st.Uu) i=some oi->i≠gh/\A2 st.Uu i=some oi:=by
  intro i oi f;have e:i≠gh:=by grind
  grind[QY]
 have s:∀b,Own (A2 (del gh st.Uu)) rho b->Own (A2 st.Uu) rho b:=by rintro b ⟨i,oi,f,hb⟩;exact⟨i,oi,(c i oi f).2,hb⟩
 have a3:∀b off,Prv (C2.plus V).X (A2 (del gh st.Uu)) rho b off->Prv C.X (A2 st.Uu) rho b off:=by
  rintro b off (g|⟨i,oi,f,hb,hp⟩)
  .exact .inl (by rw[hL.X];exact g)
  exact .inr (by grind)
 have hk:Ux w (Prv C.X (A2 st.Uu) rho) w (Prv (C2.plus V).X (A2 (del gh st.Uu)) rho):=Ux.of_imp a3;have hl:∀j,Lv (A2 st.Uu) j->(∀vs,rho j ≠ .tuple vs)->Lv (A2 (del gh st.Uu)) j:=by
  intro j hj u;have e:j≠gh:=by grind
  grind[Lv,QY]
 refine⟨⟨⟨?_,?_,?_,?_⟩,j1.ext,j1.size,j1.same,j1.keep.trans (Ux.of_imp ?_),λb hb=>j1.own b (.inr (.inl (s b hb))),?_⟩,?_,?_,n.1,?_⟩
 .intro i oi f;exact (h.hp.holds i oi (c i oi f).2).drop hk hl λb _=>rfl
 .intro i i' oi oj b f a4 hb a5;exact h.hp.sep i i' oi oj b (c i oi f).2 (c i' oj a4).2 hb a5
 .intro i oi b off f hb g;exact h.hp.out i oi b off (c i oi f).2 hb (by rw[hL.X];exact g)
 .intro b off g;exact h.hp.bound b off (by rw[hL.X];exact g)
 .rintro b off ((g|g)|⟨i,oi,f,hb,hp⟩)
  .grind
  .grind
  exact .inr (.inr ⟨i,oi,(c i oi f).2,hb,hp⟩)
 .intro i r b f
  have:=h.yld i r b (c i _ f).2
  rw[hL.Y,hL.yv]at this;exact this
 .intro t;show Yj w _ _ rho (a'.tmps.getD t undef) (get (AK ts cs) t);obtain⟨h1,h2⟩:=RH ts cs t l.symm a0;by_cases hm:t∈ts
  .obtain⟨i,f⟩:=Ck0.1 hm;rw[h1 i f,<- Aa2 (tmps:=a'.tmps) f];obtain⟨vs,hv,hs,v⟩:=h.hp.holds gh _ y;rw[a2]at hv;cases hv;have a6:i<cs.length:=by rw[l];grind
   exact (v i a6).drop hk hl
  rw[h2 hm];exact .top _
 .intro i f a7;obtain⟨oi,a8⟩:=Cf3.1 a7;obtain⟨u,hr⟩:=c i oi a8;rw[h.pin i f (by grind[Lv]),hL.rho,m i u];show r1 i=C2.rho0 i;rw[hL.r2]
 intro d hd;obtain⟨r,h1,h2⟩:=n.2 d hd;have hm:Ap5 a'.defers r:=by grind[Ap5]
 refine⟨r,h1,j1.own r (.inl (q r hm)),by grind,?_⟩;rintro off (g|g)
 .exact j1.out r off (.inl (q r hm)) g
 grind
end
structure RP (P:Program) where
 pr:Prot P
 n:Nat
 Q:M0
 act:Act
 l:Nat
 fn:FuncId
 D:Nat
 rA:Nat->Value
 r0:Nat->Value
 ts:List Nat
 gh:Nat
 I:List (List PV)->St->Prop
 ps:Array Tmp
 asg:Code
 body:Code
def RP.lo {P:Program}(R:RP P)(st:LoopState)(pe:Option Code):Loop:={ state:=st,pending:=pe,fn:=R.fn,tmps:=R.act.tmps,params:=R.ps,assign:=R.asg,body:=R.body,defers:=R.D }
def BC5:Rk->Code->Prop
 |.ret,c=>c=.ret
 |.exit id,c=>c=.exit id
 |.goto t,c=>c=.goto t
 |_,_=>False
def RP.stOk {P:Program}(R:RP P)(s:St)(rest:List (List PV))(live:Bool)(lo:Loop):Prop:= (live=true/\lo=R.lo .ready none/\R.I rest s/\∀ys∈rest,ys.length=R.ps.size) \/ (live=false/\rest=[]/\∃c e,lo=R.lo .done (some c)/\BC5 e c/\R.Q e s)
structure InG {P:Program}(R:RP P) (C C2:Ctx) (s:St) (rhoA:Nat->Value) (XI:Nat->Nat->Prop) (rest:List (List PV)) (live:Bool) (lo:Loop):Prop where
 g:R.pr.G C2
 r2:C2.rho0=R.rA
 sat:Sat (C2.plus XI) s R.act C.w0 rhoA
 X:C.X=λb o=>C2.X b o \/ PvR s.Uu rhoA b o
 pi:C.Pi0=λb o=>C.X b o \/ XI b o
 dis:∀b,C.E0 b->¬An4 s.Uu rhoA R.act.defers b
 oc:∀b,C.E0 b->C2.E0 b \/ C2.w0.heap.size<=b
 lt:∀b,C.E0 b->b<C.w0.heap.size
 rl:C.w0.heap[R.l]? = some (.loop lo)
 lown:C2.E0 R.l \/ C2.w0.heap.size<=R.l
 lX:∀off,¬C2.X R.l off
 lE:¬C.E0 R.l
 Y:C.Y=λr b=>r=rest/\b=live
 yv:C.yv=.func (.yield R.l) #[] #[]
 rho:C.rho0=R.r0
 keys:s.env.map (·.1)=R.ts
 ng:A2 s.Uu R.gh=none
 st:R.stOk s rest live lo
section
variable {P:Program}{R:RP P}{C C2 C3 C2' : Ctx}{s s4:St}{rhoA rho4:Nat->Value}{XI V V0 TS:Nat->Nat->Prop}{rest:List (List PV)}{live:Bool}{lo:Loop}{w w2 w3:World}{O:Nat->Prop}{a3:Act}
def RP.OS (R:RP P)(O:Nat->Prop)(b:Nat):Prop:=O b \/ b=R.l \/ Ap5 R.act.defers b
def RP.rR (R:RP P)(j:Nat):Value:=ite (j=R.gh) (.tuple (RJ R.ts R.act.tmps)) (R.rA j)
def InG.disO (h:InG R C C2 s rhoA XI rest live lo)(hR:Rel C w O V):(∀b,O b->¬An4 s.Uu rhoA R.act.defers b)/\¬O R.l:=by
 refine⟨λb hb a=>?_,λhl=>?_⟩
 .rcases hR.own b hb with h1|h1
  .exact h.dis b h1 a
  have:=h.sat.rel.lt b a;omega
 rcases hR.own R.l hl with h1|h1
 .exact h.lE h1
 have:=(Ch2.1 h.rl).1;omega
def BC6 (h:InG R C C2 s rhoA XI rest live lo)(hR:Rel C w O V){lob:Loop}(a2:R.gh<1000)(a4:R.ts.Nodup)
 (hL:LiftG R.pr R.rA R.rR w2 TS (R.OS O) V C3 C2' V0) (hs:Sat C3 s4 a3 w3 rho4) {cs:List AV}(a5:A2 s4.Uu R.gh=some (.ghost cs)) (q:cs.length=R.ts.length) (c:A2 (del R.gh s4.Uu) R.gh=none)
 (a6:Ux w (λb o=>C.X b o \/ V b o) w2 TS) (t:∀b,R.OS O b->b≠R.l->w2.heap[b]? = w.heap[b]?) (a7:w.heap.size<=w2.heap.size) (a8:Ext w w2) (a9:w2.heap[R.l]? = some (.loop lob))
 {rest1:List (List PV)}{live1:Bool}{lo1:Loop}(b0:R.stOk ⟨AK R.ts cs,del R.gh s4.Uu⟩ rest1 live1 lo1) :
 ∃C',InG R C' C2' ⟨AK R.ts cs,del R.gh s4.Uu⟩ rho4 V rest1 live1 lo1/\C'.yv=C.yv/\C'.rho0=C.rho0/\C'.Y rest1 live1/\C'.w0=w3.putObj R.l (.loop lo1)/\C'.E0=O/\(C'.Pi0=λb o=>C'.X b o \/ V b o)/\Rel C' (w3.putObj R.l (.loop lo1)) O V /\
  (∀b,O b->(w3.putObj R.l (.loop lo1)).heap[b]? = w.heap[b]?)/\Ux w (λb o=>C.X b o \/ V b o) (w3.putObj R.l (.loop lo1)) (λb o=>C'.X b o \/ V b o)/\w.heap.size<=(w3.putObj R.l (.loop lo1)).heap.size/\w3.heap[R.l]? = some (.loop lob)/\Ext w (w3.putObj R.l (.loop lo1)):=by
 obtain⟨b1,u⟩:=h.disO hR;have v:∀b o,V b o->R.OS O b:=λb o hv=>.inl (hR.vo b o hv);obtain⟨j1,j2,j3,j4,j5,j6⟩:=hL.joint v hs.rel;have x:∀b,O b->¬Ap5 R.act.defers b:=λb hb hm=>b1 b hb (.inr hm);have hml:∀b,Ap5 R.act.defers b->b≠R.l:=by rintro b hm rfl;exact h.sat.loop_not_own h.rl (.inr hm)
 have f:∀d∈R.act.defers,∃r,d={ target:=.collected r,args:=#[] }/\w2.heap[r]? = some (.deferred (some [])):=by
  intro d hd;obtain⟨r,h1,_,h3,_⟩:=h.sat.marks.2 d hd;have hm:Ap5 R.act.defers r:=by unfold Ap5;rw[<- h1];exact hd
  refine⟨r,h1,?_⟩;rw[t r (.inr (.inr hm)) (hml r hm),hR.same r (Ch2.1 h3).1 (λhe=>h.dis r he (.inr hm))];exact h3
 have hres:=BV1 v hL hs a5 q c a2 a4 (a':=R.act) (by simp[RP.rR]) (λj hj=>by simp[RP.rR,hj]) ⟨h.sat.marks.1,f⟩ (λb hm=>.inr (.inr hm)) (λb off hm hv=>x b (hR.vo b off hv) hm);have n:w3.heap[R.l]? = some (.loop lob):=(j2 R.l (.inr (.inl rfl))).trans a9;obtain⟨p1,p2⟩:=hres.poke n (.loop lo1) (j1.own R.l (.inl (.inr (.inl rfl))));have a:∀b,Own (A2 (del R.gh s4.Uu)) rho4 b->An4 s4.Uu rho4 a3.defers b:=by
  rintro b ⟨i,oi,m,hb⟩;have e:i≠R.gh:=by rintro rfl;rw[c]at m;cases m
  exact .inl ⟨i,oi,by rw[<- QY e];exact m,hb⟩
 have y:∀b off,PvR (del R.gh s4.Uu) rho4 b off->PvR s4.Uu rho4 b off:=by
  rintro b off ⟨i,oi,m,hb,hp⟩;have e:i≠R.gh:=by rintro rfl;rw[c]at m;cases m
  exact⟨i,oi,by rw[<- QY e];exact m,hb,hp⟩
 have z:∀b off,PvR (del R.gh s4.Uu) rho4 b off->Own (A2 (del R.gh s4.Uu)) rho4 b:=λb off ⟨i,oi,m,hb,_⟩=>⟨i,oi,m,hb⟩;have a0:R.l<w3.heap.size:=(Ch2.1 n).1;refine⟨{ X:=λb o=>C2'.X b o \/ PvR (del R.gh s4.Uu) rho4 b o,w0:=w3.putObj R.l (.loop lo1),E0:=O,Pi0:=λb o=>(C2'.X b o \/ PvR (del R.gh s4.Uu) rho4 b o) \/ V b o,rho0:=C.rho0,Y:=λr b=>r=rest1/\b=live1,yv:=C.yv },
  ⟨hL.g,hL.r2,p1,rfl,rfl,?_,λb hb=>j1.own b (.inl (.inl hb)),λb hb=>by rw[Cg8];exact j1.lt b (.inl (.inl hb)),Ct7 a0,j1.own R.l (.inl (.inr (.inl rfl))),λoff=>j1.out R.l off (.inl (.inr (.inl rfl))),u,rfl,h.yv,h.rho,VE _ _ q.symm,c,b0⟩,
  rfl,rfl,⟨rfl,rfl⟩,rfl,rfl,rfl,⟨Ext.refl _,Ce5 _,λ_ _ _=>rfl,Ux.refl _ _,λb hb=>.inl hb,?_,λb hb=>by rw[Cg8];exact j1.lt b (.inl (.inl hb)),?_,hR.vo⟩,?_,?_,?_,n,(a8.trans j6).trans ⟨rfl,rfl⟩⟩
 .rintro b hb (hF|hF)
  .exact j4 b (.inl hb) (a b hF)
  exact x b hb hF
 .rintro b off hb (hx|hx)
  .exact j1.out b off (.inl (.inl hb)) hx
  exact j4 b (.inl hb) (a b (z b off hx))
 .rintro b off (hx|hx)
  .rw[Cg8];exact j1.bnd b off hx
  rw[Cg8];exact hs.rel.lt b (a b (z b off hx))
 .intro b hb;have a1:b≠R.l:=by rintro rfl;exact u hb
  rw[Ci4 a1,j2 b (.inl hb),t b (.inl hb) a1]
 .refine a6.trans (j3.trans ((Ux.of_imp ?_).trans (p2 _)));rintro b off ((hx|hx)|hx)
  .exact .inl (by rw[hL.X];exact .inl hx)
  .exact .inr (y b off hx)
  exact .inl (by rw[hL.X];exact .inr hx)
 rw[Cg8];exact Ch9 a7 j5
end
section
variable {P:Program}{R:RP P}{C C2:Ctx}{s:St}{rhoA:Nat->Value}{XI V:Nat->Nat->Prop}{w:World}{O:Nat->Prop}
def BJ0 (ps:Array Tmp)(vs:Array Value)(tmps:Array Value):(ps.zip vs).foldl (λtmps (x:Tmp×Value)=>match x with|(t,a)=>tmps.setIfInBounds t a) tmps=(ps.toList.zip vs.toList).foldl (λtmps (q:Nat×Value)=>tmps.setIfInBounds q.1 q.2) tmps:=by rw[<- Cv2,Array.toList_zip]
def AD8:∀(l:List (Nat×Value)) (tmps:Array Value),(l.foldl (λtmps (q:Nat×Value)=>tmps.setIfInBounds q.1 q.2) tmps).size=tmps.size
 |[],tmps=>rfl
 |q::l,tmps=>by simp;rw[AD8 l];simp
def GQ (R:RP P)(C2:Ctx)(s:St)(rhoA:Nat->Value)(V:Nat->Nat->Prop)(w:World):Ctx:= { X:=λb o=>C2.X b o \/ V b o,w0:=w,E0:=Own (A2 s.Uu) rhoA,Pi0:=λb o=>(C2.X b o \/ V b o) \/ PvR s.Uu rhoA b o,rho0:=R.rR,Y:=C2.Y,yv:=C2.yv }
def AM8 {rest:List (List PV)}{live:Bool}{lo:Loop}(h:InG R C C2 s rhoA XI rest live lo)(hR:Rel C w O V)(m1:Sat (C2.plus V) s R.act w rhoA) :LiftG R.pr R.rA R.rR w (GQ R C2 s rhoA V w).Pi0 (R.OS O) V (GQ R C2 s rhoA V w) C2 (PvR s.Uu rhoA):=by
 obtain⟨f,l⟩:=h.disO hR;have a:=m1.rel;refine⟨h.g,h.r2,rfl,rfl,rfl,rfl,rfl,⟨a.ext,a.size,a.same,a.keep.trans (Ux.of_imp ?_),?_,?_,?_,λb off d=>a.bnd b off (.inl d),?_⟩,λb _=>rfl,Ux.refl _ _,?_,Ce5 _,Ext.refl _⟩
 .intro b o hp;exact or4.2 hp
 .rintro b ((hb|rfl|hb)|hb)
  .rcases hR.own b hb with h1|h1
   .exact h.oc b h1
   exact .inr (Ch9 h.sat.size h1)
  .exact h.lown
  .exact a.own b (.inr hb)
  exact a.own b (.inl hb)
 .rintro b off ((hb|rfl|hb)|hb) d
  .exact hR.out b off hb (by rw[h.X];grind)
  .exact h.lX off d
  .exact a.out b off (.inr hb) (.inl d)
  exact a.out b off (.inl hb) (.inl d)
 .rintro b ((hb|rfl|hb)|hb)
  .exact hR.lt b hb
  .exact Cf5 (Ch2.1 h.rl).1 hR.size
  .exact a.lt b (.inr hb)
  exact a.lt b (.inl hb)
 .rintro b o (hb|hb)
  .exact .inl (.inl (hR.vo b o hb))
  obtain⟨j,oj,m,i,_⟩:=hb;exact .inr ⟨j,oj,m,i⟩
 rintro b (hb|rfl|hb) c
 .exact f b hb (.inl c)
 .exact h.sat.loop_not_own h.rl (.inl c)
 obtain⟨r,h1,_,n,_⟩:=m1.marks.2 _ hb;cases h1;exact m1.own_not c n (by grind) (by grind) (by grind)
def Ap9 (l:R.act.tmps.size=R.n)(x:∀t∈R.ps.toList,t<R.n)(y:R.gh<1000)(z:R.ts.Nodup){rest:List (List PV)}{live:Bool}{lo:Loop}(h:InG R C C2 s rhoA XI rest live lo)(m1:Sat (C2.plus V) s R.act w rhoA)
 {ys:List PV}{vs:Array Value}(m:ys.length=R.ps.size) (a0:vs.size=ys.length) (hv:∀i,i<ys.length->Uy w (Prv (C2.plus V).X (A2 s.Uu) rhoA) (vs.getD i undef) (ys.getD i default)) :
 Sat (GQ R C2 s rhoA V w) ⟨MX R.ps.toList ys s.env,ins R.gh (.ghost (s.env.map (·.2))) s.Uu⟩ { tmps:=(R.ps.toList.zip vs.toList).foldl (λtmps (q:Nat×Value)=>tmps.setIfInBounds q.1 q.2) R.act.tmps,defers:=[] } w
  (λi=>ite (i=R.gh) (.tuple (RJ R.ts R.act.tmps)) (rhoA i)):=by
 have a:(s.env.map (·.1)).Nodup:=by rw[h.keys];omega
 have c:SatE (GQ R C2 s rhoA V w) s.Uu w rhoA:=⟨m1.hp,Ext.refl _,Ce5 _,λ_ _ _=>rfl,Ux.refl _ _,λb hb=>.inl hb,m1.yld⟩;obtain⟨g1,g2,g3⟩:=c.add (R':=ins R.gh (.ghost (s.env.map (·.2))) s.Uu) h.ng (o:=.ghost (s.env.map (·.2))) (v:=.tuple (RJ R.ts R.act.tmps)) (λu b h=>by cases h)
  (λi=>by rw[A4];by_cases e:i=R.gh<;>simp[e,eq_comm])
  (λhk hl=>⟨_,rfl,by rw[AM7,<- h.keys];simp,λi r=>by
   have d : i<(s.env.map (·.1)).length:=by grind
   obtain⟨t,ht⟩:∃t,(s.env.map (·.1))[i]? = some t:=⟨_,Ce3 d⟩;have f : R.ts[i]? = some t:=by rw[<- h.keys];omega
   rw[Aa2 f, <- (AD7 s.env t a).1 i ht];exact (m1.env t).keeps hk hl⟩)
  (by grind)
 have hk:Ux w (Prv (C2.plus V).X (A2 s.Uu) rhoA) w (Prv (GQ R C2 s rhoA V w).X (A2 (ins R.gh (.ghost (s.env.map (·.2))) s.Uu)) (λi=>ite (i=R.gh) (.tuple (RJ R.ts R.act.tmps)) (rhoA i))):=
  Ux.of_imp λb o hp=>(g2 b o).1 hp
 refine⟨g1,?_,?_,Co5,by grind⟩
 .refine RI R.ps.toList ys vs.toList s.env R.act.tmps (by grind) (by grind) (by grind) (λt=>(m1.env t).keeps hk g3) (λi r=>?_)
  have:=(hv i r).keeps hk
  simp_all
 intro j hj hl;show (ite (j=R.gh) (Value.tuple (RJ R.ts R.act.tmps)) (rhoA j))=R.rR j;unfold RP.rR;by_cases e:j=R.gh
 .grind
 simp only[e,Lp];have g : Lv (A2 s.Uu) j:=by
  simp_all[Lv,A4,Js,Cl4]
 rw[m1.pin j hj g];show C2.rho0 j=R.rA j;rw[h.r2]
def Aq0 (u:R.act.tmps.size=R.n)(hps:∀t∈R.ps.toList,t<R.n)(y:R.gh<1000)(a0:R.ts.Nodup)(casg:Lk P R.n R.asg)(cbody:Lk P R.n R.body)
 (r:∀ys rest s,s.env.map (·.1)=R.ts->A2 s.Uu R.gh=none->R.I (ys::rest) s->awp (Ia P) P R.asg (λe s'=>match e with | .normal=>semUp s' λs'=>awp (Ia P) P R.body (Hd (Ia P) R.gh R.ts (R.I rest) R.Q) s' | _=>False) ⟨MX R.ps.toList ys s.env,ins R.gh (.ghost (s.env.map (·.2))) s.Uu⟩)
 {ys:List PV}{rest:List (List PV)}{lo:Loop}{vs:Array Value}(h:InG R C C2 s rhoA XI (ys::rest) true lo) (hR:Rel C w O V) (hvs:vs.size=ys.length) (hv:∀i,i<ys.length->Uy w (λb o=>C.X b o \/ V b o) (vs.getD i undef) (ys.getD i default)) :
 BU8 P C.yv vs w λb w'=>∃C',(∃C2 s rhoA XI rest live lo,InG R C' C2 s rhoA XI rest live lo)/\C'.yv=C.yv/\C'.rho0=C.rho0/\C'.Y (ite b rest []) b/\C'.w0=w' /\ C'.E0=O/\(C'.Pi0=λb o=>C'.X b o \/ V b o)/\Rel C' w' O V /\
  (∀b,O b->w'.heap[b]? = w.heap[b]?)/\Ux w (λb o=>C.X b o \/ V b o) w' (λb o=>C'.X b o \/ V b o)/\w.heap.size<=w'.heap.size/\Ext w w':=by
 obtain⟨hlo,hI,m⟩:lo=R.lo .ready none/\R.I (ys::rest) s/\∀z∈ys::rest,z.length=R.ps.size:=by
  rcases h.st with⟨_,hlo,hI,m⟩ | ⟨hf,_⟩
  all_goals grind
 subst hlo;have hlen:ys.length=R.ps.size:=m ys (by simp);obtain⟨m1,m2,m3⟩:=h.sat.moves rfl h.X h.pi hR h.dis h.oc;have hllt:R.l<C.w0.heap.size:=(Ch2.1 h.rl).1;have hl:w.heap[R.l]? = some (.loop (R.lo .ready none)):=(m3 R.l hllt h.lE).trans h.rl;have hT:∀b o,Prv (C2.plus V).X (A2 s.Uu) rhoA b o↔(C.X b o \/ V b o):=by
  intro b o;rw[h.X];show ((C2.X b o \/ V b o) \/ PvR s.Uu rhoA b o)↔((C2.X b o \/ PvR s.Uu rhoA b o) \/ V b o)
  grind
 have f:∀b o,V b o->R.OS O b:=λb o hv=>.inl (hR.vo b o hv);refine⟨R.l,R.fn,_,R.asg,R.body,h.yv,run_yield hl (by grind[RP.lo]),?_⟩;refine roundIn_of_wpIn trivial ?_;show R.asg.wpIn (FW (some R.l)) 0 P _ { tmps:=(R.ps.zip vs).foldl (λtmps (x:Tmp×Value)=>match x with|(t,a)=>tmps.setIfInBounds t a) R.act.tmps,defers:=[] } w;rw[BJ0];have hs0:=Ap9 u hps y a0 h m1 hlen hvs (λi hi=>(hv i hi).keeps (Ux.of_imp (by grind)));have hL0:=AM8 h hR m1;have hro1:BR4 (R.pr.lift R.rA R.rR w (GQ R C2 s rhoA V w).Pi0 (R.OS O) V f) (some R.l):=by rintro l' a2 C' ⟨C2',V0,hL⟩;cases a2;exact⟨_,(hL.os R.l (.inr (.inl rfl))).trans hl,hL.dis R.l (.inr (.inl rfl))⟩
 refine wpIn_mono (casg (R.pr.lift R.rA R.rR w (GQ R C2 s rhoA V w).Pi0 (R.OS O) V f) (some R.l) hro1 _ _ _ _ w _ ⟨C2,_,hL0⟩ hs0 ((AD8 _ _).trans u) (r ys rest s h.keys h.ng hI)) ?_;intro e a1 w1 j;cases e with
 |exit id=>obtain⟨_,_,_,_,_,_,hf⟩:=j;grind
 |goto t=>obtain⟨_,_,_,_,_,_,hf⟩:=j;grind
 |ret=>obtain⟨_,_,_,_,_,_,hf⟩:=j;grind
 |panic ch=>obtain⟨_,_,_,_,_,_,_,_,_,_,hf⟩:=j;grind
 |outgrown=>exact j.elim
 |normal=>
  obtain⟨C1,s1',rho1',⟨C2',V1,d⟩,hs1',hsz1,hu⟩:=j;obtain⟨s1,rho1,hw1,_,hs1⟩:=hu C1 a1 w1 rho1' hs1';obtain⟨j1,j2,j3,j4,j5,j6⟩:=d.joint f hs1.rel;have a4:w1.heap[R.l]? = some (.loop (R.lo .ready none)):=(j2 R.l (.inr (.inl rfl))).trans hl;refine⟨w1.putObj R.l (.loop (R.lo .busy none)),run_beginRound a4 rfl,?_⟩;have hsB:=hs1.pokeFresh a4 (.loop (R.lo .busy none));have a5:(w1.putObj R.l (.loop (R.lo .busy none))).heap[R.l]? = some (.loop (R.lo .busy none)):=Ct7 (by grind);have hLB:LiftG R.pr R.rA R.rR (w1.putObj R.l (.loop (R.lo .busy none))) (Prv C1.X (A2 s1.Uu) rho1) (R.OS O) V (C1.fresh (w1.putObj R.l (.loop (R.lo .busy none))) (An4 s1.Uu rho1 a1.defers) (Prv C1.X (A2 s1.Uu) rho1)) C2' (PvR s1.Uu rho1):=
   ⟨d.g,d.r2,d.X,d.Y,d.yv,d.rho,rfl,j1.poke a4 (.inl (.inr (.inl rfl))) _,λb _=>rfl,Ux.refl _ _,j4,Ce5 _,Ext.refl _⟩
  have hro2:BR4 (R.pr.lift R.rA R.rR (w1.putObj R.l (.loop (R.lo .busy none))) (Prv C1.X (A2 s1.Uu) rho1) (R.OS O) V f) (some R.l):=by rintro l' a2 C' ⟨C2',V0,hL⟩;cases a2;exact⟨_,(hL.os R.l (.inr (.inl rfl))).trans a5,hL.dis R.l (.inr (.inl rfl))⟩
  have hk2:Ux w (λb o=>C.X b o \/ V b o) (w1.putObj R.l (.loop (R.lo .busy none))) (Prv C1.X (A2 s1.Uu) rho1):=by
   refine (Ux.of_imp λb o hp=>(hT b o).1 hp:Ux w _ w (GQ R C2 s rhoA V w).Pi0).trans (j3.trans λb o v hp hc=>⟨?_,hp⟩);rw[<- hc];refine Cg5 (Ci4 ?_);rintro rfl
   grind[World.cell?]
  have hb2:∀b,R.OS O b->b≠R.l->(w1.putObj R.l (.loop (R.lo .busy none))).heap[b]? = w.heap[b]?:=λb hb hne=>(Ci4 hne).trans (j2 b hb);have hs2:w.heap.size<=(w1.putObj R.l (.loop (R.lo .busy none))).heap.size:=by rw[Cg8];omega
  have hx2:Ext w (w1.putObj R.l (.loop (R.lo .busy none))):=j6.trans ⟨rfl,rfl⟩;show R.body.wpIn (FW (some R.l)) 0 P _ a1 _;refine wpIn_mono (cbody (R.pr.lift R.rA R.rR (w1.putObj R.l (.loop (R.lo .busy none))) (Prv C1.X (A2 s1.Uu) rho1) (R.OS O) V f) (some R.l) hro2 _ _ _ _ _ _ ⟨C2',_,hLB⟩ hsB hsz1 hw1) ?_;have fin:∀(e:Rk) (c:Code) (a3:Act) (w3:World),BC5 e c->NextOk (R.pr.lift R.rA R.rR (w1.putObj R.l (.loop (R.lo .busy none))) (Prv C1.X (A2 s1.Uu) rho1) (R.OS O) V f) R.n (λs=>semUp s λs=>∃cs,A2 s.Uu R.gh=some (.ghost cs)/\cs.length=R.ts.length/\A2 (del R.gh s.Uu) R.gh=none/\R.Q e ⟨AK R.ts cs,del R.gh s.Uu⟩) a3 w3 ->
   ∃v w',(Instr.endRound R.l (some c)).run P w3=.ok v w' /\ ∃b:Bool,Ending.returned v=.returned (.bool b)/\∃C',(∃C2 s rhoA XI rest live lo,InG R C' C2 s rhoA XI rest live lo)/\C'.yv=C.yv/\C'.rho0=C.rho0/\C'.Y (ite b rest []) b/\C'.w0=w' /\ C'.E0=O/\(C'.Pi0=λb o=>C'.X b o \/ V b o)/\Rel C' w' O V /\
    (∀b,O b->w'.heap[b]? = w.heap[b]?)/\Ux w (λb o=>C.X b o \/ V b o) w' (λb o=>C'.X b o \/ V b o)/\w.heap.size<=w'.heap.size/\Ext w w':=by
   rintro e c a3 w3 hjc ⟨C3,s3,rho3,⟨C2f,V3,a6⟩,a7,hsz3,a8⟩;obtain⟨s4,rho4,⟨cs,a9,b0,q,hQ⟩,_,b1⟩:=a8 C3 a3 w3 rho3 a7;obtain⟨C',f1,f2,f3,f4,f5,f6,f7,f8,f9,f10,f11,f12,f13⟩:=BC6 h hR y a0 a6 b1 a9 b0 q hk2 hb2 hs2 hx2 a5 (rest1:=[]) (live1:=false) (lo1:=R.lo .done (some c)) (.inr (by grind));exact⟨.bool false,_,run_endRound (some c) f12,false,rfl,C',by grind,f2,f3,f4,f5,f6,f7,f8,f9,f10,f11,f13⟩
  intro e a3 w3 j;cases e with
  |normal=>obtain⟨C3,s3,rho3,⟨C2f,V3,a6⟩,a7,hsz3,a8⟩:=j;obtain⟨s4,rho4,⟨cs,a9,b0,q,hI'⟩,_,b1⟩:=a8 C3 a3 w3 rho3 a7;obtain⟨C',f1,f2,f3,f4,f5,f6,f7,f8,f9,f10,f11,f12,f13⟩:=BC6 h hR y a0 a6 b1 a9 b0 q hk2 hb2 hs2 hx2 a5 (rest1:=rest) (live1:=true) (lo1:=R.lo .ready none) (.inl (by grind));exact⟨.bool true,_,run_endRound none f12,true,rfl,C',by grind,f2,f3,f4,f5,f6,f7,f8,f9,f10,f11,f13⟩
  |ret=>exact fin .ret .ret a3 w3 rfl j
  |exit id=>exact fin (.exit id) (.exit id) a3 w3 rfl j
  |goto t=>exact fin (.goto t) (.goto t) a3 w3 rfl j
  |panic ch=>obtain⟨_,_,_,_,_,_,_,_,_,_,hf⟩:=j;exact hf.elim
  |outgrown=>exact j.elim
end
section
variable {P:Program}{C:Ctx}{st:St}{a:Act}{w:World}{rho:Nat->Value}{𝒢 : Prot P}{n:Nat}{Q:M0}{ro:Option Nat}
def RP.prot (R:RP P)(c:R.act.tmps.size=R.n)(d:∀t∈R.ps.toList,t<R.n)(f:R.gh<1000)(i:R.ts.Nodup)(casg:Lk P R.n R.asg)(cbody:Lk P R.n R.body)
 (a:∀ys rest s,s.env.map (·.1)=R.ts->A2 s.Uu R.gh=none->R.I (ys::rest) s->awp (Ia P) P R.asg (λe s'=>match e with | .normal=>semUp s' λs'=>awp (Ia P) P R.body (Hd (Ia P) R.gh R.ts (R.I rest) R.Q) s' | _=>False) ⟨MX R.ps.toList ys s.env,ins R.gh (.ghost (s.env.map (·.2))) s.Uu⟩):Prot P where
 G:=λC=>∃C2 s rhoA XI rest live lo,InG R C C2 s rhoA XI rest live lo
 tab:=by
  rintro C ⟨C2,s,rhoA,XI,rest,live,lo,h⟩;refine ((R.pr.tab C2 h.g).keeps h.sat.keep h.sat.same (E':=C.E0) λb hb m=>(h.oc b m).resolve_right (Nat.not_le.2 hb)).keeps (Ux.of_imp λb o hp=>?_) (λ_ _ _=>rfl) λ_ _ q=>q;rw[h.pi,h.X]at hp;rcases hp with (hp|hp)|hp
  .exact .inl (.inl hp)
  .exact .inr hp
  .exact .inl (.inr hp)
 call:=by rintro C w O V ys rest vs ⟨C2,s,rhoA,XI,rest0,live,lo,h⟩ hR l j r;rw[h.Y]at l;obtain⟨rfl,rfl⟩:=l;exact Aq0 c d f i casg cbody a h hR j r
def Sat.mark (h:Sat C st a w rho){w' : World}(i:w.heap.size<=w'.heap.size)(c:∀b,b<w.heap.size->w'.heap[b]? = w.heap[b]?)(j:Ext w w'){mk:List Deferred}
 (hm:mk=[] \/ ∃r,mk=[{ target:=.collected r,args:=#[] }]/\w.heap.size<=r/\w'.heap[r]? = some (.deferred (some []))):Sat C st { a with defers:=mk++a.defers } w' rho:=by
 obtain⟨h1,_⟩:=h.grow i c j;rcases hm with rfl|⟨r,rfl,l,m⟩
 .exact h1
 refine⟨h1.toSatE,h1.env,h1.pin,?_,?_⟩
 .refine Cj6.2 ⟨λg=>?_,h.marks.1⟩;obtain⟨r',e1,_,e2,_⟩:=h.marks.2 _ g
  grind
 intro d f;rcases Ci2.1 f with rfl|f
 .exact⟨r,rfl,.inr (Ch9 h.size l),m,λoff n=>by have:=h.hp.bound r off n;omega⟩
 exact h1.marks.2 d f
def Aa3 {f:FuncId}{vs:Array Value}{fn:Func}(d:P.funcs[f]? = some fn)(hb:fn.body.isSome=true)(a:(fn.name == "runtime.NumGoroutine")=false):(callFunc f vs).run P w=.ok (.enter f vs) w:=by
 have b : ¬fn.name = "runtime.NumGoroutine" := by grind
 obtain⟨c,hc⟩:=Cf3.1 hb
 simp_all[callFunc]
def Ub (D:List Deferred)(a:Act):Act:={ a with defers:=a.defers++D }
set_option maxHeartbeats 2000000 in
theorem Aa4 (DD:List Deferred){g:Operand}{ps:Array Tmp}{asg body:Code}(hps:(ps.toList.all λt=>Nat.blt t n)=true)(casg:Lk P n asg)(cbody:Lk P n body){𝒢 : Prot P}{ro:Option Nat}(hro:BR4 𝒢 ro){Q:M0}(hG : 𝒢.G C)(h:Sat C st a w rho)(hsz:a.tmps.size=n)
 (hw:awp (Ia P) P (.rangeFunc g ps asg body) Q st):(Code.rangeFunc g ps asg body).wpIn (FW ro) 0 P (λe a' w'=>∃a0,a' = Ub DD a0/\WP 𝒢 n Q e a0 w') (Ub DD a) w:=by
 obtain⟨f,first,caps,as,bs,objs,ids,ts,gh,L,I,Fin,h1,⟨fn,hfn,hfb,hfname⟩,hny,hd,hr1,hr2,hob,hgl,hng,hids,hts,hlens,hup,hround,hend,hF⟩:=hw;refine wpIn_rangeFunc ?_;intro fid _;obtain⟨l,mk,D,w1,hent,hxt,hl,hlsz,hwsz,hheap,hmk⟩:∃(l:Nat) (mk:List Deferred) (D:Nat) (w1:World),(Instr.enterLoop fid a.tmps ps asg body ro).run P w=.ok (l,mk) w1/\Ext w w1 /\
  w1.heap[l]? = some (.loop { state:=.ready,pending:=none,fn:=fid,tmps:=a.tmps,params:=ps,assign:=asg,body:=body,defers:=D })/\w.heap.size<=l/\w.heap.size<=w1.heap.size/\(∀b,b<w.heap.size->w1.heap[b]? = w.heap[b]?) /\
  (mk=[] \/ ∃r,mk=[{ target:=.collected r,args:=#[] }]/\w.heap.size<=r/\w1.heap[r]? = some (.deferred (some []))):=by
  cases ro with
  |none=>
   refine⟨_,_,w.heap.size,_,run_enterLoop_outer fid a.tmps ps asg body,⟨rfl,rfl⟩,?_,by omega,by simp;omega,?_,.inr ⟨w.heap.size,rfl,Ce5 _,?_⟩⟩
   .have:=Cr2 (w.alloc (.deferred (some []))) (.loop { state:=.ready,pending:=none,fn:=fid,tmps:=a.tmps,params:=ps,assign:=asg,body:=body,defers:=w.heap.size })
    simpa using this
   .intro b hb;rw[heap_alloc_old _ _ (by simp;omega),heap_alloc_old _ _ hb]
   rw[heap_alloc_old _ _ (by simp)];exact Cr2 w _
  |some l0=>
   obtain⟨r,hr,hE⟩:=hro l0 rfl C hG;have hr' : w.heap[l0]? = some (.loop r):=by rw[h.same l0 (Ch2.1 hr).1 hE];exact hr
   refine⟨w.heap.size,[],r.defers,w.alloc (.loop { state:=.ready,pending:=none,fn:=fid,tmps:=a.tmps,params:=ps,assign:=asg,body:=body,defers:=r.defers }),?_,⟨rfl,rfl⟩,Cr2 w _,Ce5 _,by simp,λb hb=>heap_alloc_old _ _ hb,.inl rfl⟩;unfold Instr.enterLoop;simp only[Cg2,run_getLoop hr',Result.andThen,Ci6,run_newObj_alloc]
 have hA:=h.mark hwsz hheap hxt hmk;obtain⟨act,hact⟩:∃act:Act,act={ a with defers:=mk++a.defers }:=⟨_,rfl⟩;have hacts:act.tmps.size=n:=by rw[hact];exact hsz
 rw[<- hact]at hA;obtain⟨x,y,hx,hrx,hry⟩:=Ap7 hA h1;have hxy:=RepV.append hrx hry;obtain⟨hobl,hobg⟩:=Bo hob;obtain⟨args0,hargs0,hrl⟩:∃args0,Fc ids (first++caps)=some args0/\args0=as++bs:=by
  have:∀(l m l' m' : List AV),Fc ids l=some l' -> Fc ids m=some m' -> Fc ids (l++m)=some (l' ++ m'):=by
   intro l
   induction l with
   |nil=>intro m l' m' hl hm;simp only[Fc,Cd9]at hl;subst hl;simpa using hm
   |cons z l ih=>
    intro m l' m' hl hm;simp only[Fc]at hl;split at hl
    .rename_i z' l2 hz hl2;cases hl;simp only[Ce9,Fc,hz,ih m l2 m' hl2 hm]
    cases hl
  exact⟨_,this _ _ _ _ hr1 hr2,rfl⟩
 subst hrl;have hS1:=PA hA hd hob hny trivial hargs0 (vs:=x++y) hxy.1 hxy.2;have hidx:∀j∈ids,Lv (A2 st.Uu) j:=by intro j hj;obtain⟨p,hp⟩:=Ck0.1 hj;obtain⟨o,_,ho,_⟩:=hobg p j hp;simp[Lv,ho]
 obtain⟨VI,hVI⟩:∃VI:Nat->Nat->Prop,VI=λb off=>∃j o,j∈ids/\A2 st.Uu j=some o/\G0 (rho j) o b/\MT o off:=⟨_,rfl⟩;obtain⟨hsus,hsuspi⟩:=hA.suspend hd (E:=AK ts (ts.map (get st.env))) (V:=VI) (λt=>by
  obtain⟨e1,e2⟩:=RH ts (ts.map (get st.env)) t (by simp) hts;by_cases hm:t∈ts
  .obtain⟨i,hi⟩:=Ck0.1 hm;exact .inl (by rw[e1 i hi,Ce0,Ce7,hi];rfl)
  exact .inr (e2 hm)) (λb off=>by rw[hVI]) hidx
 obtain⟨s1,rho1,⟨hk1,hn1,hI1⟩,hup1,hs1⟩:=hup _ act w1 rho hsus;obtain⟨rI,hrI⟩:∃rI:Nat->Value,rI=λp=>ite (p=ids.length) (.func (.yield l) #[] #[]) (rho (ids.getD p 0)):=⟨_,rfl⟩
 obtain⟨R,q⟩:∃R:RP P,R={ pr:=𝒢,n:=n,Q:=Q,act:=act,l:=l,fn:=fid,D:=D,rA:=C.rho0,r0:=rI,ts:=ts,gh:=gh,I:=I,ps:=ps,asg:=asg,body:=body }:=⟨_,rfl⟩;obtain⟨CI,a1⟩:∃CI:Ctx,CI={ X:=λb o=>C.X b o \/ PvR s1.Uu rho1 b o,w0:=w1,E0:=λb=>∃j o,j∈ids/\A2 st.Uu j=some o/\G0 (rho j) o b,Pi0:=λb o=>(C.X b o \/ PvR s1.Uu rho1 b o) \/ VI b o,rho0:=rI,Y:=λr b=>r=L/\b=true,yv:=.func (.yield l) #[] #[] }:=⟨_,rfl⟩;have hlC:C.E0 l \/ C.w0.heap.size<=l:=.inr (Ch9 h.size hlsz);have hVIx:∀b,CI.E0 b->∃off,VI b off:=by
  intro b hb;subst a1;obtain⟨j,o,hj,ho,a2⟩:=hb;cases o with
  |vec e k m f vw=>
   refine⟨m*k,?_⟩;rw[hVI];refine⟨j,_,hj,ho,a2,?_⟩;cases vw
   .trivial
   exact Ce5 _
  |cells cs=>exact⟨0,by rw[hVI];exact⟨j,_,hj,ho,a2,trivial⟩⟩
  |map es=>exact⟨0,by rw[hVI];exact⟨j,_,hj,ho,a2,trivial⟩⟩
  |arr n f=>exact⟨0,by rw[hVI];exact⟨j,_,hj,ho,a2,trivial⟩⟩
  |blk=>exact⟨0,by rw[hVI];exact⟨j,_,hj,ho,a2,trivial⟩⟩
  |fam=>exact⟨0,by rw[hVI];exact⟨j,_,hj,ho,a2,trivial⟩⟩
  |rows=>exact⟨0,by rw[hVI];exact⟨j,_,hj,ho,a2,trivial⟩⟩
  |ghost cs=>simp[G0,R8]at a2
  |yld r b=>simp[G0,R8]at a2
  |dead=>simp[G0,R8]at a2
 have hEl:∀b,CI.E0 b->b<w1.heap.size/\b<w.heap.size:=by
  intro b hb;subst a1;obtain⟨j,o,hj,ho,a2⟩:=hb
  have:=(h.hp.holds j o ho).lt a2
  exact⟨by omega,this⟩
 have hin:InG R CI C s1 rho1 VI L true (R.lo .ready none):=by
  subst q;refine⟨hG,rfl,by subst a1;exact hs1,by subst a1;rfl,by subst a1;rfl,?_,?_,?_,?_,hlC,λoff hX=>?_,?_,by subst a1;rfl,by subst a1;rfl,by subst a1;rfl,hk1,hn1,.inl ⟨rfl,rfl,hI1,hlens⟩⟩
  .rintro b hb (hF|hF)
   .obtain⟨off,hv⟩:=hVIx b hb;obtain⟨i,oi,hi,hbi⟩:=hF;exact hs1.hp.out i oi b off hi hbi (.inr hv)
   subst a1;obtain⟨j,o,hj,ho,a2⟩:=hb;obtain⟨r,e1,_,e2,_⟩:=hA.marks.2 _ hF;cases e1;exact (hA.hp.holds j o ho).nd a2 e2
  .intro b hb;subst a1;obtain⟨j,o,hj,ho,a2⟩:=hb;exact h.own b ⟨j,o,ho,a2⟩
  .intro b hb
   have:=(hEl b hb).1
   subst a1;exact this
  .have e:RP.lo { pr:=𝒢,n:=n,Q:=Q,act:=act,l:=l,fn:=fid,D:=D,rA:=C.rho0,r0:=rI,ts:=ts,gh:=gh,I:=I,ps:=ps,asg:=asg,body:=body } .ready none={ state:=.ready,pending:=none,fn:=fid,tmps:=a.tmps,params:=ps,assign:=asg,body:=body,defers:=D }:=by simp[RP.lo,hact]
   rw[e];subst a1;exact hl
  .have:=h.hp.bound l off hX;omega
  intro hE
  have:=(hEl l hE).2;omega
 have hne:ids.length ∉ List.range ids.length:=by simp
 have hrgI:∀p,A2 (Uv (objs++[.yld L true])) p=ite (p=ids.length) (some (.yld L true)) (A2 (Uv objs) p):=by
  intro p;rw[F4,F4];by_cases e:p=ids.length
  .subst e;rw[Jk rfl,<- hobl];simp
  rw[Js e];by_cases hlt:p<objs.length
  .rw[Cj5 hlt]
  rw[Ci0 (by simp;omega),Ci0 (by omega)]
 have hT:∀b o,(CI.X b o \/ VI b o)->Prv C.X (A2 st.Uu) rho b o:=by
  intro b o hp;refine (hsuspi b o).1 (hup1 b o ?_);subst a1;rcases hp with (hp|hp)|hp
  .exact .inl (.inl hp)
  .exact .inr hp
  exact .inl (.inr hp)
 have hprI:∀b off,Prv CI.X (A2 (Uv objs)) (λp=>rho (ids.getD p 0)) b off↔(CI.X b off \/ VI b off):=by
  intro b off;refine or_congr Cp5 ?_;rw[hVI];constructor
  .rintro⟨p,o',hp,hb,hpr⟩;rw[F4]at hp;have hlt:p<ids.length:=by rw[<- hobl];exact (Ch5.1 hp).1
   obtain⟨o,o2,e1,e2,e3⟩:=hobg p _ (Ce3 hlt);rw[hp]at e3;cases e3;simp only[Fd (Ce3 hlt),Bn e2]at hb;exact⟨_,o,Ct2 hlt,e1,hb,(Nk e2 off).1 hpr⟩
  rintro⟨j,o,hj,ho,hb,hpr⟩;obtain⟨p,hp⟩:=Ck0.1 hj;obtain⟨o1,o2,e1,e2,e3⟩:=hobg p j hp;rw[ho]at e1;cases e1;refine⟨p,o2,by rw[F4];exact e3,?_,(Nk e2 off).2 hpr⟩;simp only[Fd hp,Bn e2];exact hb
 have hkI:Ux w1 (Prv (C.callee st.Uu w1 rho ids).X (A2 (Uv objs)) (λp=>rho (ids.getD p 0))) w1 (Prv CI.X (A2 (Uv objs)) (λp=>rho (ids.getD p 0))):=
  Ux.of_imp λb o hp=>(Vz hob b o).2 (hT b o ((hprI b o).1 hp))
 have hEI:SatE CI (Uv objs) w1 (λp=>rho (ids.getD p 0)):=by
  refine⟨⟨λp o hp=>(hS1.hp.holds p o hp).keeps hkI (λj hj=>⟨hj,rfl⟩) λb _=>rfl,hS1.hp.sep,?_,?_⟩,by subst a1;exact Ext.refl _,by subst a1;exact Ce5 _,by subst a1;exact λb _ _=>rfl,?_,?_,?_⟩
  .intro p o b off hp hb hX;have hE:CI.E0 b:=by
    rcases hS1.own b ⟨p,o,hp,hb⟩with h1|h1
    .subst a1;exact h1
    have:=(hS1.hp.holds p o hp).lt hb
    have h1:w1.heap.size<=b:=h1;omega
   have hd':=hin.dis b hE;obtain⟨off',hv⟩:=hVIx b hE;subst a1;rcases hX with hX|⟨i,oi,hi,hbi,_⟩
   .rw[hVI]at hv;obtain⟨j,oj,hj,ho,a2,_⟩:=hv;exact h.hp.out j oj b off ho a2 hX
   exact hd' (.inl ⟨i,oi,hi,hbi⟩)
  .intro b off hX;subst a1;rcases hX with hX|⟨i,oi,hi,hbi,_⟩
   .have:=h.hp.bound b off hX;omega
   exact (hs1.hp.holds i oi hi).lt hbi
  .have:CI.Pi0=λb o=>CI.X b o \/ VI b o:=by subst a1;rfl
   rw[this];have hw0:CI.w0=w1:=by subst a1;rfl
   rw[hw0];exact Ux.of_imp λb o hp=>(hprI b o).1 hp
  .intro b hb;rcases hS1.own b hb with h1|h1
   .exact .inl (by subst a1;exact h1)
   exact .inr (by subst a1;exact h1)
  intro p r b hp;exact Ke (hS1.yld p r b hp).1 (λh=>h)
 obtain⟨g1,g2,g3⟩:=hEI.add (R':=Uv (objs++[.yld L true])) (j:=ids.length) (by rw[F4,Ci0 (by omega)]) (o:=.yld L true) (v:=.func (.yield l) #[] #[]) (λu b h=>by cases h) hrgI
  (λ_ _=>⟨l,rfl⟩) (λr b he=>by cases he;subst a1;exact⟨⟨rfl,rfl⟩,rfl⟩)
 have hrIeq:(λi=>ite (i=ids.length) (Value.func (.yield l) #[] #[]) (rho (ids.getD i 0)))=rI:=by rw[hrI]
 rw[hrIeq]at g1 g2;have g3' : ∀i,Lv (A2 (Uv objs)) i->Lv (A2 (Uv (objs++[.yld L true]))) i/\rI i=rho (ids.getD i 0):=λi hi=>by
  have:=g3 i hi
  rw[hrI];exact this
 have hyvI:rI ids.length=.func (.yield l) #[] #[]:=by rw[hrI];simp
 have hkA:Ux w1 (PiS C st rho) w1 (Prv CI.X (A2 (Uv (objs++[.yld L true]))) rI):=Ux.of_imp λb o hp=>hT b o ((hprI b o).1 ((g2 b o).1 hp));have hrenI:∀p j:Nat,ids[p]? = some j->Lv (A2 st.Uu) j->Lv (A2 (Uv (objs++[.yld L true]))) p/\rI p=rho j:=by intro p j hp _;obtain⟨o,o2,e1,e2,e3⟩:=hobg p j hp;obtain⟨q1,q2⟩:=g3' p (by simp[Lv,F4,e3]);exact⟨q1,by rw[q2,Fd hp]⟩
 have hlvI:Lv (A2 (Uv (objs++[.yld L true]))) ids.length:=by simp[Lv,hrgI]
 have ren:∀{vs:Array Value}{l l' : List AV},RepV w1 (PiS C st rho) (Lv (A2 st.Uu)) rho vs l->Fc ids l=some l' -> RepV w1 (Prv CI.X (A2 (Uv (objs++[.yld L true]))) rI) (Lv (A2 (Uv (objs++[.yld L true])))) rI vs l':=by intro vs l l' hv hr;obtain⟨e1,e2⟩:=Eq hr;exact⟨hv.1.trans e1,λi hi=>(hv.2 i (by omega)).ren hkA hrenI (e2 i (by omega))⟩
 have hvals:RepV w1 (Prv CI.X (A2 (Uv (objs++[.yld L true]))) rI) (Lv (A2 (Uv (objs++[.yld L true])))) rI (x ++ #[.func (.yield l) #[] #[]]++y) (as++[.yf ids.length]++bs):=
  RepV.append (RepV.append (ren hrx hr1) ⟨rfl,λi hi=>by
   simp only[Cm0]at hi;obtain rfl:i=0:=by omega
   exact .yf ids.length l hlvI hyvI⟩) (ren hry hr2)
 have hvals' : as++[.yf ids.length]++bs=as ++ .yf ids.length::bs:=by simp
 rw[hvals']at hvals;have hSI:Sat CI ⟨Yl (as ++ .yf ids.length::bs),Uv (objs++[.yld L true])⟩ ⟨x ++ #[.func (.yield l) #[] #[]]++y,[]⟩ w1 rI:=by
  refine⟨g1,λt=>?_,λj _ _=>by subst a1;rfl,Co5,λd hd=>by simp at hd⟩;show Yj w1 _ _ rI _ (get (Yl (as ++ .yf ids.length::bs)) t);rw[Da];by_cases ht:t<(as ++ .yf ids.length::bs).length
  .exact hvals.2 t ht
  rw[Ce0,Ci0 (by omega)];exact .top _
 have hpsn:∀t∈R.ps.toList,t<R.n:=by
  subst q;intro t ht;rw[Ce8]at hps
  have:=hps t ht
  simpa using this
 have hRact:R.act=act:=by subst q;rfl
 have hRl:R.l=l:=by subst q;rfl
 have hcall:=hF (RP.prot R (by subst q;exact hacts) hpsn (by subst q;exact hgl) (by subst q;exact hts) (by subst q;exact casg) (by subst q;exact cbody) (by subst q;exact hround)) CI w1 _ rI ⟨C,s1,rho1,VI,L,true,_,hin⟩ hSI hvals.1;obtain⟨nx,w2,hrun,hcall⟩:=hcall;rw[Aa3 hfn hfb hfname]at hrun;cases hrun;have hev:a.eval g=.func (.func f) x y:=by rw[hact]at hx;exact hx
 have hres:(resolve a.eval (rangeCall g l) 0).run P w1=.ok { target:=.fn (.func f) y,args:=x ++ #[.func (.yield l) #[] #[]] } w1:=by
  have e1:(rangeCall g l).args.map a.eval = #[.func (.yield l) #[] #[]]:=by simp[Act.eval]
  have e2:resolve a.eval (rangeCall g l) 0=Deferred.ofValue (a.eval g) #[.func (.yield l) #[] #[]]:=by rw[<- e1];rfl
  rw[e2,hev];simp[Deferred.ofValue]
 have hinv:(invoke (.fn (.func f) y) (x ++ #[.func (.yield l) #[] #[]])).run P w1=.ok (.enter f (x ++ #[.func (.yield l) #[] #[]]++y)) w1:=by simp only[invoke];exact Aa3 hfn hfb hfname
 have hcall2:CallsIn (FW ro) (0-1) P f (x ++ #[.func (.yield l) #[] #[]]++y) w1 (rangePost (FW ro) 0 P l (λe a' w'=>∃a0,a' = Ub DD a0/\WP 𝒢 n Q e a0 w') { Ub DD a with defers:=mk++(Ub DD a).defers }):=by
  have ha:({ Ub DD a with defers:=mk++(Ub DD a).defers }:Act)=Ub DD { a with defers:=mk++a.defers }:=by simp[Ub]
  rw[ha];refine (VC hcall).mono ?_;rintro e w' ⟨C',r,objs',ks,rho',⟨C2,s2,rhoA2,XI2,rest2,live2,lo2,s⟩,⟨b,hb1,_,hFin,hb2⟩,hE,hend',_⟩;rw[<- hact];obtain⟨hY,_⟩:=hE.yld ids.length [] b (by rw[F4];exact hb1);rw[s.Y]at hY;obtain⟨hr2',hb'⟩:=hY;subst hb';have hrel:Rel C' w' (Own (A2 (Uv objs')) rho') (PvR (Uv objs') rho'):=
   ⟨hE.ext,hE.size,hE.same,hE.keep,hE.own,λb off ⟨j,o,hj,hb⟩=>hE.hp.out j o b off hj hb,λb hb=>hE.hp.lt hb,hE.hp.bound,λb o ⟨j,oj,hj,hb,_⟩=>⟨j,oj,hj,hb⟩⟩
  obtain⟨n1,_,n3⟩:=s.sat.moves rfl s.X s.pi hrel s.dis s.oc;obtain⟨n4,n5⟩:=n1.minus;have hl' : w'.heap[R.l]? = some (.loop lo2):=(n3 R.l (Ch2.1 s.rl).1 s.lE).trans s.rl;rw[hRl]at hl';have hG2 : 𝒢.G C2:=by have:=s.g;subst q;exact this
  have hlown:C2.E0 l \/ C2.w0.heap.size<=l:=by have:=s.lown;rw[hRl]at this;exact this
  rw[hRact]at n4;cases r with
  |ret v'=>
   obtain⟨v,rfl,_⟩:=hend';rcases s.st with⟨hlv1,hlo,hI2,_⟩ | ⟨_,_,c,e,hlo,hj,hQ⟩
   .refine⟨none,w'.putObj l (.loop { lo2 with state:=.exhausted }),?_,?_⟩
    .rw[run_endLoop hl' (by rw[hlo];simp[RP.lo])];rw[hlo];rfl
    refine⟨act,rfl,C2,s2,rhoA2,hG2,(n4.poke hl' _ hlown).1,hacts,?_⟩;rw[<- hr2']at hI2;exact hend s2 (.ret v') (by have:=s.keys;subst q;exact this) (by have:=s.ng;subst q;exact this) (by subst q;exact hI2) (hlv1 ▸ hFin)
   refine⟨some c,w'.putObj l (.loop { lo2 with state:=.exhausted }),?_,?_⟩
   .rw[run_endLoop hl' (by rw[hlo];simp[RP.lo])];rw[hlo];rfl
   have hnx:NextOk 𝒢 n (Q e) act (w'.putObj l (.loop { lo2 with state:=.exhausted })):=⟨C2,s2,rhoA2,hG2,(n4.poke hl' _ hlown).1,hacts,by subst q;exact hQ⟩;cases e with
   |ret=>cases hj;exact wpIn_ret ⟨act,rfl,hnx⟩
   |exit id=>cases hj;exact wpIn_exit ⟨act,rfl,hnx⟩
   |goto t=>cases hj;exact wpIn_goto ⟨act,rfl,hnx⟩
   |normal=>exact hj.elim
   |panic x=>exact hj.elim
  |panic x=>
   obtain⟨v,rfl,hv⟩:=hend';rcases s.st with⟨hlv1,hlo,hI2,_⟩ | ⟨hlv,_⟩
   .refine⟨act,rfl,C2,s2,rhoA2,v,x,rfl,hG2,n4,hacts,hv.keeps (Ux.of_imp ?_),?_⟩
    .intro b o hp;exact .inl (by rw[s.X];exact hp)
    rw[<- hr2']at hI2;exact hend s2 (.panic x) (by have:=s.keys;subst q;exact this) (by have:=s.ng;subst q;exact this) (by subst q;exact hI2) (hlv1 ▸ hFin)
   obtain⟨z,hz⟩:=hb2 hlv;cases hz
 exact⟨l,mk,w1,_,w1,f,_,w1,hent,hres,λ_ _=>trivial,hinv,λh=>by simp[FW,Fence.wide]at h,hcall2⟩
def Aq1 {g:Operand}{ps:Array Tmp}{asg body:Code}(b:(ps.toList.all λt=>Nat.blt t n)=true)(casg:Lk P n asg)(cbody:Lk P n body):Lk P n (.rangeFunc g ps asg body):=by
 intro 𝒢 ro c Q C st a w rho f h d hw;have e:∀a:Act,Ub [] a=a:=λa=>by simp[Ub]
 have:=Aa4 [] b casg cbody c f h d hw
 rw[e]at this
 simp_all
def AM9 (n:Nat)(c:Code)(a:BV n c=true):Lk P n c:=Ap8 (λ_ _ _ _ b=>Aq1 b) c a
def An8 (P:Program):H3 (Ia P) P where
 refl:=λs K h=>semUp.refl h
 trans:=λs K h=>semUp.trans h
 mono:=λs K K' hk h=>semUp.mono hk h
 bool:=λst t b K z h=>semUp.bool z h
 nil:=λst t k n f K z h1 i=>semUp.nil z h1 i
 frz:=λst j ps K o d=>semUp.frz o d
 trunc:=λst j j' n N k e f K h1 i h3 h4 d=>semUp.trunc h1 i h3 h4 d
 toArr:=λst j n f K o d=>semUp.toArr o d
 ofArr:=λst j n f K o d=>semUp.ofArr o d
 pq:=λst t x y K z hq h=>semUp.pq z hq h
 vecq:=λst j n k e f g vw K o hq d=>semUp.vecq o hq d
 le:=λids s t K hle d=>semUp.le hle d
 fam:=λop s t c K h hc d=>semUp.famAll h hc d
 less:=λs t K h1 i d=>semUp.less h1 i d
 eqv:=λs t K h1 i d=>semUp.eqv h1 i d
 func:=λf fn code args objs Q hf hb q hok hn ho hw=>AM6 (λc=>AM9 _ c) hf hb q rfl hok hn ho hw
 argLe:=λf args args' objs Q hle h 𝒢 C w vs rho hG hS u=>by
  have a0:∀{l m:List AV},ZE l m->l.length=m.length:=by
   intro l
   induction l with
   |nil=>intro m h;cases m with
    |nil=>rfl
    |cons=>exact h.elim
   |cons a r ih=>intro m h;cases m with
    |nil=>exact h.elim
    |cons b s=>simp only[Ch8,ih h.2]
  have hget:∀{w:World}{Pi:Nat->Nat->Prop}{live:Nat->Prop}{rho:Nat->Value}{v:Value}{l m:List AV},ZE l m->∀t,Yj w Pi live rho v (l.getD t .top)->Yj w Pi live rho v (m.getD t .top):=by
   intro w Pi live rho v l
   induction l with
   |nil=>grind
   |cons a r ih=>intro m h t ht;cases m with
    |nil=>grind
    |cons b s=>
     cases t with
     |zero=>
      rcases h.1 with rfl|⟨x,y,rfl,rfl,hl⟩
      .grind
      exact .p _ _ (ht.toP.leQ hl)
     |succ t=>exact ih h.2 t ht
  exact h 𝒢 C w vs rho hG ⟨hS.toSatE,λt=>by
   have:=hS.env t
   rw[Da]at this⊢
   grind,hS.pin,hS.marks⟩ (u.trans (a0 hle))
 monoF:=λf args objs Q Q' hq h 𝒢 C w vs rho hG hS u=>(h 𝒢 C w vs rho hG hS u).mono (by grind)
end
inductive Cls where
 |n|r|w
 |l (js:List Nat)|a (js:List Nat)
 |b (js:List Nat)
 deriving DecidableEq,Inhabited
def BJ1:Cls->Cls->Bool
 |.n,_|_,.n | .r,.r | .r,.l _ | .l _,.r | .l _,.l _=>false
 |.l i,.a j | .a i,.l j | .a i,.a j | .l i,.b j | .b i,.l j=>i.any λq=>j.contains q
 |_,_=>true
def Jr (q:Nat):Cls->Bool
 |.w=>true
 |.a js | .b js=>js.contains q
 |_=>false
def AN0 (q:Nat):Cls->Bool
 |.n=>false
 |.l js | .a js=>js.contains q
 |_=>true
def Il {q:Nat}{c d:Cls}(h:Jr q c=true)(h' : AN0 q d=true):BJ1 c d=true/\BJ1 d c=true:=by
 have hm:∀{i j:List Nat},i.contains q=true->j.contains q=true->(i.any λq=>j.contains q)=true:=(by grind);cases c with
 |w=>cases d<;>first|(cases h';done)|exact⟨rfl,rfl⟩
 |a i=>
  cases d with
  |n=>cases h'
  |l j=>exact⟨hm h h',hm h' h⟩
  |a j=>exact⟨hm h h',hm h' h⟩
  |_=>exact⟨rfl,rfl⟩
 |b i=>
  cases d with
  |n=>cases h'
  |l j=>exact⟨hm h h',hm h' h⟩
  |_=>exact⟨rfl,rfl⟩
 |_=>cases h
def Mu {q:Nat}{c:Cls}(h:Jr q c=true):AN0 q c=true:=by cases c<;>first|(cases h;done)|rfl|exact h
def BR5:List Nat->List Nat
 |[]=>[]
 |x::r=>ite ((BR5 r).contains x) (BR5 r) (x::BR5 r)
def Xx {x:Nat}:∀{l:List Nat},x∈BR5 l->x∈l
 |[],h=>h
 |y::r,h=>by
  unfold BR5 at h;split at h
  .exact Ci7 _ (Xx h)
  rcases Ci2.1 h with rfl|h
  .grind
  exact Ci7 _ (Xx h)
def AN1 (acc:List (List Nat))(o:Oper):List Nat:=BR5 ((o.after.toList.filter FR).flatMap λe=>e.on::acc.getD e.on [])
def Aa5:List Oper->List (List Nat)->List (List Nat)
 |[],acc=>acc
 |o::r,acc=>Aa5 r (acc++[AN1 acc o])
def BV2 (ops:List Oper):List (List Nat):=Aa5 ops []
def Aq2:Operand->List Nat
 |.tmp t=>[t]
 |_=>[]
def reads (ops:List Oper)(o:Oper):List Nat:=o.op.operands.toList.flatMap Aq2++match o.guard with
 |some (j,_)=>[Id ops j]
 |none=>[]
def JA (ops:List Oper)(ci cj:Cls)(oi oj:Oper):Bool:=
 !BJ1 ci cj &&
 (match oi.dst with|some d=>!(reads ops oj).contains d&&decide (oj.dst≠some d)|none=>true) &&
 (match oj.dst with|some d=>!(reads ops oi).contains d|none=>true)
def PE (ops:List Oper)(cls:List Cls):Bool:=
 Ju ops&&(cls.length==ops.length) &&
 (List.range ops.length).all λj=>(List.range j).all λi=>
  match ops[i]?,ops[j]? with
  |some oi,some oj=>((BV2 ops).getD j []).contains i||JA ops (cls.getD i .n) (cls.getD j .n) oi oj
  |_,_=>true
def isP:AV->Bool
 |.p _=>true
 |_=>false
def isN (env:Env):Op->Bool
 |.move _ | .assign _ | .pick .. | .build .. | .nilCheck _ | .binOp .. | .unOp .. | .fieldAddr .. | .field .. | .index .. | .extract .. | .makeFunc ..=>true
 |.load _ a=>isP (aev env a)
 |.convert _ _ x=>isP (aev env x)
 |.makeInterface _ x=>isP (aev env x)
 |.indexAddr _ x _=>isP (aev env x)
 |.slice _ x _ _ _=>isP (aev env x)
 |.lookup _ m k _=>isP (aev env m)&&isP (aev env k)
 |.call { callee:=.builtin .len,args,.. }=>args.toList.all λx=>isP (aev env x)
 |.call { callee:=.builtin .min,.. } | .call { callee:=.builtin .max,.. }=>true
 |_=>false
section
variable {P:Program}
def Xy {env:Env}{R R' : C6}{d:Nat}{o:Op}{c:List Prop}{v:AV}(hn:isN env o=true)(h:aop P env R d o=some ⟨c,v,R'⟩):R' = R/\∀R2,aop P env R2 d o=some ⟨c,v,R2⟩:=by
 cases o with
 |move x=>simp only[aop,Cd9,Out.mk.injEq]at h⊢;obtain⟨rfl,rfl,rfl⟩:=h;simp
 |assign x=>simp only[aop,Cd9,Out.mk.injEq]at h⊢;obtain⟨rfl,rfl,rfl⟩:=h;simp
 |pick x y z=>
  grind[aop]
 |build t ps=>
  simp only[aop]at h⊢;split at h
  .split at h<;>simp_all
  grind
 |nilCheck x=>
  grind[aop]
 |binOp op t x y yt=>simp only[aop]at h⊢;split at h<;>simp_all
 |unOp op t x=>simp only[aop]at h⊢;split at h<;>simp_all
 |fieldAddr t x f=>simp only[aop]at h⊢;split at h<;>simp_all
 |field t x f=>simp only[aop]at h⊢;split at h<;>simp_all
 |index t x i=>
  simp only[aop]at h⊢;split at h
  .split at h<;>simp_all
  grind
 |extract x i=>
  simp only[aop]at h⊢;split at h
  .split at h<;>simp_all
  grind
 |makeFunc f a b=>cases f<;>simp only[aop]at h⊢<;>simp_all
 |load t a=>simp only[isN]at hn;simp only[aop]at h⊢;cases hx:aev env a<;>simp only[hx,isP,Ce4]at hn;simp only[hx]at h⊢;rename_i x;cases x<;>simp only[load]at h⊢<;>first|(cases h;done)|(split at h<;>simp_all)
 |convert s t x=>
  simp only[isN]at hn;cases hx:aev env x<;>simp only[hx,isP,Ce4]at hn;simp only[aop,hx]at h⊢;rename_i x;have j:∀R R2 k,elems R k (.p x)=elems R2 k (.p x):=by intro R R2 k;unfold elems;split<;>simp_all
  split at h
  .split at h<;>simp_all
  .split at h<;>simp_all
  .split at h<;>simp_all
  all_goals grind
 |makeInterface t x=>
  simp only[isN]at hn;cases hx:aev env x<;>simp only[hx,isP,Ce4]at hn
  grind[aop,Fj]
 |indexAddr t x i=>
  simp only[isN]at hn;cases hx:aev env x<;>simp only[hx,isP,Ce4]at hn;rename_i y;simp only[aop,hx]at h⊢;split at h
  .rename_i n g;have j:∀R R2,Hr P R t (.p y) n=Hr P R2 t (.p y) n:=by intro R R2;unfold Hr;split<;>simp_all
   split at h
   all_goals grind
  grind
 |slice t x lo g mx=>
  cases mx with
  |some _=>grind[aop]
  |none=>
   simp only[isN]at hn;cases hx:aev env x<;>simp only[hx,isP,Ce4]at hn;rename_i y;have j:∀R R2 lo g c a R',IW P R t (.p y) lo g=some (c,a,R')->R' = R/\IW P R2 t (.p y) lo g=some (c,a,R2):=by
    intro R R2 lo g c a R' h;unfold IW at h⊢;split at h
    .split at h<;>simp_all
    all_goals grind
   have fin:∀lo g,(match IW P R t (.p y) lo g with|some (c,a,Uu)=>some (Out.mk c a Uu)|none=>none)=some ⟨c,v,R'⟩ ->
    R' = R/\∀R2,(match IW P R2 t (.p y) lo g with|some (c,a,Uu)=>some (Out.mk c a Uu)|none=>none)=some ⟨c,v,R2⟩:=by
    grind
   simp only[aop,hx]at h⊢;split at h<;>first|exact fin _ _ h|cases h
 |lookup t m k ok=>
  simp only[isN,Ce2]at hn;cases hm:aev env m<;>simp only[hm,isP,Ce4,false_and]at hn;rename_i y;cases hk:aev env k<;>simp only[hk,Ce4,and_false]at hn
  grind[Ib,aop,Fj]
 |call c=>
  obtain⟨callee,args,types⟩:=c;cases callee with
  |builtin b=>
   cases b with
   |len=>
    simp only[aop]at h⊢;split at h
    .rename_i x t hx ht;simp only[isN,hx,Cm3,Cv9,Cp4]at hn;have j:∀R R2,AW7 P R t (aev env x)=AW7 P R2 t (aev env x):=by intro R R2;cases hy:aev env x<;>simp only[hy,isP,Ce4]at hn;unfold AW7;split<;>simp_all
     cases l:AW7 P R t (aev env x)<;>grind
    grind
   |min=>simp only[aop]at h⊢;split at h<;>simp_all
   |max=>simp only[aop]at h⊢;split at h<;>simp_all
   |_=>simp[isN]at hn
  |_=>simp[isN]at hn
 |_=>simp[isN]at hn
def Ba8 {env env' : Env}{x:Operand}(h:∀t∈Aq2 x,get env t=get env' t):aev env x=aev env' x:=by
 cases x with
 |tmp t=>exact h t (by simp[Aq2])
 |_=>rfl
def PF {env env' : Env}{FP:Nat->Option (Nat×Nat)}:∀(l:List (Nat×Operand)) (cs:List AV),(∀q∈l,aev env q.2=aev env' q.2)->Pv env FP l cs=Pv env' FP l cs
 |[],cs,_=>rfl
 |(i,x)::r,cs,h=>by
  have hx:aev env x=aev env' x:=h (i,x) (by simp);simp only[Pv,hx];split
  .split
   .exact PF r _ (by grind)
   rfl
  rfl
def Hw {env env' : Env}{R:C6}{d:Nat}{o:Op}(h:∀x∈o.operands.toList,aev env x=aev env' x):aop P env R d o=aop P env' R d o:=by
 cases o with
 |build t ps=>
  have:∀q∈ps.toList,aev env q.2=aev env' q.2:=λq g=>h q.2 (by grind[Op.operands])
  simp only[aop,PF ps.toList _ this]
 |buildSlice t n ps=>
  have:(ps.toList.map λq=>aev env q.2)=ps.toList.map λq=>aev env' q.2:=Cf9 λq g=>h q.2 (by grind[Op.operands])
  have j:(ps.toList.map λq=>(q.1,aev env q.2))=ps.toList.map λq=>(q.1,aev env' q.2):=Cf9 λq g=>by rw[h q.2 (by grind[Op.operands])]
  grind[aop]
 |makeFunc f a b=>have h1:a.toList.map (aev env)=a.toList.map (aev env'):=Cf9 λq g=>h q (by grind[Op.operands]);have j:b.toList.map (aev env)=b.toList.map (aev env'):=Cf9 λq g=>h q (by grind[Op.operands]);cases f<;>simp only[aop,h1,j]
 |makeMap t r=>cases r<;>simp only[aop]
 |slice t x lo hi mx=>
  have hx:=h x (by simp[Op.operands]);have hl:lo.map (λo=>asInt (aev env o))=lo.map (λo=>asInt (aev env' o)):=by
   cases lo with
   |none=>rfl
   |some l=>grind[Op.operands]
  have u:hi.map (λo=>asInt (aev env o))=hi.map (λo=>asInt (aev env' o)):=by
   cases hi with
   |none=>rfl
   |some l=>grind[Op.operands]
  cases mx<;>simp only[aop,hx,hl,u]
 |call c=>
  obtain⟨callee,args,types⟩:=c;cases callee with
  |builtin b=>
   have h1:args.toList.map (aev env)=args.toList.map (aev env'):=Cf9 λq g=>h q (by grind[Op.operands,Call.operands]);cases b with
   |len=>
    grind[aop,List.cons.injEq]
   |append=>
    simp only[aop];cases hl:args.toList with
    |nil=>rfl
    |cons x r=>
     rw[hl]at h1;simp only[Cf8,Ck9]at h1;cases r with
     |nil=>rfl
     |cons y r=>
      simp only[Cf8,Ck9]at h1;cases r with
      |nil=>
       cases types.toList with
       |nil=>rfl
       |cons t r=>
        cases r with
        |nil=>rfl
        |cons t2 r=>cases r<;>first|rfl|simp_all
      |cons _ _=>rfl
   |min=>grind[aop]
   |max=>grind[aop]
   |_=>first|rfl|simp only[aop]
  |_=>first|rfl|simp only[aop]
 |move x=>grind[aop,Op.operands]
 |assign x=>grind[aop,Op.operands]
 |pick x y z=>grind[aop,Op.operands]
 |box t x=>grind[aop,Op.operands]
 |load t x=>grind[aop,Op.operands]
 |store t x y=>grind[aop,Op.operands]
 |nilCheck x=>grind[aop,Op.operands]
 |binOp op t x y yt=>grind[aop,Op.operands]
 |unOp op t x=>grind[aop,Op.operands]
 |convert s t x=>grind[aop,Op.operands]
 |makeInterface t x=>grind[aop,Op.operands]
 |makeSlice t l c=>grind[aop,Op.operands]
 |fieldAddr t x f=>grind[aop,Op.operands]
 |field t x f=>grind[aop,Op.operands]
 |indexAddr t x i=>grind[aop,Op.operands]
 |index t x i=>grind[aop,Op.operands]
 |lookup t m k ok=>grind[aop,Op.operands]
 |mapUpdate t m k x=>grind[aop,Op.operands]
 |insert t m k x=>grind[aop,Op.operands]
 |mapEntry t m k=>grind[aop,Op.operands]
 |entryStore t m s x=>grind[aop,Op.operands]
 |extract x i=>grind[aop,Op.operands]
 |range t x=>grind[aop,Op.operands]
 |entry x=>grind[aop,Op.operands]
 |_=>first|rfl|simp only[aop]
end
section
variable (S:X4) (P:Program)
def AN (all:List Oper)(env:Env)(o:Oper):Option Bool:=
 match o.guard with
 |none=>some true
 |some (j,want)=>(yv (get env (Id all j))).map λb=>decide (b=some want)
def Ba9:AV->Bool
 |.vec _ | .vecp _ _=>false
 |_=>true
def Bq6 (env:Env)(o:Op)(r:AV):Prop:= ∃c f fn as' args r',o=.call c/\c.callee=.value f/\((c.args.toList.map (aev env)).all Ba9)=true/\Zt env f (c.args.toList.map (aev env))=some (fn,as')/\Fc [] as' = some args/\ZH S fn args r' /\ r=unA [] r'
def Bb0 (env:Env)(Uu:C6)(d:Nat)(o:Op)(r:AV)(regs' : C6):Prop:= ∃c f as regs1 fn as' args objs objs' ks r' ids,o=.call c/\c.callee=.value f/\Jt Uu (c.args.toList.map (aev env))=some (as,regs1)/\Zt env f as=some (fn,as')/\Fc ids as' = some args/\M9 ids regs1 ids=some objs /\ Uw S fn args objs r' objs' ks/\I5 ids=true/\GM objs=true/\Z6 regs1 ids ks d objs'.length=true /\ r=unA (I3 d ids ks objs'.length) r' /\ regs' = back (I3 d ids ks objs'.length) (I3 d ids ks objs'.length) objs' (K9 ids ks regs1)
def clsF (cl:Cls)(a b:Prop):Prop:=match cl with
 |.n=>a
 |.r=>b
 |_=>True
def clsX (cl:Cls)(env:Env)(Uu:C6)(d:Nat)(o:Op)(c:List Prop)(v:AV)(regs' : C6):Prop:=match cl with
 |.l js=>(∀q,A2 regs' q=A2 Uu q)/\∀R2,(∀q∈js,A2 R2 q=A2 Uu q)->∃R3,aop P env R2 d o=some ⟨c,v,R3⟩/\∀q,A2 R3 q=A2 R2 q
 |.a js=>∀R2,(∀q∈js,A2 R2 q=A2 Uu q)->∃R3,aop P env R2 d o=some ⟨c,v,R3⟩/\(∀q∈js,A2 R3 q=A2 regs' q)/\∀q,q ∉ js->A2 R3 q=A2 R2 q
 |.b js=>∀q,q ∉ js->A2 regs' q=A2 Uu q
 |_=>True
def Bq7 (cl:Cls)(env:Env)(Uu:C6)(d:Nat)(o:Op)(v:AV)(regs' : C6):Prop:= (∃c,aop P env Uu d o=some ⟨c,v,regs'⟩/\D2 c/\clsF cl (isN env o=true) (regs' = Uu)/\clsX P cl env Uu d o c v regs') \/ (Bq6 S env o v/\regs' = Uu) \/ ((cl=.w \/ ∃js,cl=.b js/\∀q,q ∉ js->A2 regs' q=A2 Uu q)/\Bb0 S env Uu d o v regs') \/ (∃c x,Zr P env o=some (c,x)/\D2 c/\v=.p x/\regs' = Uu) \/ ∃js,cl=.a js/\(∀q,q ∉ js->A2 regs' q=A2 Uu q)/\∀R2,(∀q∈js,A2 R2 q=A2 Uu q)->∃R3,Bb0 S env R2 d o v R3/\(∀q∈js,A2 R3 q=A2 regs' q)/\∀q,q ∉ js->A2 R3 q=A2 R2 q
def QZ (d:Option Nat)(a:AV)(env:Env):Env:=match d with
 |some d=>ins d a env
 |none=>env
def MU (all:List Oper):List Cls->List Oper->Env->C6->(Env->C6->Prop)->Prop
 |cl::cls,o::rest,env,Uu,k=>∃b,AN all env o=some b /\
  if b then ∃v regs',Bq7 S P cl env Uu (o.dst.getD 0) o.op v regs' /\ MU all cls rest (QZ o.dst v env) regs' k
  else MU all cls rest (QZ o.dst Dm env) Uu k
 |_,[],env,Uu,k=>k env Uu
 |[],_::_,_,_,_=>False
end
section
variable {S:X4}{P:Program}
structure Bq8 (S:X4) (P:Program) (all:List Oper) (cls:List Cls) (E:Nat->Env) (R:Nat->C6) (V:Nat->AV):Prop where
 step:∀i o,all[i]? = some o->∃b,AN all (E i) o=some b /\
  (ite b (Bq7 S P (cls.getD i .n) (E i) (R i) (o.dst.getD 0) o.op (V i) (R (i+1))) (V i=Dm/\R (i+1)=R i))/\E (i+1)=QZ o.dst (V i) (E i)
def AD9 (all:List Oper):∀(rest:List Oper) (cls:List Cls) (i:Nat) (env:Env) (Uu:C6) (k:Env->C6->Prop),MU S P all cls rest env Uu k->cls.length=rest.length ->
 ∃(E:Nat->Env) (R:Nat->C6) (V:Nat->AV),E 0=env/\R 0=Uu/\k (E rest.length) (R rest.length) /\
  ∀j o,rest[j]? = some o->∃b,AN all (E j) o=some b /\
   (ite b (Bq7 S P (cls.getD j .n) (E j) (R j) (o.dst.getD 0) o.op (V j) (R (j+1))) (V j=Dm/\R (j+1)=R j))/\E (j+1)=QZ o.dst (V j) (E j)
 |[],[],i,env,Uu,k,h,_=>⟨λ_=>env,λ_=>Uu,λ_=>.top,rfl,rfl,h,by grind⟩
 |[],_::_,i,env,Uu,k,h,hl=>by grind
 |_::_,[],i,env,Uu,k,h,hl=>by grind
 |o::rest,cl::cls,i,env,Uu,k,h,hl=>by
  obtain⟨b,hb,h⟩:=h;have key:∃v regs',(ite b (Bq7 S P cl env Uu (o.dst.getD 0) o.op v regs') (v=Dm/\regs' = Uu))/\MU S P all cls rest (QZ o.dst v env) regs' k:=by
   grind
  obtain⟨v,regs',hs,a⟩:=key;obtain⟨E,R,V,h1,d,c,f⟩:=AD9 all rest cls (i+1) _ _ k a (by grind);refine⟨λj=>match j with|0=>env|j+1=>E j,λj=>match j with|0=>Uu|j+1=>R j,λj=>match j with|0=>v|j+1=>V j,rfl,rfl,c,?_⟩
  grind
def Ll (all:List Oper)(V:Nat->AV)(env:Env)(D:Nat->Bool)(x:Nat):Nat->AV
 |0=>get env x
 |m+1=>ite (D m=true/\(all[m]?).bind (·.dst)=some x) (V m) (Ll all V env D x m)
theorem FX {all:List Oper}{V:Nat->AV}{env:Env}{D D' : Nat->Bool}{x:Nat}:∀{m:Nat},(∀j,j<m->(all[j]?).bind (·.dst)=some x->D j=D' j)->Ll all V env D x m=Ll all V env D' x m
 |0,_=>rfl
 |m+1,h=>by
  simp only[Ll];rw[FX (m:=m) λj b a=>h j (by omega) a]
  grind
def Aa6 {all:List Oper}{V:Nat->AV}{env:Env}{D:Nat->Bool}{x i:Nat}(a:D i=true)(hx:(all[i]?).bind (·.dst)=some x):∀{m:Nat},i<m->(∀j,i<j->j<m->(all[j]?).bind (·.dst)=some x->D j=false)->Ll all V env D x m=V i
 |0,h,_=>by omega
 |m+1,h,hno=>by
  simp only[Ll];by_cases e:i=m
  .grind
  rw[Js]
  .exact Aa6 a hx (by omega) (by grind)
  grind
def Fu (env:Env)(d t:Nat)(x:AV):get (ins d x env) t=ite (d=t) x (get env t):=by
 induction env with
 |nil=>simp[ins,get]
 |cons p r ih=>
  grind[ins,get]
def AE0 (env:Env)(d:Option Nat)(t:Nat)(x:AV):get (QZ d x env) t=ite (d=some t) x (get env t):=by
 cases d with
 |none=>simp[QZ]
 |some d=>simp[QZ,Fu]
def Aa7 {all:List Oper}{cls:List Cls}{E:Nat->Env}{R:Nat->C6}{V:Nat->AV}(h:Bq8 S P all cls E R V)(x:Nat):∀m,m<=all.length->get (E m) x=Ll all V (E 0) (λj=>decide (j<m)) x all.length:=by
 have h1:∀m,m<=all.length->get (E m) x=Ll all V (E 0) (λ_=>true) x m:=by
  intro m
  induction m with
  |zero=>intro _;rfl
  |succ m ih=>intro hm;obtain⟨o,a⟩:∃o,all[m]? = some o:=⟨_,Ce3 (by omega)⟩;obtain⟨b,_,_,c⟩:=h.step m o a;rw[c,AE0];simp only[Ll,a,Cd8,true_and];rw[ih (by omega)]
 have f:∀m n,m<=n->Ll all V (E 0) (λj=>decide (j<m)) x n=Ll all V (E 0) (λ_=>true) x m:=by
  intro m n
  induction n with
  |zero=>
   intro h;obtain rfl:m=0:=by omega
   rfl
  |succ n ih=>
   intro d;by_cases e:m=n+1
   .grind[FX]
   simp only[Ll];rw[Js (by grind),ih (by omega)]
 grind
def Bb1 {all:List Oper}{cls:List Cls}{E:Nat->Env}{R:Nat->C6}{V:Nat->AV}(h:Bq8 S P all cls E R V){i o q}(m:all[i]? = some o)(hc:Jr q (cls.getD i .n)=false):A2 (R (i+1)) q=A2 (R i) q:=by
 obtain⟨b,_,g,_⟩:=h.step i o m;cases b with
 |false=>grind
 |true=>
  simp only[Lo]at g;rcases g with⟨c,ha,_,d,hx⟩ | ⟨_,f⟩ | ⟨f,_⟩ | ⟨_,_,_,_,_,f⟩ | ⟨js,hk,f,_⟩
  .cases hk:cls.getD i .n with
   |n=>rw[hk]at d;rw[(Xy d ha).1]
   |r=>rw[hk]at d;rw[show R (i+1)=R i from d]
   |w=>rw[hk]at hc;cases hc
   |l j=>rw[hk]at hx;exact hx.1 q
   |a j=>
    rw[hk]at hx hc;obtain⟨R3,s,_,t⟩:=hx (R i) λ_ _=>rfl;rw[s]at ha
    grind[Jr]
   |b j=>rw[hk]at hx hc;exact hx q (by grind[Jr])
  all_goals grind[Jr]
def Aq3 {all:List Oper}{cls:List Cls}{E:Nat->Env}{R:Nat->C6}{V:Nat->AV}(h:Bq8 S P all cls E R V)(q:Nat):∀(a b:Nat),a<=b->b<=all.length->(∀j,a<=j->j<b->Jr q (cls.getD j .n)=false)->A2 (R b) q=A2 (R a) q:=by
 intro a b
 induction b with
 |zero=>
  grind
 |succ b ih=>
  intro h1 d f;by_cases e:a=b+1
  .rw[e]
  obtain⟨o,c⟩:∃o,all[b]? = some o:=⟨_,Ce3 (by omega)⟩;rw[Bb1 h c (by grind),ih (by omega) (by omega) (by grind)]
theorem Mv {o:Oper}{k:St->Prop}{Q:M0}{st:St}{c:List Prop}{v:AV}{R' : C6}(h:aop P st.env st.Uu (o.dst.getD 0) o.op=some ⟨c,v,R'⟩)(hc:D2 c)(hk:k (put { st with Uu:=R' } o.dst v)):wOp S P o k Q st:=by
 unfold wOp
 grind[aop]
theorem Bq9 {o:Oper}{k:St->Prop}{Q:M0}{st:St}{c:List Prop}{x:PV}(h:Zr P st.env o.op=some (c,x))(hc:D2 c)(hk:k (put st o.dst (.p x))):wOp S P o k Q st:=by
 unfold wOp
 grind[Zr]
def AN2 {env env' : Env}{o:Op}(h:∀x∈o.operands.toList,aev env x=aev env' x):Zr P env o=Zr P env' o:=by
 cases o with
 |buildSlice t n parts=>
  have:(parts.toList.map λq=>aev env q.2)=parts.toList.map λq=>aev env' q.2:=Cf9 λq a=>h q.2 (by grind[Op.operands])
  grind[Zr]
 |makeSlice t l c=>
  have h1:aev env l=aev env' l:=h l (by simp[Op.operands]);have b:aev env c=aev env' c:=h c (by simp[Op.operands])
  grind[Zr]
 |_=>rfl
def Aa8 (ops:List Oper):∀(rest:List Oper) (acc:List (List Nat)),acc.length+rest.length=ops.length->ops.drop acc.length=rest->∀i,(i<acc.length->(Aa5 rest acc).getD i []=acc.getD i []) /\
 (acc.length<=i->i<ops.length->∃o,ops[i]? = some o/\∃pre,(Aa5 rest acc).getD i []=AN1 pre o/\∀j,j<i->pre.getD j []=(Aa5 rest acc).getD j [])
 |[],acc,hl,hd,i=>⟨λ_=>rfl,by grind⟩
 |o::rest,acc,hl,hd,i=>by
  have c:ops[acc.length]? = some o:=by
   have:(ops.drop acc.length)[0]? = some o:=by rw[hd];rfl
   grind
  have a : ops.drop (acc++[AN1 acc o]).length=rest:=by
   have:(ops.drop acc.length).drop 1=rest:=by rw[hd];rfl
   rw[Cq8]at this
   grind
  have ih:=λi=>Aa8 ops rest (acc++[AN1 acc o]) (by grind) a i;have b:∀j,j<acc.length->(Aa5 (o::rest) acc).getD j []=acc.getD j []:=by
   grind[Aa5,List.getElem?_append_left]
  grind[Aa5]
def OH {ops:List Oper}(n:Ju ops=true){D:Nat->Bool}(q:∀i o,D i=true->ops[i]? = some o->∀e∈o.after.toList,FR e=true->D e.on=true) :∀(i:Nat) (o:Oper),ops[i]? = some o->(∀e∈o.after.toList,FR e=true->D e.on=true)->∀j∈(BV2 ops).getD i [],D j=true:=by
 intro i
 induction i using Nat.strongRecOn with
 |_ i ih=>
  intro o r b j a;have l:i<ops.length:=(by grind);obtain⟨o',c,pre,h1,s⟩:=(Aa8 ops ops [] (by simp) (by simp) i).2 (by simp) l;rw[r]at c;cases c;have h1:(BV2 ops).getD i []=AN1 pre o:=h1;rw[h1]at a;unfold AN1 at a;have a:=Xx a;rw[List.mem_flatMap]at a;obtain⟨e,g,a⟩:=a;rw[Cq2]at g;obtain⟨g,hb⟩:=g;have d:e.on<i:=by
   grind[Ju,List.all_eq_true]
  have m:=b e g hb;rcases Ci2.1 a with rfl|a
  .omega
  rw[s e.on d]at a;obtain⟨oe,f⟩:∃oe,ops[e.on]? = some oe:=(by grind);exact ih e.on d oe f (q e.on oe m f) j a
end
section
variable {S:X4}{P:Program}
def VF {Uu:C6}:∀{l:List AV},l.all Ba9=true->Jt Uu l=some (l,Uu)
 |[],_=>rfl
 |a::r,h=>by simp only[Cm3,Ce2]at h;have ih:=VF (Uu:=Uu) h.2;cases a<;>simp only[Jt,ih]<;>simp[Ba9]at h
def OI {env env' : Env}{f:Operand}{as:List AV}(h:aev env f=aev env' f):Zt env f as=Zt env' f as:=by grind[Zt]
def VG {all:List Oper}{V:Nat->AV}{env:Env}{x:Nat}:∀m,Ll all V env (λ_=>false) x m=get env x
 |0=>rfl
 |m+1=>by simp only[Ll];rw[Js (by simp),VG m]
def AE1 (hS:H3 S P){F:M0}{K:List It}{id:Nat}{ops:Array Oper}{env:Env}{Uu:C6}(cls:List Cls)(hmix:P.follows .mixedOrders=true)(hok:PE ops.toList cls=true)
 (h:MU S P ops.toList cls ops.toList env Uu λenv Uu=>G S P F (.pop .normal K ⟨env,Uu⟩)):G S P F (.code (.region id ops true) K ⟨env,Uu⟩):=by
 simp only[G,awp,Lo];generalize ops.toList=all at hok h;simp only[PE,Ce2,beq_iff_eq,Ce8,Ch1]at hok;obtain⟨⟨hdep,hlen⟩,hpair⟩:=hok;obtain⟨E,R,V,hE0,hR0,hk,hstep⟩:=AD9 all all cls 0 env Uu _ h hlen;have T:Bq8 S P all cls E R V:=⟨hstep⟩;have hpr:∀(i j:Nat) (oi oj:Oper),i<j->all[i]? = some oi->all[j]? = some oj->i∈(BV2 all).getD j [] \/ JA all (cls.getD i .n) (cls.getD j .n) oi oj=true:=by
  grind
 let down:(Nat->Bool)->Prop:=λD=>∀i o,D i=true->all[i]? = some o->∀e∈o.after.toList,FR e=true->D e.on=true
 let Inv:(Nat->Bool)->St->Prop:=λD s=>down D/\(∀x,get s.env x=Ll all V env D x all.length) /\
  ∀q,∃k,k<=all.length/\(∀i,i<all.length->Jr q (cls.getD i .n)=true->(D i=true↔i<k))/\A2 s.Uu q=A2 (R k) q
 refine⟨hmix,hdep,Inv,⟨by grind,λx=>(VG _).symm,by grind⟩,?_,?_⟩
 .intro D i s o ⟨hD,henv,hreg⟩ ho hDi hready;have hin:i<all.length:=(by grind);have hanc:=OH hdep hD i o ho hready;have hbef:∀j oj,j<i->all[j]? = some oj->D j=true \/ JA all (cls.getD j .n) (cls.getD i .n) oj o=true:=(by grind);have haft:∀j oj,i<j->all[j]? = some oj->D j=true->JA all (cls.getD i .n) (cls.getD j .n) o oj=true:=by
   intro j oj hj g z;rcases hpr i j o oj hj ho g with h1|h1
   .have:=OH hdep hD j oj g (hD j oj z g) i h1
    rw[hDi]at this;grind
   omega
  have hrd:∀x∈reads all o,get s.env x=get (E i) x:=by
   intro x hx;rw[henv x,Aa7 T x i (by omega),hE0];refine FX λj hj hd=>?_;obtain⟨oj,g⟩:∃oj,all[j]? = some oj:=(by grind);simp only[g,Cd8]at hd;by_cases e:j<i
   .simp only[e,decide_true];rcases hbef j oj e g with h1|h1
    .omega
    simp only[JA,hd,Ce2,Cf6,Ch6,decide_eq_false_iff_not]at h1
    grind
   simp only[e,decide_false];by_cases e2:j=i
   .grind
   cases z:D j with
   |false=>rfl
   |true=>
    have h1:=haft j oj (by omega) g z;simp only[JA,hd,Ce2,Cf6,Ch6,decide_eq_false_iff_not]at h1
    grind
  have d:∀x∈o.op.operands.toList,aev s.env x=aev (E i) x:=λx hx=>Ba8 λt ht=>hrd t (Ch7 _ (by grind));have hq:∀q,AN0 q (cls.getD i .n)=true->A2 s.Uu q=A2 (R i) q:=by
   intro q hn;obtain⟨k,hkn,hW,hr⟩:=hreg q;rw[hr];by_cases hki:k<=i
   .refine (Aq3 T q k i hki (by omega) λj h1 h2=>?_).symm;cases hw:Jr q (cls.getD j .n)with
    |false=>rfl
    |true=>
     obtain⟨oj,g⟩:∃oj,all[j]? = some oj:=(by grind);rcases hbef j oj h2 g with h3|h3
     .have:=(hW j (by omega) hw).1 h3;omega
     simp only[JA,(Il hw hn).1,Cn8,Cm6,Ce4]at h3
   refine Aq3 T q i k (by omega) hkn λj h1 h2=>?_;cases hw:Jr q (cls.getD j .n)with
   |false=>rfl
   |true=>
    have z:D j=true:=(by grind);by_cases e:j=i
    .grind
    obtain⟨oj,g⟩:∃oj,all[j]? = some oj:=(by grind);have h3:=haft j oj (by omega) g z;simp only[JA,(Il hw hn).2,Cn8,Cm6,Ce4]at h3
  obtain⟨b,hb,hs,hEi⟩:=hstep i o ho;have hdown:down λj=>ite (j=i) true (D j):=by
   intro j oj hj g e he hbe;by_cases e1:j=i
   .grind
   grind
  have henv' : ∀x,get (QZ o.dst (V i) s.env) x=Ll all V env (λj=>ite (j=i) true (D j)) x all.length:=by
   intro x;rw[AE0];by_cases hd:o.dst=some x
   .rw[Jk hd];refine (Aa6 (by simp) (by grind) hin λj h1 h2 h3=>?_).symm;have hne:j≠i:=by omega
    simp only[hne,Lp]
    grind[List.getElem?_eq_getElem,JA]
   rw[Js hd,henv x];refine FX λj hj h3=>?_;have hne:j≠i:=by grind
   grind
  have u:∀R',(∀q,Jr q (cls.getD i .n)=true->A2 R' q=A2 (R (i+1)) q)->(∀q,Jr q (cls.getD i .n)=false->A2 R' q=A2 s.Uu q)->Inv (λj=>ite (j=i) true (D j)) (put ⟨s.env,R'⟩ o.dst (V i)):=by
   intro R' h1 h2;refine⟨hdown,?_,λq=>?_⟩
   .intro x
    have:=henv' x
    cases hd:o.dst<;>simp only[hd,put,QZ]at this⊢<;>exact this
   have hput:(put ⟨s.env,R'⟩ o.dst (V i)).Uu=R':=by cases o.dst<;>rfl
   rw[hput];cases hw:Jr q (cls.getD i .n)with
   |false=>
    obtain⟨k,hkn,hW,hr⟩:=hreg q;refine⟨k,hkn,λj hj hwj=>?_,(h2 q hw).trans hr⟩;have hne:j≠i:=by grind
    grind
   |true=>
    refine⟨i+1,by omega,λj hj hwj=>?_,h1 q hw⟩;by_cases e:j=i
    .grind
    simp only[e,Lp];obtain⟨oj,g⟩:∃oj,all[j]? = some oj:=(by grind);constructor
    .intro z;by_cases hlt:i<j
     .have h3:=haft j oj hlt g z;simp only[JA,(Il hw (Mu hwj)).1,Cn8,Cm6,Ce4]at h3
     omega
    intro hlt;rcases hbef j oj (by omega) g with h3|h3
    .omega
    simp only[JA,(Il hwj (Mu hw)).1,Cn8,Cm6,Ce4]at h3
  obtain⟨RT,hRT,y⟩:∃RT,(∀q,A2 s.Uu q=A2 RT q)/\((cls.getD i .n=.r \/ cls.getD i .n=.w \/ ∃js,cls.getD i .n=.b js)->RT=R i):=by
   by_cases hall:cls.getD i .n=.r \/ cls.getD i .n=.w \/ ∃js,cls.getD i .n=.b js
   .exact⟨R i,λq=>hq q (by rcases hall with h1|h1|⟨js,h1⟩<;>rw[h1]<;>rfl),λ_=>rfl⟩
   exact⟨s.Uu,λ_=>rfl,by grind⟩
  have hsame:R (i+1)=R i->Inv (λj=>ite (j=i) true (D j)) (put ⟨s.env,RT⟩ o.dst (V i)):=λhRi=>
   u RT (λq hw=>by rw[<- hRT q,hq q (Mu hw),hRi]) (by grind)
  have hrun:b=true->wOp S P o (Inv λj=>ite (j=i) true (D j)) (kp S P K F) ⟨s.env,RT⟩:=by
   intro hbt;rw[hbt,Jk rfl]at hs;rcases hs with⟨c,ha,hc,hcl,hcx⟩ | ⟨hp,hRi⟩ | ⟨hw,hdet⟩ | ⟨c,x,ha,hc,hvx,hRi⟩ | ⟨js,m,_,hx⟩
   .cases m : cls.getD i .n with
    |n=>
     rw[m]at hcl;have h1:=Xy hcl ha;have ha':=h1.2 RT;rw[<- Hw d]at ha'
     grind[Mv]
    |r=>
     rw[m]at hcl;rw[<- Hw d,<- y (.inl m)]at ha;refine Mv ha hc ?_;have hcl:R (i+1)=R i:=hcl;rw[hcl,<- y (.inl m)]
     grind
    |w=>rw[<- Hw d,<- y (.inr (.inl m))]at ha;exact Mv ha hc (u _ (λ_ _=>rfl) λq hw=>by rw[m]at hw;cases hw)
    |b js=>
     rw[m]at hcx;rw[<- Hw d,<- y (by grind)]at ha;exact Mv ha hc (u _ (λ_ _=>rfl) λq hw=>by rw[m]at hw;rw[hcx q (by grind[Jr]),hRT q,y (by grind)])
    |l js=>
     rw[m]at hcx;obtain⟨R3,ha',h3⟩:=hcx.2 RT λq hj=>by rw[<- hRT q];grind[AN0]
     rw[<- Hw d]at ha';exact Mv ha' hc (u R3 (λq hw=>by rw[m]at hw;cases hw) (by grind))
    |a js=>
     rw[m]at hcx;obtain⟨R3,ha',h3,h4⟩:=hcx RT λq hj=>by rw[<- hRT q];grind[AN0]
     rw[<- Hw d]at ha';refine Mv ha' hc (u R3 (λq hw=>?_) λq hw=>?_)
     all_goals grind[Jr]
   .obtain⟨c,f,fn,as',args,r',e1,e2,e3,e4,e5,e6,e7⟩:=hp;obtain⟨callee,cargs,types⟩:=c;simp only at e2 e3 e4;subst e2;have v:cargs.toList.map (aev s.env)=cargs.toList.map (aev (E i)):=Cf9 λx hx=>d x (by rw[e1];grind[Op.operands,Call.operands]);have hf:aev s.env f=aev (E i) f:=d f (by rw[e1];simp[Op.operands,Call.operands]);unfold wOp;rw[e1];refine .inl ⟨_,RT,fn,as',by rw[v];exact .inl (VF e3),by rw[OI hf];omega,[],args,[],rfl,e5,rfl,rfl,hS.monoF _ _ _ _ _ ?_ e6⟩;rintro _ _ _ ⟨rfl,rfl,rfl⟩;refine⟨rfl,?_⟩
    have:(I3 (o.dst.getD 0) [] [] ([]:List Obj).length)=[]:=rfl
    rw[this];show Inv _ (put ⟨s.env,RT⟩ o.dst (unA [] r'));rw[<- e7]
    grind
   .obtain⟨c,f,as,regs1,fn,as',args,objs,objs',ks,r',ids,e1,e2,e3,e4,e5,e6,e7,e8,e9,e10,e11,e12⟩:=hdet;obtain⟨callee,cargs,types⟩:=c;simp only at e2 e3;subst e2;have v:cargs.toList.map (aev s.env)=cargs.toList.map (aev (E i)):=Cf9 λx hx=>d x (by rw[e1];grind[Op.operands,Call.operands]);have hf:aev s.env f=aev (E i) f:=d f (by rw[e1];simp[Op.operands,Call.operands]);unfold wOp;rw[e1];have hRTi:RT=R i:=(by grind);refine .inl ⟨as,regs1,fn,as',by rw[v,hRTi];exact .inl e3,by rw[OI hf];omega,ids,args,objs,e8,e5,e6,e9,hS.monoF _ _ _ _ _ ?_ e7⟩;rintro _ _ _ ⟨rfl,rfl,rfl⟩;refine⟨e10,?_⟩;show Inv _ (put ⟨s.env,_⟩ o.dst (unA _ r'));rw[<- e11,<- e12];exact u _ (λ_ _=>rfl) λq h=>by
     grind[Jr]
   .rw[<- AN2 d]at ha;have hfin:=hsame hRi;rw[hvx]at hfin
    grind[Bq9]
   obtain⟨R3,⟨c,f,as,regs1,fn,as',args,objs,objs',ks,r',ids,e1,e2,e3,e4,e5,e6,e7,e8,e9,e10,e11,e12⟩,h3,h4⟩:=hx RT λq hj=>by rw[<- hRT q];grind[AN0]
   obtain⟨callee,cargs,types⟩:=c;simp only at e2 e3;subst e2;have v:cargs.toList.map (aev s.env)=cargs.toList.map (aev (E i)):=Cf9 λx hx=>d x (by rw[e1];grind[Op.operands,Call.operands]);have hf:aev s.env f=aev (E i) f:=d f (by rw[e1];simp[Op.operands,Call.operands]);unfold wOp;rw[e1];refine .inl ⟨as,regs1,fn,as',by rw[v];exact .inl e3,by rw[OI hf];omega,ids,args,objs,e8,e5,e6,e9,hS.monoF _ _ _ _ _ ?_ e7⟩;rintro _ _ _ ⟨rfl,rfl,rfl⟩;refine⟨e10,?_⟩;show Inv _ (put ⟨s.env,_⟩ o.dst (unA _ r'));rw[<- e11,<- e12];exact u R3 (λq hw=>by rw[m]at hw;grind[Jr]) λq hw=>by rw[m]at hw;rw[h4 q (by grind[Jr]),hRT q]
  have hskip:b=false->Inv (λj=>ite (j=i) true (D j)) (put ⟨s.env,RT⟩ o.dst Dm):=by
   intro hbf;rw[hbf]at hs;simp at hs;obtain⟨hv,hRi⟩:=hs;rw[<- hv]
   grind
  refine hS.eqv s ⟨s.env,RT⟩ _ (λ_=>rfl) hRT ?_;cases hg:o.guard with
  |none=>
   grind[AN,Option.some.injEq]
  |some q=>
   obtain⟨j,want⟩:=q;simp only[AN,hg,Cg0]at hb;obtain⟨b0,hy,hb0⟩:=hb;have hsl:get s.env (Id all j)=get (E i) (Id all j):=hrd _ (Ci1 _ (by grind))
   grind
 intro D s ⟨hD,henv,hreg⟩ hall;refine hS.eqv s ⟨E all.length,R all.length⟩ _ (λx=>?_) (λq=>?_) hk
 .show get s.env x=get (E all.length) x;rw[henv x,Aa7 T x _ (Ce5 _),hE0]
  grind[FX]
 obtain⟨k,hkn,hW,hr⟩:=hreg q;rw[hr];refine (Aq3 T q k all.length hkn (Ce5 _) λj h1 h2=>?_).symm
 grind
end
def clsOf:Op->Cls
 |.store .. | .alloc _ | .box .. | .buildSlice .. | .makeMap .. | .makeSlice .. | .mapUpdate .. | .insert .. | .entryStore .. | .mapEntry ..=>.w
 |.load .. | .indexAddr .. | .lookup ..=>.r
 |.call { callee:=.builtin .len,.. } | .call { callee:=.builtin .cap,.. }=>.r
 |.call { callee:=.builtin .min,.. } | .call { callee:=.builtin .max,.. }=>.n
 |.call _=>.w
 |_=>.n
def isR (env:Env):Op->Bool
 |.load .. | .indexAddr ..=>true
 |.lookup _ _ k _=>isP (aev env k)
 |.call { callee:=.builtin .len,.. }=>true
 |o=>isN env o
def inJ (js:List Nat):AV->Bool
 |.p _=>true
 |.vec i=>js.contains i
 |.vecp i _=>js.contains i
 |_=>false
def adJ (js:List Nat):AV->Bool
 |.reg i _=>js.contains i
 |.elt i _ _ _=>js.contains i
 |_=>false
def mrJ (js:List Nat):AV->Bool
 |.Uz i=>js.contains i
 |_=>false
def isL (js:List Nat)(env:Env):Op->Bool
 |.lookup _ m k _=>mrJ js (aev env m)&&isP (aev env k)
 |.load _ a=>adJ js (aev env a)
 |.indexAddr _ x _=>adJ js (aev env x)||inJ js (aev env x)
 |.call { callee:=.builtin .len,args,.. }=>args.toList.all λx=>inJ js (aev env x)
 |_=>false
def isA (js:List Nat)(env:Env)(d:Nat):Op->Bool
 |.alloc _=>js.contains (nid d 0)
 |.box _ _=>js.contains (nid d 0)
 |.store _ a _=>adJ js (aev env a)
 |.call { callee:=.builtin .append,args,.. }=>js.contains (nid d 0)&&args.toList.all λx=>inJ js (aev env x)
 |.buildSlice _ _ parts=>js.contains (nid d 0)&&parts.toList.all λq=>isP (aev env q.2)
 |.makeMap _ none=>js.contains (nid d 0)
 |.mapEntry _ m k=>mrJ js (aev env m)&&isP (aev env k)
 |.entryStore _ m _ x=>mrJ js (aev env m)&&isP (aev env x)
 |_=>false
def isB (js:List Nat)(env:Env)(d:Nat):Op->Bool
 |.buildSlice _ _ parts=>js.contains (nid d 0)&&parts.toList.all λq=>inJ js (aev env q.2)
 |_=>false
def Aa9 (cl:Cls)(env:Env)(d:Nat)(o:Op):Bool:=match cl with
 |.n=>isN env o
 |.r=>isR env o
 |.w=>true
 |.l j=>isL j env o
 |.a j=>isA j env d o
 |.b j=>isB j env d o
structure SRes:Type 1 where
 conds:List Prop
 cls:List Cls
 rest:List Oper
 env:Env
 Uu:C6
def BV3 (kn:List Nat)(all:List Oper)(env:Env)(o:Oper):Bool:=match o.guard with
 |none=>false
 |some (j,_)=>match kn.contains j with
  |true=>false
  |false=>match get env (Id all j)with
   |.p (.bb _)=>true
   |_=>false
def Uc (P:Program)(kn:List Nat)(all:List Oper):List Cls->List Oper->List Prop->Env->C6->SRes
 |cl::cls,o::rest,c,env,Uu=>
  match BV3 kn all env o with
  |true=>⟨c,cl::cls,o::rest,env,Uu⟩
  |false=>match AN all env o with
  |some true=>match BR1 o.op&&Aa9 cl env (o.dst.getD 0) o.op with
   |true=>match aop P env Uu (o.dst.getD 0) o.op with
    |none=>⟨c,cl::cls,o::rest,env,Uu⟩
    |some ⟨p,v,regs'⟩=>fA v λv=>fR regs' λregs'=>fC p c λc=>
     match o.dst with
     |some d=>AY0 d v env λenv=>Uc P kn all cls rest c env regs'
     |none=>Uc P kn all cls rest c env regs'
   |false=>⟨c,cl::cls,o::rest,env,Uu⟩
  |some false=>match o.dst with
   |some d=>AY0 d Dm env λenv=>Uc P kn all cls rest c env Uu
   |none=>Uc P kn all cls rest c env Uu
  |none=>⟨c,cl::cls,o::rest,env,Uu⟩
 |cls,rest,c,env,Uu=>⟨c,cls,rest,env,Uu⟩
section
variable {S:X4}{P:Program}
def Br0 {env:Env}{R R' : C6}{d:Nat}{o:Op}{c:List Prop}{v:AV}(f:isR env o=true)(h:aop P env R d o=some ⟨c,v,R'⟩):R' = R:=by
 have gen:isN env o=true->R' = R:=λhn=>(Xy hn h).1;cases o with
 |load t a=>
  grind[aop,Option.some.injEq,Out.mk.injEq]
 |indexAddr t x i=>
  grind[aop,Option.some.injEq,Out.mk.injEq]
 |lookup t m k ok=>
  simp only[isR]at f;cases hk:aev env k<;>simp only[hk,isP,Ce4]at f
  grind[aop,Fj,Option.some.injEq,Out.mk.injEq]
 |call cc=>
  obtain⟨callee,args,types⟩:=cc;cases callee with
  |builtin b=>
   cases b with
   |len=>
    grind[aop,Option.some.injEq,Out.mk.injEq]
   |_=>exact gen f
  |_=>exact gen f
 |_=>exact gen f
theorem O4 (Uu:C6)(d t:Nat)(x:Obj):A2 (ins d x Uu) t=ite (d=t) (some x) (A2 Uu t):=by
 induction Uu with
 |nil=>simp[ins,A2]
 |cons p r ih=>
  obtain⟨i,b⟩:=p;simp only[ins];split
  .grind[A2]
  split
  .grind[A2]
  rename_i h1 a;simp only[A2,ih]
  grind
def AE2 {js:List Nat}{a:AV}(h:adJ js a=true):∃i∈js,(∃off,a=.reg i off) \/ ∃k n off,a=.elt i k n off:=by
 cases a with
 |reg i off=>exact⟨i,by simpa[adJ]using h,.inl ⟨off,rfl⟩⟩
 |elt i k n off=>exact⟨i,by simpa[adJ]using h,.inr ⟨k,n,off,rfl⟩⟩
 |_=>cases h
section
variable {js:List Nat}{R R2:C6}(hR:∀q∈js,A2 R2 q=A2 R q)
include hR
theorem Br1 {t:TypeId}{a:AV}(ha:adJ js a=true):load P R2 t a=load P R t a:=by obtain⟨i,b,⟨off,rfl⟩ | ⟨k,n,off,rfl⟩⟩:=AE2 ha<;>simp only[load,hR i b]
theorem AN3 {t:TypeId}{x:AV}{n:Int}(ha:(adJ js x||inJ js x)=true):Hr P R2 t x n=Hr P R t x n:=by
 cases x with
 |vec i=>
  have a:i∈js:=by grind[adJ,inJ]
  unfold Hr;grind
 |vecp i m=>
  have a:i∈js:=by grind[adJ,inJ]
  unfold Hr;grind
 |reg i off=>unfold Hr;grind
 |p y=>unfold Hr;grind
 |elt i k n off=>simp_all[Hr,tk]
 |_=>cases ha
theorem Br2 {t:TypeId}{x:AV}(ha:inJ js x=true):AW7 P R2 t x=AW7 P R t x:=by
 cases x with
 |vec i=>
  have a:i∈js:=by grind[inJ]
  unfold AW7;grind
 |vecp i m=>unfold AW7;grind
 |p y=>unfold AW7;split<;>simp_all
 |_=>cases ha
theorem Ab0 {k:Nat}{x:AV}(ha:inJ js x=true):elems R2 k x=elems R k x:=by
 cases x with
 |vec i=>
  have a:i∈js:=by grind[inJ]
  grind[elems]
 |vecp i m=>
  have a:i∈js:=by grind[inJ]
  grind[elems]
 |p y=>unfold elems;split<;>simp_all
 |_=>cases ha
theorem Bb2 {e:TypeId}{k:Nat}{x:AV}{q:Nat×(Nat->List PV)×Bool×C6}(ha:inJ js x=true)(h:Xd R e k x=some q) :(Xd R2 e k x=some (q.1,q.2.1,q.2.2.1,R2)/\q.2.2.2=R) \/ ∃j∈js,Xd R2 e k x=some (q.1,q.2.1,q.2.2.1,ins j .dead R2)/\q.2.2.2=ins j .dead R:=by
 cases x with
 |vec i=>
  have a:i∈js:=by grind[inJ]
  simp only[Xd]at h⊢;rw[hR i a]
  grind
 |vecp i m=>
  have a:i∈js:=by grind[inJ]
  simp only[Xd]at h⊢;rw[hR i a]
  grind
 |p y=>
  left
  unfold Xd at h⊢
  grind
 |_=>cases ha
theorem Bb3 {t:TypeId}{a x:AV}{c:List Prop}{R' : C6}(ha:adJ js a=true)(h:store P R t a x=some (c,R')):∃i∈js,∃o,R' = ins i o R/\store P R2 t a x=some (c,ins i o R2):=by
 obtain⟨i,r,g⟩:=AE2 ha;refine⟨i,r,?_⟩;have q:=hR i r;have fin:∀(p:Prop) [Decidable p] (c0:List Prop) (o:Obj),(ite p (some (c0,ins i o R)) none)=some (c,R')->∃o',R' = ins i o' R/\(ite p (some (c0,ins i o R2)) none)=some (c,ins i o' R2):=by
  grind
 cases b:tsz P t with
 |none=>grind[store]
 |some m=>
  cases d:Eo x with
  |false=>grind[store]
  |true=>
   cases j:A2 R i with
   |none=>rcases g with⟨off,rfl⟩ | ⟨k,n,off,rfl⟩<;>simp[store,b,d,j]at h
   |some o=>
    rw[j]at q;rcases g with⟨off,rfl⟩ | ⟨k,n,off,rfl⟩
    .simp only[store,b,d,j,q]at h⊢;cases o with
     |cells cs=>grind
     |arr n f=>
      grind
     |blk l jr=>match l with
      |0::T::u::l=>cases x with
       |vec jr=>exact fin _ _ _ h
       |_=>simp at h
      |[] | [0] | [0,_] | (_+1)::_=>simp at h
     |_=>simp at h
    simp only[store,b,d,j,q]at h⊢;cases o with
    |vec e k' n' f vw=>
     grind
    |fam e n' jr x0=>
     grind
    |_=>simp at h
end
theorem Br3 {js:List Nat}{env:Env}{R R' : C6}{d:Nat}{o:Op}{c:List Prop}{v:AV}(f:isL js env o=true)(h:aop P env R d o=some ⟨c,v,R'⟩):R' = R/\∀R2,(∀q∈js,A2 R2 q=A2 R q)->aop P env R2 d o=some ⟨c,v,R2⟩:=by
 cases o with
 |lookup t m k ok=>
  simp only[isL,Ce2]at f;obtain⟨hm,hk⟩:=f;simp only[aop]at h⊢;cases ek:aev env k<;>simp only[ek,isP,Ce4]at hk;cases em:aev env m<;>simp only[em,mrJ,Ce4]at hm;rename_i x j;simp only[ek,em,Fj]at h⊢;cases hl:Ib P R t (.Uz j) (nP x) ok with
  |none=>grind
  |some q=>
   obtain⟨c',a'⟩:=q;simp only[hl,Cd9,Out.mk.injEq]at h;obtain⟨rfl,rfl,rfl⟩:=h;refine⟨rfl,λR2 g=>?_⟩;have e:Ib P R2 t (.Uz j) (nP x) ok=Ib P R t (.Uz j) (nP x) ok:=by
    unfold Ib
    grind
   rw[e,hl]
 |load t a=>
  simp only[isL]at f;simp only[aop]at h⊢;cases hl:load P R t (aev env a)with
  |none=>grind
  |some q=>obtain⟨c',a'⟩:=q;simp only[hl,Cd9,Out.mk.injEq]at h;obtain⟨rfl,rfl,rfl⟩:=h;exact⟨rfl,λR2 g=>by rw[Br1 g f,hl]⟩
 |indexAddr t x i=>
  simp only[isL]at f;simp only[aop]at h⊢;cases l:asInt (aev env i)with
  |none=>grind
  |some n=>
   simp only[l]at h⊢;cases hl:Hr P R t (aev env x) n with
   |none=>grind
   |some q=>obtain⟨c',a'⟩:=q;simp only[hl,Cd9,Out.mk.injEq]at h;obtain⟨rfl,rfl,rfl⟩:=h;exact⟨rfl,λR2 g=>by rw[AN3 g f,hl]⟩
 |call cc=>
  obtain⟨callee,args,types⟩:=cc;cases callee with
  |builtin b=>
   cases b with
   |len=>
    simp only[isL]at f;simp only[aop]at h⊢;split at h
    .rename_i x t hx ht;simp only[hx,Cm3,Cv9,Cp4]at f;cases hl:AW7 P R t (aev env x)with
     |none=>grind
     |some n=>simp only[hl,Cd9,Out.mk.injEq]at h;obtain⟨rfl,rfl,rfl⟩:=h;exact⟨rfl,λR2 g=>by grind[Br2]⟩
    grind
   |_=>cases f
  |_=>cases f
 |_=>cases f
theorem BC7:∀{xs:List AV},xs.all isP=true->∃ys,∀R,Hq R xs=some (ys,R)
 |[],_=>⟨[],λ_=>rfl⟩
 |.p x::xs,h=>by obtain⟨ys,hy⟩:=BC7 (xs:=xs) (by simpa[isP]using h);exact⟨nP x::ys,λR=>by simp only[Hq,Fj,hy]⟩
 |.reg .. :: _,h | .elt .. :: _,h | .vec _::_,h | .vecp .. :: _,h | .Uz _::_,h | .clo .. :: _,h | .tup _::_,h | .agr _::_,h | .yf _::_,h | .top::_,h=>by simp[isP]at h
theorem BJ2 {n:Nat}:∀{L:List (Nat×AV)},(∀p∈L,isP p.2=true)->∀R,MW R n L=none:=by
 intro L h R;unfold MW;split
 .rename_i j
  have:=h (0,.vec j) (by simp)
  cases this
 rfl
theorem AE3 {js:List Nat}{x:AV}(h:mrJ js x=true):∃j,j∈js/\x=.Uz j:=by
 cases x with
 |Uz j=>exact⟨j,by simpa[mrJ]using h,rfl⟩
 |_=>cases h
theorem Br4 {js:List Nat}{env:Env}{R R' : C6}{d:Nat}{o:Op}{c:List Prop}{v:AV}(u:isA js env d o=true)(h:aop P env R d o=some ⟨c,v,R'⟩) :∀R2,(∀q∈js,A2 R2 q=A2 R q)->∃R3,aop P env R2 d o=some ⟨c,v,R3⟩/\(∀q∈js,A2 R3 q=A2 R' q)/\∀q,q ∉ js->A2 R3 q=A2 R2 q:=by
 intro R2 h2;have up:∀{A B:C6}(i:Nat) (x:Obj),i∈js->(∀q∈js,A2 A q=A2 B q)->(∀q,q ∉ js->A2 A q=A2 R2 q)->(∀q∈js,A2 (ins i x A) q=A2 (ins i x B) q)/\∀q,q ∉ js->A2 (ins i x A) q=A2 R2 q:=by intro A B i x hi h1 h2;refine⟨λq hq=>by rw[O4,O4,h1 q hq],λq hq=>?_⟩;rw[O4,Js (by rintro rfl;exact hq hi),h2 q hq]
 have one:=λ{i:Nat}(x:Obj) (hi:i∈js)=>up i x hi h2 λ_ _=>rfl;cases o with
 |buildSlice t n parts=>
  simp only[isA,Ce2]at u;have w:nid d 0∈js:=by simpa using u.1
  obtain⟨ys,hys⟩:=BC7 (xs:=parts.toList.map λq=>aev env q.2) (by simpa[Cn3,Cj9]using u.2);have hrl:=BJ2 (n:=n) (L:=parts.toList.map λq=>(q.1,aev env q.2)) (λp hp=>by obtain⟨q,hq,rfl⟩:=Cl0.1 hp;exact Ce8.1 u.2 q hq)
  simp only[aop,hrl,hys,h2 _ w]at h⊢;split at h
  .split at h
   .rename_i l0 regs0 m0 z0 a3 a4 a5;simp only[Cd9,Cf2]at a3;obtain⟨rfl,rfl⟩:=a3;split at h
    .rename_i hc;simp only[Cd9,Out.mk.injEq]at h;obtain⟨rfl,rfl,rfl⟩:=h;refine⟨ins (nid d 0) _ R2,?_,one _ w⟩;simp only[a4,a5];rw[Jk hc]
    cases h
   cases h
  cases h
 |alloc t=>
  have w:nid d 0∈js:=by simpa[isA]using u
  simp only[aop,h2 _ w]at h⊢;split at h
  .rename_i z h1 h3;split at h
   .rename_i hz;simp only[Cd9,Out.mk.injEq]at h;obtain⟨rfl,rfl,rfl⟩:=h;exact⟨_,by simp only[h1,h3,hz,Lo],one _ w⟩
   cases h
  cases h
 |box t x=>
  have w:nid d 0∈js:=by simpa[isA]using u
  simp only[aop,h2 _ w]at h⊢;split at h
  .rename_i h1 h3;simp only[Cd9,Out.mk.injEq]at h;obtain⟨rfl,rfl,rfl⟩:=h;exact⟨_,by simp only[h1,h3],one _ w⟩
  cases h
 |makeMap t r=>cases r with
  |some r=>cases u
  |none=>
   have w:nid d 0∈js:=by simpa[isA]using u
   simp only[aop,h2 _ w]at h⊢;split at h
   .rename_i h1;simp only[Cd9,Out.mk.injEq]at h;obtain⟨rfl,rfl,rfl⟩:=h;exact⟨_,by simp only[h1],one _ w⟩
   cases h
 |mapEntry t m k=>
  simp only[isA,Ce2]at u;obtain⟨j,w,hm⟩:=AE3 u.1;simp only[aop,hm]at h⊢;split at h
  .rename_i kt e j1 y hk hm2 hy;cases hm2;split at h
   .rename_i es z hes hz;split at h
    .rename_i q h5 h6;simp only[Cd9,Out.mk.injEq]at h;obtain⟨rfl,rfl,rfl⟩:=h;exact⟨_,by simp only[hk,hy,h2 j w,hes,hz,h5,h6],one _ w⟩
    cases h
   cases h
  cases h
 |entryStore t m s x=>
  simp only[isA,Ce2]at u;obtain⟨j,w,hm⟩:=AE3 u.1;obtain⟨xx,hx⟩:∃xx,aev env x=.p xx:=by
   cases hx:aev env x with
   |p xx=>exact⟨xx,rfl⟩
   |_=>rw[hx]at u;cases u.2
  simp only[aop,hm,hx,Fj]at h⊢;split at h
  .rename_i j1 s1 y R1 hm2 hs hy;cases hm2;simp only[Cd9,Cf2]at hy;obtain⟨rfl,rfl⟩:=hy;split at h
   .rename_i es hes;simp only[Cd9,Out.mk.injEq]at h;obtain⟨rfl,rfl,rfl⟩:=h;exact⟨_,by simp only[hs,h2 j w,hes],one _ w⟩
   cases h
  cases h
 |store t a x=>
  simp only[isA]at u;simp only[aop]at h⊢;split at h
  .rename_i hs;simp only[Cd9,Out.mk.injEq]at h;obtain⟨rfl,rfl,rfl⟩:=h;obtain⟨i,hi,o,rfl,hs2⟩:=Bb3 h2 u hs;exact⟨_,by simp only[hs2],one _ hi⟩
  cases h
 |call cc=>
  obtain⟨callee,args,types⟩:=cc;cases callee with
  |builtin b=>
   cases b with
   |append=>
    simp only[isA,Ce2]at u;have w:nid d 0∈js:=by simpa using u.1
    have u:=u.2;simp only[aop,h2 _ w]at h⊢;split at h
    .rename_i s x t t2 hx ht;simp only[hx,Cm3,Cv9,Cp4,Ce2]at u;split at h
     .rename_i e k2 hk1 hk2;split at h
      .rename_i m z hz1 hz2 hz3;split at h
       .rename_i n g l f vw regs1 hn he htk;split at h
        .rename_i hc;simp only[Cd9,Out.mk.injEq]at h;obtain⟨rfl,rfl,rfl⟩:=h;rcases Bb2 h2 u.1 htk with⟨h3,h4⟩ | ⟨j,hjj,h3,h4⟩
         .simp only at h3 h4;subst h4;refine⟨ins (nid d 0) (.vec e m (l+n) (DO l f g) vw) R2,?_,one _ w⟩;simp only[Ab0 h2 u.2,hz1,hz2,hz3,hn,he,h3];rw[Jk hc]
         simp only at h3 h4;subst h4;have h5:=one (i:=j) .dead hjj;refine⟨ins (nid d 0) (.vec e m (l+n) (DO l f g) vw) (ins j .dead R2),?_,up _ _ w h5.1 h5.2⟩;simp only[Ab0 h2 u.2,hz1,hz2,hz3,hn,he,h3];rw[Jk hc]
        cases h
       split at h
       .rename_i c1 v1 R1 hF;simp only[Cd9,Out.mk.injEq]at h;obtain⟨rfl,rfl,rfl⟩:=h;simp only[MV]at hF;split at hF
        .rename_i j l hs hx';have hjj:j∈js:=by have:=u.1;rw[hs]at this;simpa[inJ]using this
         have hll:l∈js:=by have:=u.2;rw[hx']at this;simpa[inJ]using this
         split at hF
         .rename_i e1 n jr e2 jz y h1 h3 h4;split at hF
          .rename_i hc;simp only[Cd9,Cf2]at hF;obtain⟨rfl,rfl,rfl⟩:=hF;have a1:=one (i:=j) .dead hjj;have a2:=up l .dead hll a1.1 a1.2;refine⟨ins (nid d 0) (.fam e (n+1) jr (some (n,y))) (ins l .dead (ins j .dead R2)),?_,up _ _ w a2.1 a2.2⟩;have el:elems R2 m (.vec l)=none:=by simp only[elems,h2 l hll,h4]
           simp only[hz1,hz2,hz3,hs,hx',el,h1];simp only[MV,h2 _ w,h2 j hjj,h2 l hll,h1,h3,h4];rw[Jk hc]
          cases hF
         cases hF
        cases hF
       cases h
      cases h
     cases h
    cases h
   |_=>cases u
  |_=>cases u
 |_=>cases u
theorem Xz {js:List Nat}{R R' : C6}{x:AV}{y:PV}(hx:inJ js x=true)(h:Fj R x=some (y,R')):∀q,q ∉ js->A2 R' q=A2 R q:=by
 intro q b;have up:∀(j:Nat) (o:Obj),j∈js->A2 (ins j o R) q=A2 R q:=λj o a=>by rw[O4,Js (by grind)]
 cases x with
 |p x=>grind[Fj,Option.some.injEq,Prod.mk.injEq]
 |vec j=>
  have a:j∈js:=by grind[inJ]
  grind[Fj,Option.some.injEq,Prod.mk.injEq]
 |vecp j m=>
  have a:j∈js:=by grind[inJ]
  grind[Fj,Option.some.injEq,Prod.mk.injEq]
 |_=>cases hx
theorem Ab1 {js:List Nat}:∀{xs:List AV}{R R' : C6}{l:List PV},(xs.all λx=>inJ js x)=true->Hq R xs=some (l,R')->∀q,q ∉ js->A2 R' q=A2 R q
 |[],R,R',l,_,h,q,_=>by grind[Hq,Option.some.injEq,Prod.mk.injEq]
 |x::xs,R,R',l,hx,h,q,hq=>by
  simp only[Cm3,Ce2]at hx;simp only[Hq]at h;cases h1:Fj R x with
  |none=>grind
  |some p=>
   obtain⟨y,R1⟩:=p;simp only[h1]at h;cases a:Hq R1 xs with
   |none=>grind
   |some p=>obtain⟨l1,R2⟩:=p;simp only[a,Cd9,Cf2]at h;rw[<- h.2,Ab1 hx.2 a q hq,Xz hx.1 h1 q hq]
theorem Br5 {js:List Nat}{env:Env}{R R' : C6}{d:Nat}{o:Op}{c:List Prop}{v:AV}(a:isB js env d o=true)(h:aop P env R d o=some ⟨c,v,R'⟩):∀q,q ∉ js->A2 R' q=A2 R q:=by
 intro q b;cases o with
 |buildSlice t n parts=>
  simp only[isB,Ce2]at a;have f:nid d 0∈js:=by simpa using a.1
  have up:∀(R1:C6) (o:Obj),A2 (ins (nid d 0) o R1) q=A2 R1 q:=λR1 o=>by rw[O4,Js (by rintro rfl;exact b f)]
  simp only[aop]at h;split at h
  .split at h
   .split at h
    .split at h
     .simp only[Cd9,Out.mk.injEq]at h;rw[<- h.2.2];exact up _ _
     cases h
    cases h
   cases h
  split at h
  .split at h
   .rename_i g _ _;split at h
    .simp only[Cd9,Out.mk.injEq]at h;rw[<- h.2.2,up];exact Ab1 (by simpa[Cn3,Cj9]using a.2) g q b
    cases h
   cases h
  cases h
 |_=>cases a
theorem VH {cl:Cls}{env:Env}{R R' : C6}{d:Nat}{o:Op}{c:List Prop}{v:AV}(f:Aa9 cl env d o=true)(h:aop P env R d o=some ⟨c,v,R'⟩):clsF cl (isN env o=true) (R' = R)/\clsX P cl env R d o c v R':=by
 cases cl with
 |n=>exact⟨f,trivial⟩
 |r=>exact⟨Br0 f h,trivial⟩
 |w=>exact⟨trivial,trivial⟩
 |l j=>obtain⟨h1,g⟩:=Br3 f h;exact⟨trivial,λq=>by rw[h1],by grind⟩
 |a j=>exact⟨trivial,Br4 f h⟩
 |b j=>exact⟨trivial,Br5 f h⟩
variable {kn:List Nat}{all:List Oper}{k:Env->C6->Prop}
theorem RK:∀(cls:List Cls) (rest:List Oper) (c:List Prop) (env:Env) (Uu:C6),D2 (Uc P kn all cls rest c env Uu).conds ->
 D2 c/\(MU S P all (Uc P kn all cls rest c env Uu).cls (Uc P kn all cls rest c env Uu).rest (Uc P kn all cls rest c env Uu).env (Uc P kn all cls rest c env Uu).Uu k->MU S P all cls rest env Uu k)
 |[],[],c,env,Uu,h=>⟨h,λh=>h⟩
 |[],_::_,c,env,Uu,h=>⟨h,λh=>h⟩
 |_::_,[],c,env,Uu,h=>⟨h,λh=>h⟩
 |cl::cls,o::rest,c,env,Uu,h=>by
  simp only[Uc]at h⊢;cases g:BV3 kn all env o with
  |true=>grind
  |false=>
  simp only[g]at h⊢;cases a:AN all env o with
  |none=>grind
  |some b=>
   cases b with
   |true=>
    simp only[a]at h⊢;cases ha:(BR1 o.op&&Aa9 cl env (o.dst.getD 0) o.op)with
    |false=>grind
    |true=>
     simp only[ha]at h⊢;simp at ha;cases hp:aop P env Uu (o.dst.getD 0) o.op with
     |none=>grind
     |some q=>
      obtain⟨p,v,regs'⟩:=q;simp only[hp,AK8,BH0,BT6]at h⊢;have fin:∀(env' : Env),env' = QZ o.dst v env->(D2 (p++c)/\(MU S P all (Uc P kn all cls rest (p++c) env' regs').cls (Uc P kn all cls rest (p++c) env' regs').rest (Uc P kn all cls rest (p++c) env' regs').env (Uc P kn all cls rest (p++c) env' regs').Uu k->MU S P all cls rest env' regs' k)) ->
       D2 c/\(MU S P all (Uc P kn all cls rest (p++c) env' regs').cls (Uc P kn all cls rest (p++c) env' regs').rest (Uc P kn all cls rest (p++c) env' regs').env (Uc P kn all cls rest (p++c) env' regs').Uu k->MU S P all (cl::cls) (o::rest) env Uu k):=by
       rintro env' rfl ⟨h1,i⟩;obtain⟨j,l⟩:=(FQ _ _).1 h1;exact⟨j,λhs=>⟨true,a,by rw[Jk rfl];exact⟨v,regs', .inl ⟨p,hp,l,VH ha.2 hp⟩,i hs⟩⟩⟩
      cases f:o.dst with
      |some d=>simp only[f,Mo]at h⊢;exact fin _ (by grind[QZ]) (RK cls rest _ _ _ h)
      |none=>simp only[f]at h⊢;exact fin _ (by grind[QZ]) (RK cls rest _ _ _ h)
   |false=>
    simp only[a]at h⊢;cases f:o.dst with
    |some d=>simp only[f,Mo]at h⊢;obtain⟨h1,i⟩:=RK cls rest _ _ _ h;exact⟨h1,λhs=>⟨false,a,by simp_all[Ce4,Lp,QZ]⟩⟩
    |none=>simp only[f]at h⊢;obtain⟨h1,i⟩:=RK cls rest _ _ _ h;exact⟨h1,λhs=>⟨false,a,by simp_all[Ce4,Lp,QZ]⟩⟩
theorem s_go {cls cls' : List Cls}{rest rest' : List Oper}{c:List Prop}{env env' : Env}{Uu regs' : C6}(h:Uc P kn all cls rest [] env Uu=⟨c,cls',rest',env',regs'⟩)(hc:D2 c)(hk:MU S P all cls' rest' env' regs' k):MU S P all cls rest env Uu k:=by
 have:=RK (S:=S) (kn:=kn) (k:=k) cls rest [] env Uu (by rw[h];omega)
 rw[h]at this
 grind
theorem s_end {cls:List Cls}{env:Env}{Uu:C6}(h:k env Uu):MU S P all cls [] env Uu k:=by cases cls<;>exact h
theorem AE4 {cl:Cls}{cls:List Cls}{o:Oper}{rest:List Oper}{env:Env}{Uu regs' : C6}{c:List Prop}{v:AV}(b:AN all env o=some true)(ha:aop P env Uu (o.dst.getD 0) o.op=some ⟨c,v,regs'⟩)(hc:D2 c)
 (a:Aa9 cl env (o.dst.getD 0) o.op=true) (hk:MU S P all cls rest (QZ o.dst v env) regs' k):MU S P all (cl::cls) (o::rest) env Uu k:=
 ⟨true,b,by rw[Jk rfl];exact⟨v,regs', .inl ⟨c,ha,hc,VH a ha⟩,hk⟩⟩
theorem BV4 {cl:Cls}{cls:List Cls}{o:Oper}{rest:List Oper}{env:Env}{Uu:C6}{c:Call}{f:Operand}{fn:FuncId}{as' args:List AV}{r:AV}(a:AN all env o=some true)(b:o.op=.call c)(d:c.callee=.value f)
 (ha:((c.args.toList.map (aev env)).all Ba9)=true) (hw:Zt env f (c.args.toList.map (aev env))=some (fn,as')) (g:Fc [] as' = some args) (i:ZH S fn args r)
 (hk:MU S P all cls rest (QZ o.dst (unA [] r) env) Uu k):MU S P all (cl::cls) (o::rest) env Uu k:=
 ⟨true,a,by rw[Jk rfl];exact⟨_,Uu,.inr (.inl ⟨⟨c,f,fn,as',args,r,b,d,ha,hw,g,i,rfl⟩,rfl⟩),hk⟩⟩
theorem KS {m:List Nat}:∀{ids:List Nat}{objs:List Obj}{R:C6}{q:Nat},q ∉ ids->A2 (back m ids objs R) q=A2 R q
 |[],_,R,q,_=>rfl
 |j::ids,[],R,q,_=>rfl
 |j::ids,o::objs,R,q,h=>by simp at h;show A2 (back m ids objs (ins j (unO m o) R)) q=_;rw[KS h.2,O4,Js (Cl4 h.1)]
theorem Bb4 {cl:Cls}{cls:List Cls}{o:Oper}{rest:List Oper}{env:Env}{Uu regs1:C6}{c:Call}{f:Operand}{as:List AV}{fn:FuncId}{as' args:List AV}{objs objs' : List Obj}{ks:List Bool}{r:AV}(ids:List Nat)(a:cl=.w \/ ∃js,cl=.b js/\∀q,q ∉ js->A2 (back (I3 (o.dst.getD 0) ids ks objs'.length) (I3 (o.dst.getD 0) ids ks objs'.length) objs' (K9 ids ks regs1)) q=A2 Uu q)(g:AN all env o=some true)(i:o.op=.call c)(j:c.callee=.value f)
 (ha:Jt Uu (c.args.toList.map (aev env))=some (as,regs1)) (hw:Zt env f as=some (fn,as')) (l:Fc ids as' = some args) (d:M9 ids regs1 ids=some objs) (m:Uw S fn args objs r objs' ks)
 (n:I5 ids=true) (hy:GM objs=true) (hn:Z6 regs1 ids ks (o.dst.getD 0) objs'.length=true)
 (hk:MU S P all cls rest (QZ o.dst (unA (I3 (o.dst.getD 0) ids ks objs'.length) r) env) (back (I3 (o.dst.getD 0) ids ks objs'.length) (I3 (o.dst.getD 0) ids ks objs'.length) objs' (K9 ids ks regs1)) k) :
 MU S P all (cl::cls) (o::rest) env Uu k:=
 ⟨true,g,by rw[Jk rfl];exact⟨_,_,.inr (.inr (.inl ⟨a,c,f,as,regs1,fn,as',args,objs,objs',ks,r,ids,i,j,ha,hw,l,d,m,n,hy,hn,rfl,rfl⟩)),hk⟩⟩
theorem Br6 {cl:Cls}{cls:List Cls}{o:Oper}{rest:List Oper}{env:Env}{Uu:C6}{c:List Prop}{x:PV}(a:AN all env o=some true)(ha:Zr P env o.op=some (c,x))(hc:D2 c)
 (hk:MU S P all cls rest (QZ o.dst (.p x) env) Uu k):MU S P all (cl::cls) (o::rest) env Uu k:=
 ⟨true,a,by rw[Jk rfl];exact⟨_,Uu,.inr (by grind),hk⟩⟩
def Cc5 (o:Op):Cls:=match o with
 |.buildSlice ..=>.n
 |o=>clsOf o
theorem Br7 (hS:H3 S P){F:M0}{K:List It}{id:Nat}{ops:Array Oper}{st:St}{cls:List Cls}(a:P.follows .mixedOrders=true)(c:ops.toList.map (λo=>Cc5 o.op)=cls)(b:PE ops.toList cls=true)
 (h:MU S P ops.toList cls ops.toList st.env st.Uu λenv Uu=>G S P F (.pop .normal K ⟨env,Uu⟩)):G S P F (.code (.region id ops true) K st):=
 AE1 hS cls a b h
end
section
variable {S:X4}{P:Program}{F:M0}{K:List It}{st:St}
def OJ (hS:H3 S P){f:FuncId}{fn:Func}{code:Code}{args:List AV}{objs:List Obj}{Q:ARes->List Obj->List Bool->Prop}{rs:List ResultVar}(d:P.funcs[f]? = some fn)(hc:fn.body=some code)(hn:args.length<=fn.ntmps)(g:objs.length<1000)
 (a:fn.results.toList=rs) (b:BV fn.ntmps code=true) (c:(fn.name == "runtime.NumGoroutine")=false)
 (h:G S P (Fk S P objs.length rs Q) (.code code [] { env:=Yl args,Uu:=Uv objs })):S.F f args objs Q:=by
 subst a;exact hS.func f fn code args objs _ d hc c b hn g (hS.refl _ _ h)
theorem BJ3 (hS:H3 S P){all rest:List Oper}{o:Oper}{c:Call}{f:Operand}{j:Nat}{xs ys:List PV}{Uu:C6}{rest0:List (List PV)}
 (i:BW all st.env o=some true) (l:o.op=.call c) (d:c.callee=.value f) (hy:aev st.env f=.yf j) (g:Hq st.Uu (c.args.toList.map (aev st.env))=some (xs,Uu))
 (m:A2 Uu j=some (.yld (ys::rest0) true)) (a:Ie j Uu=true) (hle:BG8 xs ys)
 (hk:∀b:Bool,G S P F (.ops all rest K (put { st with Uu:=ins j (.yld (ite b rest0 []) b) Uu } o.dst (.p (.bb b))))):G S P F (.ops all (o::rest) K st):=by
 refine BX hS i ?_;unfold wOp;obtain⟨callee,cargs,types⟩:=c;simp only at d g;subst d;rw[l];exact .inr ⟨j,xs,Uu,ys,rest0,hy,g,m,a,hle,hk⟩
def Br8 (hS:H3 S P){all rest:List Oper}{o:Oper}{c:Call}{rv:Operand}{m:String}{as:List AV}{Uu:C6}{t:TypeId}{y:PV}{fn:FuncId}{args:List AV}{r:AV}
 (d:BW all st.env o=some true) (f:o.op=.call c) (b:c.callee=.invoke rv m) (ha:Jt st.Uu (c.args.toList.map (aev st.env))=some (as,Uu)) (a:aev st.env rv=.p (.iface t y)) (hm:ZC P t m=some fn)
 (g:Fc [] (.p y::as)=some args) (i:ZH S fn args r)
 (hk:G S P F (.ops all rest K (put { env:=st.env,Uu:=Uu } o.dst (unA [] r)))):G S P F (.ops all (o::rest) K st):=by
 refine BX hS d ?_;unfold wOp;obtain⟨callee,cargs,types⟩:=c;simp only at b ha;subst b;rw[f];refine⟨as,Uu,t,y,fn,ha,a,hm,[],args,[],rfl,g,rfl,rfl,hS.monoF _ _ _ _ _ ?_ i⟩;rintro _ _ _ ⟨rfl,rfl,rfl⟩;exact⟨rfl,hk⟩
def BJ4 (hS:H3 S P){all rest:List Oper}{o:Oper}{x:Operand}{t:TypeId}{y:PV}(a:BW all st.env o=some true)(b:o.op=.panic x)(hx:aev st.env x=.p (.iface t y))(hk:G S P F (.pop (.panic (.iface t y)) K st)):G S P F (.ops all (o::rest) K st):=by refine BX hS a ?_;unfold wOp;rw[b];exact⟨t,y,hx,hk⟩
def FY (S:X4)(f:FuncId)(first caps:List AV)(objs:List Obj)(L:List (List PV)):Prop:= S.F f (first ++ .yf objs.length::caps) (objs++[.yld L true]) λr objs' ks=>∃b,objs'[objs.length]? = some (.yld [] b)/\ks[objs.length]? = some true/\∃a,r=.ret a
def Dq (S:X4)(P:Program)(body:Code)(gh:Nat)(ts:List Nat)(next:St->Prop)(Q:M0):M0
 |.normal,s=>S.up s λs=>awp S P body (Hd S gh ts next Q) s
 |_,_=>False
def G_asg (hS:H3 S P){body:Code}{gh:Nat}{ts:List Nat}{next:St->Prop}{Q:M0}(h:G S P (Hd S gh ts next Q) (.code body [] st)):G S P (Dq S P body gh ts next Q) (.pop .normal [] st):=
 hS.refl _ _ h
def Br9 {X:Type}(s:X->St)(J:List (List PV)->X->Prop)(rest:List (List PV))(t:St):Prop:=∃x,t=s x/\J rest x
def Bb5 (hS:H3 S P){g:Operand}{ps:Array Tmp}{asg body:Code}{f:FuncId}{first caps as bs:List AV}{objs:List Obj}(ids ts:List Nat)(gh:Nat)(L:List (List PV)){X:Type}(s:X->St)(J:List (List PV)->X->Prop)(x0:X)(idl:List (Nat×Nat))
 (hp:Hc st.env g=some (f,first,caps)) (m:∃fn,P.funcs[f]? = some fn/\fn.body.isSome=true/\(fn.name == "runtime.NumGoroutine")=false) (n:M9 ids st.Uu ids=some objs) (q:GM objs=true) (hd:I5 ids=true) (t:Fc ids first=some as) (u:Fc ids caps=some bs) (v:objs.length=ids.length)
 (w:gh<1000) (y:A2 st.Uu gh=none) (z:ids.length<1000) (a0:I5 ts=true) (d:∀ys∈L,ys.length=ps.size)
 (hF:FY S f as bs objs L) (hle:Le idl ⟨AK ts (ts.map (get st.env)),K9 ids (ids.map λ_=>false) st.Uu⟩ (s x0)) (h0:J L x0) (hk:∀x,(s x).env.map (·.1)=ts) (hn:∀x,A2 (s x).Uu gh=none)
 (c:∀ys rest x,J (ys::rest) x->G S P (Dq S P body gh ts (Br9 s J rest) (kp S P K F)) (.code asg [] ⟨MX ps.toList ys (s x).env,ins gh (.ghost ((s x).env.map (·.2))) (s x).Uu⟩))
 (i:∀x,J [] x->G S P F (.pop .normal K (s x))):G S P F (.code (.rangeFunc g ps asg body) K st):=by
 have j:∀{l:List Nat},I5 l=true->l.Nodup:=by
  intro l
  induction l with
  |nil=>intro _;exact Co5
  |cons a r ih=>intro h;simp only[I5,Ce2,Cf6,Ch6,decide_eq_false_iff_not]at h;exact Cj6.2 ⟨h.1,ih h.2⟩
 refine⟨f,first,caps,as,bs,objs,ids,ts,gh,L,Br9 s J,λ_ r=>∃a,r=.ret a,hp,m,q,hd,t,u,n,w,y,z,j a0,d,hS.le idl _ _ _ hle ⟨hk x0,hn x0,x0,rfl,h0⟩,?_,?_,?_⟩
 .rintro ys rest _ _ _ ⟨x,rfl,hJ⟩;have h:=c ys rest x hJ;have e:Dq S P body gh ts (Br9 s J rest) (kp S P K F)=λe s'=>match e with
   |.normal=>S.up s' λs'=>awp S P body (Hd S gh ts (Br9 s J rest) (kp S P K F)) s'
   |_=>False:=by funext e s';cases e<;>rfl
  rw[e]at h;exact h
 .rintro _ r _ _ ⟨x,rfl,hJ⟩ ⟨a,rfl⟩;exact i x hJ
 rw[<- v];refine hS.monoF _ _ _ _ _ ?_ hF;rintro r o ks ⟨b,h1,h2,h3⟩;exact⟨b,h1,h2,h3,λ_=>h3⟩
def Aq4 (hS:H3 S P){gh:Nat}{ts:List Nat}{X:Type}{s:X->St}{J:List (List PV)->X->Prop}{rest:List (List PV)}{Q:M0}(st1:St){cs:List AV}(x:X)(idl:List (Nat×Nat))(hle:Le idl st st1)(a:A2 st1.Uu gh=some (.ghost cs))(hl:cs.length=ts.length)(b:A2 (del gh st1.Uu) gh=none)
 (c:(⟨AK ts cs,del gh st1.Uu⟩:St)=s x) (d:J rest x):G S P (Hd S gh ts (Br9 s J rest) Q) (.pop .normal [] st):=
 hS.le idl _ _ _ hle ⟨cs,a,hl,b,x,c,d⟩
def AE5 (hS:H3 S P){gh:Nat}{ts:List Nat}{next:St->Prop}{e:Rk}(c:match e with | .normal | .panic _=>False|_=>True)(st1:St){cs:List AV}(idl:List (Nat×Nat))(hle:Le idl st st1)(a:A2 st1.Uu gh=some (.ghost cs))(hl:cs.length=ts.length)(b:A2 (del gh st1.Uu) gh=none)
 (hk:G S P F (.pop e K ⟨AK ts cs,del gh st1.Uu⟩)):G S P (Hd S gh ts next (kp S P K F)) (.pop e [] st):=by
 cases e with
 |normal=>grind
 |panic x=>grind
 |exit id=>exact hS.le idl _ _ _ hle ⟨cs,a,hl,b,hk⟩
 |goto t=>exact hS.le idl _ _ _ hle ⟨cs,a,hl,b,hk⟩
 |ret=>exact hS.le idl _ _ _ hle ⟨cs,a,hl,b,hk⟩
end
theorem Nm {n:Nat}(h:n<2 ^ 32):IntKind.u32.wrap (n:Int)=n:=by have h1:((n:Int) % (2 ^ 32:Int))=n:=Int.emod_eq_of_lt (by omega) (by omega);unfold IntKind.wrap;simp only[IntKind.bits,IntKind.signed,h1,Cm6,Ce4,Lp]
abbrev u32 (x:BitVec 32):PV:=.v (.int .u32 x.toNat)
theorem DU (x:BitVec 32):BitVec.ofInt 32 (x.toNat:Int)=x:=by
 apply Cg7;rw[BitVec.toNat_ofInt]
 have:=x.isLt
 omega
def DV (x y:BitVec 32):F3 .and .u32 x.toNat y.toNat=((x &&& y).toNat:Int):=by simp only[F3,IntKind.bits,DU];exact Nm (x &&& y).isLt
def IZ (x y:BitVec 32):F3 .or .u32 x.toNat y.toNat=((x ||| y).toNat:Int):=by simp only[F3,IntKind.bits,DU];exact Nm (x ||| y).isLt
def Db (x y:BitVec 32):F3 .andNot .u32 x.toNat y.toNat=((x &&& ~~~ y).toNat:Int):=by simp only[F3,IntKind.bits,DU];exact Nm (x &&& ~~~ y).isLt
def Bb6 (x:BitVec 32)(n:Nat):shI .shr .u32 x.toNat n=((x >>> n).toNat:Int):=by
 simp only[shI,IntKind.bits,Int.toNat_natCast];have hx:=x.isLt;rw[Cn0,Cm7];have e:((2:Int) ^ (min n 32))=((2 ^ (min n 32):Nat):Int):=by norm_cast
 rw[e,Cr7 _ (Cv4 _),<- Int.natCast_ediv];congr 1;by_cases h:n<=32
 .rw[Ck8 h]
 rw[Cr0 (by omega),Cl8 hx,Cl8];exact Cf5 hx (Cm9 (by omega) (by omega))
def BC8 (x:BitVec 32)(n:Nat):shI .shl .u32 x.toNat n=((x <<< n).toNat:Int):=by
 simp only[shI,IntKind.bits,Int.toNat_natCast];rw[Cq5,Ct3];unfold IntKind.wrap;simp only[IntKind.bits,IntKind.signed,Cm6,Ce4,Lp];by_cases h:n<=32
 .rw[Ck8 h]
  norm_cast
 rw[Cr0 (by omega)];have h1:x.toNat*2 ^ n % 2 ^ 32=0:=by obtain⟨d,rfl⟩:∃d,n=32+d:=⟨n-32,by omega⟩;rw[Nat.pow_add,<- Nat.mul_assoc,Nat.mul_right_comm,Nat.mul_mod_left]
 have a:x.toNat*2 ^ 32 % 2 ^ 32=0:=Nat.mul_mod_left _ _;rw[h1];simp
abbrev snd (p m:BitVec 32):PV:=.agg [u32 p,u32 m]
def LB {P:Program}{f:FuncId}{args:List PV}{r:AV}(a:∀as w,(callFunc f as).run P w=.ok (.enter f as) w)
 (h:∀(w:World) (Pi:Nat->Nat->Prop) (vs:Array Value),TabE P w Pi (λ_=>False)->(∀b off,Pi b off->b<w.heap.size)->vs.size=args.length->(∀i,i<args.length->Uy w Pi (vs.getD i undef) (args.getD i default)) ->
  Calls P f vs w λe w'=>∃v,e=.returned v/\RowKit.Below w.heap.size w w' /\ ∀live rho,Yj w' Pi live rho v r):ZH (Ia P) f (args.map .p) r:=by
 intro 𝒢 C w vs rho g hs l;have m:=h w (Prv C.X (A2 (Uv [])) rho) vs ((𝒢.tab C g).keeps hs.keep hs.same (E':=λ_=>False) λ_ _ n=>n.elim) (λb off hp=>by
  rcases hp with hp|⟨j,o,q,_⟩
  .exact hs.hp.bound b off hp
  grind[Uv,Uv.go,A2]) (by grind) (λi x=>by
  have:=hs.env i
  rw[Da]at this;have e:(args.map AV.p).getD i .top=.p (args.getD i default):=by grind
  rw[e]at this;exact this.toP)
 refine⟨_,_,a _ _,callsIn_wide.2 (m.mono ?_)⟩;rintro e w' ⟨v,rfl,hb,s⟩;have hk:Ux w (Prv C.X (A2 (Uv [])) rho) w' (Prv C.X (A2 (Uv [])) rho):=λb o v hp hc=>⟨by rw[<- hc];exact Cg5 (hb.block b (Cj2 w ⟨b,o,none⟩ hc)),hp⟩
 refine⟨C,.ret r,[],[],rho,g,⟨rfl,rfl,rfl⟩,?_,⟨v,rfl,s _ _⟩,by grind⟩;have t:∀j,A2 (Uv []) j=none:=λj=>by simp[Uv,Uv.go,A2]
 refine⟨⟨by grind,by grind,by grind,λb off hp=>Cf5 (hs.hp.bound b off hp) hb.size⟩,hs.ext.trans ⟨hb.os,hb.output⟩,Ch9 hs.size hb.size,λb c u=>?_,hs.keep.trans hk,λb d=>?_,by grind⟩
 .rw[hb.block b (Cf5 c hs.size)];exact hs.same b c u
 obtain⟨j,o,q,_⟩:=d;grind
def LC {P:Program}{f:FuncId}{args:List PV}{r:AV}(a:∀as w,(callFunc f as).run P w=.ok (.enter f as) w)
 (h:∀(w:World) (Pi:Nat->Nat->Prop) (vs:Array Value),TabOk P w Pi->(∀b off,Pi b off->b<w.heap.size)->vs.size=args.length->(∀i,i<args.length->Uy w Pi (vs.getD i undef) (args.getD i default)) ->
  Calls P f vs w λe w'=>∃v,e=.returned v/\RowKit.Below w.heap.size w w' /\ ∀live rho,Yj w' Pi live rho v r):ZH (Ia P) f (args.map .p) r:=
 LB a λw Pi vs c=>h w Pi vs c.1
def Im {P:Program}{f:FuncId}{args:List PV}{r:AV}(a:∀as w,(callFunc f as).run P w=.ok (.enter f as) w)
 (h:∀(w:World) (Pi:Nat->Nat->Prop) (vs:Array Value),(∀b off,Pi b off->b<w.heap.size)->vs.size=args.length->(∀i,i<args.length->Uy w Pi (vs.getD i undef) (args.getD i default)) ->
  Calls P f vs w λe w'=>∃v,e=.returned v/\RowKit.Below w.heap.size w w' /\ ∀live rho,Yj w' Pi live rho v r):ZH (Ia P) f (args.map .p) r:=
 LC a λw Pi vs _=>h w Pi vs
open Go.RowKit Go.ChangeShapes
def Cc6 (W:World):Ctx:={ X:=λ_ _=>False,w0:=W,E0:=λ_=>False,Pi0:=λ_ _=>False,rho0:=λ_=>undef,Y:=λ_ _=>False,yv:=undef }
def BJ5 {W:World}{vs:Array Value}{args:List PV}(c:vs.size=args.length)(d:∀i,i<args.length->Uy W (λ_ _=>False) (vs.getD i undef) (args.getD i default)) :Sat (Cc6 W) ⟨Yl (args.map .p),Uv []⟩ ⟨vs,[]⟩ W (λ_=>undef):=by
 have f:∀j,A2 (Uv []) j=none:=λj=>by simp[Uv,Uv.go,A2]
 have a:∀b o,¬Prv (Cc6 W).X (A2 (Uv [])) (λ_=>undef) b o:=λb o h=>by
  rcases h with h|⟨j,o',g,_⟩
  .exact h
  grind
 refine⟨⟨⟨by grind,by grind,by grind,λb off hp=>hp.elim⟩,Ext.refl _,Ce5 _,λ_ _ _=>rfl,λb o v _ hc=>⟨hc,a b o⟩,λb hb=>?_,by grind⟩,λt=>?_,λj _ hl=>?_,Co5,by grind⟩
 .obtain⟨j,o,g,_⟩:=hb;grind
 .show Yj W _ _ _ (vs.getD t undef) (get (Yl (args.map .p)) t);rw[Da];by_cases ht:t<args.length
  .have e:(args.map AV.p).getD t .top=.p (args.getD t default):=by grind
   rw[e];exact .p _ _ ((d t ht).keeps λb o v _ hc=>⟨hc,a b o⟩)
  have e:(args.map AV.p).getD t .top=.top:=by grind
  rw[e];exact .top _
 obtain⟨o,l⟩:=hl
structure BV5 (W w' : World):Prop where
 os:w'.os=W.os
 output:w'.output=W.output
 size:W.heap.size<=w'.heap.size
 block:∀b,b<W.heap.size->w'.heap[b]? = W.heap[b]?
def Xc {P:Program}{f:FuncId}{args:List PV}(a:∀as w,(callFunc f as).run P w=.ok (.enter f as) w)(h:ZH (Ia P) f (args.map .p) (.p (.bb true)))
 {W:World}{vs:Array Value}(g:TabE P W (λ_ _=>False) (λ_=>False)) (d:vs.size=args.length) (j:∀i,i<args.length->Uy W (λ_ _=>False) (vs.getD i undef) (args.getD i default)) :
 Calls P f vs W λe w'=>e=.returned (.bool true)/\BV5 W w':=by
 obtain⟨nx,w1,h1,l⟩:=h (Prot.triv P (Cc6 W) (λ_ _ h=>h) g) (Cc6 W) W vs _ rfl (BJ5 d j) (by grind);rw[a]at h1;cases h1;refine (callsIn_wide.1 l).mono ?_;rintro e w' ⟨C',r,objs',ks,rho',rfl,⟨rfl,rfl,rfl⟩,c,⟨v,rfl,m⟩,_⟩;cases m with
 |p _ _ hp=>cases hp;exact⟨rfl,c.ext.1,c.ext.2,c.size,λb hb=>c.same b hb λh=>h⟩
section
variable {H:Type}{enc:TypeId×Value->H}{P:Program}
def Bs0 {W w' : World}(h:BV5 W w')(may:MemPlace->Prop):W.keptBut w' may:=by
 refine⟨h.os,h.output,λi a=>?_⟩;rw[h.block i a]
 grind
theorem Bb7 {W w' : World}(h:BV5 W w'){p:MemPlace}(hp:p.block<W.heap.size):W.sameAt w' p:=by have hb:RowKit.Below W.heap.size W { w' with tape:=W.tape }:=⟨h.os,rfl,h.output,h.size,λk hk=>h.block k hk⟩;exact hb.same hp
theorem PG {W w' : World}(hk:BV5 W w')(hl:laidOutB P=true){sp:Nat->Bool}:∀{ts:List TypeId}{vs:List Value}{ds:List (DataW H)}{ps:List MemPlace},(∀t∈ts,P.readableRec t=true/\t<P.types.size) ->
 (∀p∈ps,p.block<W.heap.size)->(∀p∈ps,sp p.block=true)->DataW.TrodAll enc P W 0 (λ_=>true) true ts vs ds ps->DataW.TrodAll enc P w' 0 sp true ts vs ds ps
 |[],[],[],_,_,_,_,h=>h
 |t::ts,v::vs,d::ds,_,hr,hlt,hs,⟨p,q,h1,h2,e⟩=>by
  subst e;refine⟨p,q,?_,PG hk hl (by grind) (by grind) (by grind) h2,rfl⟩
  grind[WideElems.Trod_stays,Bb7,List.mem_append_left]
def Bn8 {f:Func}{s:ChangeSpec}{tb:TypeId}{W W' : World}{args:Array Value}{ds gs:List (DataW H)}{before:List MemPlace}(a:s.vars=[])(hres:f.resultTypes = #[tb])(g:P.underlying tb=some .bool)(hl:laidOutB P=true)
 (i:∀t∈f.params.toList,P.readableRec t=true/\t<P.types.size) (j:DataW.Whole enc P f.params.toList s.vars false W args.toList ds gs before)
 (c:s.fn H ds={ results:=[.lit (.bool true)],args:=ds,vars:=[] }) (hk:BV5 W W'):s.post enc P f false true false false W args (.bool true) W':=by
 have l:∀p∈before,p.block<W.heap.size:=λp hp=>j.lt p hp;have d:=j;obtain⟨p,q,u,n,rfl,v,hn⟩:=j;rw[a]at n;obtain⟨rfl,rfl⟩:=trodVars_none n;simp at l d;have r : ∀sp:Nat->Bool,(∀x∈p,sp x.block=true)->DataW.TrodAll enc P W' 0 sp true f.params.toList args.toList (s.fn H (ds++[])).args p:=λsp hsp=>by rw[Cg4,c];grind[PG]
 have hR:∀(b:Nat) (sp:Nat->Bool) (o:Bool),DataW.TrodAll enc P W' b sp o f.resultTypes.toList ((Value.bool true).resultList f.resultTypes.size) (s.fn H (ds++[])).results []:=λb sp o=>by rw[Cg4,c,hres];exact⟨[],[],shut_bool g _,rfl,rfl⟩
 have m : ∀sp:Nat->Bool,DataW.TrodVars enc P W' sp s.vars (s.fn H (ds++[])).vars []:=λsp=>by rw[Cg4,c,a];rfl
 refine⟨ds,[],p,[],p,[],d,hR _ _ _,by grind,m _,Bs0 hk _,λ_=>?_⟩;refine (by grind)
 all_goals grind
end
open Go.RowKit Go.ChangeShapes Go.Deep
def An5 (l:List Nat):Nat:=l.foldr (· + ·) 0
theorem Ab2 (a:Nat)(l:List Nat):An5 (a::l)=a+An5 l:=rfl
structure Bulk {H:Type}(B:DataW H->Nat):Prop where
 int:∀k n,1<=B (.lit (.int k n))
 bool:∀b,1<=B (.lit (.bool b))
 str:∀l,l.length+1<=B (.lit (.string l))
 nil:1<=B .nil
 slice:∀es sp,An5 (es.map B)+1<=B (.slice es sp)
 agg:∀ps,An5 (ps.map B)+1<=B (.agg ps)
mutual
inductive Mw (P:Program):Nat->TypeId->List PV->Prop
 |int {m:Nat}{t:TypeId}{k:IntKind}{n:Int}(ht:P.underlying t=some (.int k)) (hw:(Lit.int k n).wf=true) (hm:1<=m):Mw P m t [.v (.int k n)]
 |bool {m:Nat}{t:TypeId}{b:Bool}(ht:P.underlying t=some .bool) (hm:1<=m):Mw P m t [.bb b]
 |str {m:Nat}{t:TypeId}{l:List UInt8}(ht:P.underlying t=some .string) (hm:l.length+1<=m):Mw P m t [.str l]
 |slice {m:Nat}{t e:TypeId}{n:Nat}{f:Nat->List PV}(ms:Nat->Nat) (ht:P.underlying t=some (.slice e)) (hl:∀i,i<n->(f i).length=P.cellsOf e) (h:∀i,i<n->Mw P (ms i) e (f i))
  (hm:An5 ((List.range n).map ms)+1<=m):Mw P m t [.sl false (P.cellsOf e) n f]
 |arr {m m' : Nat}{t e:TypeId}{n:Nat}{pvs:List PV}(ht:P.underlying t=some (.array n e)) (h:JB P m (List.replicate n e) pvs) (hm:m+1<=m'):Mw P m' t pvs
 |struct {m m' : Nat}{t:TypeId}{fs:Array Field}{pvs:List PV}(ht:P.underlying t=some (.struct fs)) (h:JB P m (fs.toList.map (·.type)) pvs) (hm:m+1<=m'):Mw P m' t pvs
inductive JB (P:Program):Nat->List TypeId->List PV->Prop
 |nil {m:Nat}:JB P m [] []
 |cons {a b m:Nat}{t:TypeId}{ts:List TypeId}{p q:List PV}(h:Mw P a t p) (h' : JB P b ts q) (hm:a+b<=m):JB P m (t::ts) (p++q)
end
def CRep (W:World)(cs:List Value)(pvs:List PV):Prop:= cs.length=pvs.length/\∀i,i<pvs.length->Uy W (λ_ _=>False) (cs.getD i undef) (pvs.getD i default)/\(cs.getD i undef).oneCell' = true
def Ab3 {α : Type}(a b:List α)(d : α){i:Nat}(h:i<a.length):(a++b).getD i d=a.getD i d:=by
 grind
def Ab4 {α : Type}(a b:List α)(d : α){i:Nat}(h:a.length<=i):(a++b).getD i d=b.getD (i-a.length) d:=by
 grind
def CRep.append {W:World}{a b:List Value}{p q:List PV}(h:CRep W a p)(h' : CRep W b q):CRep W (a++b) (p++q):=by
 refine⟨by simp[h.1,h'.1],λi f=>?_⟩;by_cases c:i<p.length
 .rw[Ab3 _ _ _ (by rw[h.1];omega),Ab3 _ _ _ c];exact h.2 i c
 have d : i-p.length<q.length:=by grind
 rw[Ab4 _ _ _ (by rw[h.1];omega),Ab4 _ _ _ (by omega),h.1];exact h'.2 _ d
def CRep.one {W:World}{v:Value}{x:PV}(h:Uy W (λ_ _=>False) v x)(h1:v.oneCell' = true):CRep W [v] [x]:=by
 refine⟨rfl,λi a=>?_⟩
 grind
def BB2 (P:Program)(T:List TypeId):Bool:=T.all λt=>match P.underlying t with
 |some (.int _)|some .bool|some .string=>true
 |some (.slice e)=>T.contains e&&decide (0<P.cellsOf e)
 |some (.array _ e)=>T.contains e
 |some (.struct fs)=>fs.toList.all λf=>T.contains f.type
 |_=>false
section
variable {H:Type}{enc:TypeId×Value->H}{P:Program}{W:World}
def VJ {B:DataW H->Nat}{r:TypeId->List Value->Option (DataW H×List MemPlace)}(T:TypeId->Prop)
 (ih:∀t cs x,T t->r t cs=some x->∃pvs,CRep W cs pvs/\Mw P (B x.1) t pvs) :
 ∀(fs:List Field) (xs:List (DataW H×List MemPlace)) (cs:List Value) (base:Nat),(∀f∈fs,T f.type)->cs.length=(fs.map λf=>P.cellsOf f.type).sum ->
  (∀(j:Nat) f,fs[j]? = some f->f.offset=base+((fs.take j).map λf=>P.cellsOf f.type).sum)->xs.length=fs.length ->
  (∀(i:Nat) f,fs[i]? = some f->r f.type ((cs.drop (f.offset-base)).take (P.cellsOf f.type))=xs[i]?) ->
  ∃pvs,CRep W cs pvs/\JB P (An5 (xs.map λx=>B x.1)) (fs.map (·.type)) pvs
 |[],xs,cs,base,_,hl,_,hx,_=>by obtain rfl:xs=[]:=(by grind);obtain rfl:cs=[]:=(by grind);exact⟨[],⟨rfl,by grind⟩,.nil⟩
 |f::fs,xs,cs,base,hT,hl,ho,hx,hr=>by
  cases xs with
  |nil=>grind
  |cons x xs=>
   have l:=ho 0 f rfl;simp at l;have a:=hr 0 f rfl;rw[l,Nat.sub_self,Cr9]at a;obtain⟨p,hp,hs⟩:=ih _ _ _ (hT f (by simp)) a;simp at hl;obtain⟨q,m,c⟩:=VJ T ih fs xs (cs.drop (P.cellsOf f.type)) (base+P.cellsOf f.type) (by grind) (by grind)
    (λj g b=>by
     have:=ho (j+1) g (by simpa using b)
     grind) (by grind)
    (λi g b=>by
     have:=hr (i+1) g (by simpa using b)
     have d:=ho (i+1) g (by simpa using b);simp only[Cp7,Cf8,List.sum_cons]at d;rw[Cq8,show P.cellsOf f.type+(g.offset-(base+P.cellsOf f.type))=g.offset-base by omega]
     grind)
   refine⟨p++q,?_,.cons hs c (Ce5 _)⟩
   have:=hp.append m
   rwa [Cp1]at this
def AE6 {B:DataW H->Nat}{r:TypeId->List Value->Option (DataW H×List MemPlace)}{e:TypeId}(ih:∀cs x,r e cs=some x->∃pvs,CRep W cs pvs/\Mw P (B x.1) e pvs) :∀(n:Nat) (xs:List (DataW H×List MemPlace)) (cs:List Value),cs.length=n*P.cellsOf e->xs.length=n->(∀i,i<n->r e ((cs.drop (i*P.cellsOf e)).take (P.cellsOf e))=xs[i]?) ->
  ∃pvs,CRep W cs pvs/\JB P (An5 (xs.map λx=>B x.1)) (List.replicate n e) pvs
 |0,xs,cs,hl,hx,_=>by obtain rfl:xs=[]:=(by grind);obtain rfl:cs=[]:=(by grind);exact⟨[],⟨rfl,by omega⟩,.nil⟩
 |n+1,xs,cs,hl,hx,hr=>by
  cases xs with
  |nil=>grind
  |cons x xs=>
   have a:=hr 0 (by omega);rw[Nat.zero_mul,Cr9]at a;obtain⟨p,hp,hs⟩:=ih _ _ a;rw[Cq9]at hl;obtain⟨q,c,b⟩:=AE6 ih n xs (cs.drop (P.cellsOf e)) (by grind) (by grind) (λi d=>by
    have:=hr (i+1) (by omega)
    rw[Cq8,show P.cellsOf e+i*P.cellsOf e=(i+1)*P.cellsOf e by rw[Cq9];omega]
    grind)
   refine⟨p++q,?_,.cons hs b (Ce5 _)⟩
   have:=hp.append c
   rwa [Cp1]at this
def Vl (K:Kids P (· < P.types.size)){B:DataW H->Nat}(f:Bulk B){T:List TypeId}(hT:BB2 P T=true)(l:∀t∈T,t<P.types.size):∀(fuel:Nat) (t:TypeId) (cs:List Value) (x:DataW H×List MemPlace),t∈T ->
 DataW.trod enc P W 0 (λ_=>true) true fuel t cs=some x->∃pvs,CRep W cs pvs/\Mw P (B x.1) t pvs:=by
 intro fuel
 induction fuel with
 |zero=>simp_all[DataW.trod]
 |succ n ih=>
  intro t cs x ht h;have hp:=Ce8.1 hT t ht;cases c:P.underlying t with
  |none=>grind
  |some d=>
   cases d with
   |bool=>obtain⟨b,rfl,rfl⟩:=DataW.trod_bool c h;exact⟨[.bb b],.one (.bb b) rfl,.bool c (f.bool b)⟩
   |int k=>obtain⟨m,rfl,rfl,hw⟩:=DataW.trod_int c h;exact⟨[.v (.int k m)],.one (.v _) rfl,.int c hw (f.int _ _)⟩
   |string=>
    obtain⟨s,rfl,rfl,_⟩:=DataW.trod_string c h;refine⟨[.str s.data.toList],.one ?_ rfl,.str c (f.str _)⟩
    have:=Uy.str (w:=W) (Pi:=λ_ _=>False) s.data.toList
    omega
   |slice e=>
    simp only[c,Ce2,Ch6,Lq]at hp;obtain⟨y,a0⟩:=hp;rcases DataW.trod_slice c h with⟨rfl,rfl⟩ | ⟨a,len,cap,elems,rest,n',hn,rfl,rfl,_,o,_,hel,q,_⟩
    .exact⟨[.sl false (P.cellsOf e) 0 λ_=>[]],.one (.slnil _ _) rfl,.slice (λ_=>0) c (by omega) (by omega) (by simpa[An5]using f.nil)⟩
    obtain rfl:n' = n:=by omega
    have each:∀i,i<len->∃z:List PV×(Nat×(Nat->Value)),z.1.length=P.cellsOf e/\Mw P z.2.1 e z.1/\z.2.1=B (elems.getD i (.nil,[])).1 /\
     ∀j,j<P.cellsOf e->W.cell? ((a.add (i*P.cellsOf e)).add j)=some (z.2.2 j)/\Uy W (λ_ _=>False) (z.2.2 j) (z.1.getD j default)/\(z.2.2 j).oneCell' = true:=by
     intro i hi;have hk:=q i hi;have hi' : i<elems.length:=by omega
     rw[Ce3 hi']at hk;obtain⟨cs',h1,u⟩:=Cn9.1 hk;obtain⟨pvs,hc,hs⟩:=ih _ _ _ y u;obtain⟨_,g,hcell⟩:=World.cells?_some h1;refine⟨(pvs,(_,λj=>cs'.getD j undef)),by rw[<- hc.1,g],hs,?_,λj hj=>⟨?_,(hc.2 j (by rw[<- hc.1,g];omega)).1,(hc.2 j (by rw[<- hc.1,g];omega)).2⟩⟩
     all_goals grind
    obtain⟨z,hz⟩:=choose_lt (α:=List PV×(Nat×(Nat->Value))) each;obtain⟨b,off,sp⟩:=a;have hsp:0<len->sp=none:=λh0=>by
     have:=((hz 0 h0).2.2.2 0 a0).1
     simpa[Addr.add]using World.cell?_spot this
    refine⟨[.sl false (P.cellsOf e) len λi=>(z i).1],.one (.sl false b off cap (P.cellsOf e) len _ (λi j=>(z i).2.2 j) o (by grind) (λi j hi hj=>?_) (by grind) sp hsp) rfl,
     .slice (λi=>(z i).2.1) c (by grind) (by grind) ?_⟩
    .have:=((hz i hi).2.2.2 j hj).1
     obtain rfl:=hsp (by omega)
     grind[WideShapes.add_plain]
    refine Ch9 (Nat.succ_le_succ (Cw0 (congrArg An5 ?_))) (f.slice (elems.map (·.1)) (rest.map (·.1)));apply List.ext_getElem
    all_goals grind
   |array k e=>
    simp only[c,Ch6,Lq]at hp;obtain⟨xs,n',hn,rfl,hl,hx,hr⟩:=DataW.trod_array c h;obtain⟨_,u⟩:=K.array (l t ht) c;obtain rfl:n' = n:=by omega
    obtain⟨pvs,hc,hs⟩:=AE6 (B:=B) (W:=W) (r:=DataW.trod enc P W 0 (λ_=>true) true n') (by grind) k xs cs (by rw[hl,u]) hx hr;refine⟨pvs,hc,.arr c hs ?_⟩
    have:=f.agg (xs.map (·.1))
    grind[List.map_map,Function.comp_def]
   |struct fs=>
    simp only[c]at hp;obtain⟨xs,n',hn,rfl,hl,hx,hr⟩:=DataW.trod_struct c h;obtain⟨h1,u,h3⟩:=K.struct (l t ht) c;obtain rfl:n' = n:=by omega
    obtain⟨pvs,hc,hs⟩:=VJ (B:=B) (W:=W) (r:=DataW.trod enc P W 0 (λ_=>true) true n') (· ∈ T) ih fs.toList xs cs 0 (by grind) (by rw[hl,u])
     (by grind) (by omega) (by grind)
    refine⟨pvs,hc,.struct c hs ?_⟩
    have:=f.agg (xs.map (·.1))
    grind[List.map_map,Function.comp_def]
   |_=>simp[c]at hp
end
section
variable {S:X4}{P:Program}
def Aq5 {d:Option Nat}{k k' : St->Prop}{Q Q' : M0}(hk:∀s,k s->k' s)(b:∀e s,Q e s->Q' e s)(r:ARes)(s:St)(h:Lu d k Q r s):Lu d k' Q' r s:=by
 cases r with
 |ret a=>exact hk _ h
 |panic x=>exact b _ _ h
theorem Ra (hS:H3 S P){o:Oper}{k k' : St->Prop}{Q Q' : M0}(hk:∀s,k s->k' s)(t:∀e s,Q e s->Q' e s){st:St}(h:wOp S P o k Q st):wOp S P o k' Q' st:=by
 have b:∀d ids f args st,Ao0 S d ids f args st (Lu o.dst k Q)->Ao0 S d ids f args st (Lu o.dst k' Q'):=by rintro d ids f args st ⟨a,ob,h1,c,i,l,m⟩;exact⟨a,ob,h1,c,i,l,hS.monoF _ _ _ _ _ (λr o ks ⟨n,q⟩=>⟨n,Aq5 hk t _ _ q⟩) m⟩
 unfold wOp at h⊢;split at h
 .grind
 .grind
 .grind
 .obtain⟨j,cl,last,seen,jm,es,h1,c,i,l,m,n,q⟩:=h;exact⟨j,cl,last,seen,jm,es,h1,c,i,l,m,λg=>hk _ (n g),by grind⟩
 grind
theorem JC (hS:H3 S P){all:List Oper}{Q Q' : M0}(a:∀e s,Q e s->Q' e s):∀(rest:List Oper) {st:St},Lj S P all rest Q st->Lj S P all rest Q' st
 |[],st,h=>a _ _ h
 |o::rest,st,h=>by
  simp only[Lj]at h⊢;refine hS.mono _ _ _ (λt h=>?_) h;split at h
  .exact Ra hS (λs=>JC hS a rest) a h
  obtain⟨b,h1,c⟩:=h;refine⟨b,h1,?_⟩;split
  .rename_i hb;rw[Jk hb]at c;exact Ra hS (λs=>JC hS a rest) a c
  rename_i hb;rw[Js hb]at c;exact JC hS a rest c
def OK (hS:H3 S P){all:List Oper}{o:Oper}{k k' : St->Prop}{Q Q' : M0}(hk:∀s,k s->k' s)(c:∀e s,Q e s->Q' e s){st:St}(h:Jq S P all o k Q st):Jq S P all o k' Q' st:=by
 unfold Jq at h⊢;refine hS.mono _ _ _ (λt h=>?_) h;split at h
 .grind[Ra]
 obtain⟨b,h1,a⟩:=h;refine⟨b,h1,?_⟩;split
 .rename_i hb;rw[Jk hb]at a;grind[Ra]
 grind
def AE7 (hS:H3 S P){ops:List Oper}{Q:M0}{st:St}(hm:P.follows .mixedOrders=true)(g:Ju ops=true)(h:S.up st λs=>Ao1 S P ops Q s):Ao1 S P ops Q st:=by
 refine⟨hm,g,λD s=>S.up s λs'=>∃Inv:(Nat->Bool)->St->Prop,Inv D s' /\
  (∀D i s o,Inv D s->ops[i]? = some o->D i=false->(∀e∈o.after.toList,FR e=true->D e.on=true) ->
   Jq S P ops o (Inv λj=>ite (j=i) true (D j)) Q s) /\
  ∀D s,Inv D s->(∀i,i<ops.length->D i=true)->S.up s (Q .normal),?_,?_,?_⟩
 .refine hS.mono _ _ _ (λs hs=>?_) h;obtain⟨_,_,Inv,h1,b,c⟩:=hs;exact⟨Inv,h1,b,c⟩
 .intro D i s o d n l m
  have:S.up s λs'=>Jq S P ops o (λt=>S.up t λt'=>∃Inv:(Nat->Bool)->St->Prop,Inv (λj=>ite (j=i) true (D j)) t' /\
   (∀D i s o,Inv D s->ops[i]? = some o->D i=false->(∀e∈o.after.toList,FR e=true->D e.on=true) ->
    Jq S P ops o (Inv λj=>ite (j=i) true (D j)) Q s) /\
   ∀D s,Inv D s->(∀i,i<ops.length->D i=true)->S.up s (Q .normal)) Q s':=by
   refine hS.mono _ _ _ (λs' a=>?_) d;obtain⟨Inv,h1,b,c⟩:=a;exact OK hS (λt ht=>hS.refl _ _ ⟨Inv,ht,b,c⟩) (λ_ _ h=>h) (by grind)
  unfold Jq at this⊢;exact hS.trans _ _ this
 intro D s d f;refine hS.trans _ _ (hS.mono _ _ _ (λs' a=>?_) d)
 grind
def XA (hS:H3 S P){k k' : St->Prop}{Q Q' : M0}(hk:∀s,k s->k' s)(a:∀e s,Q e s->Q' e s)(e:Rk)(s:St)(h:thn S k Q e s):thn S k' Q' e s:=by
 cases e with
 |normal=>exact hS.mono _ _ _ hk h
 |_=>exact a _ _ h
def AN4 (hS:H3 S P){g:Nat}{ts:List Nat}{next:St->Prop}{Q Q' : M0}(a:∀e s,Q e s->Q' e s)(e:Rk)(s:St)(h:Hd S g ts next Q e s):Hd S g ts next Q' e s:=by
 cases e with
 |normal=>exact h
 |panic x=>exact h
 |_=>exact hS.mono _ _ _ (by grind) h
def Dr (hS:H3 S P):∀(c:Code) {Q Q' : M0},(∀e s,Q e s->Q' e s)->∀{st:St},awp S P c Q st->awp S P c Q' st
 |.skip,Q,Q',hq,st,h=>hq _ _ h
 |.label _,Q,Q',hq,st,h=>hq _ _ h
 |.region _ ops draw,Q,Q',hq,st,h=>by
  unfold awp at h⊢;split
  .rename_i hb;rw[Jk hb]at h;obtain⟨h1,j,Inv,n,q,r⟩:=h;exact⟨h1,j,Inv,n,λD i s o a b c d=>OK hS (λ_ h=>h) hq (q D i s o a b c d),λD s a b=>hS.mono _ _ _ (λt=>hq _ t) (r D s a b)⟩
  rename_i hb;rw[Js hb]at h;grind[JC]
 |.seq a b,Q,Q',hq,st,h=>Dr hS a (XA hS (λs=>Dr hS b hq) hq) h
 |.cond c t e,Q,Q',hq,st,h=>by
  obtain⟨b,h1,j⟩:=h;refine⟨b,h1,?_⟩;split
  .rename_i hb;rw[Jk hb]at j;exact Dr hS t hq j
  rename_i hb;rw[Js hb]at j;exact Dr hS e hq j
 |.block id b,Q,Q',hq,st,h=>Dr hS b (λe s h=>by
  cases e with
  |exit i=>grind[blk]
  |_=>exact hq _ _ h) h
 |.loop b,Q,Q',hq,st,h=>by
  obtain⟨X,s,J,m,h1,j⟩:=h;refine⟨X,s,J,m,h1,λx hx=>Dr hS b (λe t h=>?_) (j x hx)⟩;cases e with
  |normal=>exact h
  |_=>exact hq _ _ h
 |.scope b,Q,Q',hq,st,h=>Dr hS b (λe s h=>by
  cases e with
  |goto l=>exact h
  |_=>exact hq _ _ h) h
 |.exit id,Q,Q',hq,st,h=>hq _ _ h
 |.goto l,Q,Q',hq,st,h=>hq _ _ h
 |.ret,Q,Q',hq,st,h=>hq _ _ h
 |.rangeFunc g ps asg body,Q,Q',hq,st,h=>by
  obtain⟨f,first,caps,as,bs,objs,ids,ts,gh,L,I,Fin,h1,j,n,q,r,h6,h7,h8,h9,u,v,w,y,z,h15,a0⟩:=h;refine⟨f,first,caps,as,bs,objs,ids,ts,gh,L,I,Fin,h1,j,n,q,r,h6,h7,h8,h9,u,v,w,y,?_,?_,a0⟩
  .intro ys rest s a b c;refine Dr hS asg (λe t h=>?_) (z ys rest s a b c);cases e with
   |normal=>exact hS.mono _ _ _ (λt h=>Dr hS body (AN4 hS hq) h) h
   |_=>exact h
  grind
 |.refuse _,Q,Q',hq,st,h=>h
def Bs1 (hS:H3 S P){F:M0}(a:∀s,S.up s (F .normal)->F .normal s):∀(K:List It) (s:St),S.up s (kp S P K F .normal)->kp S P K F .normal s
 |[],s,h=>a s h
 |.code c::K,s,h=>hS.trans _ _ (hS.mono _ _ _ (λt h=>h) h)
 |.blk id::K,s,h=>Bs1 hS a K s h
 |.lp X s' J m n::K,s,h=>hS.trans _ _ h
 |.mid M::K,s,h=>hS.trans _ _ h
 |.scp::K,s,h=>Bs1 hS a K s h
theorem BV6 (hS:H3 S P){F:M0}(a:∀s,S.up s (F .normal)->F .normal s){K:List It}{M:St->Prop}(b:∀t,M t->G S P F (.pop .normal K t))(e:Rk)(s:St)(h:kp S P (.mid M::K) F e s):kp S P K F e s:=by
 cases e with
 |normal=>exact Bs1 hS a K s (hS.mono _ _ _ b h)
 |_=>exact h
end
section
variable {S:X4}{P:Program}{F:M0}{K:List It}{st:St}
def AE8 (hS:H3 S P){all rest:List Oper}{o:Oper}{t:TypeId}{m k:Operand}{ok:Bool}{key:PV}{Uu:C6}{j:Nat}{es:List (PV×PV)}{kt e:TypeId}{x:PV}{b:Bool}{fd:Option PV}
 (a:BW all st.env o=some true) (c:o.op=.lookup t m k ok) (d:Fj st.Uu (aev st.env k)=some (key,Uu)) (hm:aev st.env m=.Uz j) (f:A2 Uu j=some (.map es))
 (ht:tk P t=some (.map kt e)) (hk:Jp P kt key=true) (g:find (Li P kt) key es=some fd) (hx:(match fd with|some x=>some (x,true)|none=>(Lt P e).map λz=>(z,false))=some (x,b)) (hc:D2 (KN P kt))
 (hn:G S P F (.ops all rest K (put { st with Uu:=Uu } o.dst (ite ok (.tup [.p x,.bool b]) (.p x))))):G S P F (.ops all (o::rest) K st):=by
 refine BC0 hS (out:=⟨KN P kt,ite ok (.tup [.p x,.bool b]) (.p x),Uu⟩) a ?_ (by grind) (by grind) hc hn;rw[c];simp only[aop,d,hm,Ib,ht,hk,f,g]
 grind
theorem Aq6 (hS:H3 S P){all rest:List Oper}{o:Oper}{t:TypeId}{m k x:Operand}{key y:PV}{Uu:C6}{j:Nat}{es es' : List (PV×PV)}{kt e:TypeId}
 (b:BW all st.env o=some true) (c:o.op=.mapUpdate t m k x) (a:aev st.env k=.p key) (d:Fj st.Uu (aev st.env x)=some (y,Uu)) (hm:aev st.env m=.Uz j) (f:A2 Uu j=some (.map es))
 (ht:tk P t=some (.map kt e)) (hk:Jp P kt (nP key)=true) (g:upd (Li P kt) (nP key) y es=some es') (hc:D2 (KN P kt))
 (hn:G S P F (.ops all rest K (put { st with Uu:=ins j (.map es') Uu } o.dst Qy))):G S P F (.ops all (o::rest) K st):=by
 simp_all[BC0,KN,Qy,ins,aop]
end
end Go.AM
