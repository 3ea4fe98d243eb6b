/- Part 3. -/
import Derived.Test.YtnpnbnncocgaeaaGreatDoorZB
import Derived.Test.YtnpnbnncocgaeaaGreatDoorZA
import Derived.Laws.IdiomRangeMap
import Derived.RangeFuncRecord
import Derived.Lib.TrailingZeros
import Derived.Lib.ItoaNum
set_option linter.defProp false
set_option linter.unusedSimpArgs false
set_option linter.unusedVariables false
set_option linter.unusedSectionVars false
namespace Go.AM
def Dm{c:Prop}{i:Decidable c}{α:Sort _}{a b:α}(h:¬c:=by omega):(if c then a else b)=b:=Gb h
def BT1:=@Option.bind_some
def BV3:=@Array.getElem?_eq_some_iff
def BV9:=@Bool.or_eq_true
def BW0:=@List.mem_append_right
def BW5:=@List.mem_append_left
def BW6:=@Go.World.putObj_size
def BX0:=@List.contains_eq_mem
def BX1:=@List.mem_cons_of_mem
def BX5:=@List.mem_cons
def BX6:=@List.mem_of_getElem?
def BY1:=@Go.World.putObj_heap_other
def BY2:=@List.nodup_cons
def BZ5:=@List.mem_iff_getElem?
def Cb1:=@List.getElem?_cons_zero
def Cc1:=@List.nodup_nil
def Cd5:=@List.length_eq_zero_iff
def Ce3:=@Array.getElem?_append
def Cf7:=@List.mem_filter
def Cf8:=@List.getElem?_cons_succ
def Cg0:=@List.length_eq_one_iff
def Cg9:=@List.getElem?_append_right
def Ch5:=@Go.Oper.uponIn_value
def Ci2:=@Nat.le_of_not_lt
def Ci9:=@Go.World.putObj_heap_same
def Cj7:=@Array.size_map
def Ck2:=@Array.all_eq_true'
section
variable {P:Program}{C:Ctx}{st:St}{a:Act}{w:World}{rho:Nat->Value}{o:Oper}{d:Nat}{out:Out}
def Bg9 (h:Sat C st a w rho){t:TypeId}{x:Operand}(l:o.op=.range t x)(g:aop P st.env st.Qg d o.op=some out):OpOk P C o st a w rho out:=by
 rw[l]at g;simp only[aop]at g
 repeat' split at g<;>try contradiction
 rename_i kt vt j ht hx _ _ es n hn;cases g;have c:=h.aev x;rw[hx]at c;obtain⟨r,q,s,i⟩:∃r,a.eval x=.map (some r)/\Lv (A2 st.Qg) j/\rho j=.map (some r):=by generalize a.eval x=z at c;cases c<;>grind
 have m:=h.hp.holds j _ n;rw[i]at m;obtain⟨b,Se,clock,hb,h1,u,h3,v,h5⟩:=m;cases hb;have f:j≠nid d 0:=by grind
 have y:clock=es.length:=v.trans u;obtain⟨k1,k2,k3⟩:=h.fresh (Dh d 0) hn (.blk [1,es.length,es.length] j) (.pointer (some ⟨w.heap.size,0,none⟩)) (w':=w.alloc (.mapIter (some r) clock #[] clock)) (by simp)
  (λb hb=>heap_alloc_old w _ hb) (λb hb=>by grind[G1,Q9]) (λhk=>by
   refine⟨by simp_all[Lv,A4,Gb,Cb0],?_,w.heap.size,rfl,?_⟩
   .simp only[Gb f,i];exact⟨by grind,λe=>by cases e⟩
   simp only[Gb f,i];rw[heap_alloc_new w _]
   grind[BR5])
 refine⟨_,_,_,_,?_,.inl rfl,k1,⟨k2,k3⟩,.reg _ 0 w.heap.size (by simp[Lv,A4]) (by simp)⟩;have hu:P.underlying t=some (.map kt vt):=MO ht;simp[execOp,l,q,run_range_map w t kt vt r Se clock hu h1]
def Ak3 (w:World)(ty:TypeId)(b bm since c0:Nat)(seen:Array Nat)(es:Array MapEntry)(clock:Nat)(l:w.heap[b]? = some (.mapIter (some bm) since seen c0))(hb:w.heap[bm]? = some (.map es clock))(a:∀x∈es.toList,x.born<since)(f:since<=c0) :((leftOf es seen).size=0/\(Instr.next (.pointer (some ⟨b,0,none⟩)) false ty).run P w=.ok (.tuple #[.bool false]) w) \/
 ∃e∈(leftOf es seen).toList,∃w1:World,(w1=w \/ w1=w.drew)/\(Instr.next (.pointer (some ⟨b,0,none⟩)) false ty).run P w=.ok (.tuple #[.bool true,e.key,e.val]) { w1 with heap:=w1.heap.setIfInBounds b (.mapIter (some bm) since (seen.push e.born) clock) }:=by
 simp only[Instr.next,getObj,BV4,Sem.run,l,hb,Result.andThen,next_test_false seen es since c0 a f,BT6,Ih];unfold leftOf;have c:∀x∈(Array.filter (λe=>!seen.contains e.born) es).toList,x.born<since:=(by grind);generalize Array.filter (λe=>!seen.contains e.born) es=L at c⊢;have e1:L.filter (λx=>decide (x.born<since))=L:=Array.filter_eq_self.2 (by grind);have e2:L.filter (λx=>decide (x.born >= since)) = #[]:=by
  rw[Array.filter_eq_empty_iff]
  grind
 simp only[e1,e2,Array.append_empty];by_cases o:L.size=0
 .left
  have:L = #[]:=Array.eq_empty_of_size_eq_zero o
  subst this;refine⟨rfl,?_⟩;simp[choose,Sem.run,Question.forced]
 right
 have g:L.isEmpty=false:=by grind
 simp only[g,BT6,Ih,Array.empty_append,Cj7];have i:∃(j:Nat) (w1:World),j<L.size/\(w1=w \/ w1=w.drew)/\(choose (Question.mapNext L.size)).run P w=.ok j w1:=by
  by_cases q:L.size<=1
  .exact⟨0,w,by omega,.inl rfl,by grind[choose,Sem.run,Question.forced]⟩
  exact⟨_,w.drew,Nat.mod_lt _ (by omega),.inr rfl,by simp only[choose,Sem.run,Question.forced,decide_eq_true_eq,q,Ih,Question.cut];rfl⟩
 obtain⟨j,w1,s,d,m⟩:=i;refine⟨L[j],by simp,w1,d,?_⟩;have r:w1.heap[b]? = some (.mapIter (some bm) since seen c0):=by rcases d with rfl|rfl<;>exact l
 have n:∀o' : Go.Obj,(setObj b o').run P w1=.ok () { w1 with heap:=w1.heap.setIfInBounds b o' }:=λo'=>by
  grind[setObj,Sem.run]
 simp_all
def By4 (h:Sat C st a w rho){x:Operand}(ho:o.op=.next x false){j cl last jm:Nat}{seen:List Nat}{es:List (PV×PV)}(hx:aev st.env x=.reg j 0)(hj:A2 st.Qg j=some (.blk (1::cl::last::seen) jm))(hm:A2 st.Qg jm=some (.map es))(hcl:cl=es.length)(m:cl<=last) :((∀i,i<es.length->i∈seen)/\OpOk P C o st a w rho ⟨[],.tup [.p (.bb false)],st.Qg⟩) \/
 ∃i,i<es.length/\i ∉ seen/\OpOk P C o st a w rho ⟨[],.tup [.p (.bb true),.p (es.getD i default).1,.p (es.getD i default).2],ins j (.blk (1::cl::es.length::(i::seen)) jm) st.Qg⟩:=by
 have hne:j≠jm:=by grind
 obtain⟨hljm,r,b,a0,g⟩:=h.hp.holds j _ hj;obtain⟨bm,Se,clock,a1,a2,hsz,s,hclk,c⟩:=h.hp.holds jm _ hm;have n:=h.aev x;rw[hx]at n;have hv:a.eval x=.pointer (some ⟨b,0,none⟩):=by generalize a.eval x=z at n;cases n<;>grind
 rw[a1]at g;have g:w.heap[b]? = some (.mapIter (some bm) cl seen.reverse.toArray last):=g;have t:∀y∈Se.toList,y.born<cl:=by
  intro y hy;obtain⟨i,l,rfl⟩:=Ca0 hy;have d : i<Se.size:=by omega
  have hb:(Se.toList[i]).born=i:=by have:=c i d;simpa[Array.getD,d]using this
  omega
 have f:∀e,e∈(leftOf Se seen.reverse.toArray).toList ↔ ∃i,i<es.length/\i ∉ seen/\e=Se.getD i default/\e.born=i:=by
  intro e;simp only[leftOf,Array.toList_filter,Cf7,BU5,List.contains_toArray,BX0,decide_eq_false_iff_not,List.mem_reverse];constructor
  .rintro⟨h1,h2⟩;obtain⟨i,l,rfl⟩:=Ca0 h1;have d : i<Se.size:=by omega
   have hb:=c i d;have e1:Se.getD i default=Se.toList[i]:=by simp[d]
   rw[e1]at hb
   grind
  simp_all
 rcases Ak3 (P:=P) w o.type b bm cl last seen.reverse.toArray Se clock g a2 t m with⟨g1,g2⟩ | ⟨e,he,w1,u,g2⟩
 .refine .inl ⟨λi l=>?_,?_⟩
  .refine BY3 λhs=>?_
   have:=(f (Se.getD i default)).2 ⟨i,l,hs,rfl,c i (by omega)⟩
   have hl:(leftOf Se seen.reverse.toArray).toList.length=0:=by omega
   rw[Cd5.1 hl]at this
   grind
  exact OpOk.pure (v:=.tuple #[.bool false]) h (by simp_all[execOp]) (.tup _ _ rfl λi l=>match i,l with
   |0,_=>.p _ _ (.bb _)
   |_+1,l=>by grind)
 obtain⟨i,l,hs,a3,hb⟩:=(f e).1 he;refine .inr ⟨i,l,hs,?_⟩;have hlt:b<w.heap.size:=(by grind);have hh1:w1.heap=w.heap:=by rcases u with rfl|rfl<;>rfl
 have hbb:bm≠b:=by grind
 obtain⟨k1,k2,k3⟩:=h.modify (ob:=.blk (1::cl::es.length::(i::seen)) jm) hj (b:=b) (by grind[G1,Q9]) (λ_=>trivial) (λb' hb'=>by grind[G1,Q9])
  (w':={ w1 with heap:=w1.heap.setIfInBounds b (.mapIter (some bm) cl (seen.reverse.toArray.push e.born) clock) }) (by grind) (by grind) (λhk=>by
   refine⟨by simp_all[Lv,A4,Gb],⟨r.1,λe=>by cases e⟩,b,a0,?_⟩
   grind[Array.getElem?_setIfInBounds_self_of_lt,BR5]) (hext:=by rcases u with rfl|rfl<;>exact⟨rfl,rfl⟩)
 refine⟨_,.tuple #[.bool true,e.key,e.val],_,_,?_,.inl rfl,k1,⟨k2,k3⟩,?_⟩
 .simp_all[execOp]
 obtain⟨r1,r2⟩:=s i l;rw[<- a3]at r1 r2;exact .tup _ _ rfl λq hq=>match q,hq with
  |0,_=>.p _ _ (.bb _)
  |1,_=>.p _ _ (r1.keeps k2)
  |2,_=>.p _ _ (r2.keeps k2)
  |_+3,hq=>by grind
def Bh0 (h:Sat C st a w rho){x:Operand}(ho:o.op=.entry x)(r:aop P st.env st.Qg d o.op=some out)(hc:E5 out.cond):OpOk P C o st a w rho out:=by
 rw[ho]at r;simp only[aop]at r
 repeat' split at r<;>try contradiction
 rename_i j hx _ cl last jm _ _ es i seen hm hj;cases r;obtain⟨rfl,hi⟩:last=es.length/\i<es.length:=by grind[E5]
 obtain⟨hljm,htup,b,hrj,f⟩:=h.hp.holds j _ hj;obtain⟨bm,Se,clock,t,u,y,m,n,c⟩:=h.hp.holds jm _ hm;have g:=h.aev x;rw[hx]at g;have hv:a.eval x=.pointer (some ⟨b,0,none⟩):=by generalize a.eval x=z at g;cases g<;>grind
 rw[t]at f;have f:w.heap[b]? = some (.mapIter (some bm) cl (i::seen).reverse.toArray es.length):=f;have a0 : i<Se.size:=by omega
 have hf:Se.find? (·.born==i)=some (Se.getD i default):=by
  rw[<- Array.find?_toList];have hn:(Se.toList.map (·.born)).Nodup:=by
   have:Se.toList.map (·.born)=List.range Se.size:=by
    refine List.ext_getElem (by simp) λq h1 h2=>?_;have s:q<Se.size:=by grind
    have:=c q s
    simp_all
   rw[this];grind
  have a1:Se.getD i default∈Se.toList:=by simp_all
  have:=find_born (Se.getD i default) Se.toList hn a1
  rw[c i a0]at this;omega
 obtain⟨r1,r2⟩:=m i hi;refine OpOk.pure (v:=.tuple #[(Se.getD i default).key,(Se.getD i default).val]) h ?_ (.tup _ _ rfl λq s=>match q,s with
  |0,_=>.p _ _ r1
  |1,_=>.p _ _ r2
  |_+2,s=>by grind)
 have l:(i::seen).reverse.toArray.back? = some i:=by grind
 simp only[execOp,ho,hv,Instr.entry,getObj,BV4,Sem.run,f,u,Result.andThen,l,n.trans y,bne_self_eq_false,BT6,Ih,hf];rfl
theorem AR8 (h:Sat C st a w rho)(f:bop P st.Qg d o.op=some out):OpOk P C o st a w rho out:=by
 unfold bop at f
 repeat' split at f<;>try contradiction
 rename_i t ho _ _ _ _ e hb q hn g;cases f;obtain⟨i,v,hi,s,u⟩:=CT q;have c:nid d 1≠nid d 0:=by grind[nid]
 obtain⟨a1,a2,a3⟩:=h.fresh (j:=nid d 1) (by have:=Dh d 1;omega) g (.vec e 1 0 (λ_=>[]) false) (.slice none 0 0) (w':=w) (BT8 _) (λ_ _=>rfl) (λb hb=>by grind[G1,Q9]) (λ_=>.inl ⟨rfl,rfl⟩);have l:A2 (ins (nid d 1) (.vec e 1 0 (λ_=>[]) false) st.Qg) (nid d 0)=none:=by rw[A4,Gb c];omega
 have m:v.cells = #[.pointer none,.slice none 0 0]:=by
  have hl:v.cells.toList.map Tw=[.v (.pointer none),.v (.slice none 0 0)]:=u.symm
  match hc:v.cells.toList,hl with
  |[],hl=>grind
  |[x],hl=>grind
  |x::y::z::r,hl=>grind
  |[x,y],hl=>simp at hl;have hx:=O6 w (λ_ _=>False) x;have hy:=O6 w (λ_ _=>False) y;rw[hl.1]at hx;rw[hl.2]at hy;rw[<- Array.toList_inj,hc,hx.toV,hy.toV]
 obtain⟨k1,k2,k3⟩:=a1.fresh (Dh d 0) l (.blk [0,t,0] (nid d 1)) (.pointer (some ⟨w.heap.size,0,none⟩)) (w':=w.alloc (.cells v.cells t)) (by simp)
  (λb hb=>heap_alloc_old w _ hb) (λb hb=>by grind[G1,Q9]) (λhk=>by
   refine⟨by simp_all[Lv,A4,Gb,Cb0],?_,w.heap.size,rfl,?_⟩
   .simp only[Gb c,Hu];exact⟨by grind,by grind⟩
   simp only[Gb c,Hu];rw[heap_alloc_new w _,m];rfl)
 have n:=Kp.trans (⟨a2,a3⟩:Kp C st.Qg (ins (nid d 1) (.vec e 1 0 (λ_=>[]) false) st.Qg) w w rho _) ⟨k2,k3⟩;refine⟨_,_,_,_,?_,.inl rfl,k1,n,.reg _ 0 w.heap.size (by simp[Lv,A4]) (by simp)⟩
 simp_all[execOp,Instr.alloc,Bf9,newVar,newRow]
end
section
variable {P:Program}{C:Ctx}{st:St}{a:Act}{w:World}{rho:Nat->Value}{o:Oper}{out:Out}{d:Nat}
theorem AR9 (h:Sat C st a w rho)(g:aop P st.env st.Qg d o.op=some out)(hc:E5 out.cond):OpOk P C o st a w rho out:=by
 cases j:o.op with
 |move x=>rw[j]at g;simp only[aop,BT2]at g;subst g;exact AQ5 h (.inl j) rfl rfl
 |assign x=>rw[j]at g;simp only[aop,BT2]at g;subst g;exact AQ5 h (.inr j) rfl rfl
 |pick c x y=>exact Bx7 h j g
 |alloc t=>exact Bg0 h j g
 |box t x=>exact BJ7 h j g
 |build t ps=>exact Bg8 h j g
 |buildSlice t n ps=>exact Ww h j g hc
 |load t x=>exact Bx8 h j g hc
 |store t x y=>exact Bg1 h j g hc
 |nilCheck x=>exact Aj6 h j g
 |binOp op t x y yt=>exact Bg7 h j g hc
 |unOp op t x=>exact Bx9 h j g
 |convert s t x=>exact AE8 h j g hc
 |makeInterface t x=>exact PY h j g
 |makeFunc f x y=>
  cases f with
  |func f=>exact Aj7 h j g
  |_=>rw[j]at g;simp[aop]at g
 |makeMap t r=>
  cases r with
  |none=>exact AE6 h j g
  |some r=>rw[j]at g;simp[aop]at g
 |makeSlice t l c=>exact YP h j g hc
 |slice t x lo hi mx=>
  cases mx with
  |none=>exact Bg5 h j g hc
  |some r=>rw[j]at g;simp[aop]at g
 |fieldAddr t x f=>exact YJ h j g
 |field t x f=>exact Bg2 h j g hc
 |indexAddr t x i=>exact YM h j g hc
 |index t x i=>exact Bg4 h j g hc
 |lookup t m k ok=>exact AR5 h j g hc
 |mapUpdate t m k x=>exact OY h j g hc
 |insert t m k x=>
  have:=OY (o:={ o with op:=.mapUpdate t m k x }) (d:=d) h rfl (by rw[j]at g;exact g) hc
  simpa[OpOk,execOp,j]using this
 |mapEntry t m k=>exact Ak2 h j g hc
 |entryStore t m s x=>exact Wv h j g hc
 |extract x i=>exact AE5 h j g
 |range t x=>exact Bg9 h j g
 |entry x=>exact Bh0 h j g hc
 |call c=>
  obtain⟨callee,args,types⟩:=c;cases callee with
  |builtin b=>
   cases b with
   |len=>exact BJ8 (c:=⟨.builtin .len,args,types⟩) h rfl j g
   |append=>exact AR7 (c:=⟨.builtin .append,args,types⟩) h rfl j g hc
   |min=>exact YK (c:=⟨.builtin .min,args,types⟩) h (.inl rfl) j g
   |max=>exact YK (c:=⟨.builtin .max,args,types⟩) h (.inr rfl) j g
   |_=>rw[j]at g;simp[aop]at g
  |_=>rw[j]at g;simp[aop]at g
 |_=>rw[j]at g;simp[aop]at g
end
structure Rel (C:Ctx) (w:World) (O:Nat->Prop) (V:Nat->Nat->Prop):Prop where
 ext:Ext C.w0 w
 size:C.w0.heap.size<=w.heap.size
 same:∀b,b<C.w0.heap.size->¬C.E0 b->w.heap[b]? = C.w0.heap[b]?
 keep:S0 C.w0 C.Pi0 w (λb o=>C.X b o \/ V b o)
 own:∀b,O b->C.E0 b \/ C.w0.heap.size<=b
 out:∀b off,O b->¬C.X b off
 lt:∀b,O b->b<w.heap.size
 bnd:∀b off,C.X b off->b<w.heap.size
 vo:∀b o,V b o->O b
def BJ9 (P:Program)(yv:Value)(vs:Array Value)(w:World)(R:Bool->World->Prop):Prop:= ∃l fn tmps assign body,yv=.func (.yield l) #[] #[]/\(Instr.yield l vs).run P w=.ok (.round l fn tmps assign body) w /\ RoundIn Fence.wide 0 P l fn tmps assign body w λe w'=>∃b:Bool,e=.returned (.bool b)/\R b w'
def Ra (s:String):List Value:=if s == "math/bits.deBruijn64tab" then Lib.deBruijn64tab.map λn=>.int .u8 (n:Nat)else if s == "internal/strconv.uint64pow10" then Lib.pow10Tab.map λn=>.int .u64 n else []
def TabOk (P:Program)(w:World)(Pi:Nat->Nat->Prop):Prop:=∀(g:Nat) (s:Global) (j:Nat) (v:Value),P.globals[g]? = some s->(Ra s.name)[j]? = some v->w.cell? ⟨g,j,none⟩=some v/\¬Pi g j
def TabOk.keeps {P:Program}{w w' : World}{Pi Pi' : Nat->Nat->Prop}(h:TabOk P w Pi)(hk:S0 w Pi w' Pi'):TabOk P w' Pi':=λg s j v hs a=>hk g j v (h g s j v hs a).2 (h g s j v hs a).1
def TabX (P:Program)(w:World)(E:Nat->Prop):Prop:=∀(g:Nat) (s:Global),P.globals[g]? = some s->Ra s.name≠[]->(∃t fr,w.heap[g]? = some (.cells (Ra s.name).toArray t fr))/\¬E g
def TabE (P:Program)(w:World)(Pi:Nat->Nat->Prop)(E:Nat->Prop):Prop:=TabOk P w Pi/\TabX P w E
def TabE.keeps {P:Program}{w w' : World}{Pi Pi' : Nat->Nat->Prop}{E E' : Nat->Prop}(h:TabE P w Pi E)(hk:S0 w Pi w' Pi')(hs:∀b,b<w.heap.size->¬E b->w'.heap[b]? = w.heap[b]?)(d:∀b,b<w.heap.size->E' b->E b):TabE P w' Pi' E':=
 ⟨h.1.keeps hk,λg s a hn=>by
  obtain⟨⟨t,fr,h1⟩,f⟩:=h.2 g s a hn;have c:g<w.heap.size:=(BV3.1 h1).1
  grind⟩
structure Prot (P:Program) where
 G:Ctx->Prop
 tab:∀C,G C->TabE P C.w0 C.Pi0 C.E0
 call:∀(C:Ctx) (w:World) (O:Nat->Prop) (V:Nat->Nat->Prop) (ys:List PV) (rest:List (List PV)) (vs:Array Value),G C->Rel C w O V->C.Y (ys::rest) true->vs.size=ys.length ->
  (∀i,i<ys.length->Sb w (λb o=>C.X b o \/ V b o) (vs.getD i undef) (ys.getD i default)) ->
  BJ9 P C.yv vs w λb w'=>∃C',G C' /\ C'.yv=C.yv/\C'.rho0=C.rho0/\C'.Y (if b then rest else []) b/\C'.w0=w' /\ C'.E0=O/\(C'.Pi0=λb o=>C'.X b o \/ V b o)/\Rel C' w' O V /\
   (∀b,O b->w'.heap[b]? = w.heap[b]?)/\S0 w (λb o=>C.X b o \/ V b o) w' (λb o=>C'.X b o \/ V b o)/\w.heap.size<=w'.heap.size/\Ext w w'
def Prot.triv (P:Program)(C:Ctx)(a:∀r b,¬C.Y r b)(c:TabE P C.w0 C.Pi0 C.E0):Prot P:=
 ⟨λC'=>C' = C,λC' h=>h ▸ c,λC' w O V ys rest vs d hR f=>by subst d;exact Hc f (a _ _)⟩
def Ak4 (l:List Deferred)(b:Nat):Prop:=({ target:=.collected b,args:=#[] }:Deferred)∈l
def PvR (R:C8)(rho:Nat->Value)(b off:Nat):Prop:=∃j o,A2 R j=some o/\G1 (rho j) o b/\MF o off
def Ai2 (R:C8)(rho:Nat->Value)(l:List Deferred)(b:Nat):Prop:=Own (A2 R) rho b \/ Ak4 l b
def CallF (P:Program)(f:FuncId)(vs:Array Value)(w:World)(R:Ending->World->Prop):Prop:=
 ∃nx w1,(callFunc f vs).run P w=.ok nx w1/\match nx with
  |.enter f' as=>CallsIn Fence.wide 0 P f' as w1 R
  |.value v=>R (.returned v) w1
  |.row row as=>RowsIn Fence.wide 0 P row as w1 λv w'=>R (.returned v) w'
  |_=>False
def CallF.mono {P:Program}{f:FuncId}{vs:Array Value}{w:World}{R R' : Ending->World->Prop}(h:CallF P f vs w R)(b:∀e w',R e w' -> R' e w'):CallF P f vs w R':=by
 obtain⟨nx,w1,h1,a⟩:=h;refine⟨nx,w1,h1,?_⟩;cases nx with
 |enter f' as=>exact a.mono b
 |value v=>grind
 |row row as=>grind[RowsIn.mono]
 |_=>exact a
def Bh1 (w:World)(Pi:Nat->Nat->Prop)(live:Nat->Prop)(rho:Nat->Value)(e:Ending):ARes->Prop
 |.ret a=>∃v,e=.returned v/\Ud w Pi live rho v a
 |.panic x=>∃v,e=.panicked [{ v,recovered:=false }]/\Sb w Pi v x
def SemF (P:Program)(f:FuncId)(args:List AV)(objs:List Obj)(Q:ARes->List Obj->List Bool->Prop):Prop:= ∀(𝒢 : Prot P) (C:Ctx) (w:World) (vs:Array Value) (rho:Nat->Value),𝒢.G C->Sat C ⟨Uf args,Qh objs⟩ ⟨vs,[]⟩ w rho->vs.size=args.length -> CallF P f vs w λe w'=>∃C' r objs' ks rho', 𝒢.G C' /\ Q r objs' ks/\SatE C' (Qh objs') w' rho' /\ Bh1 w' (Prv C'.X (A2 (Qh objs')) rho') (Lv (A2 (Qh objs'))) rho' e r/\∀i:Nat,ks[i]? = some true->i<objs'.length/\rho' i=rho i
def semUp (st:St)(K:St->Prop):Prop:=∀C a w rho,Sat C st a w rho->∃st' rho',K st' /\ (∀b off,Prv C.X (A2 st'.Qg) rho' b off->Prv C.X (A2 st.Qg) rho b off)/\Sat C st' a w rho'
def HP (P:Program):W9:=⟨SemF P,semUp⟩
section
variable {w w' : World}{Pi Pi' : Nat->Nat->Prop}{live live' : Nat->Prop}{rho rho' : Nat->Value}
theorem S6:∀{ids:List Nat}{j p:Nat},idx ids j=some p->ids[p]? = some j
 |[],j,p,h=>by simp[idx]at h
 |i::r,j,p,h=>by
  simp only[idx]at h;split at h
  .rename_i e;cases h;simp[e]
  split at h
  .rename_i n hn;cases h;simpa using S6 hn
  cases h
theorem Ei {ids:List Nat}:∀{l l' : List AV},ES ids l=some l' -> l.length=l'.length/\∀i,i<l.length->Ys ids (l.getD i .top)=some (l'.getD i .top)
 |[],l',h=>by simp only[ES,BT2]at h;subst h;exact⟨rfl,λi b=>Hc b (by simp)⟩
 |a::r,l',h=>by
  simp only[ES]at h;split at h
  .rename_i a' r' ha c;cases h;obtain⟨h1,d⟩:=Ei c;refine⟨by simp[h1],λi b=>?_⟩;cases i with
   |zero=>simpa using ha
   |succ i=>simpa using d i (by simpa using b)
  cases h
def UQ {ids:List Nat}:∀{l:List AV},unL ids l=l.map (unA ids)
 |[]=>rfl
 |a::r=>by simp only[unL,BU9,UQ]
def Ud.ren {ids:List Nat}(hk:S0 w Pi w' Pi')(g:∀p j,ids[p]? = some j->live j->live' p/\rho' p=rho j){v:Value}{a:AV}(h:Ud w Pi live rho v a):∀{a' : AV},Ys ids a=some a' -> Ud w' Pi' live' rho' v a':=by
 induction h with
 |p v x h=>intro a' c;simp only[Ys,BT2]at c;subst c;exact .p _ _ (h.nP.keeps hk)
 |reg j off b hl h=>
  intro a' c;simp only[Ys]at c;split at c
  .rename_i p hp;cases c;obtain⟨h1,d⟩:=g p j (S6 hp) hl;exact .reg p off b h1 (d.trans h)
  cases c
 |vec j base n cap hl h=>
  intro a' c;simp only[Ys]at c;split at c
  .rename_i p hp;cases c;obtain⟨h1,d⟩:=g p j (S6 hp) hl;exact .vec p base n cap h1 (d.trans h)
  cases c
 |vecp j m base n cap hl h hm=>
  intro a' c;simp only[Ys]at c;split at c
  .rename_i p hp;cases c;obtain⟨h1,d⟩:=g p j (S6 hp) hl;exact .vecp p m base n cap h1 (d.trans h) hm
  cases c
 |elt j k i off b n cap hl h=>
  intro a' c;simp only[Ys]at c;split at c
  .rename_i p hp;cases c;obtain⟨h1,d⟩:=g p j (S6 hp) hl;exact .elt p k i off b n cap h1 (d.trans h)
  cases c
 |Sc j r hl h=>
  intro a' c;simp only[Ys]at c;split at c
  .rename_i p hp;cases c;obtain⟨h1,d⟩:=g p j (S6 hp) hl;exact .Sc p r h1 (d.trans h)
  cases c
 |clo f x y a b hx hy ha hb iha ihb=>
  intro a' c;simp only[Ys]at c;split at c
  .rename_i a2 b2 h1 d;cases c;obtain⟨l1,g1⟩:=Ei h1;obtain⟨l2,g2⟩:=Ei d;exact .clo f x y a2 b2 (hx.trans l1) (hy.trans l2) (λi o=>iha i (by omega) (g1 i (by omega))) λi o=>ihb i (by omega) (g2 i (by omega))
  cases c
 |tup x a hx ha ih=>
  intro a' c;simp only[Ys]at c;split at c
  .rename_i a2 h1;cases c;obtain⟨l1,g1⟩:=Ei h1;exact .tup x a2 (hx.trans l1) λi o=>ih i (by omega) (g1 i (by omega))
  cases c
 |agr x a hx h1' ha ih=>
  intro a' c;simp only[Ys]at c;split at c
  .rename_i a2 h1;cases c;obtain⟨l1,g1⟩:=Ei h1;exact .agr x a2 (hx.trans l1) (λi o=>h1' i (by omega)) λi o=>ih i (by omega) (g1 i (by omega))
  cases c
 |yf j l hl h=>
  intro a' c;simp only[Ys]at c;split at c
  .rename_i p hp;cases c;obtain⟨h1,d⟩:=g p j (S6 hp) hl;exact .yf p l h1 (d.trans h)
  cases c
 |top v=>intro a' c;simp only[Ys,BT2]at c;subst c;exact .top _
def Ud.un {ids:List Nat}(hk:S0 w Pi w' Pi')(o:∀p,live p->live' (ids.getD p 0)/\rho' (ids.getD p 0)=rho p){v:Value}{a:AV}(h:Ud w Pi live rho v a):Ud w' Pi' live' rho' v (unA ids a):=by
 induction h with
 |p v x h=>exact .p _ _ (h.keeps hk)
 |reg j off b hl h=>obtain⟨h1,d⟩:=o j hl;exact .reg _ off b h1 (d.trans h)
 |vec j base n cap hl h=>obtain⟨h1,d⟩:=o j hl;exact .vec _ base n cap h1 (d.trans h)
 |vecp j m base n cap hl h hm=>obtain⟨h1,d⟩:=o j hl;exact .vecp _ m base n cap h1 (d.trans h) hm
 |elt j k i off b n cap hl h=>obtain⟨h1,d⟩:=o j hl;exact .elt _ k i off b n cap h1 (d.trans h)
 |Sc j r hl h=>obtain⟨h1,d⟩:=o j hl;exact .Sc _ r h1 (d.trans h)
 |clo f x y a b hx hy ha hb iha ihb=>
  simp only[unA,UQ];refine .clo f x y _ _ (by simpa using hx) (by simpa using hy) (λi g=>?_) λi g=>?_
  .have c : i<a.length:=by simpa using g
   have:=iha i c
   simpa[BT0,BT7,BT4 c]using this
  have c : i<b.length:=by simpa using g
  have:=ihb i c
  simpa[BT0,BT7,BT4 c]using this
 |tup x a hx ha ih=>
  simp only[unA,UQ];refine .tup x _ (by simpa using hx) λi g=>?_;have c : i<a.length:=by simpa using g
  have:=ih i c
  simpa[BT0,BT7,BT4 c]using this
 |agr x a hx h1' ha ih=>
  simp only[unA,UQ];refine .agr x _ (by simpa using hx) (λi g=>h1' i (by simpa using g)) λi g=>?_;have c : i<a.length:=by simpa using g
  have:=ih i c
  simpa[BT0,BT7,BT4 c]using this
 |yf j l hl h=>obtain⟨h1,d⟩:=o j hl;exact .yf _ l h1 (d.trans h)
 |top v=>exact .top v
def Ue.ren {ids:List Nat}(hk:S0 w Pi w' Pi')(v:∀p j,ids[p]? = some j->live j->live' p/\rho' p=rho j){h:Value}{o o' : Obj}(hb:∀b,G1 h o b->w'.heap[b]? = w.heap[b]?)(a:UF ids o=some o')(s:Ue w Pi live rho h o):Ue w' Pi' live' rho' h o':=by
 cases o with
 |cells cs=>
  simp only[UF]at a;split at a
  .rename_i cs' t;cases a;obtain⟨l1,g1⟩:=Ei t;obtain⟨b,c,T,rfl,h1,m,d⟩:=s;exact⟨b,c,T,rfl,(hb b rfl).trans h1,m.trans l1,λi q=>⟨(d i (by omega)).1.ren hk v (g1 i (by omega)),(d i (by omega)).2⟩⟩
  cases a
 |vec e k n f vw=>
  simp only[UF,BT2]at a;subst a;rcases s with hn|⟨b,cap,c,rfl,h1,m,d,y,z,h6⟩
  .exact .inl hn
  exact .inr ⟨b,cap,c,rfl,(hb b rfl).trans h1,m,d,y,z,λi j q u=>⟨(h6 i j q u).1.keeps hk,(h6 i j q u).2⟩⟩
 |map es=>simp only[UF,BT2]at a;subst a;obtain⟨b,Se,clock,rfl,h1,m,d,h9⟩:=s;exact⟨b,Se,clock,rfl,(hb b rfl).trans h1,m,λi q=>⟨(d i q).1.keeps hk,(d i q).2.keeps hk⟩,h9⟩
 |arr n f=>simp only[UF,BT2]at a;subst a;obtain⟨b,c,T,rfl,h1,m,d⟩:=s;exact⟨b,c,T,rfl,(hb b rfl).trans h1,m,λi q=>⟨(d i q).1.keeps hk,(d i q).2⟩⟩
 |blk l jr=>
  simp only[UF]at a;split at a
  .rename_i jr' u;cases a;obtain⟨g1,g2,b,rfl,h1⟩:=s;obtain⟨g3,g4⟩:=v _ _ (S6 u) g1;exact⟨g3,by rw[g4];exact g2,b,rfl,by rw[g4];exact (hb b rfl).trans h1⟩
  cases a
 |ghost cs=>
  simp only[UF]at a;split at a
  .rename_i cs' t;cases a;obtain⟨l1,g1⟩:=Ei t;obtain⟨vs,rfl,h1,m⟩:=s;exact⟨vs,rfl,h1.trans l1,λi q=>(m i (by omega)).ren hk v (g1 i (by omega))⟩
  cases a
 |yld r b=>simp only[UF,BT2]at a;subst a;exact s
 |dead=>simp only[UF,BT2]at a;subst a;trivial
 |fam e n jr x=>
  simp only[UF]at a;split at a
  .rename_i jr' u;cases a;obtain⟨rv,g1,g2,hv⟩:=s;obtain⟨g3,g4⟩:=v _ _ (S6 u) g1;refine⟨rv,g3,g4.trans g2,?_⟩;rcases hv with hv|⟨b,cap,c,rfl,h1,m,d,y,z,h6⟩
   .exact .inl hv
   exact .inr ⟨b,cap,c,rfl,(hb b rfl).trans h1,m,d,y,z,trivial⟩
  cases a
 |rows n g=>simp only[UF,BT2]at a;subst a;exact Kz hk hb s
def Bg {ids:List Nat}{h:Value}{o o' : Obj}(a:UF ids o=some o'):G1 h o' = G1 h o:=by
 cases o<;>simp only[UF]at a
 case fam=>split at a<;>cases a;rfl
 case blk=>split at a<;>cases a;rfl
 case cells=>split at a<;>cases a;rfl
 case ghost=>split at a<;>cases a;rfl
 all_goals (cases a;rfl)
def MU {ids:List Nat}{o o' : Obj}(a:UF ids o=some o')(off:Nat):MF o' off↔MF o off:=by
 cases o<;>simp only[UF]at a
 case fam=>split at a<;>cases a;exact Ce2
 case blk=>split at a<;>cases a;exact Ce2
 case cells=>split at a<;>cases a;exact Ce2
 case ghost=>split at a<;>cases a;exact Ce2
 all_goals (cases a;exact Ce2)
def Ue.un {ids:List Nat}(hk:S0 w Pi w' Pi')(u:∀p,live p->live' (ids.getD p 0)/\rho' (ids.getD p 0)=rho p){h:Value}{o:Obj}(hb:∀b,G1 h o b->w'.heap[b]? = w.heap[b]?)(t:Ue w Pi live rho h o):Ue w' Pi' live' rho' h (unO ids o):=by
 cases o with
 |cells cs=>
  obtain⟨b,c,T,rfl,h1,m,a⟩:=t;simp only[unO,UQ];refine⟨b,c,T,rfl,(hb b rfl).trans h1,by simpa using m,λi s=>?_⟩;have d : i<cs.length:=by simpa using s
  refine⟨?_,(a i d).2⟩
  have:=(a i d).1.un hk u
  simpa[BT0,BT7,BT4 d]using this
 |vec e k n f vw=>
  rcases t with hn|⟨b,cap,c,rfl,h1,m,a,v,y,z⟩
  .exact .inl hn
  exact .inr ⟨b,cap,c,rfl,(hb b rfl).trans h1,m,a,v,y,λi j s hj=>⟨(z i j s hj).1.keeps hk,(z i j s hj).2⟩⟩
 |map es=>obtain⟨b,Se,clock,rfl,h1,m,a,h9⟩:=t;exact⟨b,Se,clock,rfl,(hb b rfl).trans h1,m,λi s=>⟨(a i s).1.keeps hk,(a i s).2.keeps hk⟩,h9⟩
 |arr n f=>obtain⟨b,c,T,rfl,h1,m,a⟩:=t;exact⟨b,c,T,rfl,(hb b rfl).trans h1,m,λi s=>⟨(a i s).1.keeps hk,(a i s).2⟩⟩
 |blk l jr=>obtain⟨g1,g2,b,rfl,h1⟩:=t;obtain⟨g3,g4⟩:=u _ g1;exact⟨g3,by rw[g4];exact g2,b,rfl,by rw[g4];exact (hb b rfl).trans h1⟩
 |ghost cs=>
  obtain⟨vs,rfl,h1,m⟩:=t;simp only[unO,UQ];refine⟨vs,rfl,by simpa using h1,λi s=>?_⟩;have d : i<cs.length:=by simpa using s
  have:=(m i d).un hk u
  simpa[BT0,BT7,BT4 d]using this
 |yld r b=>exact t
 |dead=>trivial
 |fam e n jr x=>
  obtain⟨rv,g1,g2,hv⟩:=t;obtain⟨g3,g4⟩:=u _ g1;refine⟨rv,g3,g4.trans g2,?_⟩;rcases hv with hv|⟨b,cap,c,rfl,h1,m,a,v,y,z⟩
  .exact .inl hv
  cases x with
  |none=>exact .inr ⟨b,cap,c,rfl,(hb b rfl).trans h1,m,a,v,y,trivial⟩
  |some q=>exact .inr ⟨b,cap,c,rfl,(hb b rfl).trans h1,m,a,v,y,z.un hk u⟩
 |rows n g=>exact Kz hk hb t
def Wx {ids:List Nat}{h:Value}{o:Obj}:G1 h (unO ids o)=G1 h o:=by cases o<;>rfl
def AS0 {ids:List Nat}{o:Obj}(off:Nat):MF (unO ids o) off↔MF o off:=by cases o<;>exact Ce2
theorem F6 (objs:List Obj)(j:Nat):A2 (Qh objs) j=objs[j]?:=by
 have a:∀(objs:List Obj) (n:Nat) (acc:C8),A2 (Qh.go n objs acc) j=if n<=j/\j<n+objs.length then objs[j-n]? else A2 acc j:=by
  intro objs
  induction objs with
  |nil=>intro n acc;simp[Qh.go];intro h1 b;omega
  |cons o r ih=>
   intro n acc;simp only[Qh.go,ih,A2,BW3];by_cases h:n=j
   .subst h;rw[Dm,Fg rfl,Fg ⟨by omega,by omega⟩];simp
   by_cases h1:n+1<=j/\j<n+1+r.length
   .rw[Fg h1,Fg ⟨by omega,by omega⟩];obtain⟨i,rfl⟩:∃i,j=n+1+i:=⟨j-(n+1),by omega⟩;rw[show n+1+i-(n+1)=i by omega,show n+1+i-n=i+1 by omega];simp
   rw[Gb h1,Gb h,Dm]
 unfold Qh;rw[a];by_cases h:j<objs.length
 .rw[Fg ⟨by omega,by omega⟩];simp
 rw[Dm,BX2 (by omega)];rfl
def CW (args:List AV)(j:Nat):get (Uf args) j=args.getD j .top:=by
 have a:∀(objs:List AV) (n:Nat) (acc:Env),get (Uf.go n objs acc) j=if n<=j/\j<n+objs.length then objs.getD (j-n) .top else get acc j:=by
  intro objs
  induction objs with
  |nil=>intro n acc;simp[Uf.go];intro h1 b;omega
  |cons o r ih=>
   intro n acc;simp only[Uf.go,ih,get,BW3];by_cases h:n=j
   .subst h;rw[Dm,Fg rfl,Fg ⟨by omega,by omega⟩];simp
   by_cases h1:n+1<=j/\j<n+1+r.length
   .rw[Fg h1,Fg ⟨by omega,by omega⟩];obtain⟨i,rfl⟩:∃i,j=n+1+i:=⟨j-(n+1),by omega⟩;rw[show n+1+i-(n+1)=i by omega,show n+1+i-n=i+1 by omega];simp
   rw[Gb h1,Gb h,Dm]
 unfold Uf;rw[a];by_cases h:j<args.length
 .rw[Fg ⟨by omega,by omega⟩];simp
 rw[Dm];simp[get,BT0,BX2 (show args.length<=j by omega)]
def Bh {ids:List Nat}{Qg:C8}:∀{l:List Nat}{objs:List Obj},N5 ids Qg l=some objs->objs.length=l.length/\∀(p j:Nat),l[p]? = some j->∃o o',A2 Qg j=some o/\UF ids o=some o' /\ objs[p]? = some o'
 |[],objs,h=>by simp only[N5,BT2]at h;subst h;exact⟨rfl,λp j hp=>by simp at hp⟩
 |j::l,objs,h=>by
  simp only[N5]at h;split at h
  .rename_i o a;split at h
   .rename_i o' l' h1 b;cases h;obtain⟨c,d⟩:=Bh b;refine⟨by simp[c],λp i hp=>?_⟩;cases p with
    |zero=>simp only[Cb1,BT2]at hp;subst hp;exact⟨o,o',a,h1,by simp⟩
    |succ p=>simpa using d p i (by simpa using hp)
   cases h
  cases h
def DK:∀{l:List Nat},I1 l=true->l.Nodup
 |[],_=>Cc1
 |a::r,h=>by simp only[I1,BT5,BU5,BX0,decide_eq_false_iff_not]at h;exact BY2.2 ⟨h.1,DK h.2⟩
theorem Hn:∀{l:List Nat}(h:l.Nodup) {p q j:Nat}(hp:l[p]? = some j) (b:l[q]? = some j),p=q
 |[],h,p,q,j,hp,b=>by simp at hp
 |a::l,h,p,q,j,hp,b=>by
  obtain⟨h1,c⟩:=BY2.1 h;cases p with
  |zero=>
   cases q with
   |zero=>rfl
   |succ q=>simp only[Cb1,BT2]at hp;simp only[Cf8]at b;subst hp;exact Hc (BX6 b) h1
  |succ p=>
   cases q with
   |zero=>simp only[Cb1,BT2]at b;simp only[Cf8]at hp;subst b;exact Hc (BX6 hp) h1
   |succ q=>exact congrArg (· + 1) (Hn (j:=j) c (by simpa using hp) (by simpa using b))
theorem UR:∀{l:List Obj},GH l=true->∀(p:Nat) (r:List (List PV)) (b:Bool),l[p]? ≠ some (.yld r b)
 |[],_,p,r,b=>by simp
 |o::l,h,p,r,b=>by
  cases p with
  |zero=>intro a;simp only[Cb1,BT2]at a;subst a;simp[GH]at h
  |succ p=>simp only[Cf8];exact UR (by cases o<;>simp[GH]at h<;>exact h) p r b
end
def BG8 (C:Ctx)(R:C8)(rho:Nat->Value)(ids:List Nat)(b off:Nat):Prop:= C.X b off \/ ∃j o,j ∉ ids/\A2 R j=some o/\G1 (rho j) o b/\MF o off
def Ctx.callee (C:Ctx)(R:C8)(w:World)(rho:Nat->Value)(ids:List Nat):Ctx where
 X:=BG8 C R rho ids
 w0:=w
 E0:=λb=>∃j o,j∈ids/\A2 R j=some o/\G1 (rho j) o b
 Pi0:=Prv C.X (A2 R) rho
 rho0:=λp=>rho (ids.getD p 0)
 Y:=λ_ _=>False
 yv:=C.yv
section
variable {P:Program}{C:Ctx}{st:St}{a:Act}{w:World}{rho:Nat->Value}
theorem ET {ids:List Nat}{p j:Nat}(h:ids[p]? = some j):ids.getD p 0=j:=by grind
def US {R:C8}{ids:List Nat}{objs:List Obj}(d:N5 ids R ids=some objs)(b off:Nat) :Prv (BG8 C R rho ids) (A2 (Qh objs)) (λp=>rho (ids.getD p 0)) b off↔Prv C.X (A2 R) rho b off:=by
 obtain⟨hl,l⟩:=Bh d;constructor
 .rintro ((f|⟨j,o,_,m,hb,hp⟩)|⟨p,o',hp,hb,g⟩)
  .exact .inl f
  .exact .inr (by grind)
  rw[F6]at hp;have a:p<ids.length:=by rw[<- hl];grind
  obtain⟨o,o2,h1,c,i⟩:=l p _ (BT4 a);rw[hp]at i;cases i;simp only[ET (BT4 a),Bg c]at hb;exact .inr ⟨_,o,h1,hb,(MU c off).1 g⟩
 rintro (f|⟨j,o,m,hb,hp⟩)
 .exact .inl (.inl f)
 by_cases hm:j∈ids
 .obtain⟨p,a,rfl⟩:=Cc2.1 hm;obtain⟨o1,o2,h1,c,i⟩:=l p _ (BT4 a);rw[m]at h1;cases h1;refine .inr ⟨p,o2,by rw[F6];omega,?_,(MU c off).2 hp⟩;simp only[ET (BT4 a),Bg c];omega
 exact .inl (.inr (by grind))
def OZ (h:Sat C st a w rho){ids:List Nat}{objs:List Obj}{as args:List AV}{vs:Array Value}(hd:I1 ids=true)(m:N5 ids st.Qg ids=some objs)(hny:GH objs=true)(n:True)
 (hr:ES ids as=some args) (hvs:vs.size=as.length) (hv:∀i,i<as.length->RS C st w rho (vs.getD i undef) (as.getD i .top)) :
 Sat (C.callee st.Qg w rho ids) ⟨Uf args,Qh objs⟩ ⟨vs,[]⟩ w (λp=>rho (ids.getD p 0)):=by
 obtain⟨hl,hg⟩:=Bh m;have a0:=DK hd;have hpi:=US (C:=C) (rho:=rho) m;have hk:S0 w (Prv C.X (A2 st.Qg) rho) w (Prv (BG8 C st.Qg rho ids) (A2 (Qh objs)) (λp=>rho (ids.getD p 0))):=
  λb o v hp hc=>by grind
 have c:∀p o',A2 (Qh objs) p=some o' -> ∃j o,ids[p]? = some j/\A2 st.Qg j=some o/\UF ids o=some o' /\ rho (ids.getD p 0)=rho j:=by
  grind[F6,List.getElem?_eq_some_iff,List.getElem?_eq_getElem,ET]
 have f:∀p j,ids[p]? = some j->Lv (A2 st.Qg) j->Lv (A2 (Qh objs)) p/\rho (ids.getD p 0)=rho j:=by
  grind[Lv,F6,ET]
 refine⟨⟨⟨?_,?_,?_,?_⟩,Ext.refl _,BT8 _,λb _ _=>rfl,hk,?_,?_⟩,?_,λj _ _=>rfl,Cc1,by grind⟩
 .intro p o' hp;obtain⟨j,o,h1,d,g,l⟩:=c p o' hp;show Ue w _ _ _ (rho (ids.getD p 0)) o';rw[l];exact (h.hp.holds j o d).ren hk f (λb _=>rfl) g
 .intro p q op oq b hp hq r s;obtain⟨j,o,h1,d,g,l⟩:=c p op hp;obtain⟨j',o',h1',x,y,z⟩:=c q oq hq;simp only[l,z,Bg g,Bg y]at r s
  have:=h.hp.sep j j' o o' b d x r s
  grind[Hn]
 .intro p o' b off hp hb u;obtain⟨j,o,h1,d,g,l⟩:=c p o' hp;simp only[l,Bg g]at hb;rcases u with u|⟨j',o2,hj',h5,h6,_⟩
  .exact h.hp.out j o b off d hb u
  have:=h.hp.sep j j' o o2 b d h5 hb h6
  grind
 .rintro b off (u|⟨j,o,_,hj,hb,_⟩)
  .exact h.hp.bound b off u
  exact (h.hp.holds j o hj).lt hb
 .rintro b ⟨p,o',hp,hb⟩;obtain⟨j,o,h1,d,g,l⟩:=c p o' hp;simp only[l,Bg g]at hb;exact .inl ⟨j,o,by grind,d,hb⟩
 .grind[F6,Hc,UR]
 intro t;show Ud w _ _ _ (vs.getD t undef) (get (Uf args) t);rw[CW];obtain⟨h1,d⟩:=Ei hr;by_cases ht:t<as.length
 .exact (hv t ht).ren hk f (d t ht)
 rw[BT0,BX2 (by omega)];exact .top _
def Ax6 (all:List Nat)(j:Nat):∀(ids:List Nat) (objs:List Obj) (Qg:C8),ids.Nodup->ids.length=objs.length ->
 A2 (back all ids objs Qg) j=match idx ids j with
  |some p=>(objs[p]?).map (unO all)
  |none=>A2 Qg j
 |[],objs,Qg,_,hl=>by
  cases objs with
  |nil=>rfl
  |cons=>grind
 |i::ids,[],Qg,_,hl=>by grind
 |i::ids,o::objs,Qg,hn,hl=>by
  obtain⟨h1,a⟩:=BY2.1 hn;simp only[back];rw[Ax6 all j ids objs _ a (by grind)];simp only[idx];by_cases e:i=j
  .subst e
   have:idx ids i=none:=by
    cases hx:idx ids i with
    |none=>rfl
    |some p=>exact Hc (BX6 (S6 hx)) h1
   grind[A4]
  simp only[e,Ih]
  grind[idx,A4]
def Ho (j:Nat):∀(ids:List Nat) (ks:List Bool) (Qg:C8),ids.Nodup ->
 A2 (K8 ids ks Qg) j=match idx ids j with
  |some p=>if ks[p]? = some true then A2 Qg j else some .dead
  |none=>A2 Qg j
 |[],ks,Qg,_=>by cases ks<;>rfl
 |i::ids,[],Qg,hn=>by
  obtain⟨h1,a⟩:=BY2.1 hn;simp only[K8];rw[Ho j ids [] _ a];simp only[idx];by_cases e:i=j
  .grind[idx,Hc,List.mem_of_getElem?,S6,A4]
  simp only[e,Ih]
  grind[idx,A4]
 |i::ids,k::ks,Qg,hn=>by
  obtain⟨h1,a⟩:=BY2.1 hn;simp only[K8];have b:idx ids i=none:=by
   cases hx:idx ids i with
   |none=>rfl
   |some p=>exact Hc (BX6 (S6 hx)) h1
  by_cases hk:k=true
  .rw[Fg hk,Ho j ids ks _ a];simp only[idx]
   grind
  rw[Gb hk,Ho j ids ks _ a];simp only[idx];by_cases e:i=j
  .grind[A4]
  simp only[e,Ih]
  grind[idx,A4]
theorem Wy {ids:List Nat}{j:Nat}(h:j∈ids):∃p,idx ids j=some p:=by
 induction ids with
 |nil=>grind
 |cons i r ih=>
  simp only[idx];by_cases e:i=j
  .simp_all
  grind
theorem Bs6 {ids:List Nat}(hn:ids.Nodup){p j:Nat}(h:ids[p]? = some j):idx ids j=some p:=by obtain⟨q,a⟩:=Wy (BX6 h);rw[a,Hn hn (S6 a) h]
theorem YW {n p:Nat}(h:p<n):(List.range n)[p]? = some p:=by grind
def Ol {d:Nat}{ids:List Nat}{ks:List Bool}{n p j:Nat}(h:(H9 d ids ks n)[p]? = some j):p<n/\((ids[p]? = some j/\ks[p]? = some true) \/ (j=nid d p/\∀i,ids[p]? = some i->ks[p]? ≠ some true)):=by
 unfold H9 at h;rw[BT7,BV0]at h
 grind
def AF1 {d:Nat}{ids:List Nat}{ks:List Bool}{n:Nat}:(H9 d ids ks n).length=n:=by simp[H9]
theorem Rb {Qg:C8}{ids:List Nat}{ks:List Bool}{d n p:Nat}(a:Z0 Qg ids ks d n=true)(hp:p<n)(b:∀i,ids[p]? = some i->ks[p]? ≠ some true):A2 Qg (nid d p)=none:=by
 unfold Z0 at a;rw[BU0]at a
 have:=a p (by grind)
 simp_all
def Pa:∀{l:List Nat},(∀p q j:Nat,l[p]? = some j->l[q]? = some j->p=q)->l.Nodup
 |[],_=>Cc1
 |a::l,h=>by
  refine BY2.2 ⟨λhm=>?_,Pa λp q j hp b=>?_⟩
  .obtain⟨p,hp⟩:=BZ5.1 hm
   have:=h 0 (p+1) a (by simp) (by grind)
   omega
  have:=h (p+1) (q+1) j (by grind) (by grind)
  omega
def YX {Qg:C8}{ids:List Nat}{ks:List Bool}{d n:Nat}{objs:List Obj}(a:N5 ids Qg ids=some objs)(o:ids.Nodup)(r:Z0 Qg ids ks d n=true):(H9 d ids ks n).Nodup:=by
 refine Pa λp q j hp f=>?_;obtain⟨h1,b⟩:=Ol hp;obtain⟨s,c⟩:=Ol f;obtain⟨_,t⟩:=Bh a;rcases b with⟨b,g⟩ | ⟨i,b⟩<;>rcases c with⟨c,l⟩ | ⟨m,c⟩
 all_goals grind[Hn,Rb,nid]
def Ax7 (new:List Nat)(rho rho' : Nat->Value)(j:Nat):Value:=match idx new j with
 |some p=>rho' p
 |none=>rho j
def AF2 (h:Sat C st a w rho){ids:List Nat}{objs objs' : List Obj}{ks:List Bool}{d:Nat}{w' : World}{rho' : Nat->Value}(hd:I1 ids=true)(hob:N5 ids st.Qg ids=some objs)
 (y:SatE (C.callee st.Qg w rho ids) (Qh objs') w' rho') (hks:∀i:Nat,ks[i]? = some true->i<objs'.length/\rho' i=rho (ids.getD i 0)) (hf:Z0 st.Qg ids ks d objs'.length=true) :
 let new:=H9 d ids ks objs'.length
 let R':=back new new objs' (K8 ids ks st.Qg)
 Sat C { st with Qg:=R' } a w' (Ax7 new rho rho')/\Kp C st.Qg R' w w' rho (Ax7 new rho rho') /\
  S0 w' (Prv (BG8 C st.Qg rho ids) (A2 (Qh objs')) rho') w' (Prv C.X (A2 R') (Ax7 new rho rho')) /\
  ∀p,Lv (A2 (Qh objs')) p->Lv (A2 R') (new.getD p 0)/\Ax7 new rho rho' (new.getD p 0)=rho' p:=by
 intro new R';have z:=DK hd;obtain⟨hl,hg⟩:=Bh hob;have hnd:new.Nodup:=YX hob z hf;have hnl:new.length=objs'.length:=AF1;have hR:∀j,A2 R' j=match idx new j with
  |some p=>(objs'[p]?).map (unO new)
  |none=>A2 (K8 ids ks st.Qg) j:=λj=>Ax6 new j new objs' _ hnd hnl
 have hD:∀j,A2 (K8 ids ks st.Qg) j=match idx ids j with
  |some p=>if ks[p]? = some true then A2 st.Qg j else some .dead
  |none=>A2 st.Qg j:=λj=>Ho j ids ks _ z
 have hnew:∀j p,idx new j=some p->p<objs'.length/\((ids[p]? = some j/\rho' p=rho j/\Lv (A2 st.Qg) j) \/ (A2 st.Qg j=none/\1000<=j)):=by
  intro j p hp;obtain⟨h1,f⟩:=Ol (S6 hp);refine⟨h1,?_⟩;rcases f with⟨f,t⟩ | ⟨rfl,f⟩
  all_goals grind[ET,Lv,Rb,Dh]
 have a0:∀j,idx new j=none->j∈ids->A2 R' j=some .dead:=by
  intro j c hm;rw[hR j,c]
  grind[Wy,H9,YW,S6,Bs6]
 have u:∀j,idx new j=none->j ∉ ids->A2 R' j=A2 st.Qg j:=by
  grind[idx,Hc,List.mem_of_getElem?,S6]
 have l:∀j p,idx new j=some p->∃o',objs'[p]? = some o' /\ A2 R' j=some (unO new o')/\Ax7 new rho rho' j=rho' p:=by
  grind[List.getElem?_eq_getElem,Ax7]
 have hrn:∀j,idx new j=none->Ax7 new rho rho' j=rho j:=λj c=>by grind[Ax7]
 have s:∀j,Lv (A2 st.Qg) j->Lv (A2 R') j/\Ax7 new rho rho' j=rho j:=by
  grind[idx,Lv]
 have hback:∀p,p<objs'.length->idx new (new.getD p 0)=some p:=by
  grind[List.getElem?_eq_getElem,Bs6]
 have hpi:∀b off,Prv C.X (A2 R') (Ax7 new rho rho') b off->Prv (BG8 C st.Qg rho ids) (A2 (Qh objs')) rho' b off:=by
  rintro b off (hX|⟨j,o,c,hb,hp⟩)
  .exact .inl (.inl hX)
  cases hx:idx new j with
  |some p=>obtain⟨o',h1,f,t⟩:=l j p hx;rw[f]at c;cases c;rw[t,Wx]at hb;exact .inr ⟨p,o',by rw[F6];omega,hb,(AS0 off).1 hp⟩
  |none=>
   by_cases hm:j∈ids
   .rw[a0 j hx hm]at c;grind[G1,Q9]
   rw[u j hx hm]at c;rw[hrn j hx]at hb;exact .inl (.inr (by grind))
 have hk2:S0 w' (Prv (BG8 C st.Qg rho ids) (A2 (Qh objs')) rho') w' (Prv C.X (A2 R') (Ax7 new rho rho')):=λb o v hp hc=>(by grind);have hlb:∀p,Lv (A2 (Qh objs')) p->Lv (A2 R') (new.getD p 0)/\Ax7 new rho rho' (new.getD p 0)=rho' p:=by
  grind[Lv,F6,List.getElem?_eq_some_iff,Option.eq_some_of_isSome]
 have hyld:∀(p:Nat) r b,objs'[p]? ≠ some (.yld r b):=by intro p r b hp;exact (y.yld p r b (by rw[F6];omega)).1
 obtain⟨g1,g2⟩:=h.step (R':=R') (rho':=Ax7 new rho rho') (w':=w') (λj=>j∈ids \/ ∃p,idx new j=some p)
  (by grind)
  s y.size
  (λj c hj'=>by
   grind[idx,Hc,Wy,S6,Lv])
  (λj r b g c=>by
   cases hx:idx new j with
   |some p=>
    obtain⟨o',h1,f,t⟩:=l j p hx;rw[f]at c
    have:o' = .yld r b:=by cases o'<;>simp[unO]at c⊢;omega
    grind
   |none=>
    grind)
  (λb hb hno=>y.same b hb (by rintro⟨j,o,hm,c,m⟩;grind))
  (λj o b g c m=>by
   cases hx:idx new j with
   |some p=>
    obtain⟨o',h1,f,t⟩:=l j p hx;rw[f]at c;cases c;rw[t,Wx]at m;rcases y.own b ⟨p,o',by rw[F6];omega,m⟩with⟨i,oi,hm,hi,n⟩ | hge
    .grind
    exact .inr hge
   |none=>
    grind[G1,Q9])
  (λi j oi oj b x g hi c n hbj=>by
   have key:∀i oi,(i∈ids \/ ∃p,idx new i=some p)->A2 R' i=some oi->G1 (Ax7 new rho rho' i) oi b->∃p o',idx new i=some p/\A2 (Qh objs') p=some o' /\ G1 (rho' p) o' b:=by
    intro i oi x hi n;cases hx:idx new i with
    |some p=>obtain⟨o',h1,f,t⟩:=l i p hx;rw[f]at hi;cases hi;rw[t,Wx]at n;exact⟨p,o',rfl,by rw[F6];omega,n⟩
    |none=>
     rcases x with hm|⟨p,hp⟩
     all_goals grind[G1,Q9]
   obtain⟨p,o1,h1,f,t⟩:=key i oi x hi n;obtain⟨q,o2,h4,h5,h6⟩:=key j oj g c hbj
   have:=y.hp.sep p q o1 o2 b f h5 t h6
   grind[S6])
  (λi oi b off v x hi n hnp hc=>by
   obtain⟨h1,f⟩:=y.keep b off v hnp hc;refine⟨h1,λj o g c m hp=>f ?_⟩;cases hx:idx new j with
   |some p=>obtain⟨o',h4,h5,h6⟩:=l j p hx;rw[h5]at c;cases c;rw[h6,Wx]at m;exact .inr ⟨p,o',by rw[F6];omega,m,(AS0 off).1 hp⟩
   |none=>
    rcases g with hm|⟨p,hp'⟩
    all_goals grind[G1,Q9])
  (λhk j o g c=>by
   cases hx:idx new j with
   |some p=>obtain⟨o',h4,h5,h6⟩:=l j p hx;rw[h5]at c;cases c;rw[h6];exact (y.hp.holds p o' (by rw[F6];omega)).un hk2 hlb (λb _=>rfl)
   |none=>
    rcases g with hm|⟨p,hp'⟩
    .rw[a0 j hx hm]at c;cases c;trivial
    grind) y.ext
 exact⟨g1,⟨g2,s⟩,hk2,hlb⟩
end
section
variable {P:Program}{C:Ctx}{st t:St}{a:Act}{w:World}{rho:Nat->Value}
def semUp.refl {st:St}{K:St->Prop}(h:K st):semUp st K:=λC a w rho hs=>by grind
def semUp.trans {st:St}{K:St->Prop}(h:semUp st λt=>semUp t K):semUp st K:=λC a w rho hs=>
 let ⟨st',rho',h1,hp,h2⟩:=h C a w rho hs
 let ⟨st2,rho2,h3,hp',h4⟩:=h1 C a w rho' h2
 (by grind)
def semUp.mono {st:St}{K K' : St->Prop}(hk:∀t,K t->K' t)(h:semUp st K):semUp st K':=λC a w rho hs=>
 let ⟨st',rho',h1,h2⟩:=h C a w rho hs
 (by grind)
def Sat.slot (h:Sat C st a w rho){t:Nat}{x:AV}(hx:RS C st w rho (a.tmps.getD t undef) x):Sat C ⟨ins t x st.env,st.Qg⟩ a w rho:=by
 refine⟨h.toSatE,λi=>?_,h.pin,h.marks⟩;show Ud w _ _ rho _ (get (ins t x st.env) i);rw[QP];split
 .grind
 exact h.env i
def semUp.bool {st:St}{t:Nat}{b:Bool}{K:St->Prop}(c:get st.env t=.p (.bb b))(h:K ⟨ins t (.p (.v (.bool b))) st.env,st.Qg⟩):semUp st K:=λC a w rho hs=>by
 refine⟨_,rho,h,λ_ _ h=>h,hs.slot ?_⟩
 have:=hs.env t
 rw[c]at this;rw[this.toP.toBool];exact .p _ _ (.v _)
def semUp.pq {st:St}{t:Nat}{x y:PV}{K:St->Prop}(b:get st.env t=.p x)(c:leQ x y)(h:K ⟨ins t (.p y) st.env,st.Qg⟩):semUp st K:=λC a w rho hs=>by
 refine⟨_,rho,h,λ_ _ h=>h,hs.slot ?_⟩
 have:=hs.env t
 rw[b]at this;exact .p _ _ (this.toP.leQ c)
def semUp.nil {st:St}{t k n:Nat}{f:Nat->List PV}{K:St->Prop}(g:get st.env t=.p (.sl false k n f))
 (h1:n=0->K ⟨ins t (.p (.v (.slice none 0 0))) st.env,st.Qg⟩) (i:K ⟨ins t (.p (.sl true k n f)) st.env,st.Qg⟩):semUp st K:=λC a w rho hs=>by
 have:=hs.env t
 rw[g]at this
 have:=this.toP
 generalize d:a.tmps.getD t undef=v at this;cases this with
 |slnil=>exact⟨_,rho,h1 rfl,λ_ _ h=>h,hs.slot (by rw[d];exact .p _ _ (.v _))⟩
 |sl _ b off cap _ _ _ c hn hk hc h sp hsp=>exact⟨_,rho,i,λ_ _ h=>h,hs.slot (by rw[d];exact .p _ _ (.sl true b off cap k n f c hn hk hc h sp hsp))⟩
def Ax8 (n:Nat)(f:Nat->PV){i:Nat}(a:i<n):(Bf3 n f).getD i .top=.p (f i):=by grind[Bf3]
def Wz (n:Nat)(f:Nat->PV):(Bf3 n f).length=n:=by simp[Bf3]
def semUp.swap {st:St}{j:Nat}{o o' : Obj}{K:St->Prop}(l:A2 st.Qg j=some o)(hb:∀v,G1 v o' = G1 v o)(hp:∀off,MF o' off↔MF o off)(hy:∀r b,o' ≠ .yld r b)
 (z:∀{w:World}{Pi:Nat->Nat->Prop}{live:Nat->Prop}{rho:Nat->Value}{v:Value},Ue w Pi live rho v o->Ue w Pi live rho v o') (hK:K ⟨st.env,ins j o' st.Qg⟩):semUp st K:=λC a w rho hs=>by
 have d:∀i,A2 (ins j o' st.Qg) i=if j=i then some o' else A2 st.Qg i:=λi=>A4 _ _ _ _
 have s:∀i,Lv (A2 (ins j o' st.Qg)) i↔Lv (A2 st.Qg) i:=λi=>by
  grind[Lv]
 have hpr:∀b off,Prv C.X (A2 (ins j o' st.Qg)) rho b off↔Prv C.X (A2 st.Qg) rho b off:=λb off=>by
  unfold Prv;refine or_congr Ce2 ⟨?_,?_⟩
  .rintro⟨i,oi,h1,q,m⟩;rw[d]at h1;split at h1
   .rename_i e;subst e;cases h1;exact⟨j,o,l,by rw[<- hb];omega,(hp off).1 m⟩
   grind
  rintro⟨i,oi,h1,q,m⟩;by_cases e:j=i
  .subst e;rw[l]at h1;cases h1;exact⟨j,o',by rw[d,Fg rfl],by rw[hb];omega,(hp off).2 m⟩
  grind
 have hk:S0 w (Prv C.X (A2 st.Qg) rho) w (Prv C.X (A2 (ins j o' st.Qg)) rho):=λb off v h1 q=>(by grind);have hl:∀i,Lv (A2 st.Qg) i->Lv (A2 (ins j o' st.Qg)) i/\rho i=rho i:=(by grind);refine⟨_,rho,hK,by grind,⟨⟨⟨λi oi f=>?_,λi i' oi oi' b c u g n=>?_,λi oi b off f g=>?_,hs.hp.bound⟩,hs.ext,hs.size,hs.same,hs.keep.trans hk,λb x=>?_,λi r b f=>?_⟩,λt=>(hs.env t).keeps hk hl,λi c y=>hs.pin i c ((s i).1 y),hs.marks⟩⟩
 .have c:A2 (ins j o' st.Qg) i=some oi:=f;clear f;rw[d]at c;split at c
  .rename_i e;subst e;cases c;exact z ((hs.hp.holds j o l).keeps hk hl λ_ _=>rfl)
  exact (hs.hp.holds i oi c).keeps hk hl λ_ _=>rfl
 .have own:∀{i:Nat}{oi:Obj}{b:Nat},A2 (ins j o' st.Qg) i=some oi->G1 (rho i) oi b->∃o2,A2 st.Qg i=some o2/\G1 (rho i) o2 b:=by
   intro i oi b c g;rw[d]at c;split at c
   all_goals simp_all
  obtain⟨o2,h1,q⟩:=own c g;obtain⟨o3,m,h4⟩:=own u n;exact hs.hp.sep i i' o2 o3 b h1 m q h4
 .have c:A2 (ins j o' st.Qg) i=some oi:=f;clear f;rw[d]at c;split at c
  .rename_i e;subst e;cases c;exact hs.hp.out j o b off l (by rw[<- hb];omega)
  exact hs.hp.out i oi b off c g
 .obtain⟨i,oi,f,g⟩:=x;have c:A2 (ins j o' st.Qg) i=some oi:=f;clear f;rw[d]at c;split at c
  .rename_i e;subst e;cases c;exact hs.own b ⟨j,o,l,by rw[<- hb];omega⟩
  exact hs.own b ⟨i,oi,c,g⟩
 have c:A2 (ins j o' st.Qg) i=some (.yld r b):=f;clear f;rw[d]at c;split at c
 .grind
 exact hs.yld i r b c
def semUp.toArr {st:St}{j n:Nat}{f:Nat->PV}{K:St->Prop}(l:A2 st.Qg j=some (.cells (Bf3 n f)))(m:K ⟨st.env,ins j (.arr n f) st.Qg⟩):semUp st K:=
 semUp.swap (o':=.arr n f) l (λ_=>rfl) (λ_=>Ce2) (by grind) (λo=>by obtain⟨b,c,T,h1,q,g,a⟩:=o;rw[Wz]at g a;exact⟨b,c,T,h1,q,g,λi d=>⟨by have:=(a i d).1;rw[Ax8 n f d]at this;exact this.toP,(a i d).2⟩⟩) m
def semUp.ofArr {st:St}{j n:Nat}{f:Nat->PV}{K:St->Prop}(g:A2 st.Qg j=some (.arr n f))(l:K ⟨st.env,ins j (.cells (Bf3 n f)) st.Qg⟩):semUp st K:=
 semUp.swap (o':=.cells (Bf3 n f)) g (λ_=>rfl) (λ_=>Ce2) (by grind) (λm=>by obtain⟨b,c,T,h1,o,q,d⟩:=m;exact⟨b,c,T,h1,o,by rw[Wz];omega,λi a=>by rw[Wz]at a;rw[Ax8 n f a];exact⟨.p _ _ (d i a).1,(d i a).2⟩⟩) l
def semUp.vecq {st:St}{j n k:Nat}{e:TypeId}{f g:Nat->List PV}{vw:Bool}{K:St->Prop}(r:A2 st.Qg j=some (.vec e k n f vw))(m:∀i,i<n->leC (f i) (g i))(s:K ⟨st.env,ins j (.vec e k n g vw) st.Qg⟩):semUp st K:=
 semUp.swap (o':=.vec e k n g vw) r (λ_=>rfl) (λ_=>by cases vw<;>exact Ce2) (by grind) (λt=>by
  rcases t with⟨h1,l⟩ | ⟨b,cap,c,h1,l,u,v,w,x,o⟩
  .exact .inl ⟨h1,l⟩
  exact .inr ⟨b,cap,c,h1,l,u,v,w,λi a=>by rw[<- (m i a).1];grind,λi q a d=>⟨(o i q a d).1.leQ ((m i a).2 q),(o i q a d).2⟩⟩) s
def Bh2 (j:Nat)(ps:List PV)(env:Env)(t:Nat):get (Be6 j ps env) t=frzA j ps (get env t):=by
 induction env with
 |nil=>rfl
 |cons p r ih=>
  grind[Be6,get]
def semUp.frz {st:St}{j:Nat}{ps:List PV}{K:St->Prop}(u:A2 st.Qg j=some (.cells (ps.map .p)))(hK:K ⟨Be6 j ps st.env,ins j .dead st.Qg⟩):semUp st K:=λC a w rho hs=>by
 have d:∀i,A2 (ins j .dead st.Qg) i=if j=i then some .dead else A2 st.Qg i:=λi=>A4 _ _ _ _
 obtain⟨h1,hk⟩:=hs.step (D:=(· = j)) (R':=ins j .dead st.Qg) (rho':=rho) (w':=w)
  (by grind)
  (λi f=>⟨by
   grind[Lv],rfl⟩) (BT8 _)
  (λi f hl=>by
   unfold Lv at f hl;rw[d]at hl;split at hl
   .rename_i e;subst e;rw[u]at f;exact Hc rfl f
   exact Hc hl f)
  (by grind)
  (λ_ _ _=>rfl)
  (λi o b f l hb=>by subst f;rw[d,Fg rfl]at l;cases l;cases hb)
  (by omega)
  (λi oi b off v f l hb hp hc=>⟨hc,λi' o g n m=>by subst g;rw[d,Fg rfl]at n;cases n;cases m⟩)
  (λ_ i o f l=>by subst f;rw[d,Fg rfl]at l;cases l;trivial)
 have r:∀b off,Prv C.X (A2 (ins j .dead st.Qg)) rho b off->Prv C.X (A2 st.Qg) rho b off:=by
  rintro b off (z|⟨i,o,f,hb,hp⟩)
  .exact .inl z
  rw[d]at f;split at f
  .cases f;cases hb
  exact .inr (by grind)
 refine⟨_,rho,hK,r,⟨h1.toSatE,λt=>?_,h1.pin,h1.marks⟩⟩;show Ud w _ _ rho (a.tmps.getD t undef) (get (Be6 j ps st.env) t);rw[Bh2];have y:=h1.env t;have y:Ud w (Prv C.X (A2 (ins j .dead st.Qg)) rho) (Lv (A2 (ins j .dead st.Qg))) rho (a.tmps.getD t undef) (get st.env t):=y;have l:=hs.env t;generalize get st.env t=x at y l⊢;cases x with
 |reg i o=>
  simp only[frzA];split
  .rename_i e;subst e;generalize a.tmps.getD t undef=v at l⊢;cases l with
   |reg _ _ b hl hr=>
    obtain⟨b',c,T,e1,e2,e3,e4⟩:=hs.hp.holds i _ u;rw[hr]at e1;cases e1;have hsz:c.size=ps.length:=by grind
    refine .p _ _ (.ptr b o (ps.drop o) (λq=>c.getD (o+q) undef) (λq hq=>?_) λq hq=>?_)
    .have s:o+q<ps.length:=by grind
     refine⟨cell_of_heap e2 (by omega),?_,by grind⟩;rintro (z|⟨i',o',g,m,hp'⟩)
     .exact hs.hp.out i _ b _ u (by grind[G1,Q9]) z
     rw[d]at g;split at g
     .cases g;cases m
     rename_i a0;exact a0 (hs.hp.sep i i' _ o' b u g (by grind[G1,Q9]) m)
    have s:o+q<ps.length:=by grind
    have h4:=(e4 (o+q) (by simpa using s)).1;have e5:(ps.map AV.p).getD (o+q) .top=.p (ps.getD (o+q) default):=by grind
    rw[e5]at h4;have e6:(ps.drop o).getD q default=ps.getD (o+q) default:=by grind
    rw[e6];exact h4.toP.keeps hk
  omega
 |_=>exact y
def Sat.congr {s t:St}(h:Sat C s a w rho)(h1:∀x,get s.env x=get t.env x)(b:∀j,A2 s.Qg j=A2 t.Qg j):Sat C t a w rho:=by have e1:get s.env=get t.env:=funext h1;have e2:A2 s.Qg=A2 t.Qg:=funext b;obtain⟨⟨g1,g0,g2,g3,g4,g5,g6⟩,g7,g8,g9⟩:=h;rw[e2]at g1 g4 g5 g6 g7 g8;rw[e1]at g7;exact⟨⟨g1,g0,g2,g3,g4,g5,g6⟩,g7,g8,g9⟩
def semUp.eqv {s t:St}{K:St->Prop}(h1:∀x,get s.env x=get t.env x)(c:∀j,A2 s.Qg j=A2 t.Qg j)(h:K t):semUp s K:=λC a w rho hs=>
 ⟨t,rho,h,λb o hp=>by rw[funext c];omega,hs.congr h1 c⟩
def semUp.less {s t:St}{K:St->Prop}(h1:∀x,Wp (get t.env x) (get s.env x))(d:∀j,A2 s.Qg j=A2 t.Qg j)(h:K t):semUp s K:=λC a w rho hs=>by
 have c:Sat C ⟨s.env,t.Qg⟩ a w rho:=hs.congr (λ_=>rfl) d;refine⟨t,rho,h,λb o hp=>by rw[funext d];omega,c.toSatE,λx=>?_,c.pin,c.marks⟩
 have:=c.env x
 rcases h1 x with e|e|⟨y,e1,e2⟩
 .rw[e];exact .top _
 .rw[e];omega
 rw[e1];rw[show get (St.mk s.env t.Qg).env x=_ from e2]at this;exact .p _ _ (this.toP.leP (.inr (by grind)))
def Bs7 {ids:List (Nat×Nat)}{j i:Nat}(h:lk ids j=some i):(j,i)∈ids:=by
 induction ids with
 |nil=>grind[lk]
 |cons p r ih=>
  grind[lk,List.mem_cons_of_mem]
theorem BK0 {ids:List (Nat×Nat)}(hn:I1 (ids.map (·.2))=true){j j' i:Nat}(h:lk ids j=some i)(h' : lk ids j' = some i):j=j':=by
 have a:=DK hn;obtain⟨p,hp⟩:=BZ5.1 (Bs7 h);obtain⟨q,b⟩:=BZ5.1 (Bs7 h')
 have:p=q:=Hn (j:=i) a (by rw[BT7,hp];rfl) (by rw[BT7,b];rfl)
 grind
def BK1 {ids:List (Nat×Nat)}(hp:AE3 ids=true){j i:Nat}(h:lk ids j=some i)(a:j<1000):i=j:=by
 induction ids with
 |nil=>grind[lk]
 |cons p r ih=>
  obtain⟨x,y⟩:=p;simp only[AE3,BT5,BV9,beq_iff_eq,decide_eq_true_eq]at hp
  grind[lk]
theorem WA {Qg:C8}{j:Nat}{o:Obj}(h:A2 Qg j=some o):(j,o)∈Qg:=by
 induction Qg with
 |nil=>grind[A2]
 |cons p r ih=>
  grind[A2,List.mem_cons_of_mem]
def Bh3 {Qg:C8}{j:Nat}(h:j∈Qg.map (·.1)):(A2 Qg j).isSome=true:=by
 induction Qg with
 |nil=>grind
 |cons p r ih=>
  grind[A2,Hc]
def Hq {Qg:C8}{ids:List (Nat×Nat)}:∀{r:C8},YB Qg ids r->∀{j:Nat}{p:Obj},A2 r j=some p ->
 (∃i o,lk ids j=some i/\A2 Qg i=some o/\leO Qg ids o p) \/ (lk ids j=none/\∃e k f vw,p=.vec e k 0 f vw)
 |[],_,j,p,h=>by grind[A2]
 |(x,y)::r,hl,j,p,h=>by
  simp only[A2]at h;split at h
  .rename_i e;cases h;subst e;exact hl.1
  exact Hq hl.2 h
def YY {Qg:C8}{ids:List (Nat×Nat)}{env:Env}:∀{r:Env},QO Qg ids env r->∀(t:Nat),(∃b,(t,b)∈r/\get r t=b/\leA Qg ids (get env t) b/\∀i∈MJ (get env t) b,i∈seen env r) \/ get r t=.top
 |[],_,t=>.inr rfl
 |(x,y)::r,hl,t=>by
  simp only[get];split
  .rename_i e;subst e;exact .inl ⟨y,by simp,rfl,hl.1,λi a=>by grind[seen,List.mem_append_left]⟩
  rcases YY hl.2 t with⟨b,h1,c,d,f⟩ | h
  all_goals grind[List.mem_cons_of_mem,seen,List.mem_append_right]
def UT {ids:List (Nat×Nat)}{js:List Nat}:∀{r:C8},OW ids js r=true->∀{j e k n f i},(j,Obj.vec e k n f false)∈r->lk ids j=some i->i ∉ js
 |[],_,j,e,k,n,f,i,h,_=>by grind
 |p::r,hs,j,e,k,n,f,i,h,hi=>by
  rcases BX5.1 h with h|h
  .subst h
   simp_all[OW,BT5,BU5,BX0,decide_eq_false_iff_not]
  refine UT (r:=r) ?_ h hi;obtain⟨x,o⟩:=p;cases o with
  |vec _ _ _ _ b=>cases b<;>simp only[OW,BT5]at hs<;>first|exact hs.2|omega
  |_=>exact hs
def Md {Qg:C8}{ids:List (Nat×Nat)}:∀{l m:List AV},leL Qg ids l m->l.length=m.length/\∀i,i<l.length->leA Qg ids (l.getD i .top) (m.getD i .top)/\∀x∈MJ (l.getD i .top) (m.getD i .top),x∈Ty l m
 |l,[],h=>by unfold leL at h;subst h;exact⟨rfl,λi a=>Hc a (by simp)⟩
 |l,y::m,h=>by
  unfold leL at h;obtain⟨x,r,rfl,h1,b⟩:=h;obtain⟨c,d⟩:=Md b
  grind[Ty,List.mem_append_left,List.mem_append_right]
def Me {js:List Nat}:∀{m:List AV},inL js m=true->∀i,i<m.length->inA js (m.getD i .top)=true
 |[],_,i,hi=>Hc hi (by simp)
 |y::m,h,i,hi=>by
  unfold inL at h;rw[BT5]at h;cases i with
  |zero=>grind
  |succ i=>simpa using Me h.2 i (by grind)
section
variable {Pi Pi' : Nat->Nat->Prop}{live live' : Nat->Prop}{rho' : Nat->Value}{Qg:C8}{ids:List (Nat×Nat)}{js:List Nat}
def Ud.viewP (hk:S0 w Pi w Pi'){seenP:Nat->Prop}
 (d:∀i,seenP i->∀e k n f vw base n' cap,A2 Qg i=some (.vec e k n f vw)->rho i=.slice base n' cap->n' = n/\∀m,m<=n->Sb w Pi' (.slice base m cap) (.sl false k m f))
 {v:Value}{a:AV}(h:Ud w Pi live rho v a) {x y:PV}(hx:AM.viewP Qg a=some x) (hs:∀i∈MJ a (.p y),seenP i):Sb w Pi' v x:=by
 cases h with
 |p _ z hz=>simp only[AM.viewP,BT2]at hx;subst hx;exact hz.keeps hk
 |vec j base n' cap hl hr=>
  simp only[AM.viewP]at hx;split at hx
  .rename_i e k n f vw c;cases hx;obtain⟨rfl,o⟩:=d j (hs j (by simp[MJ])) _ _ _ _ _ _ _ _ c hr
   grind
  grind
 |vecp j m base n' cap hl hr hm=>
  simp only[AM.viewP]at hx;split at hx
  .rename_i e k n f vw c;cases hx;obtain⟨rfl,o⟩:=d j (hs j (by simp[MJ])) _ _ _ _ _ _ _ _ c hr;rw[Ca2 hm]
   grind
  grind
 |clo f x' y' l r hx' hy' hl hr=>
  have gen:(match Yr l,Yr r with
   |some a,some b=>some (PV.fn f a b)
   |_,_=>none)=some x->Sb w Pi' (.func (.func f) x' y') x:=by
   intro g;split at g
   .rename_i a' b' ha hb;cases g;exact (Ud.clo_fn ha hb (.clo f x' y' l r hx' hy' hl hr)).keeps hk
   grind
  cases l with
  |cons _ _=>exact gen hx
  |nil=>
   cases r with
   |cons _ _=>exact gen hx
   |nil=>simp only[AM.viewP,BT2]at hx;subst hx;have e1:x' = #[]:=(by grind);have e2:y' = #[]:=(by grind);subst e1;subst e2;exact .v _
 |_=>simp[AM.viewP]at hx
def Ud.le (hk:S0 w Pi w Pi')(t:∀j i,lk ids j=some i->rho' j=rho i)(hnil:∀j,lk ids j=none->rho' j=.slice none 0 0)(s:∀j,js.contains j=true->live' j){seenP:Nat->Prop}
 (u:∀i,seenP i->∀e k n f vw base n' cap,A2 Qg i=some (.vec e k n f vw)->rho i=.slice base n' cap->n' = n/\∀m,m<=n->Sb w Pi' (.slice base m cap) (.sl false k m f))
 {v:Value}{a:AV}(h:Ud w Pi live rho v a):∀{b:AV},leA Qg ids a b->inA js b=true->(∀i∈MJ a b,seenP i)->Ud w Pi' live' rho' v b:=by
 induction h with
 |p v x h=>
  intro b' hle c hs;cases b' with
  |top=>exact .top _
  |p y'=>unfold leA at hle;obtain⟨x',d,g⟩:=hle;exact .p _ _ (((Ud.p (live:=live) v x h).viewP hk u d hs).leP g)
  |vec j'=>
   unfold leA at hle;rcases hle with⟨i',_,o⟩ | ⟨hn,o⟩
   .cases o
   cases o;rw[h.toV];exact .vec j' none 0 0 (s j' (by unfold inA at c;exact c)) (hnil j' hn)
  |_=>simp[leA]at hle
 |reg j off b hl h=>
  intro b' hle c hs;cases b' with
  |top=>exact .top _
  |p y'=>unfold leA at hle;obtain⟨x',d,g⟩:=hle;exact .p _ _ (((Ud.reg j off b hl h).viewP hk u d hs).leP g)
  |reg j' off'=>unfold leA at hle;obtain⟨i',q,o⟩:=hle;cases o;exact .reg j' off b (s j' (by unfold inA at c;exact c)) ((t _ _ q).trans h)
  |_=>simp[leA]at hle
 |vec j base n cap hl h=>
  intro b' hle c hs;cases b' with
  |top=>exact .top _
  |p y'=>unfold leA at hle;obtain⟨x',d,g⟩:=hle;exact .p _ _ (((Ud.vec j base n cap hl h).viewP hk u d hs).leP g)
  |vec j'=>
   unfold leA at hle;rcases hle with⟨i',q,o⟩ | ⟨hn,o⟩
   .cases o;exact .vec j' base n cap (s j' (by unfold inA at c;exact c)) ((t _ _ q).trans h)
   cases o
  |_=>simp[leA]at hle
 |vecp j m base n cap hl h hm=>
  intro b' hle c hs;cases b' with
  |top=>exact .top _
  |p y'=>unfold leA at hle;obtain⟨x',d,g⟩:=hle;exact .p _ _ (((Ud.vecp j m base n cap hl h hm).viewP hk u d hs).leP g)
  |vecp j' m'=>unfold leA at hle;obtain⟨i',q,o⟩:=hle;cases o;exact .vecp j' m base n cap (s j' (by unfold inA at c;exact c)) ((t _ _ q).trans h) hm
  |_=>simp[leA]at hle
 |elt j k i off b n cap hl h=>
  intro b' hle c hs;cases b' with
  |top=>exact .top _
  |p y'=>unfold leA at hle;obtain⟨x',d,g⟩:=hle;exact .p _ _ (((Ud.elt j k i off b n cap hl h).viewP hk u d hs).leP g)
  |elt j' k' i2 off'=>unfold leA at hle;obtain⟨i',q,o⟩:=hle;cases o;exact .elt j' k i off b n cap (s j' (by unfold inA at c;exact c)) ((t _ _ q).trans h)
  |_=>simp[leA]at hle
 |Sc j r hl h=>
  intro b' hle c hs;cases b' with
  |top=>exact .top _
  |p y'=>unfold leA at hle;obtain⟨x',d,g⟩:=hle;exact .p _ _ (((Ud.Sc j r hl h).viewP hk u d hs).leP g)
  |Sc j'=>unfold leA at hle;obtain⟨i',q,o⟩:=hle;cases o;exact .Sc j' r (s j' (by unfold inA at c;exact c)) ((t _ _ q).trans h)
  |_=>simp[leA]at hle
 |clo f x y a b hx hy ha hb iha ihb=>
  intro b' hle c hs;cases b' with
  |top=>exact .top _
  |p y'=>unfold leA at hle;obtain⟨x',d,g⟩:=hle;exact .p _ _ (((Ud.clo f x y a b hx hy ha hb).viewP hk u d hs).leP g)
  |clo f' x2 y2=>
   unfold leA at hle;obtain⟨x3,y3,o,h1,h2⟩:=hle;cases o;unfold inA at c;rw[BT5]at c;obtain⟨l1,g1⟩:=Md h1;obtain⟨l2,g2⟩:=Md h2;exact .clo f x y x2 y2 (hx.trans l1) (hy.trans l2)
    (λi hi=>iha i (by omega) (g1 i (by omega)).1 (Me c.1 i hi) λz hz=>hs z (by unfold MJ;exact BW5 _ ((g1 i (by omega)).2 z hz)))
    λi hi=>ihb i (by omega) (g2 i (by omega)).1 (Me c.2 i hi) λz hz=>hs z (by unfold MJ;exact BW0 _ ((g2 i (by omega)).2 z hz))
  |_=>simp[leA]at hle
 |tup x a hx ha ih=>
  intro b' hle c hs;cases b' with
  |top=>exact .top _
  |p y'=>unfold leA at hle;obtain⟨x',d,g⟩:=hle;exact .p _ _ (((Ud.tup x a hx ha).viewP hk u d hs).leP g)
  |tup l2=>unfold leA at hle;obtain⟨l3,o,h1'⟩:=hle;cases o;unfold inA at c;obtain⟨l1,g1⟩:=Md h1';exact .tup x l2 (hx.trans l1) λi hi=>ih i (by omega) (g1 i (by omega)).1 (Me c i hi) λz hz=>hs z (by unfold MJ;exact (g1 i (by omega)).2 z hz)
  |_=>simp[leA]at hle
 |agr x a hx h1 ha ih=>
  intro b' hle c hs;cases b' with
  |top=>exact .top _
  |p y'=>unfold leA at hle;obtain⟨x',d,g⟩:=hle;exact .p _ _ (((Ud.agr x a hx h1 ha).viewP hk u d hs).leP g)
  |agr l2=>unfold leA at hle;obtain⟨l3,o,h1'⟩:=hle;cases o;unfold inA at c;obtain⟨l1,g1⟩:=Md h1';exact .agr x l2 (hx.trans l1) (λi hi=>h1 i (by omega)) λi hi=>ih i (by omega) (g1 i (by omega)).1 (Me c i hi) λz hz=>hs z (by unfold MJ;exact (g1 i (by omega)).2 z hz)
  |_=>simp[leA]at hle
 |yf j l hl h=>
  intro b' hle c hs;cases b' with
  |top=>exact .top _
  |p y'=>unfold leA at hle;obtain⟨x',d,g⟩:=hle;exact .p _ _ (((Ud.yf j l hl h).viewP hk u d hs).leP g)
  |yf j'=>unfold leA at hle;obtain⟨i',q,o⟩:=hle;cases o;exact .yf j' l (s j' (by unfold inA at c;exact c)) ((t _ _ q).trans h)
  |_=>simp[leA]at hle
 |top v=>
  intro b' hle c hs;cases b' with
  |top=>exact .top _
  |p y'=>unfold leA at hle;obtain⟨x',d,g⟩:=hle;exact .p _ _ (((Ud.top (live:=live) v).viewP hk u d hs).leP g)
  |_=>simp[leA]at hle
end
def AO7 (ids:List (Nat×Nat))(rho:Nat->Value)(j:Nat):Value:=match lk ids j with
 |some i=>rho i
 |none=>.slice none 0 0
theorem By5 {Qg:C8}{ids:List (Nat×Nat)}{o p:Obj}(h:leO Qg ids o p){v:Value}{b:Nat}(hb:G1 v p b):G1 v o b/\∀off,MF p off->MF o off:=by
 cases p with
 |cells cs=>obtain⟨cs',rfl,_⟩:=h;exact⟨hb,λ_ h=>h⟩
 |vec e k n f vw=>
  obtain⟨g,vw',rfl,h1,c⟩:=h;refine⟨hb,λoff hp=>?_⟩;cases vw'
  .trivial
  rw[c rfl]at hp;exact hp
 |map es=>subst h;grind
 |arr n f=>obtain⟨g,rfl,_⟩:=h;exact⟨hb,λ_ h=>h⟩
 |blk l jr=>obtain⟨_,rfl,_⟩:=h;exact⟨hb,λ_ h=>h⟩
 |fam e n jr x=>obtain⟨_,_,rfl,_⟩:=h;exact⟨hb,λ_ h=>h⟩
 |rows n g=>obtain⟨g',rfl,h1⟩:=h;obtain⟨rv,d,i,a,hb⟩:=hb;exact⟨⟨rv,d,i,a,by rw[h1 i a];omega⟩,λ_ _=>trivial⟩
 |_=>simp[G1,Q9]at hb
def Sat.le (h:Sat C st a w rho){ids:List (Nat×Nat)}(hle:Le ids st t):Sat C t a w (AO7 ids rho)/\∀b off,Prv C.X (A2 t.Qg) (AO7 ids rho) b off->Prv C.X (A2 st.Qg) rho b off:=by
 obtain⟨⟨hwf,hnd,hpin,hpn,hseen⟩,hE,hR⟩:=hle;have hlk:∀j i,lk ids j=some i->AO7 ids rho j=rho i:=λj i s=>by grind[AO7]
 have hnil:∀j,lk ids j=none->AO7 ids rho j=.slice none 0 0:=λj s=>by grind[AO7]
 simp only[wf,BT5,BU0]at hwf;obtain⟨⟨⟨_,_⟩,hwe⟩,hwr⟩:=hwf;have hjs:∀j,(t.Qg.map (·.1)).contains j=true->Lv (A2 t.Qg) j:=λj s=>Bh3 (by grind);have hown:∀j p b,A2 t.Qg j=some p->G1 (AO7 ids rho j) p b->∃i o,lk ids j=some i/\A2 st.Qg i=some o/\G1 (rho i) o b/\leO st.Qg ids o p/\∀off,MF p off->MF o off:=by
  intro j p b s hb;rcases Hq hR s with⟨i,o,h1,h2,d⟩ | ⟨h1,e,k,f,vw,rfl⟩
  all_goals grind[By5,G1,Q9]
 have hpi:∀b off,Prv C.X (A2 t.Qg) (AO7 ids rho) b off->Prv C.X (A2 st.Qg) rho b off:=by
  rintro b off (hX|⟨j,p,s,hb,hp⟩)
  .exact .inl hX
  obtain⟨i,o,_,h2,d,_,h5⟩:=hown j p b s hb;exact .inr (by grind)
 have hk:S0 w (Prv C.X (A2 st.Qg) rho) w (Prv C.X (A2 t.Qg) (AO7 ids rho)):=λb o v hp hc=>(by grind);have hv:∀i,i∈seen st.env t.env++MK ids st.Qg t.Qg->∀e k n f vw base n' cap,A2 st.Qg i=some (.vec e k n f vw)->rho i=.slice base n' cap->n' = n/\∀m,m<=n->Sb w (Prv C.X (A2 t.Qg) (AO7 ids rho)) (.slice base m cap) (.sl false k m f):=by
  intro i hi e k n f vw base n' cap hri hrho;have hh:=h.hp.holds i _ hri;rw[hrho]at hh;rcases hh with⟨he,rfl⟩ | ⟨b,cap',c,he,h1,h2,d,h4,h5,h6⟩
  .cases he;refine⟨rfl,λm hm=>?_⟩;obtain rfl:m=0:=by omega
   exact .slnil k f
  cases he;refine⟨rfl,λm hm=>?_⟩;refine .sl false b 0 cap k m f (λi j=>c.getD (i*k+j) undef) (by omega) (by grind) (λx y hx hy=>?_) (λx y hx hy=>((h6 x y (by omega) hy).1).keeps hk) none (λ_=>rfl);have hlt:=M8 (show x<n by omega) hy;have hle' : n*k<=c.size:=by rw[d];exact BU7 k h2
  rw[BW8];refine⟨cell_of_heap h1 (by omega),?_,by grind⟩;rintro (hX|⟨j,p,s,hb,hp⟩)
  .exact h.hp.out i _ b _ hri (by grind[G1,Q9]) hX
  obtain⟨i',o,h7,h8,h9,u,h11⟩:=hown j p b s hb
  have:=h.hp.sep i' i o _ b h8 hri h9 (by grind[G1,Q9])
  subst this;rw[hri]at h8;cases h8;cases p with
  |vec e2 k2 n2 f2 vw2=>
   obtain⟨g,vw',he,h12,h13⟩:=u;cases he;cases vw2
   .exact UT hseen (WA s) h7 hi
   grind[MF]
  |cells cs=>obtain⟨cs',he,_⟩:=u;grind
  |map es=>cases u
  |arr n f=>obtain⟨g,he,_⟩:=u;grind
  |blk l jr=>obtain⟨_,he,_⟩:=u;grind
  |ghost cs=>obtain⟨cs',he,_⟩:=u;grind
  |yld r b=>cases u
  |fam e n jr x=>obtain⟨_,_,he,_⟩:=u;grind
  |rows n g=>obtain⟨_,he,_⟩:=u;grind
  |dead=>grind[G1,Q9]
 have hA:∀{v:Value}{x:AV},RS C st w rho v x->∀{y:AV},leA st.Qg ids x y->inA (t.Qg.map (·.1)) y=true->(∀i∈MJ x y,i∈seen st.env t.env++MK ids st.Qg t.Qg)->Ud w (Prv C.X (A2 t.Qg) (AO7 ids rho)) (Lv (A2 t.Qg)) (AO7 ids rho) v y:=
  λhx y hle hin hs=>hx.le (live':=Lv (A2 t.Qg)) hk hlk hnil hjs hv hle hin hs
 have hseenR:∀{r:C8}{j i:Nat}{cs cs' : List AV},(∀(q:Nat) (p:Obj),(q,p)∈r->(q,p)∈t.Qg)->lk ids j=some i->((j,Obj.cells cs)∈r/\A2 st.Qg i=some (.cells cs') \/ (j,Obj.ghost cs)∈r/\A2 st.Qg i=some (.ghost cs'))->∀x∈Ty cs' cs,x∈MK ids st.Qg r:=by
  intro r
  induction r with
  |nil=>grind
  |cons p r ih=>
   intro j i cs cs' hsub hi hm x hx;obtain⟨q,p⟩:=p;have hrec:((j,Obj.cells cs)∈r/\A2 st.Qg i=some (.cells cs') \/ (j,Obj.ghost cs)∈r/\A2 st.Qg i=some (.ghost cs'))->x∈MK ids st.Qg r:=(by grind);rcases hm with⟨hm,hr⟩ | ⟨hm,hr⟩
   .rcases BX5.1 hm with he|hm
    .grind[MK,List.mem_append_left]
    have:=hrec (.inl ⟨hm,hr⟩)
    cases p<;>simp only[MK]<;>first|exact (by grind)|exact this
   rcases BX5.1 hm with he|hm
   .grind[MK,List.mem_append_left]
   have:=hrec (.inr ⟨hm,hr⟩)
   cases p<;>simp only[MK]<;>first|exact (by grind)|exact this
 refine⟨⟨⟨⟨?_,?_,?_,λb off hX=>h.hp.bound b off hX⟩,h.ext,h.size,h.same,h.keep.trans hk,?_,?_⟩,?_,?_,h.marks⟩,hpi⟩
 .intro j p s;rcases Hq hR s with⟨i,o,h1,h2,d⟩ | ⟨h1,e,k,f,vw,rfl⟩
  .rw[hlk j i h1];have hh:=h.hp.holds i o h2;have hmem:=WA s;have hin:=hwr _ hmem;cases p with
   |cells cs=>
    obtain⟨cs',rfl,hl⟩:=d;obtain⟨l1,g1⟩:=Md hl;obtain⟨b,c,T,hb,h4,h5,h6⟩:=hh;refine⟨b,c,T,hb,h4,h5.trans l1,λq hq=>⟨?_,(h6 q (by omega)).2⟩⟩;refine hA (h6 q (by omega)).1 (g1 q (by omega)).1 (Me hin q hq) λz hz=>BW0 _ ?_
    grind
   |vec e k n f vw=>
    obtain⟨g,vw',rfl,h4,h5⟩:=d;rcases hh with hn|⟨b,cap,c,hb,h6,h7,h8,h9,u,h11⟩
    .exact .inl hn
    exact .inr ⟨b,cap,c,hb,h6,h7,h8,h9,by grind,λq r hq hr=>by rw[<- h4 q hq];exact⟨(h11 q r hq hr).1.keeps hk,(h11 q r hq hr).2⟩⟩
   |map es=>have d:o=.map es:=d;subst d;obtain⟨b,Se,clock,hb,h4,h5,h6,h9⟩:=hh;exact⟨b,Se,clock,hb,h4,h5,λq hq=>⟨(h6 q hq).1.keeps hk,(h6 q hq).2.keeps hk⟩,h9⟩
   |blk l jr=>obtain⟨jr',rfl,h4⟩:=d;obtain⟨g1,g2,b,hb,h5⟩:=hh;simp only[inO]at hin;exact⟨hjs jr hin,by rw[hlk _ _ h4];omega,b,hb,by rw[hlk _ _ h4];omega⟩
   |arr n f=>obtain⟨g,rfl,h7⟩:=d;obtain⟨b,c,T,hb,h4,h5,h6⟩:=hh;exact⟨b,c,T,hb,h4,h5,λq hq=>by rw[<- h7 q hq];exact⟨(h6 q hq).1.keeps hk,(h6 q hq).2⟩⟩
   |ghost cs=>obtain⟨cs',rfl,hl⟩:=d;obtain⟨l1,g1⟩:=Md hl;obtain⟨vs,hb,h5,h6⟩:=hh;refine⟨vs,hb,h5.trans l1,λq hq=>?_⟩;refine hA (h6 q (by omega)) (g1 q (by omega)).1 (Me hin q hq) λz hz=>BW0 _ ?_;exact hseenR (λ_ _ h=>h) h1 (.inr ⟨hmem,h2⟩) z (by grind)
   |yld r b=>have d:o=.yld r b:=d;subst d;exact hh
   |fam e n jr x=>
    obtain⟨jr',x',rfl,h4,h5⟩:=d;obtain⟨rv,g1,g2,hv2⟩:=hh;simp only[inO,BT5]at hin;refine⟨rv,hjs jr hin.1,by grind,?_⟩;rcases hv2 with hv2|⟨b,cap,c,hb,k1,k2,k3,k4,k5,k6⟩
    .grind
    refine .inr ⟨b,cap,c,hb,k1,k2,k3,k4,?_,?_⟩
    .grind
    cases x with
    |none=>simp
    |some q=>obtain⟨i,a⟩:=q;obtain⟨a',rfl,h6,h7⟩:=h5;refine hA k6 h7 hin.2 λz hz=>?_;cases a<;>cases a'<;>first|(simp[nov]at h6;done)|(unfold MJ at hz;simp at hz)
   |rows n g=>
    obtain⟨g',rfl,h4⟩:=d;obtain⟨rv,hb,k1,k2⟩:=hh;refine⟨rv,hb,λq hq=>by rw[<- h4 q hq];exact (k1 q hq).keeps' hk λ_ _=>rfl,λq l b hq hl h8 h9=>?_⟩;rw[<- h4 q hq]at h8;rw[<- h4 l hl]at h9
    grind
   |dead=>trivial
  rw[hnil j h1];exact .inl ⟨rfl,rfl⟩
 .intro i j oi oj b hi s hbi hbj;obtain⟨i',o1,h1,h2,d,_⟩:=hown i oi b hi hbi;obtain⟨j',o2,h4,h5,h6,_⟩:=hown j oj b s hbj
  have:=h.hp.sep i' j' o1 o2 b h2 h5 d h6
  grind[BK0]
 .intro j p b off s hb;obtain⟨i,o,_,h2,d,_⟩:=hown j p b s hb;exact h.hp.out i o b off h2 d
 .rintro b ⟨j,p,s,hb⟩;obtain⟨i,o,_,h2,d,_⟩:=hown j p b s hb;exact h.own b ⟨i,o,h2,d⟩
 .intro j r b s;rcases Hq hR s with⟨i,o,h1,h2,d⟩ | ⟨h1,e,k,f,vw,he⟩
  .have d:o=.yld r b:=d;subst d;rw[hlk j i h1];exact h.yld i r b h2
  grind
 .intro x;rcases YY hE x with⟨b,h1,h2,d,h4⟩ | h1
  .rw[h2];exact hA (h.env x) d (hwe _ h1) (by grind)
  rw[h1];exact .top _
 intro j s hl;obtain⟨p,hp⟩:=BU6.1 hl;rcases Hq hR hp with⟨i,o,h1,h2,d⟩ | ⟨h1,_⟩
 .have:=BK1 hpin h1 s
  subst this;rw[hlk _ _ h1];exact h.pin _ s (by grind[Lv])
 exfalso
 have:∀{r:C8},UG ids r=true->(j,p)∈r->False:=by
  intro r
  induction r with
  |nil=>grind
  |cons q r ih=>
   intro hq hm;obtain⟨x,y⟩:=q;simp only[UG,BT5,BV9,decide_eq_true_eq]at hq
   grind
 grind[WA]
def semUp.le {ids:List (Nat×Nat)}{K:St->Prop}(hle:Le ids st t)(b:K t):semUp st K:=λC a w rho hs=>⟨t,_,b,(hs.le hle).2,(hs.le hle).1⟩
end
def Bh4 (j n j' : Nat)(env:Env)(t:Nat):get (Bs1 j n j' env) t=Bf2 j n j' (get env t):=by
 induction env with
 |nil=>rfl
 |cons p r ih=>
  grind[Bs1,get]
def AS1 (j n j' : Nat)(Qg:C8)(t:Nat):A2 (Aw9 j n j' Qg) t=(A2 Qg t).map (BG7 j n j'):=by
 induction Qg with
 |nil=>rfl
 |cons p r ih=>
  grind[Aw9,A2]
def WB (j n j' : Nat):∀l:List AV,(Bs2 j n j' l).length=l.length
 |[]=>rfl
 |_::r=>congrArg (· + 1) (WB j n j' r)
def Ax9 (j n j' : Nat):∀(l:List AV) (i:Nat),(Bs2 j n j' l).getD i .top=Bf2 j n j' (l.getD i .top)
 |[],i=>by simp[Bs2,Bf2]
 |a::r,0=>rfl
 |a::r,i+1=>by simpa[Bs2]using Ax9 j n j' r i
theorem Ay0 {w:World}{Pi Pi' : Nat->Nat->Prop}{live live' : Nat->Prop}{rho rho' : Nat->Value}{j n j' : Nat}(hk:S0 w Pi w Pi')(hl:∀i,live i->live' i/\rho' i=rho i)(a:live' j')
 (b:∀base N cap,rho j=.slice base N cap->rho' j' = .slice base n cap) {v:Value}{x:AV}(h:Ud w Pi live rho v x):Ud w Pi' live' rho' v (Bf2 j n j' x):=by
 have c:=h.keeps hk hl;cases h with
 |vecp i m base N cap hl' hr hm=>
  simp only[Bf2];split
  .rename_i e;obtain⟨rfl,rfl⟩:=e;exact .vec j' base _ cap a (b _ _ _ hr)
  omega
 |_=>exact c
def semUp.trunc {st:St}{j j' n N k:Nat}{e:TypeId}{f:Nat->List PV}{K:St->Prop}(hj:A2 st.Qg j=some (.vec e k N f false))(hn:n<=N)(hf:A2 st.Qg j' = none)(h1:1000<=j')
 (hK:K ⟨Bs1 j n j' st.env,ins j' (.vec e k n f false) (ins j .dead (Aw9 j n j' st.Qg))⟩):semUp st K:=λC a w rho hs=>by
 have hne:j≠j':=by grind
 obtain⟨rho',x,y⟩:∃rho' : Nat->Value,(∀i,i≠j' -> rho' i=rho i)/\∀base M cap,rho j=.slice base M cap->rho' j' = .slice base n cap:=
  ⟨λi=>if i=j' then (match rho j with | .slice b _ c=>.slice b n c|v=>v)else rho i,λi q=>Gb q,by grind⟩
 have d:∀i,A2 (ins j' (.vec e k n f false) (ins j .dead (Aw9 j n j' st.Qg))) i=if j' = i then some (.vec e k n f false)else if j=i then some .dead else (A2 st.Qg i).map (BG7 j n j'):=λi=>by rw[A4,A4,AS1]
 have m:=hs.hp.holds j _ hj;have a0:G1 (rho' j') (.vec e k n f false)=G1 (rho j) (.vec e k N f false):=by rcases m with⟨h,_⟩ | ⟨b,cap,c,h,_⟩<;>rw[y _ _ _ h,h]<;>rfl
 have hpriv:∀i oi b off,(i=j \/ i=j' \/ ∃cs,A2 st.Qg i=some (.cells cs))->A2 st.Qg i=some oi->G1 (rho i) oi b->Prv C.X (A2 st.Qg) rho b off:=by
  rintro i oi b off (rfl|rfl|⟨cs,hc⟩) g hb
  .rw[hj]at g;cases g;exact .inr ⟨_,_,hj,hb,trivial⟩
  .rw[hf]at g;grind
  rw[hc]at g;cases g;exact .inr ⟨_,_,hc,hb,trivial⟩
 have s:∀i o b,A2 (ins j' (.vec e k n f false) (ins j .dead (Aw9 j n j' st.Qg))) i=some o->G1 (rho' i) o b ->
  ∃i0 o0,A2 st.Qg i0=some o0/\G1 (rho i0) o0 b/\(i=j' /\ i0=j \/ i≠j' /\ i0=i)/\(∀off,MF o off->MF o0 off):=by
  intro i o b g hb;rw[d]at g;split at g
  .rename_i e1;subst e1;cases g;rw[a0]at hb;exact⟨j,_,hj,hb,.inl ⟨rfl,rfl⟩,λ_ h=>h⟩
  rename_i e1;split at g
  .cases g;cases hb
  obtain⟨o0,z,rfl⟩:=BV0.1 g;rw[x i (λh=>e1 h.symm)]at hb;refine⟨i,o0,z,?_,by omega,?_⟩
  .cases o0<;>exact hb
  cases o0<;>exact λ_ h=>h
 have u:∀i,Lv (A2 st.Qg) i->Lv (A2 (ins j' (.vec e k n f false) (ins j .dead (Aw9 j n j' st.Qg)))) i/\rho' i=rho i:=by
  intro i q;have a1:i≠j':=by rintro rfl;grind[Lv]
  refine⟨?_,x i a1⟩;unfold Lv at q⊢;rw[d,Gb (λh=>a1 h.symm)]
  grind
 have hlj:Lv (A2 (ins j' (.vec e k n f false) (ins j .dead (Aw9 j n j' st.Qg)))) j':=by unfold Lv;rw[d,Fg rfl];rfl
 obtain⟨h2,hk⟩:=hs.step (D:=λi=>i=j \/ i=j' \/ ∃cs,A2 st.Qg i=some (.cells cs)) (R':=ins j' (.vec e k n f false) (ins j .dead (Aw9 j n j' st.Qg))) (rho':=rho') (w':=w)
  (λi q=>by
   rw[d,Dm,Dm];cases g:A2 st.Qg i with
   |none=>rfl
   |some o=>cases o<;>first|rfl|grind)
  u (BT8 _)
  (λi q hl=>by
   unfold Lv at q hl;rw[d]at hl
   grind)
  (λi r b q=>by
   rw[d];split
   .simp
   rename_i e1;split
   .simp
   rename_i e2;rcases q with rfl|rfl|⟨cs,hc⟩
   .exact Hc rfl e2
   .exact Hc rfl e1
   rw[hc];simp[BG7])
  (λ_ _ _=>rfl)
  (by grind)
  (λi i' oi oj b q hi' g a2 hb a3=>by
   obtain⟨i0,o0,g1,g2,g3,_⟩:=s i oi b g hb;obtain⟨i1,o1,g1',g2',g3',_⟩:=s i' oj b a2 a3;have hs':=hs.hp.sep i0 i1 o0 o1 b g1 g1' g2 g2';have hd:∀i o,A2 (ins j' (.vec e k n f false) (ins j .dead (Aw9 j n j' st.Qg))) i=some o->G1 (rho' i) o b->i≠j:=by rintro i o g hb rfl;rw[d,Gb (λh=>hne h.symm),Fg rfl]at g;cases g;cases hb
   have d1:=hd i oi g hb;have d2:=hd i' oj a2 a3;rcases g3 with⟨rfl,rfl⟩ | ⟨g3,rfl⟩<;>rcases g3' with⟨rfl,rfl⟩ | ⟨g3',rfl⟩
   all_goals omega)
  (by grind)
  (λhk i o q g=>by
   rw[d]at g;split at g
   .rename_i e1;subst e1;cases g;have m:=m.keeps (w':=w) hk (by omega) (λ_ _=>rfl);rcases m with⟨h,h0⟩ | ⟨b,cap,c,h,g1,g2,g3,g4,g5,g6⟩
    .refine .inl ⟨?_,by omega⟩
     have:=y _ _ _ h
     rw[this]
     have:n=0:=by omega
     rw[this]
    exact .inr (by grind)
   rename_i e1;split at g
   .cases g;trivial
   rename_i e2;obtain⟨o0,z,rfl⟩:=BV0.1 g;rw[x i (λh=>e1 h.symm)];have hh:=hs.hp.holds i _ z;cases o0 with
   |cells cs=>
    obtain⟨b,c,T,g0,g1,g2,g3⟩:=hh;refine⟨b,c,T,g0,g1,by rw[WB];omega,λl hl=>?_⟩;rw[WB]at hl;rw[Ax9]
    grind[Ay0]
   |_=>exact (by grind))
 refine⟨_,rho',hK,?_,⟨h2.toSatE,λt=>?_,h2.pin,h2.marks⟩⟩
 .rintro b off (hX|⟨i,o,q,hb,hp⟩)
  .exact .inl hX
  obtain⟨i0,o0,g1,g2,_,g4⟩:=s i o b q hb;exact .inr (by grind)
 show Ud w _ _ rho' (a.tmps.getD t undef) (get (Bs1 j n j' st.env) t);rw[Bh4];exact Ay0 hk u hlj y (hs.env t)
def Bh5 {w:World}{Pi Pi' : Nat->Nat->Prop}{live:Nat->Prop}{rho:Nat->Value}{v:Value}{o:Obj}{x:PV}(h:rowV w Pi live rho v o)(hp:YA o=some x)(hk:S0 w Pi w Pi')
 (hb:∀b,Q9 v o=some b->∀off,¬Pi' b off):Sb w Pi' v x:=by
 unfold YA at hp;split at hp
 .rename_i e k n f;cases hp;rcases h with⟨rfl,rfl⟩ | ⟨b,cap,c,rfl,h1,d,m,s,q,g⟩
  .exact .slnil _ _
  refine .sl false b 0 cap k n f (λi j=>c.getD (i*k+j) undef) d q (λi l a hl=>?_) (λi l a hl=>(g i l a hl).1.keeps hk) none (λ_=>rfl);have r:=M8 a hl;have hle:n*k<=c.size:=by rw[m];exact BU7 k d
  rw[BW8];exact⟨cell_of_heap h1 (by omega),hb b rfl _,(g i l a hl).2⟩
 .cases hp;exact h.keeps hk
 grind
section
variable {st t:St}{j jr j' i:Nat}{g:Nat->Obj}{c:List Prop}{K:St->Prop}
def semUp.famF (he:X1 (.fam j jr g) st=some (c,t))(hc:E5 c)(hK:K t):semUp st K:=λC a w rho hs=>by
 simp only[X1]at he;split at he
 .rename_i e n f hj hf;cases he;obtain⟨h1,hrow⟩:=hc;have hne:j≠jr:=by grind
  obtain⟨rv,hrv⟩:∃rv:Array Value,(rho j=.slice none 0 0/\n=0) \/ ∃b cap,rho j=.slice (some ⟨b,0,none⟩) n cap/\w.heap[b]? = some (.cells rv e (0,0))/\n<=cap/\rv.size=cap/\cap<=maxLen /\
   ∀i,i<n->(∃x,f i=[x]/\Sb w (PiS C st rho) (rv.getD i undef) x)/\(rv.getD i undef).oneCell' = true:=by
   rcases hs.hp.holds j _ hj with⟨h,h0⟩ | ⟨b,cap,c,h,g1,g2,g3,g4,g5,g6⟩
   .simp_all
   refine⟨c,.inr ⟨b,cap,h,g1,g2,by omega,g4,λi hi=>?_⟩⟩;obtain⟨x,hx⟩:=Cg0.1 (g5 i hi)
   have:=g6 i 0 hi (by omega)
   rw[hx,BY0,Cb6]at this
   grind
  have hnew:∀i,i<n->Q9 (rv.getD i undef) (g i)=none/\∀{Pi' live' rho'},S0 w (PiS C st rho) w Pi' -> rowV w Pi' live' rho' (rv.getD i undef) (g i):=by
   intro i hi;have r:=hrow i hi;rcases hrv with⟨_,h0⟩ | ⟨b,cap,_,_,_,_,_,hx⟩
   .omega
   obtain⟨⟨x,hfx,hx⟩,_⟩:=hx i hi;rw[hfx]at r;unfold UH at r;split at r
   .rename_i s;cases r;rw[hx.toV,s];exact⟨rfl,λ_=>.inl ⟨rfl,rfl⟩⟩
   .rename_i y s;obtain⟨r,_⟩:=r;cases r;rw[s];exact⟨rfl,λhk=>hx.keeps hk⟩
   grind
  have l:∀q,A2 (ins jr (.rows n g) (ins j (.fam e n jr none) st.Qg)) q=if jr=q then some (.rows n g)else if j=q then some (.fam e n jr none)else A2 st.Qg q:=λq=>by rw[A4,A4]
  obtain⟨rho',hr'⟩:∃rho' : Nat->Value,rho' = λq=>if q=jr then .agg rv else rho q:=⟨_,rfl⟩
  have u:rho' jr=.agg rv:=by rw[hr'];grind
  have v:∀q,q≠jr->rho' q=rho q:=(by grind);have z:∀q,Lv (A2 st.Qg) q->Lv (A2 (ins jr (.rows n g) (ins j (.fam e n jr none) st.Qg))) q/\rho' q=rho q:=λq hq=>
   ⟨Jk (Jk hq),v q (by rintro rfl;grind[Lv])⟩
  have hwas:∀q o b,(q=j \/ q=jr)->A2 (ins jr (.rows n g) (ins j (.fam e n jr none) st.Qg)) q=some o->G1 (rho' q) o b->q=j/\G1 (rho j) (.vec e 1 n f false) b:=by
   intro q o b hq d hb;rw[l]at d;split at d
   .rename_i e1;subst e1;cases d;rw[u]at hb;obtain⟨rv',he,i,hi,hb⟩:=hb
    grind
   rename_i e1;obtain rfl:q=j:=(by omega);rw[Fg rfl]at d;cases d;rw[v q hne]at hb;exact⟨rfl,hb⟩
  obtain⟨h2,h3⟩:=hs.re (λq=>q=j \/ q=jr) (R':=ins jr (.rows n g) (ins j (.fam e n jr none) st.Qg)) (rho':=rho')
   (by grind) z
   (λq hq m=>by
    rcases FO m with rfl|m
    .omega
    rcases FO m with rfl|m
    all_goals grind[Hc,YV])
   (by grind)
   (by grind)
   (by grind)
   (λq o hq d off=>by
    rcases hq with rfl|rfl
    .rw[hj]at d;cases d;trivial
    grind)
   (λ_ hk q o hq d=>by
    rw[l]at d;split at d
    .rename_i e1;subst e1;cases d;rw[u];exact⟨rv,rfl,by grind,by grind⟩
    rename_i e1;obtain rfl:q=j:=(by omega);rw[Fg rfl]at d;cases d;rw[v q hne];refine⟨rv,by unfold Lv;rw[l,Fg rfl];rfl,u,?_⟩
    grind)
  grind
 grind
def semUp.famO (v:X1 (.over j i) st=some (c,t))(hc:E5 c)(hK:K t):semUp st K:=λC a w rho hs=>by
 simp only[X1]at v;split at v
 .rename_i e n jr hj;split at v
  .rename_i m g x;cases v;obtain⟨rfl,hi0⟩:=hc;have hne:j≠jr:=by grind
   obtain⟨rv,l1,l2,y⟩:=hs.hp.holds j _ hj;obtain⟨rv',e1,z,hdis⟩:=hs.hp.holds jr _ x;rw[l2]at e1;cases e1;have r:∀q,A2 (ins jr (.rows m λl=>if l=i then .dead else g l) (ins j (.fam e m jr (some (i,.top))) st.Qg)) q=if jr=q then some (.rows m λl=>if l=i then .dead else g l)else if j=q then some (.fam e m jr (some (i,.top)))else A2 st.Qg q:=λq=>by rw[A4,A4]
   have hrowb:∀l b,Q9 (rv.getD l undef) (if l=i then .dead else g l)=some b->Q9 (rv.getD l undef) (g l)=some b:=by
    intro l b h;split at h
    .cases h
    omega
   have s:∀q o b,(q=j \/ q=jr)->A2 (ins jr (.rows m λl=>if l=i then .dead else g l) (ins j (.fam e m jr (some (i,.top))) st.Qg)) q=some o->G1 (rho q) o b->∃oi,A2 st.Qg q=some oi/\G1 (rho q) oi b:=by
    intro q o b u d hb;rw[r]at d;split at d
    .rename_i e1;subst e1;cases d;obtain⟨rv',v,l,hl,hb⟩:=hb;exact⟨_,x,rv',v,l,hl,by rw[l2]at v;grind⟩
    rename_i e1;obtain rfl:q=j:=(by omega);rw[Fg rfl]at d;cases d;exact⟨_,hj,hb⟩
   obtain⟨h2,h3⟩:=hs.re (λq=>q=j \/ q=jr) (R':=ins jr (.rows m λl=>if l=i then .dead else g l) (ins j (.fam e m jr (some (i,.top))) st.Qg)) (rho':=rho)
    (by grind) (λq u=>⟨Jk (Jk u),rfl⟩)
    (λq u f=>by
     rcases FO f with rfl|f
     .grind
     rcases FO f with rfl|f
     all_goals grind[Hc,YV])
    (by grind)
    (by grind)
    (λq q' o o' b u f d ho' hb hb'=>by obtain⟨o1,g1,g2⟩:=s q o b u d hb;obtain⟨o2,g3,g4⟩:=s q' o' b f ho' hb';exact hs.hp.sep q q' o1 o2 b g1 g3 g2 g4)
    (λq o u d off=>by
     rcases u with rfl|rfl
     .rw[hj]at d;cases d;trivial
     rw[x]at d;cases d;trivial)
    (λ_ hk q o u d=>by
     rw[r]at d;split at d
     .rename_i e1;subst e1;cases d;refine⟨rv,l2,λl hl=>?_,by grind⟩;by_cases e:l=i
      .simp only[Fg e];trivial
      simp only[Gb e];exact (z l hl).keeps' hk λ_ _=>rfl
     rename_i e1;obtain rfl:q=j:=(by omega);rw[Fg rfl]at d;cases d;refine⟨rv,Jk (Jk l1),l2,?_⟩;rcases y with h|⟨b,cap,c,g1,g2,g3,g4,g5,g6,g7⟩
     .omega
     exact .inr ⟨b,cap,c,g1,g2,g3,g4,g5,by grind,.top _⟩)
   grind
  grind
 grind
def semUp.famP (he:X1 (.pub j) st=some (c,t))(hc:E5 c)(hK:K t):semUp st K:=λC a w rho hs=>by
 simp only[X1]at he;split at he
 .rename_i e n jr hj;split at he
  .rename_i m g f;cases he;obtain⟨rfl,hpr⟩:=hc;have hne:j≠jr:=by grind
   obtain⟨rv,l1,l2,u⟩:=hs.hp.holds j _ hj;obtain⟨rv',e1,v,hdis⟩:=hs.hp.holds jr _ f;rw[l2]at e1;cases e1;have s:∀q,A2 (ins jr .dead (ins j (.vec e 1 m (λi=>[(YA (g i)).getD default]) false) st.Qg)) q=if jr=q then some .dead else if j=q then some (.vec e 1 m (λi=>[(YA (g i)).getD default]) false)else A2 st.Qg q:=λq=>by rw[A4,A4]
   have y:∀q o b,A2 (ins jr .dead (ins j (.vec e 1 m (λi=>[(YA (g i)).getD default]) false) st.Qg)) q=some o->G1 (rho q) o b->q≠jr/\∃oi,A2 st.Qg q=some oi/\G1 (rho q) oi b:=by
    intro q o b d hb;rw[s]at d;split at d
    .cases d;cases hb
    rename_i e1;refine⟨λe=>e1 e.symm,?_⟩;split at d
    .rename_i e2;subst e2;cases d;exact⟨_,hj,hb⟩
    grind
   obtain⟨h2,h3⟩:=hs.re (λq=>q=j \/ q=jr) (R':=ins jr .dead (ins j (.vec e 1 m (λi=>[(YA (g i)).getD default]) false) st.Qg)) (rho':=rho)
    (by grind) (λq z=>⟨Jk (Jk z),rfl⟩)
    (λq z r=>by
     rcases FO r with rfl|r
     .grind
     rcases FO r with rfl|r
     all_goals grind[Hc,YV])
    (by grind)
    (by grind)
    (by grind)
    (λq o z d off=>by
     rcases z with rfl|rfl
     .rw[hj]at d;cases d;trivial
     rw[f]at d;cases d;trivial)
    (λ_ hk q o z d=>by
     rw[s]at d;split at d
     .cases d;trivial
     rename_i e1;obtain rfl:q=j:=(by omega);rw[Fg rfl]at d;cases d;rcases u with h|⟨b,cap,c,g1,g2,g3,g4,g5,g6,g7⟩
     .exact .inl h
     refine .inr ⟨b,cap,c,g1,g2,g3,by omega,g5,λ_ _=>rfl,λi l hi hl=>?_⟩;obtain rfl:l=0:=by omega
     rw[BY0,Cb6];refine⟨?_,(g6 i hi).1⟩;rw[(g6 i hi).2 (by simp)];obtain⟨x,hx⟩:=BU6.1 (hpr i hi);show Sb w _ _ ((YA (g i)).getD default);rw[hx];refine Bh5 (v i hi) hx hk λb' hb' off hp=>?_;have hbr:G1 (rho jr) (.rows m g) b':=⟨rv,l2,i,hi,hb'⟩;rcases hp with hX|⟨q',o',h5,h6,_⟩
     .exact hs.hp.out jr _ b' off f hbr hX
     obtain⟨h7,oi,h8,h9⟩:=y q' o' b' h5 h6;exact h7 (hs.hp.sep q' jr oi _ b' h8 f h9 hbr))
   grind
  grind
 grind
def AS2 {o o' : Obj}{a:AV}(h:rowA j' o=some (a,o')):(∀v b,Q9 v o' = some b->Q9 v o=some b)/\(∀off,MF o' off)/\(∀r b,o' ≠ .yld r b)/\(∀n g,o' ≠ .rows n g) /\
 ∀{w Pi Pi' live live' rho rho' v},S0 w Pi w Pi' -> rowV w Pi live rho v o->live' j' -> rho' j' = v->Ue w Pi' live' rho' v o' /\ Ud w Pi' live' rho' v a:=by
 unfold rowA at h;split at h
 .rename_i e k n f;cases h;refine⟨λ_ _ h=>h,λ_=>trivial,by grind,by grind,λhk c hl d=>?_⟩;refine⟨c.keeps' hk λ_ _=>rfl,?_⟩;obtain⟨base,cap,hs⟩:=MM (vw:=false) (e:=e) (k:=k) (n:=n) (f:=f) c;rw[hs]at d⊢;exact .vec j' _ _ _ hl d
 .rename_i es;cases h;refine⟨λ_ _ h=>h,λ_=>trivial,by grind,by grind,λhk c hl d=>?_⟩;refine⟨c.keeps' hk λ_ _=>rfl,?_⟩;obtain⟨b,Se,clock,hs,_⟩:=c;rw[hs]at d⊢;exact .Sc j' b hl d
 .cases h;exact⟨λ_ _ h=>(nomatch h),λ_=>trivial,by grind,by grind,λhk c hl d=>⟨trivial,.p _ _ (c.keeps hk)⟩⟩
 grind
def Bh6 {v:Value}{o:Obj}(h:∀n g,o ≠ .rows n g){b:Nat}(hb:G1 v o b):Q9 v o=some b:=by
 cases o with
 |rows n g=>grind
 |_=>exact hb
def semUp.famT (z:X1 (.take j i j') st=some (c,t))(hc:E5 c)(hK:K t):semUp st K:=λC a w rho hs=>by
 simp only[X1]at z;split at z
 .rename_i e n jr hj hf;split at z
  .rename_i m g r;split at z
   .rename_i av o' hra;cases z;obtain⟨⟨h1,rfl⟩,hi0⟩:=hc;obtain⟨s1,s2,s3,s4,s5⟩:=AS2 hra;have v:j≠jr:=by grind
    have hn1:j≠j':=by grind
    have hn2:jr≠j':=by grind
    obtain⟨rv,l1,l2,hfam⟩:=hs.hp.holds j _ hj;obtain⟨rv',e1,hrow,hdis⟩:=hs.hp.holds jr _ r;rw[l2]at e1;cases e1;obtain⟨R',a0⟩:∃R' : C8,R' = ins j' o' (ins jr (.rows m λl=>if l=i then .dead else g l) (ins j (.fam e m jr (some (i,av))) st.Qg)):=⟨_,rfl⟩;have s:∀q,A2 R' q=if j' = q then some o' else if jr=q then some (.rows m λl=>if l=i then .dead else g l)else if j=q then some (.fam e m jr (some (i,av)))else A2 st.Qg q:=λq=>by rw[a0,A4,A4,A4]
    obtain⟨rho',hr'⟩:∃rho' : Nat->Value,rho' = λq=>if q=j' then rv.getD i undef else rho q:=⟨_,rfl⟩
    have hr1:rho' j' = rv.getD i undef:=by rw[hr'];grind
    have a1:∀q,q≠j' -> rho' q=rho q:=(by grind);have u:∀q,Lv (A2 st.Qg) q->Lv (A2 R') q/\rho' q=rho q:=λq hq=>
     ⟨by rw[a0];grind[Jk],a1 q (by rintro rfl;grind[Lv])⟩
    have hrowb:∀l b,Q9 (rv.getD l undef) (if l=i then .dead else g l)=some b->l≠i/\Q9 (rv.getD l undef) (g l)=some b:=by
     intro l b h;split at h
     .cases h
     grind
    have hlj:Lv (A2 R') j':=by unfold Lv;rw[s,Fg rfl];rfl
    have y:∀q o b,(q=j \/ q=jr \/ q=j')->A2 R' q=some o->G1 (rho' q) o b ->
     (q=j' /\ Q9 (rv.getD i undef) (g i)=some b) \/ (q=jr/\∃l,l<m/\l≠i/\Q9 (rv.getD l undef) (g l)=some b) \/ (q=j/\G1 (rho j) (.fam e m jr none) b):=by
     intro q o b hq d hb;rw[s]at d;split at d
     .rename_i e1;subst e1;cases d;rw[hr1]at hb;exact .inl ⟨rfl,s1 _ _ (Bh6 s4 hb)⟩
     rename_i e1;rw[a1 q (λe=>e1 e.symm)]at hb;split at d
     .rename_i e2;subst e2;cases d;obtain⟨rv',z,l,hl,hb⟩:=hb;rw[l2]at z;grind
     rename_i e2;obtain rfl:q=j:=(by omega);rw[Fg rfl]at d;cases d;exact .inr (.inr ⟨rfl,hb⟩)
    have x:∀l b,l<m->Q9 (rv.getD l undef) (g l)=some b->G1 (rho jr) (.rows m g) b:=λl b hl hb=>⟨rv,l2,l,hl,hb⟩;obtain⟨h2,h3⟩:=hs.re (λq=>q=j \/ q=jr \/ q=j') (R':=R') (rho':=rho')
     (by grind) u
     (λq hq f=>by
      rw[a0]at f;rcases FO f with rfl|f
      .omega
      rcases FO f with rfl|f
      .grind
      rcases FO f with rfl|f
      all_goals grind[Hc,YV])
     (by grind)
     (by grind)
     (λq q' o o2 b hq f d ho' hb hb'=>by
      rcases y q o b hq d hb with⟨rfl,h⟩ | ⟨rfl,l,hl,hli,h⟩ | ⟨rfl,h⟩<;>rcases y q' o2 b f ho' hb' with⟨rfl,h'⟩ | ⟨rfl,l',hl',hli',h'⟩ | ⟨rfl,h'⟩
      .rfl
      .grind
      .exact Hc (hs.hp.sep _ _ _ _ b hj r h' (x i b hi0 h)) v
      .grind
      .rfl
      .exact Hc (hs.hp.sep _ _ _ _ b hj r h' (x l b hl h)) v
      .exact Hc (hs.hp.sep _ _ _ _ b hj r h (x i b hi0 h')) v
      .exact Hc (hs.hp.sep _ _ _ _ b hj r h (x l' b hl' h')) v
      rfl)
     (λq o hq d off=>by
      rcases hq with rfl|rfl|rfl
      .rw[hj]at d;cases d;trivial
      .rw[r]at d;cases d;trivial
      grind)
     (λ_ hk q o hq d=>by
      rw[s]at d;split at d
      .grind
      rename_i e1;rw[a1 q (λe=>e1 e.symm)];split at d
      .rename_i e2;subst e2;cases d;refine⟨rv,l2,λl hl=>?_,by grind⟩;by_cases e:l=i
       .simp only[Fg e];trivial
       simp only[Gb e];exact (hrow l hl).keeps' hk λ_ _=>rfl
      rename_i e2;obtain rfl:q=j:=(by omega);rw[Fg rfl]at d;cases d;refine⟨rv,(u jr l1).1,by grind,?_⟩
      grind)
    grind
   grind
  grind
 grind
def UU (jo:Option Nat)(Qg:C8)(q:Nat):A2 (Aj1 jo Qg) q=if jo=some q then some .dead else A2 Qg q:=by
 cases jo with
 |none=>simp[Aj1]
 |some j=>simp[Aj1,A4]
def Ay1 {C:Ctx}{a:Act}{w:World}{rho:Nat->Value}(hs:Sat C st a w rho){x:AV}{jo:Option Nat}{o:Obj}(h:ofA st.Qg x=some (jo,o)){v:Value}(j:RS C st w rho v x) :(∀j',jo=some j' -> A2 st.Qg j' = some o/\rho j' = v/\(∀off,MF o off)/\(∀e n r y,o ≠ .fam e n r y)/\∀n g,o ≠ .rows n g)/\(∀b,Q9 v o=some b->∃j',jo=some j' /\ G1 (rho j') o b) /\
 ∀{Pi' live' rho'},S0 w (PiS C st rho) w Pi' -> rowV w Pi' live' rho' v o:=by
 unfold ofA at h;split at h
 .rename_i j';split at h
  .rename_i e k l f d;cases h;have i:=hs.hp.holds j' _ d;have c:rho j' = v:=by cases j;omega
   rw[c]at i;exact⟨λq m=>by cases m;exact⟨d,c,λ_=>trivial,by grind,by grind⟩,λb hb=>⟨j',rfl,by rw[c];exact hb⟩,λhk=>rowV.keeps' (o:=.vec e k l f false) hk i λ_ _=>rfl⟩
  grind
 .rename_i j';split at h
  .rename_i es d;cases h;have i:=hs.hp.holds j' _ d;have c:rho j' = v:=by cases j;omega
   rw[c]at i;exact⟨λq m=>by cases m;exact⟨d,c,λ_=>trivial,by grind,by grind⟩,λb hb=>⟨j',rfl,by rw[c];exact hb⟩,λhk=>rowV.keeps' (o:=.map es) hk i λ_ _=>rfl⟩
  grind
 .cases h;exact⟨by grind,λ_ hb=>(nomatch hb),λhk=>j.toP.keeps hk⟩
 grind
def semUp.famB (he:X1 (.put j j') st=some (c,t))(hc:E5 c)(hK:K t):semUp st K:=λC a w rho hs=>by
 simp only[X1]at he;split at he
 .rename_i e n jr i x hj hf;split at he
  .rename_i m g jo o f ho;cases he;obtain⟨⟨h1,rfl⟩,hi0⟩:=hc;obtain⟨rv,l1,l2,hfam⟩:=hs.hp.holds j _ hj;obtain⟨rv',e1,hrow,hdis⟩:=hs.hp.holds jr _ f;rw[l2]at e1;cases e1;obtain⟨b0,cap,c,g1,g2,g3,g4,g5,g6,g7⟩:=hfam.resolve_left (λh=>by omega);obtain⟨s1,s2,s3⟩:=Ay1 hs ho g7;have hne:j≠jr:=by grind
   have hn1:j≠j':=by grind
   have hn2:jr≠j':=by grind
   have y:∀q,jo=some q->q≠j/\q≠jr/\q≠j':=by
    grind
   obtain⟨rn,r⟩:∃rn:Array Value,∀q,q<m->rn.getD q undef=if q=i then c.getD i undef else rv.getD q undef:=
    ⟨Array.ofFn (n:=m) λq=>if q.1=i then c.getD i undef else rv.getD q.1 undef,λq v=>by simp[BT3,v]⟩
   obtain⟨R',hR'⟩:∃R' : C8,R' = ins j' (.rows m λq=>if q=i then o else g q) (Aj1 jo (ins jr .dead (ins j (.fam e m j' none) st.Qg))):=⟨_,rfl⟩;have s:∀q,A2 R' q=if j' = q then some (.rows m λq=>if q=i then o else g q)else if jo=some q then some .dead else if jr=q then some .dead else if j=q then some (.fam e m j' none)else A2 st.Qg q:=λq=>by rw[hR',A4,UU,A4,A4]
   obtain⟨rho',hr'⟩:∃rho' : Nat->Value,rho' = λq=>if q=j' then .agg rn else rho q:=⟨_,rfl⟩
   have z:rho' j' = .agg rn:=by rw[hr'];grind
   have a0:∀q,q≠j' -> rho' q=rho q:=(by grind);have hlv:∀q,Lv (A2 R') q↔q=j' \/ Lv (A2 st.Qg) q:=by
    intro q;unfold Lv;rw[s]
    grind
   have a1:∀q,Lv (A2 st.Qg) q->Lv (A2 R') q/\rho' q=rho q:=λq v=>
    ⟨(hlv q).2 (.inr v),a0 q (by rintro rfl;grind[Lv])⟩
   have hwas:∀q o2 b,(q=j \/ q=jr \/ q=j' \/ jo=some q)->A2 R' q=some o2->G1 (rho' q) o2 b ->
    (q=j' /\ ((∃q',jo=some q' /\ G1 (rho q') o b) \/ ∃l,l<m/\Q9 (rv.getD l undef) (g l)=some b)) \/ (q=j/\G1 (rho j) (.fam e m jr (some (i,x))) b):=by
    intro q o2 b v d hb;rw[s]at d;split at d
    .rename_i e1;subst e1;cases d;rw[z]at hb;obtain⟨rv',he,l,hl,hb⟩:=hb;cases he;rw[r l hl]at hb;refine .inl ⟨rfl,?_⟩;by_cases e:l=i
     .grind
     grind
    rename_i e1;split at d
    .cases d;cases hb
    rename_i e2;split at d
    .cases d;cases hb
    rename_i e3;obtain rfl:q=j:=(by grind);rw[Fg rfl]at d;cases d;rw[a0 q hn1]at hb;exact .inr ⟨rfl,hb⟩
   have a2:∀l b,l<m->Q9 (rv.getD l undef) (g l)=some b->G1 (rho jr) (.rows m g) b:=λl b hl hb=>⟨rv,l2,l,hl,hb⟩;have hcross:∀b,((∃q',jo=some q' /\ G1 (rho q') o b) \/ ∃l,l<m/\Q9 (rv.getD l undef) (g l)=some b)->¬G1 (rho j) (.fam e m jr (some (i,x))) b:=by
    rintro b (⟨q',k1,k2⟩ | ⟨l,hl,k2⟩) hb
    .exact (y q' k1).1 (hs.hp.sep _ _ _ _ b (s1 q' k1).1 hj k2 hb)
    exact hne (hs.hp.sep _ _ _ _ b hj f hb (a2 l b hl k2))
   obtain⟨h2,h3⟩:=hs.re (λq=>q=j \/ q=jr \/ q=j' \/ jo=some q) (R':=R') (rho':=rho')
    (by grind) a1
    (by grind)
    (by grind)
    (λq o2 b v d hb=>by
     rcases hwas q o2 b v d hb with⟨rfl,⟨q',k1,k2⟩ | ⟨l,hl,k2⟩⟩ | ⟨rfl,h⟩
     .grind
     all_goals grind)
    (by grind)
    (λq o2 v d off=>by
     rcases v with rfl|rfl|rfl|v
     .rw[hj]at d;cases d;trivial
     .rw[f]at d;cases d;trivial
     all_goals grind)
    (λ_ hk q o2 v d=>by
     rw[s]at d;split at d
     .rename_i e1;subst e1;cases d;rw[z];refine⟨rn,rfl,λl hl=>?_,λl l' b hl hl' hb u=>?_⟩
      .rw[r l hl];by_cases e:l=i
       .grind
       simp only[Gb e];exact (hrow l hl).keeps' hk λ_ _=>rfl
      rw[r l hl]at hb;rw[r l' hl']at u;by_cases e:l=i<;>by_cases e' : l' = i
      .rw[e,e']
      .simp only[Fg e]at hb;simp only[Gb e']at u;obtain⟨q',k1,k2⟩:=s2 b hb;exact Hc (hs.hp.sep _ _ _ _ b (s1 q' k1).1 f k2 (a2 l' b hl' u)) (y q' k1).2.1
      .simp only[Gb e]at hb;simp only[Fg e']at u;obtain⟨q',k1,k2⟩:=s2 b u;exact Hc (hs.hp.sep _ _ _ _ b (s1 q' k1).1 f k2 (a2 l b hl hb)) (y q' k1).2.1
      grind
     rename_i e1;split at d
     .cases d;trivial
     rename_i e2;split at d
     .cases d;trivial
     rename_i e3;obtain rfl:q=j:=(by grind);rw[Fg rfl]at d;cases d;rw[a0 q hn1];refine⟨rn,by grind,z,.inr ⟨b0,cap,c,g1,g2,g3,g4,g5,λl hl=>⟨(g6 l hl).1,λ_=>?_⟩,trivial⟩⟩;rw[r l hl]
     grind)
   grind
  grind
 grind
def semUp.famH (he:X1 (.psh j j') st=some (c,t))(hc:E5 c)(hK:K t):semUp st K:=λC a w rho hs=>by
 simp only[X1]at he;split at he
 .rename_i e n jr m x hj hf;split at he
  .rename_i m1 g jo o u ho;cases he;obtain⟨h1,rfl,rfl⟩:=hc;obtain⟨rv,l1,l2,hfam⟩:=hs.hp.holds j _ hj;obtain⟨rv',e1,hrow,hdis⟩:=hs.hp.holds jr _ u;rw[l2]at e1;cases e1;obtain⟨b0,cap,c,g1,g2,g3,g4,g5,g6,g7⟩:=hfam.resolve_left (λh=>by omega);obtain⟨s1,s2,s3⟩:=Ay1 hs ho g7;have hne:j≠jr:=by grind
   have hn1:j≠j':=by grind
   have hn2:jr≠j':=by grind
   have z:∀q,jo=some q->q≠j/\q≠jr/\q≠j':=by intro q i;obtain⟨k1,_,_,k4,k5⟩:=s1 q i;exact⟨by grind,by grind,by grind⟩
   obtain⟨rn,v⟩:∃rn:Array Value,∀q,q<m+1->rn.getD q undef=if q=m then c.getD m undef else rv.getD q undef:=
    ⟨Array.ofFn (n:=m+1) λq=>if q.1=m then c.getD m undef else rv.getD q.1 undef,λq i=>by simp[BT3,i]⟩
   obtain⟨R',hR'⟩:∃R' : C8,R' = ins j' (.rows (m+1) λq=>if q=m then o else g q) (Aj1 jo (ins jr .dead (ins j (.fam e (m+1) j' none) st.Qg))):=⟨_,rfl⟩;have s:∀q,A2 R' q=if j' = q then some (.rows (m+1) λq=>if q=m then o else g q)else if jo=some q then some .dead else if jr=q then some .dead else if j=q then some (.fam e (m+1) j' none)else A2 st.Qg q:=λq=>by rw[hR',A4,UU,A4,A4]
   obtain⟨rho',hr'⟩:∃rho' : Nat->Value,rho' = λq=>if q=j' then .agg rn else rho q:=⟨_,rfl⟩
   have a0:rho' j' = .agg rn:=by rw[hr'];grind
   have a1:∀q,q≠j' -> rho' q=rho q:=(by grind);have hlv:∀q,Lv (A2 R') q↔q=j' \/ Lv (A2 st.Qg) q:=by
    intro q;unfold Lv;rw[s];constructor
    .intro h;split at h
     .omega
     split at h
     .grind
     split at h
     .grind
     split at h
     all_goals grind
    rintro (rfl|h)
    .rw[Fg rfl];rfl
    split;rfl;split;rfl;split;rfl;split;rfl;exact h
   have a2:∀q,Lv (A2 st.Qg) q->Lv (A2 R') q/\rho' q=rho q:=λq i=>
    ⟨(hlv q).2 (.inr i),a1 q (by rintro rfl;grind[Lv])⟩
   have y:∀q o2 b,(q=j \/ q=jr \/ q=j' \/ jo=some q)->A2 R' q=some o2->G1 (rho' q) o2 b ->
    (q=j' /\ ((∃q',jo=some q' /\ G1 (rho q') o b) \/ ∃l,l<m/\Q9 (rv.getD l undef) (g l)=some b)) \/ (q=j/\G1 (rho j) (.fam e (m+1) jr (some (m,x))) b):=by
    intro q o2 b i d hb;rw[s]at d;split at d
    .rename_i e1;subst e1;cases d;rw[a0]at hb;obtain⟨rv',he,l,hl,hb⟩:=hb;cases he;rw[v l hl]at hb;refine .inl ⟨rfl,?_⟩;by_cases e:l=m
     .simp only[Fg e]at hb;exact .inl (s2 b hb)
     grind
    rename_i e1;split at d
    .cases d;cases hb
    rename_i e2;split at d
    .cases d;cases hb
    rename_i e3;obtain rfl:q=j:=(by grind);rw[Fg rfl]at d;cases d;rw[a1 q hn1]at hb;exact .inr ⟨rfl,hb⟩
   have hrb:∀l b,l<m->Q9 (rv.getD l undef) (g l)=some b->G1 (rho jr) (.rows m g) b:=λl b hl hb=>⟨rv,l2,l,hl,hb⟩;have hcross:∀b,((∃q',jo=some q' /\ G1 (rho q') o b) \/ ∃l,l<m/\Q9 (rv.getD l undef) (g l)=some b)->¬G1 (rho j) (.fam e (m+1) jr (some (m,x))) b:=by
    rintro b (⟨q',k1,k2⟩ | ⟨l,hl,k2⟩) hb
    .exact (z q' k1).1 (hs.hp.sep _ _ _ _ b (s1 q' k1).1 hj k2 hb)
    exact hne (hs.hp.sep _ _ _ _ b hj u hb (hrb l b hl k2))
   obtain⟨h2,h3⟩:=hs.re (λq=>q=j \/ q=jr \/ q=j' \/ jo=some q) (R':=R') (rho':=rho')
    (by grind) a2
    (by grind)
    (λq r b i=>by
     rw[s];split
     .simp
     split
     .simp
     split
     all_goals grind)
    (λq o2 b i d hb=>by
     rcases y q o2 b i d hb with⟨rfl,⟨q',k1,k2⟩ | ⟨l,hl,k2⟩⟩ | ⟨rfl,h⟩
     all_goals grind)
    (λq q' o2 o3 b i hq' d ho3 hb f=>by
     rcases y q o2 b i d hb with⟨rfl,h⟩ | ⟨rfl,h⟩<;>rcases y q' o3 b hq' ho3 f with⟨rfl,h'⟩ | ⟨rfl,h'⟩
     .rfl
     all_goals grind)
    (λq o2 i d off=>by
     rcases i with rfl|rfl|rfl|i
     .rw[hj]at d;cases d;trivial
     .rw[u]at d;cases d;trivial
     all_goals grind)
    (λ_ hk q o2 i d=>by
     rw[s]at d;split at d
     .rename_i e1;subst e1;cases d;rw[a0];refine⟨rn,rfl,λl hl=>?_,λl l' b hl hl' hb f=>?_⟩
      .rw[v l hl];by_cases e:l=m
       .grind
       simp only[Gb e];exact (hrow l (by omega)).keeps' hk λ_ _=>rfl
      rw[v l hl]at hb;rw[v l' hl']at f;by_cases e:l=m<;>by_cases e' : l' = m
      .rw[e,e']
      .simp only[Fg e]at hb;simp only[Gb e']at f;obtain⟨q',k1,k2⟩:=s2 b hb;exact Hc (hs.hp.sep _ _ _ _ b (s1 q' k1).1 u k2 (by grind)) (z q' k1).2.1
      .simp only[Gb e]at hb;simp only[Fg e']at f;obtain⟨q',k1,k2⟩:=s2 b f;exact Hc (hs.hp.sep _ _ _ _ b (s1 q' k1).1 u k2 (by grind)) (z q' k1).2.1
      simp only[Gb e]at hb;simp only[Gb e']at f;exact hdis l l' b (by omega) (by omega) hb f
     rename_i e1;split at d
     .cases d;trivial
     rename_i e2;split at d
     .cases d;trivial
     rename_i e3;obtain rfl:q=j:=(by grind);rw[Fg rfl]at d;cases d;rw[a1 q hn1];refine⟨rn,by grind,a0,.inr ⟨b0,cap,c,g1,g2,g3,g4,g5,λl hl=>⟨(g6 l hl).1,λ_=>?_⟩,trivial⟩⟩;rw[v l hl];by_cases e:l=m
     all_goals grind)
   subst hR';exact⟨_,rho',hK,h3,h2⟩
  grind
 grind
def semUp.famAll {op:Wo}(a:X1 op st=some (c,t))(hc:E5 c)(b:K t):semUp st K:=match op with
 |.fam _ _ _=>semUp.famF a hc b
 |.take _ _ _=>semUp.famT a hc b
 |.over _ _=>semUp.famO a hc b
 |.put _ _=>semUp.famB a hc b
 |.psh _ _=>semUp.famH a hc b
 |.pub _=>semUp.famP a hc b
end
def FW (ro:Option Nat):Fence:={ Fence.wide with round:=ro }
def UV {ro:Option Nat}{m n:Nat}{P:Program}{f:FuncId}{vs:Array Value}{w:World}{R:Ending->World->Prop}(h:CallsIn Fence.wide m P f vs w R):CallsIn (FW ro) n P f vs w R:=
 ⟨trivial,λcs _=>h.2 cs (room_wide _)⟩
def AS3 {ro:Option Nat}{m n:Nat}{P:Program}{f:String}{vs:Array Value}{w:World}{R:Value->World->Prop}(h:RowsIn Fence.wide m P f vs w R):RowsIn (FW ro) n P f vs w R:=
 λc cs _=>h c cs (room_wide _)
def AF3 {ro:Option Nat}{m n:Nat}{P:Program}{l:Nat}{f:FuncId}{tmps:Array Value}{as body:Code}{w:World}{R:Ending->World->Prop}(h:RoundIn Fence.wide m P l f tmps as body w R):RoundIn (FW ro) n P l f tmps as body w R:=
 ⟨trivial,λc cs _=>h.2 c cs (room_wide _)⟩
section
variable {P:Program}{C:Ctx}{st:St}{a:Act}{w:World}{rho:Nat->Value}{𝒢 : Prot P}{n:Nat}
def NextOk (𝒢 : Prot P)(n:Nat)(k:St->Prop)(a:Act)(w:World):Prop:=∃C st rho,𝒢.G C/\Sat C st a w rho/\a.tmps.size=n/\k st
def PanicOk (𝒢 : Prot P)(n:Nat)(Q:M0)(chain:List PanicEntry)(a:Act)(w:World):Prop:=∃C st rho v x,chain=[{ v,recovered:=false }] /\ 𝒢.G C/\Sat C st a w rho/\a.tmps.size=n/\Sb w (PiS C st rho) v x/\Q (.panic x) st
def WP (𝒢 : Prot P)(n:Nat)(Q:M0):Exit->Act->World->Prop
 |.normal,a,w=>NextOk 𝒢 n (Q .normal) a w
 |.exit id,a,w=>NextOk 𝒢 n (Q (.exit id)) a w
 |.goto l,a,w=>NextOk 𝒢 n (Q (.goto l)) a w
 |.ret,a,w=>NextOk 𝒢 n (Q .ret) a w
 |.panic chain,a,w=>PanicOk 𝒢 n Q chain a w
 |.outgrown,_,_=>False
theorem Om:∀(xs:List Operand) (st:St) (l:List AV) (R' : C8),Sat C st a w rho->Jf st.Qg (xs.map (aev st.env))=some (l,R') ->
 Sat C { st with Qg:=R' } a w rho/\Kp C st.Qg R' w w rho rho/\l.length=xs.length/\∀i x,xs[i]? = some x->RS C { st with Qg:=R' } w rho (a.eval x) (l.getD i .top)
 |[],st,l,R',h,he=>by simp only[Cc9,Jf,BT2,BU4]at he;obtain⟨rfl,rfl⟩:=he;exact⟨h,Kp.refl _ _ _ _,rfl,λi x hx=>by simp at hx⟩
 |x::xs,st,l,R',h,he=>by
  simp only[BU9,Jf]at he;split at he
  .rename_i y R1 b;have step:Sat C { st with Qg:=R1 } a w rho/\Kp C st.Qg R1 w w rho rho/\RS C { st with Qg:=R1 } w rho (a.eval x) y:=by
    have gen:(match Fa st.Qg (aev st.env x)with|some (x,Qg)=>some (AV.p x,Qg)|none=>none)=some (y,R1)->Sat C { st with Qg:=R1 } a w rho/\Kp C st.Qg R1 w w rho rho/\RS C { st with Qg:=R1 } w rho (a.eval x) y:=by
     intro b;split at b
     .rename_i z R2 c;simp at b;obtain⟨rfl,rfl⟩:=b;obtain⟨h1,d,f⟩:=Fu h (h.aev x) c;exact⟨h1,f,.p _ _ d⟩
     grind
    split at b
    .grind
    .grind
    simp at b;obtain⟨rfl,rfl⟩:=b;exact⟨h,Kp.refl _ _ _ _,h.aev x⟩
   obtain⟨h1,d,f⟩:=step;split at he
   .rename_i l' R2 g;cases he;obtain⟨m,j,n,o⟩:=Om xs { st with Qg:=R1 } l' R' h1 g;refine⟨m,d.trans j,by grind,λi z c=>?_⟩;cases i with
    |zero=>simp at c;subst c;exact j.av f
    |succ i=>grind
   grind
  grind
def Ak5 {xs:List Operand}{st:St}{l:List AV}{R' : C8}(h:Sat C st a w rho)(b:BI7 st.Qg (xs.map (aev st.env)) l R') :Sat C { st with Qg:=R' } a w rho/\Kp C st.Qg R' w w rho rho/\l.length=xs.length/\∀i x,xs[i]? = some x->RS C { st with Qg:=R' } w rho (a.eval x) (l.getD i .top):=by
 rcases b with b|⟨rfl,rfl⟩
 .grind[Om]
 refine⟨h,Kp.refl _ _ _ _,by simp,λi x hx=>?_⟩
 have:(xs.map (aev st.env)).getD i .top=aev st.env x:=by grind
 rw[this];exact h.aev x
def Rc (z : 𝒢.G C)(h:Sat C st a w rho)(a0:a.tmps.size=n){d:Nat}{ids:List Nat}{f:FuncId}{as:List AV}{K:ARes->St->Prop}(hc:Ai9 (HP P) d ids f as st K)
 {vs:Array Value}(g:vs.size=as.length) (l:∀i,i<as.length->RS C st w rho (vs.getD i undef) (as.getD i .top)) :
 CallF P f vs w λe w'=>∃st' rho' r,Sat C st' a w' rho' /\ K r st' /\ Bh1 w' (PiS C st' rho') (Lv (A2 st'.Qg)) rho' e r:=by
 obtain⟨args,objs,y,hr,m,q,hF⟩:=hc;have hs:=OZ h y m q trivial hr g l;refine (hF (Prot.triv P (C.callee st.Qg w rho ids) (λ_ _ h=>h) ((𝒢.tab C z).keeps h.keep h.same λb hb ⟨j,o,_,h1,h2⟩=>(h.own b ⟨j,o,h1,h2⟩).resolve_right (Nat.not_le.2 hb))) _ w vs _ rfl hs (by rw[g];grind[Ei])).mono ?_;rintro e w' ⟨C',r,objs',ks,rho',s,⟨hf,hK⟩,hE,c,t⟩;obtain rfl:C' = C.callee st.Qg w rho ids:=s;obtain⟨g1,g2,g3,g4⟩:=AF2 h y m hE t hf;refine⟨_,_,_,g1,hK,?_⟩;cases r with
 |ret x=>obtain⟨v,u,l⟩:=c;exact⟨v,u,l.un g3 g4⟩
 |panic x=>obtain⟨v,u,l⟩:=c;exact⟨v,u,l.keeps g3⟩
def YZ {ro:Option Nat}{o:Oper}(m:∀t,o.dst=some t->t<n){next:Act->World->Prop}{Q' : Exit->Act->World->Prop}{k:St->Prop}{Q:M0}
 (hk:∀a' w,a'.defers=a.defers->NextOk 𝒢 n k a' w->next a' w) (l:∀chain a w,PanicOk 𝒢 n Q chain a w->Q' (.panic chain) a w) (j : 𝒢.G C) (d:a.tmps.size=n) {f:FuncId}{vs:Array Value}
 (g:(o.semAt ro a.eval).run P w=(callFunc f vs).run P w)
 (h:CallF P f vs w λe w'=>∃st' rho' r,Sat C st' a w' rho' /\ Lc o.dst k Q r st' /\ Bh1 w' (PiS C st' rho') (Lv (A2 st'.Qg)) rho' e r) :
 o.uponIn (FW ro) 0 P a next Q' ((o.semAt ro a.eval).run P w):=by
 obtain⟨nx,w1,h1,i⟩:=h;rw[g,h1];have fin:∀v w',(∃st' rho' r,Sat C st' a w' rho' /\ Lc o.dst k Q r st' /\ Bh1 w' (PiS C st' rho') (Lv (A2 st'.Qg)) rho' (.returned v) r)->next (a.put o.dst v) w':=by
  rintro v w' ⟨st',rho',r,g1,g2,g3⟩;cases r with
  |ret x=>obtain⟨v',b,c⟩:=g3;cases b;refine hk _ _ (by cases o.dst<;>rfl) ⟨C,_,rho',j,g1.put c (by grind),?_,g2⟩;rw[<- d];cases o.dst<;>simp[Act.put]
  |panic x=>obtain⟨v',b,_⟩:=g3;grind
 cases nx with
 |enter f' as=>
  rw[Oper.uponIn_enter];refine⟨λh=>by grind[FW,Fence.wide],(UV i).mono ?_⟩;intro e w' b;cases e with
  |returned v=>grind
  |panicked chain=>
   obtain⟨st',rho',r,g1,g2,g3⟩:=b;cases r with
   |ret x=>obtain⟨v',b,_⟩:=g3;grind
   |panic x=>obtain⟨v',b,c⟩:=g3;cases b;exact l _ _ _ ⟨C,st',rho',v',x,rfl,j,g1,d,c,g2⟩
  |outgrown=>obtain⟨st',rho',r,g1,g2,g3⟩:=b;cases r<;>(obtain⟨v',b,_⟩:=g3;cases b)
 |value v=>rw[Ch5];grind
 |row row as=>rw[Oper.uponIn_row];exact⟨λh=>by grind[FW,Fence.wide],(AS3 i).mono λv w'=>fin v w'⟩
 |_=>exact i.elim
def RepV (w:World)(Pi:Nat->Nat->Prop)(live:Nat->Prop)(rho:Nat->Value)(vs:Array Value)(l:List AV):Prop:= vs.size=l.length/\∀i,i<l.length->Ud w Pi live rho (vs.getD i undef) (l.getD i .top)
def RepV.append {Pi:Nat->Nat->Prop}{live:Nat->Prop}{vs us:Array Value}{l m:List AV}(h:RepV w Pi live rho vs l)(h' : RepV w Pi live rho us m):RepV w Pi live rho (vs++us) (l++m):=by
 refine⟨by simp[h.1,h'.1],λi b=>?_⟩;simp at b;by_cases hl:i<l.length
 .have:=h.2 i hl
  have a:i<vs.size:=by rw[h.1];omega
  simp_all[BT3,Ce3,BZ3]
 have:=h'.2 (i-l.length) (by omega)
 have a:¬i<vs.size:=by rw[h.1];omega
 simpa[BT3,Ce3,a,hl,Cg9 (show l.length<=i by omega),h.1]using this
def RepV.ofP {Pi:Nat->Nat->Prop}{live:Nat->Prop}{vs:Array Value}{l:List PV}(hs:vs.size=l.length)(h:∀i,i<l.length->Sb w Pi (vs.getD i undef) (l.getD i default)):RepV w Pi live rho vs (l.map .p):=by
 refine⟨by grind,λi b=>?_⟩;have a : i<l.length:=by grind
 have:=h i a
 simp only[BT0,BT7,BT4 a,BU2,BT9]at this⊢;exact .p _ _ this
def AF4 (h:Sat C st a w rho){f:Operand}{f' : FuncId}{as as' : List AV}(hw:Yt st.env f as=some (f',as')){R' : C8}(d:Kp C st.Qg R' w w rho rho){vals:Array Value}(i:RepV w (Prv C.X (A2 R') rho) (Lv (A2 R')) rho vals as) :∃x y,a.eval f=.func (.func f') x y/\RepV w (Prv C.X (A2 R') rho) (Lv (A2 R')) rho (x++vals++y) as':=by
 unfold Yt at hw;have b:=d.av (h.aev f);split at hw
 .rename_i g first caps c
  cases hw;rw[c]at b;generalize a.eval f=v at b;cases b with
  |clo _ x y _ _ hx hy ha hb=>exact⟨x,y,rfl,RepV.append (RepV.append ⟨hx,ha⟩ i) ⟨hy,hb⟩⟩
 .rename_i g x y c;split at hw
  .rename_i hx hy;cases hw;rw[c]at b;have e1:x = #[]:=by grind
   have e2:y = #[]:=by grind
   subst e1;subst e2;exact⟨#[],#[],b.toP.toV,by grind⟩
  grind
 .rename_i g first caps c
  cases hw;rw[c]at b;have b:=b.toP;generalize a.eval f=v at b;cases b with
  |fn _ x y _ _ hx hy ha hb=>exact⟨x,y,rfl,RepV.append (RepV.append (RepV.ofP hx ha) i) (RepV.ofP hy hb)⟩
 grind
def Ak6 (h:Sat C st a w rho){f:Operand}{f' : FuncId}{first caps:List AV}(hw:GZ st.env f=some (f',first,caps)) :∃x y,a.eval f=.func (.func f') x y/\RepV w (PiS C st rho) (Lv (A2 st.Qg)) rho x first/\RepV w (PiS C st rho) (Lv (A2 st.Qg)) rho y caps:=by
 unfold GZ at hw;have b:=h.aev f;split at hw
 .rename_i g first caps c
  cases hw;rw[c]at b;generalize a.eval f=v at b;cases b with
  |clo _ x y _ _ hx hy ha hb=>exact⟨x,y,rfl,⟨hx,ha⟩,⟨hy,hb⟩⟩
 .rename_i g x y c;split at hw
  .rename_i hx hy;cases hw;rw[c]at b;have e1:x = #[]:=by grind
   have e2:y = #[]:=by grind
   subst e1;subst e2;exact⟨#[],#[],b.toP.toV,⟨rfl,by grind⟩,⟨rfl,by grind⟩⟩
  grind
 .rename_i g first caps c
  cases hw;rw[c]at b;have b:=b.toP;generalize a.eval f=v at b;cases b with
  |fn _ x y _ _ hx hy ha hb=>exact⟨x,y,rfl,RepV.ofP hx ha,RepV.ofP hy hb⟩
 grind
def BG9 (args:Array Operand):(args.map a.eval).size=args.toList.length:=by simp
def Rd {args:Array Operand}{i:Nat}(b:i<args.toList.length):(args.map a.eval).getD i undef=a.eval (args.toList[i]):=by
 have:i<args.size:=by omega
 simp_all
def Ay2 {Pi:Nat->Nat->Prop}:∀{xs ys:List PV},Bw6 xs ys->xs.length=ys.length/\∀i,i<xs.length->∀v,Sb w Pi v (xs.getD i default)->Sb w Pi v (ys.getD i default)
 |[],[],_=>by grind
 |[],y::ys,h=>by grind[Bw6]
 |x::xs,[],h=>by grind[Bw6]
 |x::xs,y::ys,h=>by
  obtain⟨h1,b⟩:=h;obtain⟨c,d⟩:=Ay2 (Pi:=Pi) b;refine⟨by grind,λi j v a=>?_⟩;cases i with
  |zero=>
   have a:Sb w Pi v x:=by grind
   have:Sb w Pi v y:=by
    rcases h1 with rfl|⟨nn,k,n,f,g,rfl,rfl,l⟩ | ⟨k,f,rfl,rfl⟩
    .omega
    .exact a.leP (.inr (by grind))
    exact a.leP (.inr (by grind))
   grind
  |succ i=>simp_all
def Sat.rel (h:Sat C st a w rho):Rel C w (Ai2 st.Qg rho a.defers) (PvR st.Qg rho):=by
 refine⟨h.ext,h.size,h.same,h.keep,?_,?_,?_,λb off f=>h.hp.bound b off f,λb off ⟨j,o,c,hb,_⟩=>.inl ⟨j,o,c,hb⟩⟩
 .rintro b (hb|hb)
  .exact h.own b hb
  obtain⟨r,h1,d,_⟩:=h.marks.2 _ hb;grind
 .rintro b off (⟨j,o,c,hb⟩ | hb)
  .exact h.hp.out j o b off c hb
  obtain⟨r,h1,_,_,d⟩:=h.marks.2 _ hb;grind
 rintro b (hb|hb)
 .exact h.hp.lt hb
 obtain⟨r,h1,_,d,_⟩:=h.marks.2 _ hb;grind
def Sat.yielded (h:Sat C st a w rho){C' : Ctx}{w' : World}{j:Nat}{r0 rest:List (List PV)}{l0 live:Bool}(x:A2 st.Qg j=some (.yld r0 l0))(hY:C'.Y rest live)(hyv:C'.yv=C.yv)(y:C'.rho0=C.rho0)(hw:C'.w0=w')(hE:C'.E0=Ai2 st.Qg rho a.defers)
 (hPi:C'.Pi0=λb o=>C'.X b o \/ PvR st.Qg rho b o) (hR:Rel C' w' (Ai2 st.Qg rho a.defers) (PvR st.Qg rho)) (g:∀b,Ai2 st.Qg rho a.defers b->w'.heap[b]? = w.heap[b]?)
 (hk:S0 w (λb o=>C.X b o \/ PvR st.Qg rho b o) w' (λb o=>C'.X b o \/ PvR st.Qg rho b o)) (q:∀i r b,A2 st.Qg i=some (.yld r b)->i=j) :
 Sat C' { st with Qg:=ins j (.yld rest live) st.Qg } a w' rho:=by
 have l:∀i,Lv (A2 st.Qg) i->Lv (A2 (ins j (.yld rest live) st.Qg)) i/\rho i=rho i:=by
  intro i c;refine⟨?_,rfl⟩;simp only[Lv,A4];split
  .rfl
  exact c
 have hpv:∀b off,PvR (ins j (.yld rest live) st.Qg) rho b off↔PvR st.Qg rho b off:=by
  intro b off;constructor
  .rintro⟨i,o,c,hb,hp⟩;rw[A4]at c;split at c
   .cases c;simp[G1,Q9]at hb
   exact⟨i,o,c,hb,hp⟩
  rintro⟨i,o,c,hb,hp⟩;refine⟨i,o,?_,hb,hp⟩;rw[A4,Gb]
  .exact c
  rintro rfl;rw[x]at c;cases c;simp[G1,Q9]at hb
 have m:∀b,Own (A2 (ins j (.yld rest live) st.Qg)) rho b↔Own (A2 st.Qg) rho b:=by
  intro b;constructor
  .rintro⟨i,o,c,hb⟩;rw[A4]at c;split at c
   .cases c;simp[G1,Q9]at hb
   exact⟨i,o,c,hb⟩
  rintro⟨i,o,c,hb⟩;refine⟨i,o,?_,hb⟩;rw[A4,Gb]
  .exact c
  rintro rfl;rw[x]at c;cases c;simp[G1,Q9]at hb
 have n:∀b off,Prv C'.X (A2 (ins j (.yld rest live) st.Qg)) rho b off↔(C'.X b off \/ PvR st.Qg rho b off):=λb off=>or_congr Ce2 (hpv b off);have z:S0 w (Prv C.X (A2 st.Qg) rho) w' (Prv C'.X (A2 (ins j (.yld rest live) st.Qg)) rho):=λb o v hp hc=>
  let ⟨h1,h2⟩:=hk b o v hp hc
  ⟨h1,λs=>h2 ((n b o).1 s)⟩
 have f:∀i o,A2 (ins j (.yld rest live) st.Qg) i=some o->(i=j/\o=.yld rest live) \/ (i≠j/\A2 st.Qg i=some o):=by
  intro i o c;rw[A4]at c;split at c
  .rename_i e;cases c;exact .inl ⟨e.symm,rfl⟩
  rename_i e;exact .inr ⟨λe'=>e e'.symm,c⟩
 refine⟨⟨⟨?_,?_,?_,λb off hX=>hR.bnd b off hX⟩,hR.ext,hR.size,hR.same,?_,?_,?_⟩,λt=>(h.env t).keeps z l,?_,h.marks.1,?_⟩
 .intro i o c;rcases f i o c with⟨rfl,rfl⟩ | ⟨_,c⟩
  .exact h.hp.holds i _ x
  exact (h.hp.holds i o c).keeps z l λb hb=>g b (.inl ⟨i,o,c,hb⟩)
 .intro i i' oi oj b c u hb a0;rcases f i oi c with⟨rfl,rfl⟩ | ⟨_,c⟩
  .simp[G1,Q9]at hb
  rcases f i' oj u with⟨rfl,rfl⟩ | ⟨_,u⟩
  .simp[G1,Q9]at a0
  exact h.hp.sep i i' oi oj b c u hb a0
 .intro i o b off c hb;exact hR.out b off (.inl ((m b).1 ⟨i,o,c,hb⟩))
 .intro b o v hp hc;obtain⟨h1,h2⟩:=hR.keep b o v hp hc;exact⟨h1,λs=>h2 ((n b o).1 s)⟩
 .intro b hb;exact hR.own b (.inl ((m b).1 hb))
 .intro i r b c;rcases f i _ c with⟨rfl,he⟩ | ⟨hne,c⟩
  .cases he;exact⟨hY,by rw[hyv];exact (h.yld i _ _ x).2⟩
  exact Hc (q i r b c) hne
 .intro i c hl;rw[y];refine h.pin i c ?_;simp only[Lv,A4]at hl;split at hl
  .rename_i e;subst e;simp[Lv,x]
  exact hl
 intro d hd;obtain⟨r,h1,h2,h3,h4⟩:=h.marks.2 d hd;have hm:Ak4 a.defers r:=by unfold Ak4;rw[<- h1];exact hd
 refine⟨r,h1,hR.own r (.inr hm),?_,λoff=>hR.out r off (.inr hm)⟩;rw[g r (.inr hm)];exact h3
def Pb {j:Nat}:∀{Qg:C8},HT j Qg=true->∀i r b,A2 Qg i=some (.yld r b)->i=j
 |[],_,i,r,b,h=>by grind[A2]
 |(x,o)::Qg,hy,i,r,b,h=>by
  have a:HT j Qg=true:=by cases o<;>simp only[HT,BT5]at hy<;>first|exact hy.2|exact hy
  simp only[A2]at h;split at h
  .simp_all[HT,BT5,beq_iff_eq]
  exact Pb a i r b h
end
section
variable {P:Program}{C:Ctx}{st:St}{a:Act}{w:World}{rho:Nat->Value}{𝒢 : Prot P}{n:Nat}
def AF5 {t:TypeId}{m:String}{f:FuncId}(hm:Yz P t m=some f)(x:Value):(method (P.types.size+Made.depth) t x m).run P w=.ok (f,x) w:=by
 unfold Yz at hm;split at hm
 .rename_i i d b c;split at hm
  .grind
  rename_i a
  repeat' split at hm<;>try contradiction
  rename_i q g _ _ f' hp j;cases hm;show (method (P.types.size+99+1) t x m).run P w=_;generalize P.types.size+99=fuel;have l : q.path = #[]:=by grind
  cases d<;>first
   |exact Hc rfl (a _)
   |simp[method,Bx6 w b,g,hp,j,follow,receiverAt,BO w c,Place.get]
 grind
def WC (a:Act)(d:Option Nat)(v:Value):(a.put d v).tmps.size=a.tmps.size:=by cases d<;>simp[Act.put]
def Ay3 {o:Oper}{k:St->Prop}{Q:M0}(hG : 𝒢.G C)(h:Sat C st a w rho)(q:a.tmps.size=n)(hd:∀t,o.dst=some t->t<n)(hw:wOp (HP P) P o k Q st){ro:Option Nat}{next:Act->World->Prop}{Q' : Exit->Act->World->Prop}
 (hk:∀a' w,a'.defers=a.defers->NextOk 𝒢 n k a' w->next a' w) (hq:∀chain a w,PanicOk 𝒢 n Q chain a w->Q' (.panic chain) a w):o.wpIn (FW ro) 0 P a w next Q':=by
 refine⟨λf _=>trivial,?_⟩;have hdef:∀c,o.op ≠ .defer c:=by
  grind[wOp,aop,Tx,bop]
 have d:o.semAt ro a.eval=execOp a.eval o:=Oper.semAt_eq _ _ _ hdef;have u:∀t,o.dst=some t->t<a.tmps.size:=(by grind);show o.uponIn (FW ro) 0 P a next Q' ((o.semAt ro a.eval).run P w)
 unfold wOp at hw;split at hw
 .rename_i f args types he;rcases hw with⟨as,Qg,f',as',ha,hwh,ids,hc⟩ | ⟨j,xs,Qg,ys,rest,hf,hvs,hj,honly,hle,g⟩
  .obtain⟨g1,g2,g3,g4⟩:=Ak5 h ha;have hv:RepV w (Prv C.X (A2 Qg) rho) (Lv (A2 Qg)) rho (args.map a.eval) as:=
    ⟨by grind,λi hi=>by rw[Rd (by omega)];grind⟩
   obtain⟨x,y,hx,a0⟩:=AF4 h hwh g2 hv;have hcf:=Rc hG g1 q hc a0.1 a0.2;refine YZ hd hk hq hG q ?_ hcf;rw[d]
   grind[execOp,resolve,Deferred.ofValue,invoke]
  obtain⟨g1,g2,g3,g4,_⟩:=HV args.toList st xs Qg h hvs;have hyf:=g2.av (h.aev f);rw[hf]at hyf;obtain⟨hY,hyv⟩:=g1.yld j _ _ hj;obtain⟨hl,hrep⟩:=Ay2 (w:=w) (Pi:=Prv C.X (A2 Qg) rho) hle;have hcall:=𝒢.call C w _ _ ys rest (args.map a.eval) hG g1.rel hY (by grind) (λi hi=>by rw[Rd (by omega)];exact hrep i (by omega) _ (by grind))
  obtain⟨l,fn,tmps,assign,body,h1,h2,h3⟩:=hcall;have hfv:a.eval f=.func (.yield l) #[] #[]:=by generalize a.eval f=v at hyf;cases hyf<;>grind
  have a1:(o.semAt ro a.eval).run P w=.ok (.round l fn tmps assign body) w:=by
   rw[d]
   grind[execOp,resolve,Deferred.ofValue,invoke]
  rw[a1,Oper.uponIn_round];refine⟨λh=>by grind[FW,Fence.wide],(AF3 h3).mono ?_⟩;rintro e w' ⟨b,rfl,C',hG',hyv',hrho',hY',hw0,hE,hPi,hR,hsame,hkeep,_⟩;have hs:=g1.yielded hj hY' hyv' hrho' hw0 hE hPi hR hsame hkeep (Pb honly);exact hk _ _ (by cases o.dst<;>rfl) ⟨C',_,rho,hG',hs.put (x:=.p (.bb b)) (.p _ _ (.bb b)) u,by rw[WC,q],g b⟩
 .rename_i r m args types he;obtain⟨as,Qg,t,y,f',ha,hr,hm,ids,hc⟩:=hw;obtain⟨g1,g2,g3,g4⟩:=Om args.toList st as Qg h ha;have hv:RepV w (Prv C.X (A2 Qg) rho) (Lv (A2 Qg)) rho (args.map a.eval) as:=
   ⟨by grind,λi hi=>by rw[Rd (by omega)];grind⟩
  have a2:=g2.av (h.aev r);rw[hr]at a2;have a2:=a2.toP;obtain⟨x,hx,s⟩:∃x,a.eval r=.iface t x/\Sb w (Prv C.X (A2 Qg) rho) x y:=by generalize a.eval r=v at a2;cases a2<;>grind
  have a0:RepV w (Prv C.X (A2 Qg) rho) (Lv (A2 Qg)) rho (#[x]++args.map a.eval) (.p y::as):=
   RepV.append (vs:=#[x]) (l:=[.p y]) ⟨rfl,λi hi=>by
    simp only[Ca4]at hi;obtain rfl:i=0:=by omega
    exact .p _ _ s⟩ hv
  have hcf:=Rc hG g1 q hc a0.1 a0.2;refine YZ hd hk hq hG q ?_ hcf;rw[d];have e0:(#[Value.iface t x]++args.map a.eval)[0]? = some (.iface t x):=by grind
  have e1:(args.map a.eval).extract 0 args.size=args.map a.eval:=by
   have:=Array.extract_size (xs:=args.map a.eval)
   rwa [Cj7]at this
  simp[execOp,he,resolve,invoke,hx,callMethod,e0,e1,AF5 hm]
 .rename_i x he;obtain⟨t,y,hx,hQ⟩:=hw;have s:=h.aev x;rw[hx]at s;have s:=s.toP;obtain⟨v,hv⟩:∃v,a.eval x=.iface t v:=by generalize a.eval x=z at s;cases s<;>grind
  have a1:(o.semAt ro a.eval).run P w=.halt (.panic (.iface t v)) w:=by
   rw[d]
   simp_all[execOp,Instr.panic,goPanic,Result.andThen]
  rw[a1,Oper.uponIn_panic];exact hq _ _ _ ⟨C,st,rho,_,_,rfl,hG,h,q,by rw[<- hv];omega,hQ⟩
 .rename_i x he;obtain⟨j,cl,last,seen,jm,es,h1,h2,h3,h4,h5,h6,h7⟩:=hw;have hw2:∃out,OpOk P C o st a w rho out/\k (AM.put { st with Qg:=out.Qg } o.dst out.val):=by
   rcases By4 h he h1 h2 h3 h4 h5 with⟨g1,g2⟩ | ⟨i,g1,g2,g3⟩
   .exact⟨_,g2,h6 g1⟩
   grind
  obtain⟨out,⟨nx,v,w',rho',h1,h2,h3,_,h5⟩,g⟩:=hw2;have hfin:next (a.put o.dst v) w':=hk _ _ (by cases o.dst<;>rfl) ⟨C,_,rho',hG,h3.put h5 u,by rw[WC,q],g⟩
  rw[d,h1];rcases h2 with rfl|⟨rfl,rfl⟩
  all_goals grind[Go.Oper.uponIn_value,Oper.uponIn_skip]
 have hw2:∃out,OpOk P C o st a w rho out/\k (AM.put { st with Qg:=out.Qg } o.dst out.val):=by
  rcases hw with⟨out,ha,hc,g⟩ | ⟨c,x,ha,hc,g⟩ | ⟨out,ha,hc,g⟩
  .grind[AR9]
  .exact⟨⟨c,.p x,st.Qg⟩,AE9 h ha hc,g⟩
  grind[AR8]
 obtain⟨out,⟨nx,v,w',rho',h1,h2,h3,_,h5⟩,g⟩:=hw2;have hfin:next (a.put o.dst v) w':=hk _ _ (by cases o.dst<;>rfl) ⟨C,_,rho',hG,h3.put h5 u,by rw[WC,q],g⟩
 rw[d,h1];rcases h2 with rfl|⟨rfl,rfl⟩
 all_goals grind[Go.Oper.uponIn_value,Oper.uponIn_skip]
def NextOk.up {K:St->Prop}{a:Act}{w:World}(c : 𝒢.G C)(h:Sat C st a w rho)(b:a.tmps.size=n)(d:semUp st K):NextOk 𝒢 n K a w:=
 let ⟨st',rho',hK,_,hs⟩:=d C a w rho h
 ⟨C,st',rho',c,hs,b,hK⟩
def AF6 (h:Sat C st a w rho)(g:a.tmps.size=n){ops:Array Oper}{j:Nat}{o' : Oper}{d:Nat}(i:ops[j]? = some o')(f:o'.dst=some d)(l:d<n){b:Option Bool}(hy:yv (get st.env (HS ops.toList j))=some b):yielded ops a.tmps j=b:=by
 have m:HS ops.toList j=d:=by grind[HS]
 rw[m]at hy;have c:=h.env d;have ht:a.tmps[d]? = some (a.tmps.getD d undef):=by
  have:d<a.tmps.size:=by omega
  simp_all
 unfold yielded;simp only[i,f,BT1,ht];unfold yv at hy;split at hy
 .rename_i x hx;cases hy;rw[hx]at c;rw[c.toP.toV]
 .rename_i x hx;cases hy;rw[hx]at c;rw[c.toP.toBool]
 .rename_i x hx;cases hy;rw[hx]at c;rw[c.toP.toV]
 grind
def UW {ops:Array Oper}{o:Oper}(r:Ld n ops.toList o=true)(i:∀(j:Nat) (o' : Oper) d,ops[j]? = some o' -> o'.dst=some d->d<n){K:St->Prop}{Q:M0}(y : 𝒢.G C)(h:Sat C st a w rho)(g:a.tmps.size=n)(hw:Jc (HP P) P ops.toList o K Q st){ro:Option Nat}{next:Act->World->Prop}{Q' : Exit->Act->World->Prop}
 (hk:∀a' w,a'.defers=a.defers->NextOk 𝒢 n K a' w->next a' w) (hq:∀chain a w,PanicOk 𝒢 n Q chain a w->Q' (.panic chain) a w) :
 if Region.wanted o (yielded ops a.tmps)then o.wpIn (FW ro) 0 P a w next Q' else (∀f,o.about P w a.eval=some f->(FW ro).fn f)/\next (a.put o.dst undef) w:=by
 simp only[Ld,BT5]at r;obtain⟨z,l⟩:=r;have s:∀t,o.dst=some t->t<n:=λt ht=>by rw[ht]at z;simp_all
 obtain⟨st1,rho1,hw,_,h⟩:=hw C a w rho h;cases hg:o.guard with
 |none=>
  simp only[hg]at hw
  have:Region.wanted o (yielded ops a.tmps)=true:=by grind[Region.wanted]
  rw[Fg this];exact Ay3 y h g s hw hk hq
 |some q=>
  obtain⟨j,want⟩:=q;simp only[hg]at hw l;obtain⟨b,hy,hw⟩:=hw;split at l
  .rename_i o' m;have m : ops[j]? = some o':=by grind
   obtain⟨d,u⟩:=BU6.1 l;have hyy:=AF6 h g m u (i j o' d m u) hy;have c:Region.wanted o (yielded ops a.tmps)=(b==some want):=by grind[Region.wanted]
   by_cases hb:b=some want
   .rw[Fg hb]at hw;rw[Fg (by rw[c];grind)];exact Ay3 y h g s hw hk hq
   rw[Gb hb]at hw;rw[Gb (by rw[c];grind)];refine⟨λf _=>trivial,hk _ _ (by cases o.dst<;>rfl) ⟨C,_,rho1,y,h.put (x:=Df) (.p _ _ (.v _)) (by grind),by rw[WC,g],hw⟩⟩
  grind
end
section
variable {P:Program}{C:Ctx}{st:St}{a:Act}{w:World}{rho:Nat->Value}{𝒢 : Prot P}{n:Nat}{ro:Option Nat}{ops:Array Oper}{Q:M0}
def Za (a:ops.toList.all (Ld n ops.toList)=true)(j:Nat)(o' : Oper)(d:Nat)(b:ops[j]? = some o')(c:o'.dst=some d):d<n:=by
 rw[BU0]at a
 have:=a o' (by
  have:ops.toList[j]? = some o':=by simpa using b
  exact BX6 this)
 simp_all[Ld,BT5]
def Re (c:ops.toList.all (Ld n ops.toList)=true):∀(l:List Oper) (i:Nat),ops.toList.drop i=l->i+l.length=ops.size->∀{C st a w rho},𝒢.G C->Sat C st a w rho->a.tmps.size=n->KQ (HP P) P ops.toList l Q st ->
 wpOpsIn (FW ro) 0 P ops (WP 𝒢 n Q) ((List.range ops.size).drop i) a w
 |[],i,hl,hi,C,st,a,w,rho,f,h,b,hw=>by rw[BZ9 (by grind)];exact⟨C,st,rho,f,h,b,hw⟩
 |o::l,i,hl,hi,C,st,a,w,rho,f,h,b,hw=>by
  have q:i<ops.size:=by grind
  have d:(List.range ops.size).drop i=i::(List.range ops.size).drop (i+1):=by rw[Cc0 (by grind)];simp
  rw[d];have m:ops.toList[i]? = some o:=by
   have:(ops.toList.drop i)[0]? = some o:=by rw[hl];rfl
   grind
  have r:ops[i]? = some o:=by grind
  have j : ops.toList.drop (i+1)=l:=by
   have:(ops.toList.drop i).drop 1=l:=by rw[hl];rfl
   rwa [Ce8]at this
  have g:Ld n ops.toList o=true:=by
   rw[BU0]at c
   grind
  simp only[wpOpsIn,r]
  have:=UW (ro:=ro) (Q':=WP 𝒢 n Q) (next:=wpOpsIn (FW ro) 0 P ops (WP 𝒢 n Q) ((List.range ops.size).drop (i+1))) g (Za c) f h b hw
   (λa w _ ⟨C,st,rho,f,h,b,hw⟩=>Re c l (i+1) j (by grind) f h b hw) (λchain a w h=>h)
  omega
def cnt:List Bool->Nat
 |[]=>0
 |true::r=>cnt r+1
 |false::r=>cnt r
def AS4:∀{l:List Bool}{i:Nat},l[i]? = some false->cnt (l.set i true)=cnt l+1
 |[],i,h=>by grind
 |b::r,0,h=>by grind[cnt]
 |b::r,i+1,h=>by
  have:=AS4 (l:=r) (i:=i) (by grind)
  cases b<;>simp[cnt,this]
def AS5:∀(l:List Bool),cnt l<=l.length
 |[]=>by simp[cnt]
 |true::r=>by simp[cnt,AS5 r]
 |false::r=>by have:=AS5 r;grind[cnt]
def Ay4:∀{l:List Bool},l.length<=cnt l->∀i,i<l.length->l[i]? = some true
 |[],_,i,hi=>by grind
 |true::r,h,i,hi=>by
  cases i with
  |zero=>simp
  |succ i=>simpa using Ay4 (l:=r) (by grind[cnt]) i (by grind)
 |false::r,h,i,hi=>by have:=AS5 r;grind[cnt]
def AS6 (m:Region.Mode)(ops:Array Oper):∀(fuel t:Nat) (listed:Array Bool) (acc:List Nat),Region.linearise.go m ops fuel t listed acc=acc.reverse++Region.linearise.go m ops fuel t listed []
 |0,t,listed,acc=>by simp[Region.linearise.go]
 |fuel+1,t,listed,acc=>by
  simp only[Region.linearise.go];split
  .rename_i i a;rw[AS6 m ops fuel _ _ (i::acc),AS6 m ops fuel _ _ [i]];simp
  simp
def AF7 (v:ops.toList.all (Ld n ops.toList)=true)(c:Jg ops.toList=true){Inv:(Nat->Bool)->St->Prop}
 (g:∀D i s o,Inv D s->ops.toList[i]? = some o->D i=false->(∀e∈o.after.toList,FK e=true->D e.on=true)->Jc (HP P) P ops.toList o (Inv λj=>if j=i then true else D j) Q s)
 (hfin:∀D s,Inv D s->(∀i,i<ops.toList.length->D i=true)->semUp s (Q .normal)):∀(fuel t:Nat) (listed:Array Bool),listed.size=ops.size->ops.size<=cnt listed.toList+fuel->∀{a w},NextOk 𝒢 n (Inv λj=>listed.getD j false) a w ->
 wpOpsIn (FW ro) 0 P ops (WP 𝒢 n Q) (Region.linearise.go .any ops fuel t listed []) a w:=by
 have d:∀(listed:Array Bool) {a w},NextOk 𝒢 n (Inv λj=>listed.getD j false) a w->(∀i,i<ops.size->listed.getD i false=true)->wpOpsIn (FW ro) 0 P ops (WP 𝒢 n Q) [] a w:=by intro listed a w h hall;obtain⟨C,st,rho,hG,hs,m,hI⟩:=h;exact NextOk.up hG hs m (by grind)
 intro fuel
 induction fuel with
 |zero=>
  intro t listed m y a w h;simp only[Region.linearise.go,List.reverse_nil];refine d listed h λi hi=>?_
  have:=Ay4 (l:=listed.toList) (by grind) i (by grind)
  simp_all
 |succ fuel ih=>
  intro t listed m y a w h;simp only[Region.linearise.go];generalize z:(List.range ops.size).filter (λi=>!listed.getD i true&&((ops[i]?).map (·.after.all λe=>!Region.binds .any e||listed.getD e.on false)).getD false)=rs;split
  .rename_i i hi;rw[AS6];have b:i∈rs:=(by grind);rw[<- z,Cf7]at b;obtain⟨hr,hc⟩:=b;simp at hr;simp only[BT5,BU5]at hc;obtain⟨hl,ha⟩:=hc;have ho:ops[i]? = some ops[i]:=(by grind);have hof:listed[i]? = some false:=by
    have:i<listed.size:=by omega
    simp_all
   simp only[ho,BU2,BT9,Ck2,BV9,BU5]at ha;have q:Ld n ops.toList ops[i]=true:=by
    rw[BU0]at v
    grind
   show wpOpsIn (FW ro) 0 P ops (WP 𝒢 n Q) (i::Region.linearise.go .any ops fuel (t / rs.length) (listed.setIfInBounds i true) []) a w;simp only[wpOpsIn,ho];obtain⟨C,st,rho,hG,hs,hsz',hI⟩:=h;have hw:=g _ i st ops[i] hI (by grind) (by grind) (λe he hb=>by
    grind[FK])
   have hset:(λj=>if j=i then true else listed.getD j false)=λj=>(listed.setIfInBounds i true).getD j false:=by
    funext j;by_cases e:j=i
    .simp_all
    simp[BT3,e,Cb0 e]
   rw[hset]at hw;exact UW (ro:=ro) (Q':=WP 𝒢 n Q) q (Za v) hG hs hsz' hw
    (λa w _ h=>ih _ _ (by grind) (by rw[Cg8,AS4 (by grind)];omega) h) (λchain a w h=>h)
  rename_i u;have f:rs=[]:=by
   cases rs with
   |nil=>rfl
   |cons x r=>
    rw[List.getElem?_eq_none_iff]at u
    have:=Nat.mod_lt t (show 0<(x::r).length by simp)
    omega
  subst f;refine d listed h λi hi=>?_
  induction i using Nat.strongRecOn with
  |_ i ihi=>
   cases hv:listed.getD i false with
   |true=>rfl
   |false=>
    exfalso;have b:i∈(List.range ops.size).filter (λi=>!listed.getD i true&&((ops[i]?).map (·.after.all λe=>!Region.binds .any e||listed.getD e.on false)).getD false):=by
     rw[Cf7];refine⟨by grind,?_⟩;have ho:ops[i]? = some ops[i]:=(by grind);have hlt:i<listed.size:=by omega
     simp only[ho,BU2,BT9,BT5,BU5,Ck2,BV9];refine⟨by grind,λe he=>?_⟩;unfold Jg at c;rw[BU0]at c
     have:=c i (by simpa using hi)
     simp only[BX8,ho,BU0,BV9,BU5,decide_eq_true_eq]at this;rcases this e (by grind)with h1|h1
     .exact .inl h1
     grind
    rw[z]at b
    grind
end
section
variable {P:Program}{C:Ctx}{st:St}{a:Act}{w:World}{rho:Nat->Value}{𝒢 : Prot P}{n:Nat}{ro:Option Nat}{Q:M0}
def BH0 (𝒢 : Prot P)(ro:Option Nat):Prop:=∀l,ro=some l->∀C,𝒢.G C->∃r,C.w0.heap[l]? = some (.loop r)/\¬C.E0 l
def KR (P:Program)(n:Nat)(c:Code):Prop:=∀(𝒢 : Prot P) (ro:Option Nat),BH0 𝒢 ro->∀(Q:M0) (C:Ctx) (st:St) (a:Act) (w:World) (rho:Nat->Value),𝒢.G C->Sat C st a w rho->a.tmps.size=n->awp (HP P) P c Q st->c.wpIn (FW ro) 0 P (WP 𝒢 n Q) a w
def DL {b:Frame}{c:Code}{k:List Item}{cs:List Frame}:step P (lone (b.atR a (.code (.scope c)::k)) cs w)=.next (lone (b.atR a (.code c :: .inScope c::k)) cs w):=
 step_lone_go (by simp[stepG,stepG.exec,Frame.atR])
def WD {b:Frame}{c:Code}{k:List Item}{cs:List Frame}:step P (lone (b.atR a (.inScope c::k)) cs w)=.next (lone (b.atR a k) cs w):=
 step_lone_go (by simp[stepG,stepG.exec,Frame.atR])
def AF8 {F:Fence}{m:Nat}{c:Code}{Q:Exit->Act->World->Prop}(h:c.wpIn F m P (λe a w=>(∀l,e ≠ .goto l)/\Q e a w) a w):(Code.scope c).wpIn F m P Q a w:=by
 intro b k cs i hb j;have f:(lone (b.atR a (.code (.scope c)::k)) cs w).fenced P F:=fenced_calm hb j rfl;obtain⟨e,a₁,w₁,⟨o,g⟩,d⟩:=h b (.inScope c::k) cs i hb j;cases e with
 |normal=>exact⟨.normal,a₁,w₁,g,.head f DL (StepsIn.trans d (.one (fenced_calm hb j rfl) WD))⟩
 |exit id=>
  have hx:exitTo id (.inScope c::k)=exitTo id k:=by simp[exitTo]
  exact⟨_,a₁,w₁,g,λk' hk=>.head f DL (d.1 k' (by rw[hx];omega)),
   λn hk=>let ⟨k₁,h1,h2⟩:=d.2 n (by rw[hx];omega);⟨k₁,h1,.head f DL h2⟩⟩
 |goto l=>grind
 |ret=>exact⟨_,a₁,w₁,g,.of_steps (.one f DL) d⟩
 |panic ch=>exact⟨_,a₁,w₁,g,.of_steps (.one f DL) d⟩
 |outgrown=>exact⟨_,a₁,w₁,g,.of_steps (b:=b) (k:=k) (cs:=cs) (e:=.outgrown) (.one f DL) d⟩
def PanicOk.mono {Q Q' : M0}{ch:List PanicEntry}{a:Act}{w:World}(h:PanicOk 𝒢 n Q ch a w)(b:∀x s,Q (.panic x) s->Q' (.panic x) s):PanicOk 𝒢 n Q' ch a w:=
 let ⟨C,st,rho,v,x,h1,h2,h3,h4,h5,h6⟩:=h
 ⟨C,st,rho,v,x,h1,h2,h3,h4,h5,b _ _ h6⟩
def By6 (h:Sat C st a w rho){c:Operand}{b:Bool}(hb:QM (aev st.env c)=some b):a.eval c=.bool b:=by
 have d:=h.aev c;unfold QM at hb;split at hb
 .rename_i x hx;cases hb;rw[hx]at d;exact d.toP.toV
 .rename_i x hx;cases hb;rw[hx]at d;exact d.toP.toBool
 grind
open Classical in
theorem AF9 {b:Code}(ih:KR P n b)(u:BH0 𝒢 ro)(hG : 𝒢.G C)(h:Sat C st a w rho)(v:a.tmps.size=n)(hw:awp (HP P) P (.loop b) Q st):(Code.loop b).wpIn (FW ro) 0 P (WP 𝒢 n Q) a w:=by
 obtain⟨X,s,J,m,hu,g⟩:=hw
 let at' : Act->World->X->Prop:=λa w x=>J x/\∃C rho,𝒢.G C/\Sat C (s x) a w rho/\a.tmps.size=n
 let I:Act->World->Prop:=λa w=>∃x,at' a w x
 let le:Act->World->Nat->Prop:=λa w k=>∃x,at' a w x/\m x=k
 have d:∀(p:Nat->Prop),(∃k,p k)->∃k,p k/\∀j,p j->k<=j:=by
  intro p ⟨k,hk⟩
  induction k using Nat.strongRecOn with
  |_ k ih=>
   by_cases c:∃j,j<k/\p j
   .obtain⟨j,hj,hp⟩:=c;exact ih j hj hp
   exact⟨k,hk,λj hj=>Ci2 λhlt=>c ⟨j,hlt,hj⟩⟩
 let μ : Act->World->Nat:=λa w=>if hx:∃k,le a w k then (d _ hx).choose else 0
 have hμ : ∀a w x,at' a w x->∃y,at' a w y/\m y = μ a w /\ μ a w<=m x:=by
  intro a w x hx;have c:∃k,le a w k:=⟨m x,x,hx,rfl⟩;have h1:=(d _ c).choose_spec;have h2 : μ a w=(d _ c).choose:=by simp only[μ,dif_pos c]
  obtain⟨⟨y,hy,hm⟩,hle⟩:=h1;exact⟨y,hy,by rw[h2];exact hm,by rw[h2];exact hle _ ⟨x,hx,rfl⟩⟩
 refine wpIn_loop I μ ?_ ?_
 .obtain⟨C',st',rho',i,o,f,⟨x,rfl,hJ⟩⟩:=NextOk.up hG h v hu;exact⟨x,hJ,C',rho',i,o,f⟩
 rintro a w ⟨x,hx⟩;obtain⟨y,⟨hJ,C',rho',i,o,f⟩,hm,_⟩:=hμ a w x hx;refine wpIn_mono (ih 𝒢 ro u _ C' (s y) a w rho' i o f (g y hJ)) ?_;intro e a' w' q;cases e with
 |normal=>obtain⟨C2,st2,rho2,hG2,hs2,r,hu2⟩:=q;obtain⟨C3,st3,rho3,hG3,hs3,t,⟨z,rfl,hJz,hmz⟩⟩:=NextOk.up hG2 hs2 r hu2;have hz:at' a' w' z:=⟨hJz,C3,rho3,hG3,hs3,t⟩;obtain⟨_,_,_,hle⟩:=hμ a' w' z hz;exact⟨⟨z,hz⟩,by omega⟩
 |exit id=>exact q
 |goto l=>exact q
 |ret=>exact q
 |panic ch=>exact q.mono λx s h=>h
 |outgrown=>exact q
def Ak7 (hrange:∀g ps asg body,(ps.toList.all λt=>Nat.blt t n)=true->KR P n asg->KR P n body->KR P n (.rangeFunc g ps asg body)):∀(c:Code),BL n c=true->KR P n c:=by
 intro c
 induction c with
 |skip=>exact λ_ 𝒢 ro f Q C st a w rho o h d hw=>wpIn_skip ⟨C,st,rho,o,h,d,hw⟩
 |label l=>exact λ_ 𝒢 ro f Q C st a w rho o h d hw=>wpIn_label ⟨C,st,rho,o,h,d,hw⟩
 |exit id=>exact λ_ 𝒢 ro f Q C st a w rho o h d hw=>wpIn_exit ⟨C,st,rho,o,h,d,hw⟩
 |goto l=>exact λ_ 𝒢 ro f Q C st a w rho o h d hw=>wpIn_goto ⟨C,st,rho,o,h,d,hw⟩
 |ret=>exact λ_ 𝒢 ro f Q C st a w rho o h d hw=>wpIn_ret ⟨C,st,rho,o,h,d,hw⟩
 |refuse y=>exact λ_ 𝒢 ro f Q C st a w rho o h d hw=>hw.elim
 |region id ops draw=>
  intro m 𝒢 ro f Q C st a w rho o h d hw;simp only[BL]at m;simp only[awp]at hw;cases draw with
  |false=>
   simp at hw
   have:=Re (ro:=ro) m ops.toList 0 (by simp) (by simp) o h d hw
   grind[wpIn_region]
  |true=>
   simp at hw;obtain⟨hmix,hdep,Inv,h0,z,hfin⟩:=hw;refine wpIn_region_draw λt=>?_;have hsch:Region.schedule (P.follows .mixedOrders) ops t=Region.linearise.go .any ops ops.size t (Array.replicate ops.size false) []:=by
    grind[Region.schedule,Region.linearise]
   rw[hsch];obtain⟨h1,_⟩:=h.grow (w':={ w with drawn:=w.drawn+1 }) (BT8 _) (λ_ _=>rfl);refine AF7 m hdep z hfin _ _ _ (by simp) (by simp) ⟨C,st,rho,o,h1,d,?_⟩
   have:(λj=>(Array.replicate ops.size false).getD j false)=λ_=>false:=by funext j;simp only[BT3,Array.getElem?_replicate];split<;>rfl
   rw[this];omega
 |seq x y ihx ihy=>
  intro m 𝒢 ro f Q C st a w rho o h d hw;simp only[BL,BT5]at m;refine wpIn_seq (wpIn_mono (ihx m.1 𝒢 ro f _ C st a w rho o h d hw) ?_);intro e a' w' q;cases e with
  |normal=>obtain⟨C2,st2,rho2,u,v,r,hu2⟩:=q;obtain⟨C3,st3,rho3,hG3,hs3,hsz3,hw3⟩:=NextOk.up u v r hu2;exact ihy m.2 𝒢 ro f _ C3 st3 a' w' rho3 hG3 hs3 hsz3 hw3
  |exit id=>exact q
  |goto l=>exact q
  |ret=>exact q
  |panic ch=>exact q.mono λx s h=>h
  |outgrown=>exact q
 |cond c x y ihx ihy=>
  intro m 𝒢 ro f Q C st a w rho o h d hw;simp only[BL,BT5]at m;obtain⟨b,hb,hw⟩:=hw;refine wpIn_cond (By6 h hb) ?_;cases b
  .exact ihy m.2 𝒢 ro f _ C st a w rho o h d hw
  exact ihx m.1 𝒢 ro f _ C st a w rho o h d hw
 |block id b ih=>
  intro m 𝒢 ro f Q C st a w rho o h d hw;refine wpIn_block (wpIn_mono (ih m 𝒢 ro f _ C st a w rho o h d hw) ?_);intro e a' w' q;cases e with
  |normal=>exact q
  |exit i=>
   simp only[Exit.inBlock];obtain⟨C2,st2,rho2,u,v,r,hq⟩:=q;by_cases hi:i=id
   .simp only[blk,hi,Hu]at hq;rw[Fg hi];exact⟨C2,st2,rho2,u,v,r,hq⟩
   simp only[blk,hi,Ih]at hq;rw[Gb hi];exact⟨C2,st2,rho2,u,v,r,hq⟩
  |goto l=>exact q
  |ret=>exact q
  |panic ch=>exact q.mono λx s h=>h
  |outgrown=>exact q
 |loop b ih=>exact λm 𝒢 ro f Q C st a w rho o h d hw=>AF9 (ih m) f o h d hw
 |scope b ih=>
  intro m 𝒢 ro f Q C st a w rho o h d hw;refine AF8 (wpIn_mono (ih m 𝒢 ro f _ C st a w rho o h d hw) ?_);intro e a' w' q;cases e with
  |normal=>exact⟨by grind,q⟩
  |exit id=>exact⟨by grind,q⟩
  |goto l=>obtain⟨C2,st2,rho2,u,v,r,hq⟩:=q;exact hq.elim
  |ret=>exact⟨by grind,q⟩
  |panic ch=>exact⟨by grind,q.mono λx s h=>h⟩
  |outgrown=>exact q.elim
 |rangeFunc g ps asg body iha ihb=>
  simp_all[BL,BT5]
end
section
variable {P:Program}{C:Ctx}{st:St}{a:Act}{w:World}{rho:Nat->Value}{𝒢 : Prot P}{n:Nat}{Q:M0}
def Prot.fix (𝒢 : Prot P)(r0:Nat->Value):Prot P where
 G:=λC=>𝒢.G C/\C.rho0=r0
 tab:=λC h=>𝒢.tab C h.1
 call:=by intro C w O V ys rest vs a hR c hs d;obtain⟨l,fn,tmps,as,body,h1,f,g⟩:=𝒢.call C w O V ys rest vs a.1 hR c hs d;refine⟨l,fn,tmps,as,body,h1,f,g.mono ?_⟩;rintro e w' ⟨b,i,C',g1,g2,g3,g4⟩;exact⟨b,i,C',⟨g1,g3.trans a.2⟩,g2,g3,g4⟩
def Sat.unmark (h:Sat C st a w rho){d:Deferred}{ds:List Deferred}(n:a.defers=d::ds):∃r w',d.target=.collected r/\(Instr.takeDeferred r).run P w=.ok [] w' /\ Sat C st { a with defers:=ds } w' rho:=by
 obtain⟨r,rfl,l,f,q⟩:=h.marks.2 d (by rw[n];simp);have u:r<w.heap.size:=(BV3.1 f).1;refine⟨r,w.putObj r (.deferred none),rfl,run_takeDeferred f,?_⟩;have c:∀b,b≠r->(w.putObj r (.deferred none)).heap[b]? = w.heap[b]?:=λb hb=>BY1 hb;have g:∀b off v,w.cell? ⟨b,off,none⟩=some v->b≠r:=by rintro b off v hc rfl;simp[World.cell?,f]at hc
 have hk:S0 w (Prv C.X (A2 st.Qg) rho) (w.putObj r (.deferred none)) (Prv C.X (A2 st.Qg) rho):=λb o v hp hc=>
  ⟨by rw[<- hc];exact BW4 (c b (g b o v hc)),hp⟩
 refine⟨⟨⟨?_,h.hp.sep,h.hp.out,λb off q=>by rw[BW6];exact h.hp.bound b off q⟩,h.ext.trans ⟨rfl,rfl⟩,by rw[BW6];exact h.size,?_,h.keep.trans hk,h.own,h.yld⟩,λt=>(h.env t).keeps hk λj i=>⟨i,rfl⟩,h.pin,?_,?_⟩
 .intro j o i;exact (h.hp.holds j o i).keeps hk (λj i=>⟨i,rfl⟩) λb hb=>c b λe=>(h.hp.holds j o i).nd hb (by rw[e];exact f)
 .intro b hb s;rw[c b (λe=>by subst e;rcases l with h1|h1;exact s h1;omega)];exact h.same b hb s
 .have:=h.marks.1;rw[n]at this;exact (BY2.1 this).2
 intro d' m;obtain⟨r',h1,x,y,z⟩:=h.marks.2 d' (by rw[n];exact BX1 _ m);refine⟨r',h1,x,?_,z⟩;rw[c r' ?_]
 .exact y
 rintro rfl
 have:=h.marks.1;rw[n]at this
 exact (BY2.1 this).1 (by rw[<- h1];exact m)
def Pc {fn:Func}{R:Ending->World->Prop}{u:FrameMode}(c:u ≠ .run){tmps:Array Value}(b:∀a w,Sat C st a w rho->a.tmps=tmps->a.defers=[]->LeavesIn Fence.wide 0 P fn tmps R [] u w):∀(ds:List Deferred) (a:Act) (w:World),a.defers=ds->a.tmps=tmps->Sat C st a w rho ->
 LeavesInM Fence.wide 0 P fn tmps R ds u w
 |[],a,w,hd,ht,h=>b a w h ht hd
 |d::ds,a,w,hd,ht,h=>by obtain⟨r,w',h1,f,g⟩:=h.unmark hd;exact⟨c,.inl ⟨r,w',h1,f,Pc c b ds { a with defers:=ds } w' rfl ht g⟩⟩
def Bh7 {Pi:Nat->Nat->Prop}{live:Nat->Prop}{Qg:C8}{t:TypeId}{v:Value}{x:AV}{r:List Prop×AV}(b:Ud w Pi live rho v x)(a:load P Qg t x=some r):∃ad,v=.pointer (some ad):=by
 cases b with
 |reg=>exact⟨_,rfl⟩
 |elt=>exact⟨_,rfl⟩
 |p _ y hy=>cases hy<;>first|exact⟨_,rfl⟩ | simp[load]at a
 |_=>simp[load]at a
def BR6 (tmps:Array Value):ResultVar->Sem Value
 |.tmp t=>pure (tmps.getD t undef)
 |.cell a t=>do loadVar t (<- asAddr (tmps.getD a undef))
def AG0 (fn:Func)(tmps:Array Value):results fn tmps=(do
 let vs <- fn.results.mapM (BR6 tmps)
 pure (if h:vs.size=1 then vs[0]else .tuple vs):Sem Value):=by
 unfold results;refine congrArg (λf=>((fn.results.mapM f >>= λvs=>pure (if h:vs.size=1 then vs[0]else .tuple vs)):Sem Value)) ?_;funext r;cases r<;>rfl
def MV (h:Sat C st a w rho):∀(rs:List ResultVar) (l:List AV),Jh P st rs=some l ->
 ∃vs:List Value,(rs.mapM (BR6 a.tmps)).run P w=.ok vs w/\vs.length=l.length/\∀i,i<l.length->RS C st w rho (vs.getD i undef) (l.getD i .top)
 |[],l,he=>by simp only[Jh,BT2]at he;subst he;exact⟨[],by simp,rfl,λi d=>Hc d (by simp)⟩
 |r::rs,l,he=>by
  simp only[Jh]at he;split at he
  .rename_i x l' hx hl;cases he;obtain⟨vs,h1,m,n⟩:=MV h rs l' hl;have b:∃v,(BR6 a.tmps r).run P w=.ok v w/\RS C st w rho v x:=by
    cases r with
    |tmp t=>simp only[AP9,BT2]at hx;subst hx;exact⟨_,rfl,h.env t⟩
    |cell y t=>
     simp only[AP9]at hx;split at hx
     .rename_i z g;cases hx;obtain⟨u,j,f⟩:=UK h (h.env y) g trivial;obtain⟨ad,c⟩:=Bh7 (h.env y) g;rw[c]at j;refine⟨u,?_,f⟩;simp only[BR6,c];simpa[Instr.loadAt,Instr.sureAddr,asAddr]using j
     cases hx
   obtain⟨v,o,f⟩:=b;refine⟨v::vs,?_,by simp[m],λi d=>?_⟩
   .rw[List.mapM_cons];simp only[BV4,o,BU3,h1,BX4]
   cases i with
   |zero=>simpa using f
   |succ i=>simpa using n i (by simpa using d)
  cases he
def WE (h:Sat C st a w rho){fn:Func}{l:List AV}(d:Jh P st fn.results.toList=some l):∃v,(results fn a.tmps).run P w=.ok v w/\RS C st w rho v (one l):=by
 obtain⟨vs,h1,b,c⟩:=MV h _ l d;refine⟨if h:vs.toArray.size=1 then vs.toArray[0]else .tuple vs.toArray,?_,?_⟩
 .rw[AG0,Array.mapM_eq_mapM_toList];simp only[BV4,map_eq_pure_bind,h1,BU3,BX4]
 by_cases hl:l.length=1
 .obtain⟨x,rfl⟩:=Cg0.1 hl;obtain⟨v,rfl⟩:=Cg0.1 (b.trans hl);simpa[one]using c 0 (by simp)
 rw[dif_neg (by simpa using (b ▸ hl:¬vs.length=1))]
 have:one l=.tup l:=by
  cases l with
  |nil=>rfl
  |cons x r=>
   cases r with
   |nil=>exact Hc rfl hl
   |cons _ _=>rfl
 rw[this];refine .tup _ l (by simpa using b) λi f=>?_
 have:=c i f
 simpa[BT0,BT3]using this
def Rf (h:Sat C st a w rho){outs:List Nat}{objs:List Obj}(hd:I1 outs=true)(u:N5 outs st.Qg outs=some objs) :SatE C (Qh objs) w (λp=>rho (outs.getD p 0))/\S0 w (PiS C st rho) w (Prv C.X (A2 (Qh objs)) (λp=>rho (outs.getD p 0))) /\
  ∀p j:Nat,outs[p]? = some j->Lv (A2 st.Qg) j->Lv (A2 (Qh objs)) p/\rho (outs.getD p 0)=rho j:=by
 obtain⟨hl,hg⟩:=Bh u;have m:=DK hd;have c:∀p o',A2 (Qh objs) p=some o' -> ∃j o,outs[p]? = some j/\A2 st.Qg j=some o/\UF outs o=some o' /\ rho (outs.getD p 0)=rho j:=by
  intro p o' hp;rw[F6]at hp;have l:p<outs.length:=by rw[<- hl];exact (BV1.1 hp).1
  obtain⟨o,o2,h1,f,d⟩:=hg p _ (BT4 l);rw[hp]at d;cases d;exact⟨_,o,BT4 l,h1,f,by rw[ET (BT4 l)]⟩
 have x:∀b off,Prv C.X (A2 (Qh objs)) (λp=>rho (outs.getD p 0)) b off->Prv C.X (A2 st.Qg) rho b off:=by
  rintro b off (n|⟨p,o',hp,hb,y⟩)
  .exact .inl n
  obtain⟨j,o,h1,f,d,g⟩:=c p o' hp;simp only[g,Bg d]at hb;exact .inr ⟨j,o,f,hb,(MU d off).1 y⟩
 have hk:S0 w (PiS C st rho) w (Prv C.X (A2 (Qh objs)) (λp=>rho (outs.getD p 0))):=λb o v hp hc=>⟨hc,λz=>hp (x b o z)⟩;have i:∀p j:Nat,outs[p]? = some j->Lv (A2 st.Qg) j->Lv (A2 (Qh objs)) p/\rho (outs.getD p 0)=rho j:=by intro p j hp _;obtain⟨o,o2,h1,f,d⟩:=hg p j hp;exact⟨by simp[Lv,F6,d],by rw[ET hp]⟩
 refine⟨⟨⟨?_,?_,?_,λb off n=>h.hp.bound b off n⟩,h.ext,h.size,h.same,h.keep.trans hk,?_,?_⟩,hk,i⟩
 .intro p o' hp;obtain⟨j,o,h1,f,d,g⟩:=c p o' hp;show Ue w _ _ _ (rho (outs.getD p 0)) o';rw[g];exact (h.hp.holds j o f).ren hk i (λb _=>rfl) d
 .intro p q op oq b hp hq s t;obtain⟨j,o,h1,f,d,g⟩:=c p op hp;obtain⟨j',o',a0,a1,a2,a3⟩:=c q oq hq;simp only[g,a3,Bg d,Bg a2]at s t
  have:=h.hp.sep j j' o o' b f a1 s t
  subst this;exact Hn m h1 a0
 .intro p o' b off hp hb n;obtain⟨j,o,h1,f,d,g⟩:=c p o' hp;simp only[g,Bg d]at hb;exact h.hp.out j o b off f hb n
 .rintro b ⟨p,o',hp,hb⟩;obtain⟨j,o,h1,f,d,g⟩:=c p o' hp;simp only[g,Bg d]at hb;exact h.own b ⟨j,o,f,hb⟩
 intro p r b hp;obtain⟨j,o,h1,f,d,g⟩:=c p _ hp
 have:o=.yld r b:=by
  cases o<;>simp only[UF]at d
  case cells=>split at d<;>cases d
  case ghost=>split at d<;>cases d
  case fam=>split at d<;>cases d
  case blk=>split at d<;>cases d
  case yld=>cases d;rfl
  all_goals cases d
 subst this;simp only[g];exact h.yld j r b f
def AG1 {m:Nat}{outs:List Nat}(hm:m<1000){i:Nat}(hk:(IH m outs)[i]? = some true):i<m/\outs[i]? = some i:=by
 unfold IH at hk;rw[BT7,BV0]at hk;obtain⟨q,c,a⟩:=hk;have b:i<m:=by simpa using (BV1.1 c).1
 rw[YW b]at c;cases c;refine⟨b,?_⟩;simp only[beq_iff_eq,BT0]at a;cases d:outs[i]? with
 |none=>rw[d]at a;simp at a;omega
 |some j=>rw[d]at a;simp at a;rw[a]
def AG2 (s:∀c,BL n c=true->KR P n c){f:FuncId}{fn:Func}{code:Code}{args:List AV}{objs:List Obj}{Q:ARes->List Obj->List Bool->Prop}(hf:P.funcs[f]? = some fn)(hb:fn.body=some code)(y:(fn.name == "runtime.NumGoroutine")=false)(hn:fn.ntmps=n)
 (hok:BL n code=true) (hargs:args.length<=n) (z:objs.length<1000)
 (hw:semUp ⟨Uf args,Qh objs⟩ (awp (HP P) P code (Et (HP P) P objs.length fn.results.toList Q))):SemF P f args objs Q:=by
 intro 𝒢 C w vs rho hG hS hvs;have hn' : ¬fn.name = "runtime.NumGoroutine" := by simpa using y
 refine⟨.enter f vs,w,by simp[callFunc,hf,hn',hb],?_⟩;refine callsIn_of_wp_marks hf hb trivial ?_;have hS' : Sat C ⟨Uf args,Qh objs⟩ { tmps:=vs++Array.replicate (fn.ntmps-vs.size) undef,defers:=[] } w rho:=by
  refine⟨hS.toSatE,λt=>?_,hS.pin,hS.marks⟩
  have:=hS.env t
  by_cases ht:t<vs.size
  .simpa[BT3,Ce3,ht]using this
  show Ud w _ _ _ _ (get (Uf args) t);rw[CW,BT0,BX2 (by omega)];exact .top _
 obtain⟨st1,rho1,hw1,_,hS1⟩:=hw C _ w rho hS';have hsz:(vs++Array.replicate (fn.ntmps-vs.size) undef).size=n:=by simp;omega
 have hro:BH0 (𝒢.fix C.rho0) none:=λl h=>by cases h
 refine wpIn_mono (s code hok (𝒢.fix C.rho0) none hro _ C st1 _ w rho1 ⟨hG,rfl⟩ hS1 hsz hw1) ?_;have j:∀{C' : Ctx}{st' : St}{a' : Act}{w' : World}{rho' : Nat->Value}{outs:List Nat}{objs' : List Obj},C'.rho0=C.rho0->Sat C' st' a' w' rho' -> N5 outs st'.Qg outs=some objs' -> ∀i:Nat,(IH objs.length outs)[i]? = some true->i<objs'.length/\rho' (outs.getD i 0)=rho i:=by intro C' st' a' w' rho' outs objs' hr hs hob i hi;obtain⟨h1,h2⟩:=AG1 z hi;obtain⟨hl,hg⟩:=Bh hob;obtain⟨o,_,ho,_⟩:=hg i i h2;refine⟨by rw[hl];exact (BV1.1 h2).1,?_⟩;rw[ET h2,hs.pin i (by omega) (by simp[Lv,ho]),hr];exact (hS.pin i (by omega) (by simp[Lv,F6,h1])).symm
 have q:∀(a' : Act) (w' : World),NextOk (𝒢.fix C.rho0) n (λst=>semUp st λst1=>∃l outs a objs',Jh P st1 fn.results.toList=some l/\I1 outs=true/\Ys outs (one l)=some a/\N5 outs st1.Qg outs=some objs' /\ Q (.ret a) objs' (IH objs.length outs)) a' w' ->
  LeavesInM Fence.wide 0 P fn a'.tmps (λe w'=>∃C' r objs' ks rho', 𝒢.G C' /\ Q r objs' ks/\SatE C' (Qh objs') w' rho' /\
   Bh1 w' (Prv C'.X (A2 (Qh objs')) rho') (Lv (A2 (Qh objs'))) rho' e r/\∀i:Nat,ks[i]? = some true->i<objs'.length/\rho' i=rho i) a'.defers .returning w':=by
  rintro a' w' ⟨C',st',rho',m,hs',hsz',hu⟩;obtain⟨st2,rho2,⟨l,outs,x,objs',h1,h2,h3,h4,h5⟩,_,g⟩:=hu C' a' w' rho' hs';refine Pc (C:=C') (st:=st2) (rho:=rho2) (by simp) ?_ a'.defers a' w' rfl rfl g;intro a3 w3 hs3 ht hd;obtain⟨v,hv,hrep⟩:=WE hs3 h1;obtain⟨g1,g2,g3⟩:=Rf hs3 h2 h4;rw[ht]at hv;exact⟨v,hv,C', .ret x,objs',_,_,m.1,h5,g1,⟨v,rfl,hrep.ren g2 g3 h3⟩,j m.2 hs3 h4⟩
 intro e a' w' he;cases e with
 |normal=>exact q a' w' he
 |ret=>exact q a' w' he
 |exit id=>obtain⟨_,_,_,_,_,_,h⟩:=he;exact h.elim
 |goto l=>obtain⟨_,_,_,_,_,_,h⟩:=he;exact h.elim
 |outgrown=>exact he.elim
 |panic ch=>
  obtain⟨C',st',rho',v,x,rfl,m,hs',hsz',hv,outs,objs',h2,h4,h5⟩:=he
  have:∀(ds:List Deferred) (a2:Act) (w2:World),a2.defers=ds->a2.tmps=a'.tmps->Sat C' st' a2 w2 rho' -> Sb w2 (PiS C' st' rho') v x ->
   LeavesInM Fence.wide 0 P fn a'.tmps (λe w'=>∃C' r objs' ks rho', 𝒢.G C' /\ Q r objs' ks/\SatE C' (Qh objs') w' rho' /\
    Bh1 w' (Prv C'.X (A2 (Qh objs')) rho') (Lv (A2 (Qh objs'))) rho' e r/\∀i:Nat,ks[i]? = some true->i<objs'.length/\rho' i=rho i) ds (.panicking [{ v,recovered:=false }]) w2:=by
   intro ds
   induction ds with
   |nil=>intro a2 w2 hd ht g hv2;obtain⟨g1,g2,g3⟩:=Rf g h2 h4;exact⟨C', .panic x,objs',_,_,m.1,h5,g1,⟨v,rfl,hv2.keeps g2⟩,j m.2 g h4⟩
   |cons d ds ih=>
    intro a2 w2 hd ht g hv2;obtain⟨r,w3,h6,h7,h8⟩:=g.unmark (P:=P) hd;refine⟨by simp,.inl ⟨r,w3,h6,h7,ih { a2 with defers:=ds } w3 rfl ht h8 ?_⟩⟩;obtain⟨r',h9,_,h10,_⟩:=g.marks.2 d (by rw[hd];simp);have e6:r=r':=by rw[h9]at h6;cases h6;rfl
    subst e6;have hw3:w3=w2.putObj r (.deferred none):=by rw[run_takeDeferred h10]at h7;cases h7;rfl
    subst hw3;refine hv2.keeps λb o u hp hc=>⟨?_,hp⟩;rw[<- hc];refine BW4 (BY1 ?_);rintro rfl;simp[World.cell?,h10]at hc
  exact this a'.defers a' w' rfl rfl hs' hv
end
section
variable {P:Program}{C:Ctx}{st:St}{a:Act}{w:World}{rho:Nat->Value}{𝒢 : Prot P}{n:Nat}{Q:M0}
def Sat.poke (h:Sat C st a w rho){r:Nat}{lo:Loop}(f:w.heap[r]? = some (.loop lo))(o' : Go.Obj)(l:C.E0 r \/ C.w0.heap.size<=r):Sat C st a (w.putObj r o') rho/\∀Pi,S0 w Pi (w.putObj r o') Pi:=by
 have c:∀b,b≠r->(w.putObj r o').heap[b]? = w.heap[b]?:=λb hb=>BY1 hb;have i:∀b off v,w.cell? ⟨b,off,none⟩=some v->b≠r:=by
  rintro b off v hc rfl
  grind[World.cell?]
 have hk:∀Pi,S0 w Pi (w.putObj r o') Pi:=λPi b o v hp hc=>⟨by rw[<- hc];grind[Go.World.cell?_of_block],hp⟩;have g:∀{Pi live rho' v ob b},Ue w Pi live rho' v ob->G1 v ob b->b≠r:=by
  rintro Pi live rho' v ob b n hb rfl
  have:=n.kind hb
  rw[f]at this;cases this
 refine⟨⟨⟨⟨?_,h.hp.sep,h.hp.out,λb off q=>by rw[BW6];exact h.hp.bound b off q⟩,h.ext.trans ⟨rfl,rfl⟩,by rw[BW6];exact h.size,?_,h.keep.trans (hk _),h.own,h.yld⟩,λt=>(h.env t).keeps (hk _) (by grind),h.pin,h.marks.1,?_⟩,hk⟩
 .intro j o m;exact (h.hp.holds j o m).keeps (hk _) (by grind) λb hb=>c b (g (h.hp.holds j o m) hb)
 .intro b hb s;rw[c b (by grind)];exact h.same b hb s
 intro d u;obtain⟨r',h1,x,y,z⟩:=h.marks.2 d u
 grind
def Ctx.plus (C:Ctx)(V:Nat->Nat->Prop):Ctx:={ C with X:=λb o=>C.X b o \/ V b o }
def SatE.add {R R' : C8}(h:SatE C R w rho){j:Nat}(z:A2 R j=none){o:Obj}{v:Value}(hb:∀u b,¬G1 u o b)(m : ∀i,A2 R' i=if i=j then some o else A2 R i)
 (hh:S0 w (Prv C.X (A2 R) rho) w (Prv C.X (A2 R') (λi=>if i=j then v else rho i))->(∀i,Lv (A2 R) i->Lv (A2 R') i/\(if i=j then v else rho i)=rho i)->Ue w (Prv C.X (A2 R') (λi=>if i=j then v else rho i)) (Lv (A2 R')) (λi=>if i=j then v else rho i) v o) (hy:∀r b,o=.yld r b->C.Y r b/\v=C.yv) :
 SatE C R' w (λi=>if i=j then v else rho i)/\(∀b off,Prv C.X (A2 R') (λi=>if i=j then v else rho i) b off↔Prv C.X (A2 R) rho b off) /\
  (∀i,Lv (A2 R) i->Lv (A2 R') i/\(if i=j then v else rho i)=rho i):=by
 have f:∀i,Lv (A2 R) i->Lv (A2 R') i/\(if i=j then v else rho i)=rho i:=by
  intro i d;have e:i≠j:=by rintro rfl;grind[Lv]
  simp_all[Lv,Gb,trivial]
 have a:∀i oi b,A2 R' i=some oi->G1 (if i=j then v else rho i) oi b->i≠j/\A2 R i=some oi/\G1 (rho i) oi b:=by
  grind
 have n:∀i oi,A2 R i=some oi->A2 R' i=some oi/\(if i=j then v else rho i)=rho i:=by
  grind
 have s:∀b off,Prv C.X (A2 R') (λi=>if i=j then v else rho i) b off↔Prv C.X (A2 R) rho b off:=by
  intro b off;constructor
  .rintro (t|⟨i,oi,d,c,hp⟩)
   .exact .inl t
   obtain⟨_,h1,l⟩:=a i oi b d c;exact .inr (by grind)
  rintro (t|⟨i,oi,d,c,hp⟩)
  .exact .inl t
  obtain⟨h1,l⟩:=n i oi d;exact .inr (by grind)
 have hk:S0 w (Prv C.X (A2 R) rho) w (Prv C.X (A2 R') (λi=>if i=j then v else rho i)):=λb o v hp hc=>(by grind);refine⟨⟨⟨?_,?_,?_,h.hp.bound⟩,h.ext,h.size,h.same,h.keep.trans hk,?_,?_⟩,s,f⟩
 .intro i oi d;by_cases e:i=j
  .grind
  have g:=d;rw[m,Gb e]at g;simp only[e,Ih];exact (h.hp.holds i oi g).keeps hk f λb _=>rfl
 .intro i i' oi oj b d g c q;obtain⟨_,h1,l⟩:=a i oi b d c;obtain⟨_,x,y⟩:=a i' oj b g q;exact h.hp.sep i i' oi oj b h1 x l y
 .intro i oi b off d c;obtain⟨_,h1,l⟩:=a i oi b d c;exact h.hp.out i oi b off h1 l
 .rintro b ⟨i,oi,d,c⟩;obtain⟨_,h1,l⟩:=a i oi b d c;exact h.own b ⟨i,oi,h1,l⟩
 intro i r b d;by_cases e:i=j
 .grind
 rw[m,Gb e]at d;simp only[e,Ih];exact h.yld i r b d
def Sat.suspend (h:Sat C st a w rho){ids:List Nat}(hd:I1 ids=true){E:Env}(hE:∀t,get E t=get st.env t \/ get E t=.top){V:Nat->Nat->Prop}(q:∀b off,V b off ↔ ∃j o,j∈ids/\A2 st.Qg j=some o/\G1 (rho j) o b/\MF o off)(hlv:∀j∈ids,Lv (A2 st.Qg) j) :Sat (C.plus V) ⟨E,K8 ids (ids.map λ_=>false) st.Qg⟩ a w rho/\∀b off,Prv (C.plus V).X (A2 (K8 ids (ids.map λ_=>false) st.Qg)) rho b off↔Prv C.X (A2 st.Qg) rho b off:=by
 have n:=DK hd;have s:∀j,A2 (K8 ids (ids.map λ_=>false) st.Qg) j=if j∈ids then some .dead else A2 st.Qg j:=by
  intro j;rw[Ho j ids _ _ n]
  grind[Wy,S6,idx,Hc,List.mem_of_getElem?]
 have f:∀i oi b,A2 (K8 ids (ids.map λ_=>false) st.Qg) i=some oi->G1 (rho i) oi b->i ∉ ids/\A2 st.Qg i=some oi:=by
  intro i oi b c hb;rw[s]at c;by_cases hm:i∈ids
  .rw[Fg hm]at c;grind[G1,Q9]
  grind
 have u:∀b off,Prv (C.plus V).X (A2 (K8 ids (ids.map λ_=>false) st.Qg)) rho b off↔Prv C.X (A2 st.Qg) rho b off:=by
  intro b off;constructor
  .rintro ((g|g)|⟨i,oi,c,hb,hp⟩)
   .exact .inl g
   .obtain⟨j,o,_,h1,m,x⟩:=(q b off).1 g;exact .inr (by grind)
   obtain⟨_,h1⟩:=f i oi b c hb;exact .inr (by grind)
  rintro (g|⟨i,oi,c,hb,hp⟩)
  .exact .inl (.inl g)
  by_cases hm:i∈ids
  .exact .inl (.inr (by grind))
  exact .inr (by grind)
 have hk:S0 w (Prv C.X (A2 st.Qg) rho) w (Prv (C.plus V).X (A2 (K8 ids (ids.map λ_=>false) st.Qg)) rho):=λb o v hp hc=>(by grind);have l:∀i,Lv (A2 st.Qg) i->Lv (A2 (K8 ids (ids.map λ_=>false) st.Qg)) i/\rho i=rho i:=by
  intro i c;refine⟨?_,rfl⟩
  grind[Lv]
 refine⟨⟨⟨⟨?_,?_,?_,?_⟩,h.ext,h.size,h.same,h.keep.trans hk,?_,?_⟩,?_,?_,h.marks.1,?_⟩,u⟩
 .intro i oi c;rw[s]at c;by_cases hm:i∈ids
  .rw[Fg hm]at c;cases c;trivial
  rw[Gb hm]at c;exact (h.hp.holds i oi c).keeps hk l λb _=>rfl
 .intro i i' oi oj b c hi' hb y;exact h.hp.sep i i' oi oj b (f i oi b c hb).2 (by grind) hb y
 .rintro i oi b off c hb (g|g)
  .exact h.hp.out i oi b off (f i oi b c hb).2 hb g
  obtain⟨j,o,hm,h1,m,_⟩:=(q b off).1 g
  have:=h.hp.sep i j oi o b (f i oi b c hb).2 h1 hb m
  grind
 .rintro b off (g|g)
  .exact h.hp.bound b off g
  obtain⟨j,o,hm,h1,m,_⟩:=(q b off).1 g;exact (h.hp.holds j o h1).lt m
 .rintro b ⟨i,oi,c,hb⟩;exact h.own b ⟨i,oi,(f i oi b c hb).2,hb⟩
 .intro i r b c;rw[s]at c;by_cases hm:i∈ids
  .rw[Fg hm]at c;grind
  rw[Gb hm]at c;exact h.yld i r b c
 .intro t;rcases hE t with z|z
  .show Ud w _ _ rho _ (get E t);rw[z];exact (h.env t).keeps hk l
  show Ud w _ _ rho _ (get E t);rw[z];exact .top _
 .intro i c hl;refine h.pin i c ?_;simp only[Lv,s]at hl;by_cases hm:i∈ids
  .grind
  rw[Gb hm]at hl;exact hl
 intro d a0;obtain⟨r,h1,m,x,h4⟩:=h.marks.2 d a0;refine⟨r,h1,m,x,?_⟩;rintro off (g|g)
 .grind
 obtain⟨j,o,_,h5,h6,_⟩:=(q r off).1 g;exact (h.hp.holds j o h5).nd h6 x
def Sat.moves {C C' : Ctx}{V:Nat->Nat->Prop}{V' : Nat->Nat->Prop}{w' : World}{O' : Nat->Prop}(h:Sat (C.plus V) st a w rho)(hw:C'.w0=w)(q:C'.X=λb o=>C.X b o \/ PvR st.Qg rho b o)(i:C'.Pi0=λb o=>C'.X b o \/ V b o)
 (hR:Rel C' w' O' V') (s:∀b,C'.E0 b->¬Ai2 st.Qg rho a.defers b) (l:∀b,C'.E0 b->C.E0 b \/ C.w0.heap.size<=b) :
 Sat (C.plus V') st a w' rho/\S0 w (Prv (C.plus V).X (A2 st.Qg) rho) w' (Prv (C.plus V').X (A2 st.Qg) rho)/\∀b,b<w.heap.size->¬C'.E0 b->w'.heap[b]? = w.heap[b]?:=by
 subst hw;have c:=hR.same;have e1:∀b o,Prv (C.plus V).X (A2 st.Qg) rho b o↔C'.Pi0 b o:=by
  intro b o;rw[i,q];show ((C.X b o \/ V b o) \/ PvR st.Qg rho b o)↔((C.X b o \/ PvR st.Qg rho b o) \/ V b o)
  grind
 have e2:∀b o,Prv (C.plus V').X (A2 st.Qg) rho b o->(C'.X b o \/ V' b o):=by
  intro b o;rw[q];rintro ((h|h)|h)
  .grind
  .grind
  exact .inl (.inr h)
 have hk:S0 C'.w0 (Prv (C.plus V).X (A2 st.Qg) rho) w' (Prv (C.plus V').X (A2 st.Qg) rho):=λb o v hp hc=>
  let ⟨h1,u⟩:=hR.keep b o v (by grind) hc
  (by grind)
 have y:∀b,Ai2 st.Qg rho a.defers b->b<C'.w0.heap.size:=h.rel.lt;have f:∀b,Ai2 st.Qg rho a.defers b->w'.heap[b]? = C'.w0.heap[b]?:=(by grind);have m:∀b off,Ai2 st.Qg rho a.defers b->¬V' b off:=by
  intro b off hb z;rcases hR.own b (hR.vo b off z)with h1|h1
  all_goals grind
 refine⟨⟨⟨⟨?_,h.hp.sep,?_,?_⟩,h.ext.trans hR.ext,BX7 h.size hR.size,?_,h.keep.trans hk,h.own,h.yld⟩,λt=>(h.env t).keeps hk (by grind),h.pin,h.marks.1,?_⟩,hk,c⟩
 .intro j o g;exact (h.hp.holds j o g).keeps hk (by grind) λb hb=>f b (.inl ⟨j,o,g,hb⟩)
 .rintro j o b off g hb (hx|hx)
  .exact h.hp.out j o b off g hb (.inl hx)
  exact m b off (.inl ⟨j,o,g,hb⟩) hx
 .rintro b off (hx|hx)
  .exact BU8 (h.hp.bound b off (.inl hx)) hR.size
  exact hR.lt b (hR.vo b off hx)
 .intro b hb x;have n:b<C'.w0.heap.size:=BU8 hb h.size;have hn:¬C'.E0 b:=by
   intro he;rcases l b he with h1|h1
   .exact x h1
   have:b<C.w0.heap.size:=hb;omega
  rw[c b n hn];exact h.same b hb x
 intro d hd;obtain⟨r,h1,u,h3,h4⟩:=h.marks.2 d hd;have hm:Ai2 st.Qg rho a.defers r:=.inr (by grind[Ak4]);refine⟨r,h1,u,(f r hm).trans h3,?_⟩;rintro off (hx|hx)
 .exact h4 off (.inl hx)
 grind
def Sat.minus {V:Nat->Nat->Prop}(h:Sat (C.plus V) st a w rho):Sat C st a w rho/\∀b off,Prv C.X (A2 st.Qg) rho b off->Prv (C.plus V).X (A2 st.Qg) rho b off:=by
 have f:∀b off,Prv C.X (A2 st.Qg) rho b off->Prv (C.plus V).X (A2 st.Qg) rho b off:=by
  rintro b off (c|c)
  .exact .inl (.inl c)
  exact .inr c
 have hk:S0 w (Prv (C.plus V).X (A2 st.Qg) rho) w (Prv C.X (A2 st.Qg) rho):=λb o v hp hc=>(by grind);refine⟨⟨⟨⟨?_,h.hp.sep,λj o b off g hb c=>h.hp.out j o b off g hb (.inl c),λb off c=>h.hp.bound b off (.inl c)⟩,h.ext,h.size,h.same,h.keep.trans hk,h.own,h.yld⟩,λt=>(h.env t).keeps hk (by grind),h.pin,h.marks.1,?_⟩,f⟩
 .intro j o g;exact (h.hp.holds j o g).keeps hk (by grind) λb hb=>rfl
 intro d i;obtain⟨r,h1,l,m,n⟩:=h.marks.2 d i;exact⟨r,h1,l,m,λoff c=>n off (.inl c)⟩
end
section
variable {P:Program}{n:Nat}{Q:M0}
structure LiftG (𝒢 : Prot P) (r1 r0:Nat->Value) (wS:World) (TS:Nat->Nat->Prop) (OS:Nat->Prop) (VS:Nat->Nat->Prop) (C C2:Ctx) (V0:Nat->Nat->Prop):Prop where
 g : 𝒢.G C2
 r2:C2.rho0=r1
 X:C.X=λb o=>C2.X b o \/ VS b o
 Y:C.Y=C2.Y
 yv:C.yv=C2.yv
 rho:C.rho0=r0
 pi:C.Pi0=λb o=>C.X b o \/ V0 b o
 rel:Rel C2 C.w0 (λb=>OS b \/ C.E0 b) (λb o=>VS b o \/ V0 b o)
 os:∀b,OS b->C.w0.heap[b]? = wS.heap[b]?
 keep:S0 wS TS C.w0 C.Pi0
 dis:∀b,OS b->¬C.E0 b
 size:wS.heap.size<=C.w0.heap.size
 ext:Ext wS C.w0
def or4 {a b c:Prop}:(a \/ b) \/ c↔a \/ (b \/ c):=or_assoc
def S0.of_imp {w:World}{p q:Nat->Nat->Prop}(h:∀b o,q b o->p b o):S0 w p w q:=λb o v hp hc=>by grind
def LiftG.joint {𝒢 : Prot P}{r1 r0:Nat->Value}{wS:World}{TS:Nat->Nat->Prop}{OS:Nat->Prop}{VS:Nat->Nat->Prop}(g:∀b o,VS b o->OS b){C C2:Ctx}{V0:Nat->Nat->Prop}(h:LiftG 𝒢 r1 r0 wS TS OS VS C C2 V0)
 {w:World}{O:Nat->Prop}{V:Nat->Nat->Prop}(hR:Rel C w O V) :
 Rel C2 w (λb=>OS b \/ O b) (λb o=>VS b o \/ V b o)/\(∀b,OS b->w.heap[b]? = wS.heap[b]?)/\S0 wS TS w (λb o=>C.X b o \/ V b o)/\(∀b,OS b->¬O b)/\wS.heap.size<=w.heap.size/\Ext wS w:=by
 have a:=h.rel;have c:∀b,OS b->w.heap[b]? = C.w0.heap[b]?:=λb hb=>hR.same b (a.lt b (.inl hb)) (h.dis b hb);refine⟨⟨a.ext.trans hR.ext,BX7 a.size hR.size,?_,?_,?_,?_,?_,λb off d=>BU8 (a.bnd b off d) hR.size,?_⟩,λb hb=>(c b hb).trans (h.os b hb),h.keep.trans hR.keep,?_,BX7 h.size hR.size,h.ext.trans hR.ext⟩
 .intro b hb i;rw[hR.same b (BU8 hb a.size) λj=>by
   rcases a.own b (.inr j)with h1|h1
   all_goals grind]
  exact a.same b hb i
 .refine a.keep.trans ((S0.of_imp ?_).trans (hR.keep.trans (S0.of_imp ?_)))
  .intro b o hp;rw[h.pi,h.X]at hp
   grind
  intro b o hp;rw[h.X];grind
 .rintro b (hb|hb)
  .exact a.own b (.inl hb)
  rcases hR.own b hb with h1|h1
  .exact a.own b (.inr h1)
  exact .inr (BX7 a.size h1)
 .rintro b off (hb|hb) d
  .exact a.out b off (.inl hb) d
  exact hR.out b off hb (by rw[h.X];grind)
 .rintro b (hb|hb)
  .exact BU8 (a.lt b (.inl hb)) hR.size
  exact hR.lt b hb
 .rintro b o (f|f)
  .grind
  exact .inr (hR.vo b o f)
 intro b hb l;rcases hR.own b l with h1|h1
 .exact h.dis b hb h1
 have:=a.lt b (.inl hb);omega
def Prot.lift (𝒢 : Prot P)(r1 r0:Nat->Value)(wS:World)(TS:Nat->Nat->Prop)(OS:Nat->Prop)(VS:Nat->Nat->Prop)(a:∀b o,VS b o->OS b):Prot P where
 G:=λC=>∃C2 V0,LiftG 𝒢 r1 r0 wS TS OS VS C C2 V0
 tab:=by rintro C ⟨C2,V0,h⟩;exact ((𝒢.tab C2 h.g).keeps h.rel.keep h.rel.same (E':=C.E0) λb hb d=>(h.rel.own b (.inr d)).resolve_right (Nat.not_le.2 hb)).keeps (S0.of_imp λb o hp=>by rw[h.pi,h.X]at hp;exact or4.1 hp) (λ_ _ _=>rfl) λ_ _ f=>f
 call:=by
  rintro C w O V ys rest vs ⟨C2,V0,h⟩ hR j hs m;obtain⟨j1,j2,j3,j4,j5,j6⟩:=h.joint a hR;have c : ∀i,i<ys.length->Sb w (λb o=>C2.X b o \/ (VS b o \/ V b o)) (vs.getD i undef) (ys.getD i default):=λi n=>
   (m i n).keeps (S0.of_imp λb o hp=>by rw[h.X];exact or4.2 hp)
  obtain⟨l,fn,tmps,as,body,h1,q,r⟩:=𝒢.call C2 w _ _ ys rest vs h.g j1 (by rw[<- h.Y];exact j) hs c;refine⟨l,fn,tmps,as,body,h.yv.trans h1,q,r.mono ?_⟩;rintro e w' ⟨b,rfl,C2',g1,g2,g3,g4,g5,g6,g7,g8,g9,g10,g11,g12⟩;refine⟨b,rfl,{ X:=λb o=>C2'.X b o \/ VS b o,w0:=w',E0:=O,Pi0:=λb o=>(C2'.X b o \/ VS b o) \/ V b o,rho0:=C.rho0,Y:=C2'.Y,yv:=C2'.yv },⟨C2',V,?_⟩,g2.trans h.yv.symm,rfl,g4,rfl,rfl,rfl,?_,λb hb=>g9 b (.inr hb),?_,g11,g12⟩
  .refine⟨g1,g3.trans h.r2,rfl,rfl,rfl,h.rho,rfl,g8,λb hb=>(g9 b (.inl hb)).trans (j2 b hb),?_,j4,BX7 j5 g11,j6.trans g12⟩;refine j3.trans ((S0.of_imp ?_).trans (g10.trans (S0.of_imp ?_)))
   .intro b o hp;rw[h.X];exact or4.2 hp
   .intro b o hp;exact or4.1 hp
  .refine⟨Ext.refl _,BT8 _,λ_ _ _=>rfl,S0.refl _ _,λb hb=>.inl hb,?_,λb hb=>g8.lt b (.inr hb),?_,hR.vo⟩
   .rintro b off hb (hx|hx)
    .exact g8.out b off (.inr hb) hx
    .exact j4 b (a b off hx) hb
   .rintro b off (hx|hx)
    .exact g8.bnd b off hx
    .exact g8.lt b (.inl (a b off hx))
  .refine (S0.of_imp ?_).trans (g10.trans (S0.of_imp ?_))
   .intro b o hp;rw[h.X];exact or4.2 hp
   .intro b o hp;exact or4.1 hp
end
section
variable {P:Program}{C:Ctx}{a:Act}{w:World}{rho:Nat->Value}{n:Nat}
def Rg:∀(ts:List Nat) (l:List AV) (t:Nat),ts.length=l.length->ts.Nodup->(∀i:Nat,ts[i]? = some t->get (AC ts l) t=l.getD i .top)/\(t ∉ ts->get (AC ts l) t=.top)
 |[],[],t,_,_=>⟨by grind,λ_=>rfl⟩
 |[],_::_,t,h,_=>by grind
 |_::_,[],t,h,_=>by grind
 |x::ts,y::l,t,h,hn=>by
  obtain⟨n1,n2⟩:=BY2.1 hn;obtain⟨h1,a⟩:=Rg ts l t (by grind) n2;refine⟨λi b=>?_,λhm=>?_⟩
  .simp only[AC,get]
   grind
  simp_all[BX5,not_or,AC,get,Gb,Cb0]
def UX:∀(ts:List Nat) (l:List AV),ts.length=l.length->(AC ts l).map (·.1)=ts
 |[],[],_=>rfl
 |[],_::_,h=>by grind
 |_::_,[],h=>by grind
 |x::ts,y::l,h=>by simp[AC,UX ts l (by grind)]
def Ay5:∀(E:Env) (t:Nat),(E.map (·.1)).Nodup->(∀i:Nat,(E.map (·.1))[i]? = some t->get E t=(E.map (·.2)).getD i .top)/\(t ∉ E.map (·.1)->get E t=.top)
 |[],t,_=>⟨by grind,λ_=>rfl⟩
 |(x,y)::E,t,hn=>by
  obtain⟨n1,n2⟩:=BY2.1 hn;obtain⟨h1,a⟩:=Ay5 E t n2;refine⟨λi b=>?_,λhm=>?_⟩
  .simp only[get]
   grind
  simp_all[BU9,BX5,not_or,get,Gb,Cb0]
theorem Qx {Qg:C8}{g i:Nat}(a:i≠g):A2 (del g Qg) i=A2 Qg i:=by
 induction Qg with
 |nil=>rfl
 |cons p r ih=>
  obtain⟨x,y⟩:=p;simp only[del];split
  all_goals simp_all[A2,Cb0]
def Rh {Pi:Nat->Nat->Prop}{live:Nat->Prop}:∀(ps:List Nat) (ys:List PV) (vs:List Value) (E:Env) (tmps:Array Value),ps.length=ys.length->ps.length=vs.length->(∀t∈ps,t<tmps.size) ->
 (∀t,Ud w Pi live rho (tmps.getD t undef) (get E t))->(∀i,i<ys.length->Sb w Pi (vs.getD i undef) (ys.getD i default)) ->
 ∀t,Ud w Pi live rho (((ps.zip vs).foldl (λtmps (q:Nat×Value)=>tmps.setIfInBounds q.1 q.2) tmps).getD t undef) (get (MI ps ys E) t)
 |[],[],vs,E,tmps,_,h2,_,hE,_,t=>by simp_all[MI]
 |[],_::_,_,_,_,h,_,_,_,_,_=>by grind
 |_::_,[],_,_,_,h,_,_,_,_,_=>by grind
 |p::ps,y::ys,[],_,_,_,h,_,_,_,_=>by grind
 |p::ps,y::ys,v::vs,E,tmps,h1,h2,hlt,hE,hv,t=>by
  simp only[List.zip_cons_cons,List.foldl_cons,MI];refine Rh ps ys vs (ins p (.p y) E) (tmps.setIfInBounds p v) (by grind) (by grind) (by grind) ?_ (λi a=>by simpa using hv (i+1) (by grind)) t;intro t;rw[QP];by_cases e:p=t
  .subst e
   have:=hlt p (by simp)
   rw[Fg rfl];have e2:(tmps.setIfInBounds p v).getD p undef=v:=by simp_all
   rw[e2];exact .p _ _ (by simpa using hv 0 (by simp))
  simp_all
end
section
variable {w w' : World}{Pi Pi' : Nat->Nat->Prop}{live live' : Nat->Prop}{rho:Nat->Value}
def Ud.drop (hk:S0 w Pi w' Pi')(hl:∀j,live j->(∀vs,rho j ≠ .tuple vs)->live' j){v:Value}{a:AV}(h:Ud w Pi live rho v a):Ud w' Pi' live' rho v a:=by
 induction h with
 |p v x h=>exact .p v x (h.keeps hk)
 |reg j off b hj h=>exact .reg j off b (hl j hj (by rw[h];intro vs e;cases e)) h
 |vec j base n cap hj h=>exact .vec j base n cap (hl j hj (by rw[h];intro vs e;cases e)) h
 |vecp j m base n cap hj h hm=>exact .vecp j m base n cap (hl j hj (by rw[h];intro vs e;cases e)) h hm
 |elt j k i off b n cap hj h=>exact .elt j k i off b n cap (hl j hj (by rw[h];intro vs e;cases e)) h
 |Sc j r hj h=>exact .Sc j r (hl j hj (by rw[h];intro vs e;cases e)) h
 |clo f x y a b hx hy ha hb iha ihb=>exact .clo f x y a b hx hy iha ihb
 |tup x a hx ha ih=>exact .tup x a hx ih
 |agr x a hx h1 ha ih=>exact .agr x a hx h1 ih
 |yf j l hj h=>exact .yf j l (hl j hj (by rw[h];intro vs e;cases e)) h
 |top v=>exact .top v
def Ue.drop (hk:S0 w Pi w' Pi')(hl:∀j,live j->(∀vs,rho j ≠ .tuple vs)->live' j){h:Value}{o:Obj}(hb:∀b,G1 h o b->w'.heap[b]? = w.heap[b]?)(s:Ue w Pi live rho h o):Ue w' Pi' live' rho h o:=by
 cases o with
 |cells cs=>obtain⟨b,c,T,rfl,h1,m,a⟩:=s;exact⟨b,c,T,rfl,(hb b rfl).trans h1,m,λi d=>⟨(a i d).1.drop hk hl,(a i d).2⟩⟩
 |vec e k n f vw=>
  rcases s with hn|⟨b,cap,c,rfl,h1,m,a,t,u,v⟩
  .exact .inl hn
  exact .inr ⟨b,cap,c,rfl,(hb b rfl).trans h1,m,a,t,u,λi j d y=>⟨(v i j d y).1.keeps hk,(v i j d y).2⟩⟩
 |map es=>obtain⟨b,Se,clock,rfl,h1,m,a,h9⟩:=s;exact⟨b,Se,clock,rfl,(hb b rfl).trans h1,m,λi d=>⟨(a i d).1.keeps hk,(a i d).2.keeps hk⟩,h9⟩
 |arr n f=>obtain⟨b,c,T,rfl,h1,m,a⟩:=s;exact⟨b,c,T,rfl,(hb b rfl).trans h1,m,λi d=>⟨(a i d).1.keeps hk,(a i d).2⟩⟩
 |blk l jr=>obtain⟨g1,g2,b,rfl,h1⟩:=s;exact⟨hl jr g1 g2.1,g2,b,rfl,(hb b rfl).trans h1⟩
 |ghost cs=>obtain⟨vs,rfl,h1,m⟩:=s;exact⟨vs,rfl,h1,λi d=>(m i d).drop hk hl⟩
 |yld r b=>exact s
 |fam e n jr x=>
  obtain⟨rv,g1,g2,z⟩:=s;refine⟨rv,by grind,g2,?_⟩;rcases z with z|⟨b,cap,c,rfl,h1,m,a,t,u,v⟩
  .grind
  cases x with
  |none=>exact .inr ⟨b,cap,c,rfl,(hb b rfl).trans h1,m,a,t,u,trivial⟩
  |some q=>exact .inr ⟨b,cap,c,rfl,(hb b rfl).trans h1,m,a,t,u,v.drop hk hl⟩
 |rows n g=>grind[Kz]
 |dead=>trivial
def Ue.block {h:Value}{o:Obj}(a:Ue w Pi live rho h o){b:Nat}(hb:G1 h o b):(∃c T f,w.heap[b]? = some (.cells c T f)) \/ (∃es ck,w.heap[b]? = some (.map es ck)) \/ ∃m c s l,w.heap[b]? = some (.mapIter m c s l):=by
 have:=a.kind hb
 unfold isC at this
 grind
end
section
variable {P:Program}{C:Ctx}{st:St}{a:Act}{w:World}{rho:Nat->Value}{𝒢 : Prot P}{n:Nat}{Q:M0}
def Sat.own_not {b:Nat}(h:Sat C st a w rho)(hb:Own (A2 st.Qg) rho b){o:Go.Obj}(i:w.heap[b]? = some o)(hc:∀c T f,o ≠ .cells c T f)(hm:∀es ck,o ≠ .map es ck)(n:∀m c s l,o ≠ .mapIter m c s l):False:=by
 obtain⟨j,oj,g,d⟩:=hb;rcases (h.hp.holds j oj g).block d with⟨c,T,f,h1⟩ | ⟨es,ck,h1⟩ | ⟨m,c,s,l,h1⟩
 all_goals grind
def Sat.loop_not_own {l:Nat}{lo:Loop}(h:Sat C st a w rho)(hl:w.heap[l]? = some (.loop lo)):¬Ai2 st.Qg rho a.defers l:=by
 rintro (hb|hb)
 .exact h.own_not hb hl (by grind) (by grind) (by grind)
 obtain⟨r,h1,_,b,_⟩:=h.marks.2 _ hb
 grind
def Rel.poke {O:Nat->Prop}{V:Nat->Nat->Prop}(h:Rel C w O V){l:Nat}{lo:Loop}(hl:w.heap[l]? = some (.loop lo))(c:O l)(o' : Go.Obj):Rel C (w.putObj l o') O V:=by
 have a:∀b,b≠l->(w.putObj l o').heap[b]? = w.heap[b]?:=λb hb=>BY1 hb;refine⟨h.ext.trans ⟨rfl,rfl⟩,by rw[BW6];exact h.size,?_,?_,h.own,h.out,λb hb=>by rw[BW6];exact h.lt b hb,λb off d=>by rw[BW6];exact h.bnd b off d,h.vo⟩
 .intro b hb f;rw[a b (λe=>by subst e;rcases h.own b c with h1|h1;all_goals grind)];exact h.same b hb f
 intro b o v hp hc;obtain⟨h1,g⟩:=h.keep b o v hp hc;refine⟨?_,g⟩;rw[<- h1];refine BW4 (a b ?_);rintro rfl
 grind[World.cell?]
def Ctx.fresh (C:Ctx)(w:World)(E:Nat->Prop)(Pi:Nat->Nat->Prop):Ctx:={ C with w0:=w,E0:=E,Pi0:=Pi }
def Sat.pokeFresh (h:Sat C st a w rho){l:Nat}{lo:Loop}(hl:w.heap[l]? = some (.loop lo))(o' : Go.Obj) :Sat (C.fresh (w.putObj l o') (Ai2 st.Qg rho a.defers) (Prv C.X (A2 st.Qg) rho)) st a (w.putObj l o') rho:=by
 have c:∀b,b≠l->(w.putObj l o').heap[b]? = w.heap[b]?:=λb hb=>BY1 hb;have hk:∀Pi,S0 w Pi (w.putObj l o') Pi:=λPi b o v hp hc=>⟨by
  rw[<- hc];refine BW4 (c b ?_);rintro rfl
  grind[World.cell?],hp⟩
 have f:∀b,Ai2 st.Qg rho a.defers b->b≠l:=by rintro b hb rfl;exact h.loop_not_own hl hb
 refine⟨⟨⟨?_,h.hp.sep,h.hp.out,λb off i=>by rw[BW6];exact h.hp.bound b off i⟩,Ext.refl _,BT8 _,λb _ _=>rfl,S0.refl _ _,λb hb=>.inl (.inl hb),h.yld⟩,λt=>(h.env t).keeps (hk _) (by grind),h.pin,h.marks.1,?_⟩
 .intro j o g;exact (h.hp.holds j o g).keeps (hk _) (by grind) λb hb=>c b (f b (.inl ⟨j,o,g,hb⟩))
 intro d m;obtain⟨r,h1,q,s,n⟩:=h.marks.2 d m;have hm:Ak4 a.defers r:=by grind[Ak4]
 exact⟨r,h1,.inl (.inr hm),by grind,n⟩
def Ri (ts:List Nat)(tmps:Array Value):Array Value:=(ts.map λt=>tmps.getD t undef).toArray
def AG3 (ts:List Nat)(tmps:Array Value):(Ri ts tmps).size=ts.length:=by simp[Ri]
def Zb {ts:List Nat}{tmps:Array Value}{i t:Nat}(h:ts[i]? = some t):(Ri ts tmps).getD i undef=tmps.getD t undef:=by simp[Ri,BT3,h]
def BK2 {r1 r0:Nat->Value}{wS:World}{TS:Nat->Nat->Prop}{OS:Nat->Prop}{V:Nat->Nat->Prop}(x:∀b o,V b o->OS b){C2:Ctx}{V0:Nat->Nat->Prop}(hL:LiftG 𝒢 r1 r0 wS TS OS V C C2 V0)(h:Sat C st a w rho)
 {gh:Nat}{cs:List AV}{ts:List Nat}(y:A2 st.Qg gh=some (.ghost cs)) (l:cs.length=ts.length) (a9:A2 (del gh st.Qg) gh=none) (z:gh<1000) (a0:ts.Nodup) {a' : Act}
 (a1:r0 gh=.tuple (Ri ts a'.tmps)) (m : ∀j,j≠gh->r0 j=r1 j) (n:a'.defers.Nodup/\∀d∈a'.defers,∃r,d={ target:=.collected r,args:=#[] }/\wS.heap[r]? = some (.deferred (some []))) (q:∀b,Ak4 a'.defers b->OS b) (hmV:∀b off,Ak4 a'.defers b->¬V b off) :
 Sat (C2.plus V) ⟨AC ts cs,del gh st.Qg⟩ a' w rho:=by
 obtain⟨j1,j2,j3,j4,j5,_⟩:=hL.joint x h.rel;have a2:rho gh=.tuple (Ri ts a'.tmps):=by rw[h.pin gh z (by grind[Lv]),hL.rho,a1]
 have c:∀i oi,A2 (del gh st.Qg) i=some oi->i≠gh/\A2 st.Qg i=some oi:=by
  intro i oi f;have e:i≠gh:=by grind
  grind[Qx]
 have s:∀b,Own (A2 (del gh st.Qg)) rho b->Own (A2 st.Qg) rho b:=by rintro b ⟨i,oi,f,hb⟩;exact⟨i,oi,(c i oi f).2,hb⟩
 have a3:∀b off,Prv (C2.plus V).X (A2 (del gh st.Qg)) rho b off->Prv C.X (A2 st.Qg) rho b off:=by
  rintro b off (g|⟨i,oi,f,hb,hp⟩)
  .exact .inl (by rw[hL.X];exact g)
  exact .inr (by grind)
 have hk:S0 w (Prv C.X (A2 st.Qg) rho) w (Prv (C2.plus V).X (A2 (del gh st.Qg)) rho):=S0.of_imp a3;have hl:∀j,Lv (A2 st.Qg) j->(∀vs,rho j ≠ .tuple vs)->Lv (A2 (del gh st.Qg)) j:=by
  intro j hj u;have e:j≠gh:=by grind
  grind[Lv,Qx]
 refine⟨⟨⟨?_,?_,?_,?_⟩,j1.ext,j1.size,j1.same,j1.keep.trans (S0.of_imp ?_),λb hb=>j1.own b (.inr (.inl (s b hb))),?_⟩,?_,?_,n.1,?_⟩
 .intro i oi f;exact (h.hp.holds i oi (c i oi f).2).drop hk hl λb _=>rfl
 .intro i i' oi oj b f a4 hb a5;exact h.hp.sep i i' oi oj b (c i oi f).2 (c i' oj a4).2 hb a5
 .intro i oi b off f hb g;exact h.hp.out i oi b off (c i oi f).2 hb (by rw[hL.X];exact g)
 .intro b off g;exact h.hp.bound b off (by rw[hL.X];exact g)
 .rintro b off ((g|g)|⟨i,oi,f,hb,hp⟩)
  .grind
  .grind
  exact .inr (.inr ⟨i,oi,(c i oi f).2,hb,hp⟩)
 .intro i r b f
  have:=h.yld i r b (c i _ f).2
  rw[hL.Y,hL.yv]at this;exact this
 .intro t;show Ud w _ _ rho (a'.tmps.getD t undef) (get (AC ts cs) t);obtain⟨h1,h2⟩:=Rg ts cs t l.symm a0;by_cases hm:t∈ts
  .obtain⟨i,f⟩:=BZ5.1 hm;rw[h1 i f,<- Zb (tmps:=a'.tmps) f];obtain⟨vs,hv,hs,v⟩:=h.hp.holds gh _ y;rw[a2]at hv;cases hv;have a6:i<cs.length:=by rw[l];grind
   exact (v i a6).drop hk hl
  rw[h2 hm];exact .top _
 .intro i f a7;obtain⟨oi,a8⟩:=BU6.1 a7;obtain⟨u,hr⟩:=c i oi a8;rw[h.pin i f (by grind[Lv]),hL.rho,m i u];show r1 i=C2.rho0 i;rw[hL.r2]
 intro d hd;obtain⟨r,h1,h2⟩:=n.2 d hd;have hm:Ak4 a'.defers r:=by grind[Ak4]
 refine⟨r,h1,j1.own r (.inl (q r hm)),by grind,?_⟩;rintro off (g|g)
 .exact j1.out r off (.inl (q r hm)) g
 grind
end
structure RP (P:Program) where
 pr:Prot P
 n:Nat
 Q:M0
 act:Act
 l:Nat
 fn:FuncId
 D:Nat
 rA:Nat->Value
 r0:Nat->Value
 ts:List Nat
 gh:Nat
 I:List (List PV)->St->Prop
 ps:Array Tmp
 asg:Code
 body:Code
def RP.lo {P:Program}(R:RP P)(st:LoopState)(pe:Option Code):Loop:={ state:=st,pending:=pe,fn:=R.fn,tmps:=R.act.tmps,params:=R.ps,assign:=R.asg,body:=R.body,defers:=R.D }
def Bs8:QL->Code->Prop
 |.ret,c=>c=.ret
 |.exit id,c=>c=.exit id
 |.goto t,c=>c=.goto t
 |_,_=>False
def RP.stOk {P:Program}(R:RP P)(s:St)(rest:List (List PV))(live:Bool)(lo:Loop):Prop:= (live=true/\lo=R.lo .ready none/\R.I rest s/\∀ys∈rest,ys.length=R.ps.size) \/ (live=false/\rest=[]/\∃c e,lo=R.lo .done (some c)/\Bs8 e c/\R.Q e s)
structure InG {P:Program}(R:RP P) (C C2:Ctx) (s:St) (rhoA:Nat->Value) (XI:Nat->Nat->Prop) (rest:List (List PV)) (live:Bool) (lo:Loop):Prop where
 g:R.pr.G C2
 r2:C2.rho0=R.rA
 sat:Sat (C2.plus XI) s R.act C.w0 rhoA
 X:C.X=λb o=>C2.X b o \/ PvR s.Qg rhoA b o
 pi:C.Pi0=λb o=>C.X b o \/ XI b o
 dis:∀b,C.E0 b->¬Ai2 s.Qg rhoA R.act.defers b
 oc:∀b,C.E0 b->C2.E0 b \/ C2.w0.heap.size<=b
 lt:∀b,C.E0 b->b<C.w0.heap.size
 rl:C.w0.heap[R.l]? = some (.loop lo)
 lown:C2.E0 R.l \/ C2.w0.heap.size<=R.l
 lX:∀off,¬C2.X R.l off
 lE:¬C.E0 R.l
 Y:C.Y=λr b=>r=rest/\b=live
 yv:C.yv=.func (.yield R.l) #[] #[]
 rho:C.rho0=R.r0
 keys:s.env.map (·.1)=R.ts
 ng:A2 s.Qg R.gh=none
 st:R.stOk s rest live lo
section
variable {P:Program}{R:RP P}{C C2 C3 C2' : Ctx}{s s4:St}{rhoA rho4:Nat->Value}{XI V V0 TS:Nat->Nat->Prop}{rest:List (List PV)}{live:Bool}{lo:Loop}{w w2 w3:World}{O:Nat->Prop}{a3:Act}
def RP.OS (R:RP P)(O:Nat->Prop)(b:Nat):Prop:=O b \/ b=R.l \/ Ak4 R.act.defers b
def RP.rR (R:RP P)(j:Nat):Value:=if j=R.gh then .tuple (Ri R.ts R.act.tmps)else R.rA j
def InG.disO (h:InG R C C2 s rhoA XI rest live lo)(hR:Rel C w O V):(∀b,O b->¬Ai2 s.Qg rhoA R.act.defers b)/\¬O R.l:=by
 refine⟨λb hb a=>?_,λhl=>?_⟩
 .rcases hR.own b hb with h1|h1
  .exact h.dis b h1 a
  have:=h.sat.rel.lt b a;omega
 rcases hR.own R.l hl with h1|h1
 .exact h.lE h1
 have:=(BV3.1 h.rl).1;omega
def Bs9 (h:InG R C C2 s rhoA XI rest live lo)(hR:Rel C w O V){lob:Loop}(a2:R.gh<1000)(a4:R.ts.Nodup)
 (hL:LiftG R.pr R.rA R.rR w2 TS (R.OS O) V C3 C2' V0) (hs:Sat C3 s4 a3 w3 rho4) {cs:List AV}(a5:A2 s4.Qg R.gh=some (.ghost cs)) (q:cs.length=R.ts.length) (c:A2 (del R.gh s4.Qg) R.gh=none)
 (a6:S0 w (λb o=>C.X b o \/ V b o) w2 TS) (t:∀b,R.OS O b->b≠R.l->w2.heap[b]? = w.heap[b]?) (a7:w.heap.size<=w2.heap.size) (a8:Ext w w2) (a9:w2.heap[R.l]? = some (.loop lob))
 {rest1:List (List PV)}{live1:Bool}{lo1:Loop}(b0:R.stOk ⟨AC R.ts cs,del R.gh s4.Qg⟩ rest1 live1 lo1) :
 ∃C',InG R C' C2' ⟨AC R.ts cs,del R.gh s4.Qg⟩ rho4 V rest1 live1 lo1/\C'.yv=C.yv/\C'.rho0=C.rho0/\C'.Y rest1 live1/\C'.w0=w3.putObj R.l (.loop lo1)/\C'.E0=O/\(C'.Pi0=λb o=>C'.X b o \/ V b o)/\Rel C' (w3.putObj R.l (.loop lo1)) O V /\
  (∀b,O b->(w3.putObj R.l (.loop lo1)).heap[b]? = w.heap[b]?)/\S0 w (λb o=>C.X b o \/ V b o) (w3.putObj R.l (.loop lo1)) (λb o=>C'.X b o \/ V b o)/\w.heap.size<=(w3.putObj R.l (.loop lo1)).heap.size/\w3.heap[R.l]? = some (.loop lob)/\Ext w (w3.putObj R.l (.loop lo1)):=by
 obtain⟨b1,u⟩:=h.disO hR;have v:∀b o,V b o->R.OS O b:=λb o hv=>.inl (hR.vo b o hv);obtain⟨j1,j2,j3,j4,j5,j6⟩:=hL.joint v hs.rel;have x:∀b,O b->¬Ak4 R.act.defers b:=λb hb hm=>b1 b hb (.inr hm);have hml:∀b,Ak4 R.act.defers b->b≠R.l:=by rintro b hm rfl;exact h.sat.loop_not_own h.rl (.inr hm)
 have f:∀d∈R.act.defers,∃r,d={ target:=.collected r,args:=#[] }/\w2.heap[r]? = some (.deferred (some [])):=by
  intro d hd;obtain⟨r,h1,_,h3,_⟩:=h.sat.marks.2 d hd;have hm:Ak4 R.act.defers r:=by unfold Ak4;rw[<- h1];exact hd
  refine⟨r,h1,?_⟩;rw[t r (.inr (.inr hm)) (hml r hm),hR.same r (BV3.1 h3).1 (λhe=>h.dis r he (.inr hm))];exact h3
 have hres:=BK2 v hL hs a5 q c a2 a4 (a':=R.act) (by simp[RP.rR]) (λj hj=>by simp[RP.rR,hj]) ⟨h.sat.marks.1,f⟩ (λb hm=>.inr (.inr hm)) (λb off hm hv=>x b (hR.vo b off hv) hm);have n:w3.heap[R.l]? = some (.loop lob):=(j2 R.l (.inr (.inl rfl))).trans a9;obtain⟨p1,p2⟩:=hres.poke n (.loop lo1) (j1.own R.l (.inl (.inr (.inl rfl))));have a:∀b,Own (A2 (del R.gh s4.Qg)) rho4 b->Ai2 s4.Qg rho4 a3.defers b:=by
  rintro b ⟨i,oi,m,hb⟩;have e:i≠R.gh:=by rintro rfl;rw[c]at m;cases m
  exact .inl ⟨i,oi,by rw[<- Qx e];exact m,hb⟩
 have y:∀b off,PvR (del R.gh s4.Qg) rho4 b off->PvR s4.Qg rho4 b off:=by
  rintro b off ⟨i,oi,m,hb,hp⟩;have e:i≠R.gh:=by rintro rfl;rw[c]at m;cases m
  exact⟨i,oi,by rw[<- Qx e];exact m,hb,hp⟩
 have z:∀b off,PvR (del R.gh s4.Qg) rho4 b off->Own (A2 (del R.gh s4.Qg)) rho4 b:=λb off ⟨i,oi,m,hb,_⟩=>⟨i,oi,m,hb⟩;have a0:R.l<w3.heap.size:=(BV3.1 n).1;refine⟨{ X:=λb o=>C2'.X b o \/ PvR (del R.gh s4.Qg) rho4 b o,w0:=w3.putObj R.l (.loop lo1),E0:=O,Pi0:=λb o=>(C2'.X b o \/ PvR (del R.gh s4.Qg) rho4 b o) \/ V b o,rho0:=C.rho0,Y:=λr b=>r=rest1/\b=live1,yv:=C.yv },
  ⟨hL.g,hL.r2,p1,rfl,rfl,?_,λb hb=>j1.own b (.inl (.inl hb)),λb hb=>by rw[BW6];exact j1.lt b (.inl (.inl hb)),Ci9 a0,j1.own R.l (.inl (.inr (.inl rfl))),λoff=>j1.out R.l off (.inl (.inr (.inl rfl))),u,rfl,h.yv,h.rho,UX _ _ q.symm,c,b0⟩,
  rfl,rfl,⟨rfl,rfl⟩,rfl,rfl,rfl,⟨Ext.refl _,BT8 _,λ_ _ _=>rfl,S0.refl _ _,λb hb=>.inl hb,?_,λb hb=>by rw[BW6];exact j1.lt b (.inl (.inl hb)),?_,hR.vo⟩,?_,?_,?_,n,(a8.trans j6).trans ⟨rfl,rfl⟩⟩
 .rintro b hb (hF|hF)
  .exact j4 b (.inl hb) (a b hF)
  exact x b hb hF
 .rintro b off hb (hx|hx)
  .exact j1.out b off (.inl (.inl hb)) hx
  exact j4 b (.inl hb) (a b (z b off hx))
 .rintro b off (hx|hx)
  .rw[BW6];exact j1.bnd b off hx
  rw[BW6];exact hs.rel.lt b (a b (z b off hx))
 .intro b hb;have a1:b≠R.l:=by rintro rfl;exact u hb
  rw[BY1 a1,j2 b (.inl hb),t b (.inl hb) a1]
 .refine a6.trans (j3.trans ((S0.of_imp ?_).trans (p2 _)));rintro b off ((hx|hx)|hx)
  .exact .inl (by rw[hL.X];exact .inl hx)
  .exact .inr (y b off hx)
  exact .inl (by rw[hL.X];exact .inr hx)
 rw[BW6];exact BX7 a7 j5
end
section
variable {P:Program}{R:RP P}{C C2:Ctx}{s:St}{rhoA:Nat->Value}{XI V:Nat->Nat->Prop}{w:World}{O:Nat->Prop}
def By7 (ps:Array Tmp)(vs:Array Value)(tmps:Array Value):(ps.zip vs).foldl (λtmps (x:Tmp×Value)=>match x with|(t,a)=>tmps.setIfInBounds t a) tmps=(ps.toList.zip vs.toList).foldl (λtmps (q:Nat×Value)=>tmps.setIfInBounds q.1 q.2) tmps:=by rw[<- Ck1,Array.toList_zip]
def Ay6:∀(l:List (Nat×Value)) (tmps:Array Value),(l.foldl (λtmps (q:Nat×Value)=>tmps.setIfInBounds q.1 q.2) tmps).size=tmps.size
 |[],tmps=>rfl
 |q::l,tmps=>by simp;rw[Ay6 l];simp
def GK (R:RP P)(C2:Ctx)(s:St)(rhoA:Nat->Value)(V:Nat->Nat->Prop)(w:World):Ctx:= { X:=λb o=>C2.X b o \/ V b o,w0:=w,E0:=Own (A2 s.Qg) rhoA,Pi0:=λb o=>(C2.X b o \/ V b o) \/ PvR s.Qg rhoA b o,rho0:=R.rR,Y:=C2.Y,yv:=C2.yv }
def AG4 {rest:List (List PV)}{live:Bool}{lo:Loop}(h:InG R C C2 s rhoA XI rest live lo)(hR:Rel C w O V)(m1:Sat (C2.plus V) s R.act w rhoA) :LiftG R.pr R.rA R.rR w (GK R C2 s rhoA V w).Pi0 (R.OS O) V (GK R C2 s rhoA V w) C2 (PvR s.Qg rhoA):=by
 obtain⟨f,l⟩:=h.disO hR;have a:=m1.rel;refine⟨h.g,h.r2,rfl,rfl,rfl,rfl,rfl,⟨a.ext,a.size,a.same,a.keep.trans (S0.of_imp ?_),?_,?_,?_,λb off d=>a.bnd b off (.inl d),?_⟩,λb _=>rfl,S0.refl _ _,?_,BT8 _,Ext.refl _⟩
 .intro b o hp;exact or4.2 hp
 .rintro b ((hb|rfl|hb)|hb)
  .rcases hR.own b hb with h1|h1
   .exact h.oc b h1
   exact .inr (BX7 h.sat.size h1)
  .exact h.lown
  .exact a.own b (.inr hb)
  exact a.own b (.inl hb)
 .rintro b off ((hb|rfl|hb)|hb) d
  .exact hR.out b off hb (by rw[h.X];grind)
  .exact h.lX off d
  .exact a.out b off (.inr hb) (.inl d)
  exact a.out b off (.inl hb) (.inl d)
 .rintro b ((hb|rfl|hb)|hb)
  .exact hR.lt b hb
  .exact BU8 (BV3.1 h.rl).1 hR.size
  .exact a.lt b (.inr hb)
  exact a.lt b (.inl hb)
 .rintro b o (hb|hb)
  .exact .inl (.inl (hR.vo b o hb))
  obtain⟨j,oj,m,i,_⟩:=hb;exact .inr ⟨j,oj,m,i⟩
 rintro b (hb|rfl|hb) c
 .exact f b hb (.inl c)
 .exact h.sat.loop_not_own h.rl (.inl c)
 obtain⟨r,h1,_,n,_⟩:=m1.marks.2 _ hb;cases h1;exact m1.own_not c n (by grind) (by grind) (by grind)
def Ak8 (l:R.act.tmps.size=R.n)(x:∀t∈R.ps.toList,t<R.n)(y:R.gh<1000)(z:R.ts.Nodup){rest:List (List PV)}{live:Bool}{lo:Loop}(h:InG R C C2 s rhoA XI rest live lo)(m1:Sat (C2.plus V) s R.act w rhoA)
 {ys:List PV}{vs:Array Value}(m:ys.length=R.ps.size) (a0:vs.size=ys.length) (hv:∀i,i<ys.length->Sb w (Prv (C2.plus V).X (A2 s.Qg) rhoA) (vs.getD i undef) (ys.getD i default)) :
 Sat (GK R C2 s rhoA V w) ⟨MI R.ps.toList ys s.env,ins R.gh (.ghost (s.env.map (·.2))) s.Qg⟩ { tmps:=(R.ps.toList.zip vs.toList).foldl (λtmps (q:Nat×Value)=>tmps.setIfInBounds q.1 q.2) R.act.tmps,defers:=[] } w
  (λi=>if i=R.gh then .tuple (Ri R.ts R.act.tmps)else rhoA i):=by
 have a:(s.env.map (·.1)).Nodup:=by rw[h.keys];omega
 have c:SatE (GK R C2 s rhoA V w) s.Qg w rhoA:=⟨m1.hp,Ext.refl _,BT8 _,λ_ _ _=>rfl,S0.refl _ _,λb hb=>.inl hb,m1.yld⟩;obtain⟨g1,g2,g3⟩:=c.add (R':=ins R.gh (.ghost (s.env.map (·.2))) s.Qg) h.ng (o:=.ghost (s.env.map (·.2))) (v:=.tuple (Ri R.ts R.act.tmps)) (λu b h=>by cases h)
  (λi=>by rw[A4];by_cases e:i=R.gh<;>simp[e,eq_comm])
  (λhk hl=>⟨_,rfl,by rw[AG3,<- h.keys];simp,λi r=>by
   have d : i<(s.env.map (·.1)).length:=by grind
   obtain⟨t,ht⟩:∃t,(s.env.map (·.1))[i]? = some t:=⟨_,BT4 d⟩;have f : R.ts[i]? = some t:=by rw[<- h.keys];omega
   rw[Zb f, <- (Ay5 s.env t a).1 i ht];exact (m1.env t).keeps hk hl⟩)
  (by grind)
 have hk:S0 w (Prv (C2.plus V).X (A2 s.Qg) rhoA) w (Prv (GK R C2 s rhoA V w).X (A2 (ins R.gh (.ghost (s.env.map (·.2))) s.Qg)) (λi=>if i=R.gh then .tuple (Ri R.ts R.act.tmps)else rhoA i)):=
  S0.of_imp λb o hp=>(g2 b o).1 hp
 refine⟨g1,?_,?_,Cc1,by grind⟩
 .refine Rh R.ps.toList ys vs.toList s.env R.act.tmps (by grind) (by grind) (by grind) (λt=>(m1.env t).keeps hk g3) (λi r=>?_)
  have:=(hv i r).keeps hk
  simp_all
 intro j hj hl;show (if j=R.gh then Value.tuple (Ri R.ts R.act.tmps)else rhoA j)=R.rR j;unfold RP.rR;by_cases e:j=R.gh
 .grind
 simp only[e,Ih];have g : Lv (A2 s.Qg) j:=by
  simp_all[Lv,A4,Gb,Cb0]
 rw[m1.pin j hj g];show C2.rho0 j=R.rA j;rw[h.r2]
def Ak9 (u:R.act.tmps.size=R.n)(hps:∀t∈R.ps.toList,t<R.n)(y:R.gh<1000)(a0:R.ts.Nodup)(casg:KR P R.n R.asg)(cbody:KR P R.n R.body)
 (r:∀ys rest s,s.env.map (·.1)=R.ts->A2 s.Qg R.gh=none->R.I (ys::rest) s->awp (HP P) P R.asg (λe s'=>match e with | .normal=>semUp s' λs'=>awp (HP P) P R.body (Ha (HP P) R.gh R.ts (R.I rest) R.Q) s' | _=>False) ⟨MI R.ps.toList ys s.env,ins R.gh (.ghost (s.env.map (·.2))) s.Qg⟩)
 {ys:List PV}{rest:List (List PV)}{lo:Loop}{vs:Array Value}(h:InG R C C2 s rhoA XI (ys::rest) true lo) (hR:Rel C w O V) (hvs:vs.size=ys.length) (hv:∀i,i<ys.length->Sb w (λb o=>C.X b o \/ V b o) (vs.getD i undef) (ys.getD i default)) :
 BJ9 P C.yv vs w λb w'=>∃C',(∃C2 s rhoA XI rest live lo,InG R C' C2 s rhoA XI rest live lo)/\C'.yv=C.yv/\C'.rho0=C.rho0/\C'.Y (if b then rest else []) b/\C'.w0=w' /\ C'.E0=O/\(C'.Pi0=λb o=>C'.X b o \/ V b o)/\Rel C' w' O V /\
  (∀b,O b->w'.heap[b]? = w.heap[b]?)/\S0 w (λb o=>C.X b o \/ V b o) w' (λb o=>C'.X b o \/ V b o)/\w.heap.size<=w'.heap.size/\Ext w w':=by
 obtain⟨hlo,hI,m⟩:lo=R.lo .ready none/\R.I (ys::rest) s/\∀z∈ys::rest,z.length=R.ps.size:=by
  rcases h.st with⟨_,hlo,hI,m⟩ | ⟨hf,_⟩
  all_goals grind
 subst hlo;have hlen:ys.length=R.ps.size:=m ys (by simp);obtain⟨m1,m2,m3⟩:=h.sat.moves rfl h.X h.pi hR h.dis h.oc;have hllt:R.l<C.w0.heap.size:=(BV3.1 h.rl).1;have hl:w.heap[R.l]? = some (.loop (R.lo .ready none)):=(m3 R.l hllt h.lE).trans h.rl;have hT:∀b o,Prv (C2.plus V).X (A2 s.Qg) rhoA b o↔(C.X b o \/ V b o):=by
  intro b o;rw[h.X];show ((C2.X b o \/ V b o) \/ PvR s.Qg rhoA b o)↔((C2.X b o \/ PvR s.Qg rhoA b o) \/ V b o)
  grind
 have f:∀b o,V b o->R.OS O b:=λb o hv=>.inl (hR.vo b o hv);refine⟨R.l,R.fn,_,R.asg,R.body,h.yv,run_yield hl (by grind[RP.lo]),?_⟩;refine roundIn_of_wpIn trivial ?_;show R.asg.wpIn (FW (some R.l)) 0 P _ { tmps:=(R.ps.zip vs).foldl (λtmps (x:Tmp×Value)=>match x with|(t,a)=>tmps.setIfInBounds t a) R.act.tmps,defers:=[] } w;rw[By7];have hs0:=Ak8 u hps y a0 h m1 hlen hvs (λi hi=>(hv i hi).keeps (S0.of_imp (by grind)));have hL0:=AG4 h hR m1;have hro1:BH0 (R.pr.lift R.rA R.rR w (GK R C2 s rhoA V w).Pi0 (R.OS O) V f) (some R.l):=by rintro l' a2 C' ⟨C2',V0,hL⟩;cases a2;exact⟨_,(hL.os R.l (.inr (.inl rfl))).trans hl,hL.dis R.l (.inr (.inl rfl))⟩
 refine wpIn_mono (casg (R.pr.lift R.rA R.rR w (GK R C2 s rhoA V w).Pi0 (R.OS O) V f) (some R.l) hro1 _ _ _ _ w _ ⟨C2,_,hL0⟩ hs0 ((Ay6 _ _).trans u) (r ys rest s h.keys h.ng hI)) ?_;intro e a1 w1 j;cases e with
 |exit id=>obtain⟨_,_,_,_,_,_,hf⟩:=j;grind
 |goto t=>obtain⟨_,_,_,_,_,_,hf⟩:=j;grind
 |ret=>obtain⟨_,_,_,_,_,_,hf⟩:=j;grind
 |panic ch=>obtain⟨_,_,_,_,_,_,_,_,_,_,hf⟩:=j;grind
 |outgrown=>exact j.elim
 |normal=>
  obtain⟨C1,s1',rho1',⟨C2',V1,d⟩,hs1',hsz1,hu⟩:=j;obtain⟨s1,rho1,hw1,_,hs1⟩:=hu C1 a1 w1 rho1' hs1';obtain⟨j1,j2,j3,j4,j5,j6⟩:=d.joint f hs1.rel;have a4:w1.heap[R.l]? = some (.loop (R.lo .ready none)):=(j2 R.l (.inr (.inl rfl))).trans hl;refine⟨w1.putObj R.l (.loop (R.lo .busy none)),run_beginRound a4 rfl,?_⟩;have hsB:=hs1.pokeFresh a4 (.loop (R.lo .busy none));have a5:(w1.putObj R.l (.loop (R.lo .busy none))).heap[R.l]? = some (.loop (R.lo .busy none)):=Ci9 (by grind);have hLB:LiftG R.pr R.rA R.rR (w1.putObj R.l (.loop (R.lo .busy none))) (Prv C1.X (A2 s1.Qg) rho1) (R.OS O) V (C1.fresh (w1.putObj R.l (.loop (R.lo .busy none))) (Ai2 s1.Qg rho1 a1.defers) (Prv C1.X (A2 s1.Qg) rho1)) C2' (PvR s1.Qg rho1):=
   ⟨d.g,d.r2,d.X,d.Y,d.yv,d.rho,rfl,j1.poke a4 (.inl (.inr (.inl rfl))) _,λb _=>rfl,S0.refl _ _,j4,BT8 _,Ext.refl _⟩
  have hro2:BH0 (R.pr.lift R.rA R.rR (w1.putObj R.l (.loop (R.lo .busy none))) (Prv C1.X (A2 s1.Qg) rho1) (R.OS O) V f) (some R.l):=by rintro l' a2 C' ⟨C2',V0,hL⟩;cases a2;exact⟨_,(hL.os R.l (.inr (.inl rfl))).trans a5,hL.dis R.l (.inr (.inl rfl))⟩
  have hk2:S0 w (λb o=>C.X b o \/ V b o) (w1.putObj R.l (.loop (R.lo .busy none))) (Prv C1.X (A2 s1.Qg) rho1):=by
   refine (S0.of_imp λb o hp=>(hT b o).1 hp:S0 w _ w (GK R C2 s rhoA V w).Pi0).trans (j3.trans λb o v hp hc=>⟨?_,hp⟩);rw[<- hc];refine BW4 (BY1 ?_);rintro rfl
   grind[World.cell?]
  have hb2:∀b,R.OS O b->b≠R.l->(w1.putObj R.l (.loop (R.lo .busy none))).heap[b]? = w.heap[b]?:=λb hb hne=>(BY1 hne).trans (j2 b hb);have hs2:w.heap.size<=(w1.putObj R.l (.loop (R.lo .busy none))).heap.size:=by rw[BW6];omega
  have hx2:Ext w (w1.putObj R.l (.loop (R.lo .busy none))):=j6.trans ⟨rfl,rfl⟩;show R.body.wpIn (FW (some R.l)) 0 P _ a1 _;refine wpIn_mono (cbody (R.pr.lift R.rA R.rR (w1.putObj R.l (.loop (R.lo .busy none))) (Prv C1.X (A2 s1.Qg) rho1) (R.OS O) V f) (some R.l) hro2 _ _ _ _ _ _ ⟨C2',_,hLB⟩ hsB hsz1 hw1) ?_;have fin:∀(e:QL) (c:Code) (a3:Act) (w3:World),Bs8 e c->NextOk (R.pr.lift R.rA R.rR (w1.putObj R.l (.loop (R.lo .busy none))) (Prv C1.X (A2 s1.Qg) rho1) (R.OS O) V f) R.n (λs=>semUp s λs=>∃cs,A2 s.Qg R.gh=some (.ghost cs)/\cs.length=R.ts.length/\A2 (del R.gh s.Qg) R.gh=none/\R.Q e ⟨AC R.ts cs,del R.gh s.Qg⟩) a3 w3 ->
   ∃v w',(Instr.endRound R.l (some c)).run P w3=.ok v w' /\ ∃b:Bool,Ending.returned v=.returned (.bool b)/\∃C',(∃C2 s rhoA XI rest live lo,InG R C' C2 s rhoA XI rest live lo)/\C'.yv=C.yv/\C'.rho0=C.rho0/\C'.Y (if b then rest else []) b/\C'.w0=w' /\ C'.E0=O/\(C'.Pi0=λb o=>C'.X b o \/ V b o)/\Rel C' w' O V /\
    (∀b,O b->w'.heap[b]? = w.heap[b]?)/\S0 w (λb o=>C.X b o \/ V b o) w' (λb o=>C'.X b o \/ V b o)/\w.heap.size<=w'.heap.size/\Ext w w':=by
   rintro e c a3 w3 hjc ⟨C3,s3,rho3,⟨C2f,V3,a6⟩,a7,hsz3,a8⟩;obtain⟨s4,rho4,⟨cs,a9,b0,q,hQ⟩,_,b1⟩:=a8 C3 a3 w3 rho3 a7;obtain⟨C',f1,f2,f3,f4,f5,f6,f7,f8,f9,f10,f11,f12,f13⟩:=Bs9 h hR y a0 a6 b1 a9 b0 q hk2 hb2 hs2 hx2 a5 (rest1:=[]) (live1:=false) (lo1:=R.lo .done (some c)) (.inr (by grind));exact⟨.bool false,_,run_endRound (some c) f12,false,rfl,C',by grind,f2,f3,f4,f5,f6,f7,f8,f9,f10,f11,f13⟩
  intro e a3 w3 j;cases e with
  |normal=>obtain⟨C3,s3,rho3,⟨C2f,V3,a6⟩,a7,hsz3,a8⟩:=j;obtain⟨s4,rho4,⟨cs,a9,b0,q,hI'⟩,_,b1⟩:=a8 C3 a3 w3 rho3 a7;obtain⟨C',f1,f2,f3,f4,f5,f6,f7,f8,f9,f10,f11,f12,f13⟩:=Bs9 h hR y a0 a6 b1 a9 b0 q hk2 hb2 hs2 hx2 a5 (rest1:=rest) (live1:=true) (lo1:=R.lo .ready none) (.inl (by grind));exact⟨.bool true,_,run_endRound none f12,true,rfl,C',by grind,f2,f3,f4,f5,f6,f7,f8,f9,f10,f11,f13⟩
  |ret=>exact fin .ret .ret a3 w3 rfl j
  |exit id=>exact fin (.exit id) (.exit id) a3 w3 rfl j
  |goto t=>exact fin (.goto t) (.goto t) a3 w3 rfl j
  |panic ch=>obtain⟨_,_,_,_,_,_,_,_,_,_,hf⟩:=j;exact hf.elim
  |outgrown=>exact j.elim
end
end Go.AM
