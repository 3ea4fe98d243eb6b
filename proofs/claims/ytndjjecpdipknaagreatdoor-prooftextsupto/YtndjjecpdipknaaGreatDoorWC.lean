/- Part 3. -/
import Derived.Test.YtndjjecpdipknaaGreatDoorWB
import Derived.Test.YtndjjecpdipknaaGreatDoorWA
import Derived.Laws.IdiomRangeMap
import Derived.RangeFuncRecord
import Derived.Lib.TrailingZeros
import Derived.Lib.ItoaNum
set_option linter.defProp false
set_option linter.unusedSimpArgs false
set_option linter.unusedVariables false
set_option linter.unusedSectionVars false
namespace Go.AM
def By8:=@Option.bind_some
def BA4:=@Bool.or_eq_true
def BA9:=@List.mem_append_right
def BB3:=@List.mem_of_getElem?
def BB4:=@List.mem_cons_of_mem
def BB9:=@List.mem_append_left
def BC1:=@List.mem_cons
def BD1:=@Go.World.putObj_size
def BD7:=@Go.World.putObj_heap_other
def BE5:=@List.nodup_cons
def BF1:=@List.mem_iff_getElem?
def BG8:=@List.nodup_nil
def BJ6:=@List.length_eq_zero_iff
def BL0:=@List.mem_reverse
def BL6:=@List.getElem?_cons_succ
def BM1:=@List.length_eq_one_iff
def BN0:=@List.mem_filter
def BN7:=@Array.getElem_mem_toList
def BN8:=@Go.Oper.uponIn_value
def BO5:=@Nat.le_of_not_lt
def BQ3:=@Array.size_map
def BQ9:=@Array.all_eq_true'
section
variable {P:Program}{C:Ctx}{st:St}{a:Act}{w:World}{rho:Nat->Value}{o:Oper}{d:Nat}{out:Out}
def AO8 (h:Sat C st a w rho){t:TypeId}{x:Operand}(n:o.op=.range t x)(c:aop P st.env st.Qw d o.op=some out):OpOk P C o st a w rho out:=by
 rw[n]at c;simp only[aop]at c;split at c
 .rename_i kt vt j ht hx;split at c
  .rename_i es l hn;cases c;have f:=h.aev x;rw[hx]at f;obtain⟨r,s,u,i⟩:∃r,a.eval x=.map (some r)/\Lv (A1 st.Qw) j/\rho j=.map (some r):=by
    generalize a.eval x=z at f;cases f with
    |Se _ r hl i=>exact⟨r,rfl,hl,i⟩
   have q:=h.hp.holds j _ l;rw[i]at q;obtain⟨b,Sg,clock,hb,h1,v,h3,y,h5⟩:=q;cases hb;have g:j≠nid d 0:=by rintro rfl;rw[l]at hn;cases hn
   have m:clock=es.length:=y.trans v;obtain⟨k1,k2,k3⟩:=h.fresh (Bp d 0) hn (.blk [1,es.length,es.length] j) (.pointer (some ⟨w.heap.size,0,none⟩)) (w':=w.alloc (.mapIter (some r) clock #[] clock)) (by simp)
    (λb hb=>heap_alloc_old w _ hb) (λb hb=>by simp[E5,N1]at hb;omega) (λhk=>by
     refine⟨by simp[Lv,A3,Hj (BC5 g),l],?_,w.heap.size,rfl,?_⟩
     .simp only[Hj g,i];exact⟨λvs e=>(by cases e),λe=>by cases e⟩
     simp only[Hj g,i];rw[heap_alloc_new w _];simp[Bx0,m])
   refine⟨_,_,_,_,?_,.inl rfl,k1,⟨k2,k3⟩,.reg _ 0 w.heap.size (by simp[Lv,A3]) (by simp)⟩;have hu:P.underlying t=some (.map kt vt):=LK ht;simp[execOp,n,s,run_range_map w t kt vt r Sg clock hu h1]
  cases c
 cases c
def ZE (w:World)(ty:TypeId)(b bm since c0:Nat)(seen:Array Nat)(es:Array MapEntry)(clock:Nat)(o:w.heap[b]? = some (.mapIter (some bm) since seen c0))(hb:w.heap[bm]? = some (.map es clock))(c:∀x∈es.toList,x.born<since)(i:since<=c0) :((leftOf es seen).size=0/\(Instr.next (.pointer (some ⟨b,0,none⟩)) false ty).run P w=.ok (.tuple #[.bool false]) w) \/
 ∃e∈(leftOf es seen).toList,∃w1:World,(w1=w \/ w1=w.drew)/\(Instr.next (.pointer (some ⟨b,0,none⟩)) false ty).run P w=.ok (.tuple #[.bool true,e.key,e.val]) { w1 with heap:=w1.heap.setIfInBounds b (.mapIter (some bm) since (seen.push e.born) clock) }:=by
 simp only[Instr.next,getObj,BB2,Sem.run,o,hb,Result.andThen,next_test_false seen es since c0 c i,By9,Ld];unfold leftOf;have a:∀x∈(Array.filter (λe=>!seen.contains e.born) es).toList,x.born<since:=λx hx=>c x (by simp at hx⊢;exact hx.1);generalize Array.filter (λe=>!seen.contains e.born) es=L at a⊢;have e1:L.filter (λx=>decide (x.born<since))=L:=Array.filter_eq_self.2 (λx hx=>by simpa using a x (by simpa using hx));have e2:L.filter (λx=>decide (x.born >= since)) = #[]:=by
  rw[Array.filter_eq_empty_iff];intro x hx
  have:=a x (by simpa using hx)
  simp;omega
 simp only[e1,e2,Array.append_empty];by_cases q:L.size=0
 .left
  have:L = #[]:=Array.eq_empty_of_size_eq_zero q
  subst this;refine⟨rfl,?_⟩;simp[choose,Sem.run,Question.forced]
 right
 have l:L.isEmpty=false:=by simp[Array.isEmpty,q]
 simp only[l,By9,Ld,Array.empty_append,BQ3];have m:∃(j:Nat) (w1:World),j<L.size/\(w1=w \/ w1=w.drew)/\(choose (Question.mapNext L.size)).run P w=.ok j w1:=by
  by_cases r:L.size<=1
  .exact⟨0,w,by omega,.inl rfl,by simp[choose,Sem.run,Question.forced,r]⟩
  exact⟨_,w.drew,BP8 _ (by omega),.inr rfl,by simp only[choose,Sem.run,Question.forced,decide_eq_true_eq,r,Ld,Question.cut];rfl⟩
 obtain⟨j,w1,s,d,f⟩:=m;refine⟨L[j],by simp,w1,d,?_⟩;have n:w1.heap[b]? = some (.mapIter (some bm) since seen c0):=by rcases d with rfl|rfl<;>exact o
 have g:∀o' : Go.Obj,(setObj b o').run P w1=.ok () { w1 with heap:=w1.heap.setIfInBounds b o' }:=λo'=>by simp only[setObj,Sem.run,n]
 simp only[f,Array.getElem?_map,BA8 s,Bz7,BB2,g,Result.andThen];rfl
def Be8 (h:Sat C st a w rho){x:Operand}(ho:o.op=.next x false){j cl last jm:Nat}{seen:List Nat}{es:List (PV×PV)}(hx:aev st.env x=.reg j 0)(hj:A1 st.Qw j=some (.blk (1::cl::last::seen) jm))(hm:A1 st.Qw jm=some (.map es))(hcl:cl=es.length)(r:cl<=last) :((∀i,i<es.length->i∈seen)/\OpOk P C o st a w rho ⟨[],.tup [.p (.bb false)],st.Qw⟩) \/
 ∃i,i<es.length/\i ∉ seen/\OpOk P C o st a w rho ⟨[],.tup [.p (.bb true),.p (es.getD i default).1,.p (es.getD i default).2],ins j (.blk (1::cl::es.length::(i::seen)) jm) st.Qw⟩:=by
 have hne:j≠jm:=by rintro rfl;rw[hj]at hm;cases hm
 obtain⟨hljm,u,b,m,d⟩:=h.hp.holds j _ hj;obtain⟨bm,Sg,clock,a0,a1,hsz,a2,a3,f⟩:=h.hp.holds jm _ hm;have s:=h.aev x;rw[hx]at s;have hv:a.eval x=.pointer (some ⟨b,0,none⟩):=by
  generalize a.eval x=z at s;cases s with
  |reg _ _ b' hl hr=>rw[m]at hr;cases hr;rfl
 rw[a0]at d;have d:w.heap[b]? = some (.mapIter (some bm) cl seen.reverse.toArray last):=d;have a4:∀y∈Sg.toList,y.born<cl:=by
  intro y hy;obtain⟨i,g,rfl⟩:=BE2 hy;have c : i<Sg.size:=by simpa using g
  have hb:(Sg.toList[i]).born=i:=by have:=f i c;simpa[Array.getD,c]using this
  omega
 have l:∀e,e∈(leftOf Sg seen.reverse.toArray).toList ↔ ∃i,i<es.length/\i ∉ seen/\e=Sg.getD i default/\e.born=i:=by
  intro e;simp only[leftOf,Array.toList_filter,BN0,BA7,List.contains_toArray,BC2,decide_eq_false_iff_not,BL0];constructor
  .rintro⟨h1,h2⟩;obtain⟨i,g,rfl⟩:=BE2 h1;have c : i<Sg.size:=by simpa using g
   have hb:=f i c;have e1:Sg.getD i default=Sg.toList[i]:=by simp[Array.getD,c]
   rw[e1]at hb;exact⟨i,by omega,by rw[hb]at h2;exact h2,e1.symm,hb⟩
  rintro⟨i,g,hs,rfl,hb⟩;have c : i<Sg.size:=by omega
  refine⟨?_,by rw[hb];exact hs⟩;simp only[Array.getD,c,dif_pos];exact BN7 c
 rcases ZE (P:=P) w o.type b bm cl last seen.reverse.toArray Sg clock d a1 a4 r with⟨g1,g2⟩ | ⟨e,he,w1,a5,g2⟩
 .refine .inl ⟨λi g=>?_,?_⟩
  .refine BA5 λhs=>?_
   have:=(l (Sg.getD i default)).2 ⟨i,g,hs,rfl,f i (by omega)⟩
   have hl:(leftOf Sg seen.reverse.toArray).toList.length=0:=by simpa using g1
   rw[BJ6.1 hl]at this;cases this
  exact OpOk.pure (v:=.tuple #[.bool false]) h (by simp[execOp,ho,hv,g2]) (.tup _ _ rfl λi g=>match i,g with
   |0,_=>.p _ _ (.bb _)
   |_+1,g=>Ij g (by show ¬_<1;omega))
 obtain⟨i,g,hs,hei,hb⟩:=(l e).1 he;refine .inr ⟨i,g,hs,?_⟩;have hlt:b<w.heap.size:=(Bz0.1 d).1;have t:w1.heap=w.heap:=by rcases a5 with rfl|rfl<;>rfl
 have hbb:bm≠b:=by rintro rfl;rw[a1]at d;cases d
 obtain⟨k1,k2,k3⟩:=h.modify (ob:=.blk (1::cl::es.length::(i::seen)) jm) hj (b:=b) (by simp[E5,N1,m]) (λ_=>trivial) (λb' n=>by simp[E5,N1,m]at n;exact n.symm)
  (w':={ w1 with heap:=w1.heap.setIfInBounds b (.mapIter (some bm) cl (seen.reverse.toArray.push e.born) clock) }) (by simp[t]) (λb' n=>by simp only[t];exact BG7 (BC5 n)) (λhk=>by refine⟨by simp[Lv,A3,Hj hne,hm],⟨u.1,λe=>by cases e⟩,b,m,?_⟩;simp only[t,a0];rw[Array.getElem?_setIfInBounds_self_of_lt hlt];simp[Bx0,hb,a3,hsz]) (hext:=by rcases a5 with rfl|rfl<;>exact⟨rfl,rfl⟩)
 refine⟨_,.tuple #[.bool true,e.key,e.val],_,_,?_,.inl rfl,k1,⟨k2,k3⟩,?_⟩
 .simp[execOp,ho,hv,g2]
 obtain⟨r1,r2⟩:=a2 i g;rw[<- hei]at r1 r2;exact .tup _ _ rfl λq hq=>match q,hq with
  |0,_=>.p _ _ (.bb _)
  |1,_=>.p _ _ (r1.keeps k2)
  |2,_=>.p _ _ (r2.keeps k2)
  |_+3,hq=>Ij hq (by show ¬_<3;omega)
def AO9 (h:Sat C st a w rho){x:Operand}(ho:o.op=.entry x)(f:aop P st.env st.Qw d o.op=some out)(hc:C6 out.cond):OpOk P C o st a w rho out:=by
 rw[ho]at f;simp only[aop]at f;split at f
 .rename_i j hx;split at f
  .rename_i cl last seen' jm hj;split at f
   .rename_i es i seen hm;cases f;obtain⟨rfl,hi⟩:last=es.length/\i<es.length:=by simpa[C6]using hc
    obtain⟨hljm,htup,b,u,g⟩:=h.hp.holds j _ hj;obtain⟨bm,Sg,clock,y,a0,a1,s,t,c⟩:=h.hp.holds jm _ hm;have l:=h.aev x;rw[hx]at l;have hv:a.eval x=.pointer (some ⟨b,0,none⟩):=by
     generalize a.eval x=z at l;cases l with
     |reg _ _ b' hl hr=>rw[u]at hr;cases hr;rfl
    rw[y]at g;have g:w.heap[b]? = some (.mapIter (some bm) cl (i::seen).reverse.toArray es.length):=g;have m : i<Sg.size:=by omega
    have hf:Sg.find? (·.born==i)=some (Sg.getD i default):=by
     rw[<- Array.find?_toList];have hn:(Sg.toList.map (·.born)).Nodup:=by
      have:Sg.toList.map (·.born)=List.range Sg.size:=by
       refine List.ext_getElem (by simp) λq h1 h2=>?_;have r:q<Sg.size:=by simpa using h1
       have:=c q r
       simp only[Array.getD,r,dif_pos]at this;simpa using this
      rw[this];exact List.nodup_range
     have a2:Sg.getD i default∈Sg.toList:=by simp only[Array.getD,m,dif_pos];exact BN7 m
     have:=find_born (Sg.getD i default) Sg.toList hn a2
     rw[c i m]at this;exact this
    obtain⟨r1,r2⟩:=s i hi;refine OpOk.pure (v:=.tuple #[(Sg.getD i default).key,(Sg.getD i default).val]) h ?_ (.tup _ _ rfl λq r=>match q,r with
     |0,_=>.p _ _ r1
     |1,_=>.p _ _ r2
     |_+2,r=>Ij r (by show ¬_<2;omega))
    have n:(i::seen).reverse.toArray.back? = some i:=by simp[List.back?_toArray]
    simp only[execOp,ho,hv,Instr.entry,getObj,BB2,Sem.run,g,a0,Result.andThen,n,t.trans a1,bne_self_eq_false,By9,Ld,hf];rfl
   cases f
  cases f
 cases f
def AB5 (h:Sat C st a w rho)(f:bop P st.Qw d o.op=some out):OpOk P C o st a w rho out:=by
 unfold bop at f;split at f
 .rename_i t s;split at f
  .rename_i e hb u hn g;cases f;obtain⟨i,v,hi,l,hv⟩:=Y9 u;have c:nid d 1≠nid d 0:=by unfold nid;omega
   obtain⟨a1,a2,a3⟩:=h.fresh (j:=nid d 1) (by have:=Bp d 1;exact this) g (.vec e 1 0 (λ_=>[]) false) (.slice none 0 0) (w':=w) (Bz5 _) (λ_ _=>rfl) (λb hb=>by simp[E5,N1]at hb) (λ_=>.inl ⟨rfl,rfl⟩);have m:A1 (ins (nid d 1) (.vec e 1 0 (λ_=>[]) false) st.Qw) (nid d 0)=none:=by rw[A3,Hj c];exact hn
   have n:v.cells = #[.pointer none,.slice none 0 0]:=by
    have hl:v.cells.toList.map MR=[.v (.pointer none),.v (.slice none 0 0)]:=hv.symm
    match hc:v.cells.toList,hl with
    |[],hl=>exact Ij (congrArg List.length hl) (by simp)
    |[x],hl=>exact Ij (congrArg List.length hl) (by simp)
    |x::y::z::r,hl=>exact Ij (congrArg List.length hl) (by simp)
    |[x,y],hl=>simp only[BA3,BE9,BD6,and_true]at hl;have hx:=K5 w (λ_ _=>False) x;have hy:=K5 w (λ_ _=>False) y;rw[hl.1]at hx;rw[hl.2]at hy;rw[<- Array.toList_inj,hc,hx.toV,hy.toV]
   obtain⟨k1,k2,k3⟩:=a1.fresh (Bp d 0) m (.blk [0,t,0] (nid d 1)) (.pointer (some ⟨w.heap.size,0,none⟩)) (w':=w.alloc (.cells v.cells t)) (by simp)
    (λb hb=>heap_alloc_old w _ hb) (λb hb=>by simp[E5,N1]at hb;omega) (λhk=>by
     refine⟨by simp[Lv,A3,Hj (BC5 c)],?_,w.heap.size,rfl,?_⟩
     .simp only[Hj c,Lc];exact⟨λvs e=>(by cases e),λ_=>⟨_,_,_,rfl⟩⟩
     simp only[Hj c,Lc];rw[heap_alloc_new w _,n];rfl)
   have q:=Kp.trans (⟨a2,a3⟩:Kp C st.Qw (ins (nid d 1) (.vec e 1 0 (λ_=>[]) false) st.Qw) w w rho _) ⟨k2,k3⟩;refine⟨_,_,_,_,?_,.inl rfl,k1,q,.reg _ 0 w.heap.size (by simp[Lv,A3]) (by simp)⟩;simp[execOp,s,Instr.alloc,AA0 w hi l,newVar,newRow]
  cases f
 cases f
end
section
variable {P:Program}{C:Ctx}{st:St}{a:Act}{w:World}{rho:Nat->Value}{o:Oper}{out:Out}{d:Nat}
def AB6 (h:Sat C st a w rho)(g:aop P st.env st.Qw d o.op=some out)(hc:C6 out.cond):OpOk P C o st a w rho out:=by
 cases j:o.op with
 |move x=>rw[j]at g;simp only[aop,By4]at g;subst g;exact AA2 h (.inl j) rfl rfl
 |assign x=>rw[j]at g;simp only[aop,By4]at g;subst g;exact AA2 h (.inr j) rfl rfl
 |pick c x y=>exact Be1 h j g
 |alloc t=>exact AN8 h j g
 |box t x=>exact Bo5 h j g
 |build t ps=>exact AO7 h j g
 |buildSlice t n ps=>exact UD h j g hc
 |load t x=>exact Be2 h j g hc
 |store t x y=>exact AN9 h j g hc
 |nilCheck x=>exact Zw h j g
 |binOp op t x y yt=>exact AO5 h j g hc
 |unOp op t x=>exact Be3 h j g
 |convert s t x=>exact Ap3 h j g hc
 |makeInterface t x=>exact OA h j g
 |makeFunc f x y=>
  cases f with
  |func f=>exact Zx h j g
  |_=>rw[j]at g;simp[aop]at g
 |makeMap t r=>
  cases r with
  |none=>exact Ap1 h j g
  |some r=>rw[j]at g;simp[aop]at g
 |makeSlice t l c=>exact WW h j g hc
 |slice t x lo hi mx=>
  cases mx with
  |none=>exact AO3 h j g hc
  |some r=>rw[j]at g;simp[aop]at g
 |fieldAddr t x f=>exact WQ h j g
 |field t x f=>exact AO0 h j g hc
 |indexAddr t x i=>exact WT h j g hc
 |index t x i=>exact AO2 h j g hc
 |lookup t m k ok=>exact AB2 h j g hc
 |mapUpdate t m k x=>exact NI h j g hc
 |insert t m k x=>
  have:=NI (o:={ o with op:=.mapUpdate t m k x }) (d:=d) h rfl (by rw[j]at g;exact g) hc
  simpa[OpOk,execOp,j]using this
 |mapEntry t m k=>exact ZD h j g hc
 |entryStore t m s x=>exact UC h j g hc
 |extract x i=>exact Ap0 h j g
 |range t x=>exact AO8 h j g
 |entry x=>exact AO9 h j g hc
 |call c=>
  obtain⟨callee,args,types⟩:=c;cases callee with
  |builtin b=>
   cases b with
   |len=>exact Bo6 (c:=⟨.builtin .len,args,types⟩) h rfl j g
   |append=>exact AB4 (c:=⟨.builtin .append,args,types⟩) h rfl j g hc
   |clear=>exact AO6 (c:=⟨.builtin .clear,args,types⟩) h rfl j g
   |min=>exact WR (c:=⟨.builtin .min,args,types⟩) h (.inl rfl) j g
   |max=>exact WR (c:=⟨.builtin .max,args,types⟩) h (.inr rfl) j g
   |_=>rw[j]at g;simp[aop]at g
  |_=>rw[j]at g;simp[aop]at g
 |_=>rw[j]at g;simp[aop]at g
end
structure Rel (C:Ctx) (w:World) (O:Nat->Prop) (V:Nat->Nat->Prop):Prop where
 ext:Ext C.w0 w
 size:C.w0.heap.size<=w.heap.size
 same:∀b,b<C.w0.heap.size->¬C.E0 b->w.heap[b]? = C.w0.heap[b]?
 keep:Sc C.w0 C.Pi0 w (λb o=>C.X b o \/ V b o)
 own:∀b,O b->C.E0 b \/ C.w0.heap.size<=b
 out:∀b off,O b->¬C.X b off
 lt:∀b,O b->b<w.heap.size
 bnd:∀b off,C.X b off->b<w.heap.size
 vo:∀b o,V b o->O b
def Be9 (P:Program)(yv:Value)(vs:Array Value)(w:World)(R:Bool->World->Prop):Prop:= ∃l fn tmps assign body,yv=.func (.yield l) #[] #[]/\(Instr.yield l vs).run P w=.ok (.round l fn tmps assign body) w /\ RoundIn Fence.wide 0 P l fn tmps assign body w λe w'=>∃b:Bool,e=.returned (.bool b)/\R b w'
def PA (s:String):List Value:=if s == "math/bits.deBruijn64tab" then Lib.deBruijn64tab.map λn=>.int .u8 (n:Nat)else if s == "internal/strconv.uint64pow10" then Lib.pow10Tab.map λn=>.int .u64 n else []
def TabOk (P:Program)(w:World)(Pi:Nat->Nat->Prop):Prop:=∀(g:Nat) (s:Global) (j:Nat) (v:Value),P.globals[g]? = some s->(PA s.name)[j]? = some v->w.cell? ⟨g,j,none⟩=some v/\¬Pi g j
def TabOk.keeps {P:Program}{w w' : World}{Pi Pi' : Nat->Nat->Prop}(h:TabOk P w Pi)(hk:Sc w Pi w' Pi'):TabOk P w' Pi':=λg s j v hs a=>hk g j v (h g s j v hs a).2 (h g s j v hs a).1
def TabX (P:Program)(w:World)(E:Nat->Prop):Prop:=∀(g:Nat) (s:Global),P.globals[g]? = some s->PA s.name≠[]->(∃t fr,w.heap[g]? = some (.cells (PA s.name).toArray t fr))/\¬E g
def TabE (P:Program)(w:World)(Pi:Nat->Nat->Prop)(E:Nat->Prop):Prop:=TabOk P w Pi/\TabX P w E
def TabE.keeps {P:Program}{w w' : World}{Pi Pi' : Nat->Nat->Prop}{E E' : Nat->Prop}(h:TabE P w Pi E)(hk:Sc w Pi w' Pi')(hs:∀b,b<w.heap.size->¬E b->w'.heap[b]? = w.heap[b]?)(f:∀b,b<w.heap.size->E' b->E b):TabE P w' Pi' E':=
 ⟨h.1.keeps hk,λg s c hn=>by obtain⟨⟨t,fr,h1⟩,d⟩:=h.2 g s c hn;have a:g<w.heap.size:=(Bz0.1 h1).1;exact⟨⟨t,fr,(hs g a d).trans h1⟩,λi=>d (f g a i)⟩⟩
def YArg (w:World)(Pi:Nat->Nat->Prop)(vs:Array Value)(ys:List PV)(H:Nat->Prop):Prop:= ((∀b,¬H b)/\vs.size=ys.length/\∀i,i<ys.length->Sd w Pi (vs.getD i undef) (ys.getD i default)) \/ ∃v e k n f,vs = #[v]/\ys=Ut e k n f/\(∀b,H b↔N1 v (.vec e k n f false)=some b)/\HoldsC w Pi (λ_=>False) (λ_=>undef) v (.vec e k n f false)
def YArg.keeps {w w' : World}{Pi Pi' : Nat->Nat->Prop}{vs:Array Value}{ys:List PV}{H:Nat->Prop}(h:YArg w Pi vs ys H)(hk:Sc w Pi w' Pi')(hb:∀b,H b->w'.heap[b]? = w.heap[b]?):YArg w' Pi' vs ys H:=by
 rcases h with⟨h1,c,a⟩ | ⟨v,e,k,n,f,h1,c,a,g⟩
 .exact .inl ⟨h1,c,λi j=>(a i j).keeps hk⟩
 exact .inr ⟨v,e,k,n,f,h1,c,a,g.vec hk λb d=>hb b ((a b).2 d)⟩
structure Prot (P:Program) where
 G:Ctx->Prop
 tab:∀C,G C->TabE P C.w0 C.Pi0 C.E0
 call:∀(C:Ctx) (w:World) (O:Nat->Prop) (V:Nat->Nat->Prop) (ys:List PV) (rest:List (List PV)) (vs:Array Value) (H:Nat->Prop),G C->Rel C w O V->C.Y (ys::rest) true->(∀b,H b->O b/\∀o,V b o) ->
  YArg w (λb o=>C.X b o \/ V b o) vs ys H ->
  Be9 P C.yv vs w λb w'=>∃C',G C' /\ C'.yv=C.yv/\C'.rho0=C.rho0/\C'.Y (if b then rest else []) b/\C'.w0=w' /\ C'.E0=O/\(C'.Pi0=λb o=>C'.X b o \/ V b o)/\Rel C' w' O V /\
   (∀b,O b->¬H b->w'.heap[b]? = w.heap[b]?)/\Sc w (λb o=>C.X b o \/ V b o) w' (λb o=>C'.X b o \/ V b o)/\w.heap.size<=w'.heap.size/\Ext w w' /\ YArg w' (λb o=>C'.X b o \/ V b o) vs ys H
def Prot.triv (P:Program)(C:Ctx)(a:∀r b,¬C.Y r b)(c:TabE P C.w0 C.Pi0 C.E0):Prot P:=
 ⟨λC'=>C' = C,λC' h=>h ▸ c,λC' w O V ys rest vs H d hR f=>by subst d;exact Ij f (a _ _)⟩
def UE (l:List Deferred)(b:Nat):Prop:=({ target:=.collected b,args:=#[] }:Deferred)∈l
def PvR (R:C5)(rho:Nat->Value)(b off:Nat):Prop:=∃j o,A1 R j=some o/\E5 (rho j) o b/\JY o off
def Wz (R:C5)(rho:Nat->Value)(l:List Deferred)(b:Nat):Prop:=Own (A1 R) rho b \/ UE l b
def CallF (P:Program)(f:FuncId)(vs:Array Value)(w:World)(R:Ending->World->Prop):Prop:=
 ∃nx w1,(callFunc f vs).run P w=.ok nx w1/\match nx with
  |.enter f' as=>CallsIn Fence.wide 0 P f' as w1 R
  |.value v=>R (.returned v) w1
  |.row row as=>RowsIn Fence.wide 0 P row as w1 λv w'=>R (.returned v) w'
  |_=>False
def CallF.mono {P:Program}{f:FuncId}{vs:Array Value}{w:World}{R R' : Ending->World->Prop}(h:CallF P f vs w R)(b:∀e w',R e w' -> R' e w'):CallF P f vs w R':=by
 obtain⟨nx,w1,h1,a⟩:=h;refine⟨nx,w1,h1,?_⟩;cases nx with
 |enter f' as=>exact a.mono b
 |value v=>exact b _ _ a
 |row row as=>exact RowsIn.mono a λv w'=>b _ _
 |_=>exact a
def AM6 (w:World)(Pi:Nat->Nat->Prop)(live:Nat->Prop)(rho:Nat->Value)(e:Ending):ARes->Prop
 |.ret a=>∃v,e=.returned v/\Sq w Pi live rho v a
 |.panic x=>∃v,e=.panicked [{ v,recovered:=false }]/\Sd w Pi v x
def SemF (P:Program)(f:FuncId)(args:List AV)(objs:List Obj)(Q:ARes->List Obj->List Bool->Prop):Prop:= ∀(𝒢 : Prot P) (C:Ctx) (w:World) (vs:Array Value) (rho:Nat->Value),𝒢.G C->Sat C ⟨Ss args,Sa objs⟩ ⟨vs,[]⟩ w rho->vs.size=args.length -> CallF P f vs w λe w'=>∃C' r objs' ks rho', 𝒢.G C' /\ Q r objs' ks/\SatE C' (Sa objs') w' rho' /\ AM6 w' (Prv C'.X (A1 (Sa objs')) rho') (Lv (A1 (Sa objs'))) rho' e r/\∀i:Nat,ks[i]? = some true->i<objs'.length/\rho' i=rho i
def semUp (st:St)(K:St->Prop):Prop:=∀C a w rho,Sat C st a w rho->∃st' rho',K st' /\ (∀b off,Prv C.X (A1 st'.Qw) rho' b off->Prv C.X (A1 st.Qw) rho b off)/\Sat C st' a w rho'
def Gj (P:Program):U8:=⟨SemF P,semUp⟩
section
variable {w w' : World}{Pi Pi' : Nat->Nat->Prop}{live live' : Nat->Prop}{rho rho' : Nat->Value}
def O0:∀{ids:List Nat}{j p:Nat},idx ids j=some p->ids[p]? = some j
 |[],j,p,h=>by simp[idx]at h
 |i::r,j,p,h=>by
  simp only[idx]at h;split at h
  .rename_i e;cases h;simp[e]
  split at h
  .rename_i n hn;cases h;simpa using O0 hn
  cases h
def Df {ids:List Nat}:∀{l l' : List AV},DP ids l=some l' -> l.length=l'.length/\∀i,i<l.length->Ur ids (l.getD i .top)=some (l'.getD i .top)
 |[],l',h=>by simp only[DP,By4]at h;subst h;exact⟨rfl,λi b=>Ij b (by simp)⟩
 |a::r,l',h=>by
  simp only[DP]at h;split at h
  .rename_i a' r' ha c;cases h;obtain⟨h1,d⟩:=Df c;refine⟨by simp[h1],λi b=>?_⟩;cases i with
   |zero=>simpa using ha
   |succ i=>simpa using d i (by simpa using b)
  cases h
def Tk {ids:List Nat}:∀{l:List AV},unL ids l=l.map (unA ids)
 |[]=>rfl
 |a::r=>by simp only[unL,BA3,Tk]
def Sq.ren {ids:List Nat}(hk:Sc w Pi w' Pi')(g:∀p j,ids[p]? = some j->live j->live' p/\rho' p=rho j){v:Value}{a:AV}(h:Sq w Pi live rho v a):∀{a' : AV},Ur ids a=some a' -> Sq w' Pi' live' rho' v a':=by
 induction h with
 |p v x h=>intro a' c;simp only[Ur,By4]at c;subst c;exact .p _ _ (h.nP.keeps hk)
 |reg j off b hl h=>
  intro a' c;simp only[Ur]at c;split at c
  .rename_i p hp;cases c;obtain⟨h1,d⟩:=g p j (O0 hp) hl;exact .reg p off b h1 (d.trans h)
  cases c
 |vec j base n cap hl h=>
  intro a' c;simp only[Ur]at c;split at c
  .rename_i p hp;cases c;obtain⟨h1,d⟩:=g p j (O0 hp) hl;exact .vec p base n cap h1 (d.trans h)
  cases c
 |vecp j m base n cap hl h hm=>
  intro a' c;simp only[Ur]at c;split at c
  .rename_i p hp;cases c;obtain⟨h1,d⟩:=g p j (O0 hp) hl;exact .vecp p m base n cap h1 (d.trans h) hm
  cases c
 |elt j k i off b n cap hl h=>
  intro a' c;simp only[Ur]at c;split at c
  .rename_i p hp;cases c;obtain⟨h1,d⟩:=g p j (O0 hp) hl;exact .elt p k i off b n cap h1 (d.trans h)
  cases c
 |Se j r hl h=>
  intro a' c;simp only[Ur]at c;split at c
  .rename_i p hp;cases c;obtain⟨h1,d⟩:=g p j (O0 hp) hl;exact .Se p r h1 (d.trans h)
  cases c
 |clo f x y a b hx hy ha hb iha ihb=>
  intro a' c;simp only[Ur]at c;split at c
  .rename_i a2 b2 h1 d;cases c;obtain⟨l1,g1⟩:=Df h1;obtain⟨l2,g2⟩:=Df d;exact .clo f x y a2 b2 (hx.trans l1) (hy.trans l2) (λi o=>iha i (by omega) (g1 i (by omega))) λi o=>ihb i (by omega) (g2 i (by omega))
  cases c
 |tup x a hx ha ih=>
  intro a' c;simp only[Ur]at c;split at c
  .rename_i a2 h1;cases c;obtain⟨l1,g1⟩:=Df h1;exact .tup x a2 (hx.trans l1) λi o=>ih i (by omega) (g1 i (by omega))
  cases c
 |agr x a hx h1' ha ih=>
  intro a' c;simp only[Ur]at c;split at c
  .rename_i a2 h1;cases c;obtain⟨l1,g1⟩:=Df h1;exact .agr x a2 (hx.trans l1) (λi o=>h1' i (by omega)) λi o=>ih i (by omega) (g1 i (by omega))
  cases c
 |yf j l hl h=>
  intro a' c;simp only[Ur]at c;split at c
  .rename_i p hp;cases c;obtain⟨h1,d⟩:=g p j (O0 hp) hl;exact .yf p l h1 (d.trans h)
  cases c
 |rsl j n b hl h=>
  intro a' c;simp only[Ur]at c;split at c
  .rename_i p hp;cases c;obtain⟨h1,d⟩:=g p j (O0 hp) hl;exact .rsl p n b h1 (d.trans h)
  cases c
 |top v=>intro a' c;simp only[Ur,By4]at c;subst c;exact .top _
def Sq.un {ids:List Nat}(hk:Sc w Pi w' Pi')(o:∀p,live p->live' (ids.getD p 0)/\rho' (ids.getD p 0)=rho p){v:Value}{a:AV}(h:Sq w Pi live rho v a):Sq w' Pi' live' rho' v (unA ids a):=by
 induction h with
 |p v x h=>exact .p _ _ (h.keeps hk)
 |reg j off b hl h=>obtain⟨h1,d⟩:=o j hl;exact .reg _ off b h1 (d.trans h)
 |vec j base n cap hl h=>obtain⟨h1,d⟩:=o j hl;exact .vec _ base n cap h1 (d.trans h)
 |vecp j m base n cap hl h hm=>obtain⟨h1,d⟩:=o j hl;exact .vecp _ m base n cap h1 (d.trans h) hm
 |elt j k i off b n cap hl h=>obtain⟨h1,d⟩:=o j hl;exact .elt _ k i off b n cap h1 (d.trans h)
 |Se j r hl h=>obtain⟨h1,d⟩:=o j hl;exact .Se _ r h1 (d.trans h)
 |clo f x y a b hx hy ha hb iha ihb=>
  simp only[unA,Tk];refine .clo f x y _ _ (by simpa using hx) (by simpa using hy) (λi g=>?_) λi g=>?_
  .have c : i<a.length:=by simpa using g
   have:=iha i c
   simpa[By3,Bz1,By7 c]using this
  have c : i<b.length:=by simpa using g
  have:=ihb i c
  simpa[By3,Bz1,By7 c]using this
 |tup x a hx ha ih=>
  simp only[unA,Tk];refine .tup x _ (by simpa using hx) λi g=>?_;have c : i<a.length:=by simpa using g
  have:=ih i c
  simpa[By3,Bz1,By7 c]using this
 |agr x a hx h1' ha ih=>
  simp only[unA,Tk];refine .agr x _ (by simpa using hx) (λi g=>h1' i (by simpa using g)) λi g=>?_;have c : i<a.length:=by simpa using g
  have:=ih i c
  simpa[By3,Bz1,By7 c]using this
 |yf j l hl h=>obtain⟨h1,d⟩:=o j hl;exact .yf _ l h1 (d.trans h)
 |rsl j n b hl h=>obtain⟨h1,d⟩:=o j hl;exact .rsl _ n b h1 (d.trans h)
 |top v=>exact .top v
def Sr.ren {ids:List Nat}(hk:Sc w Pi w' Pi')(v:∀p j,ids[p]? = some j->live j->live' p/\rho' p=rho j){h:Value}{o o' : Obj}(hb:∀b,E5 h o b->w'.heap[b]? = w.heap[b]?)(a:SZ ids o=some o')(s:Sr w Pi live rho h o):Sr w' Pi' live' rho' h o':=by
 cases o with
 |cells cs=>
  simp only[SZ]at a;split at a
  .rename_i cs' t;cases a;obtain⟨l1,g1⟩:=Df t;obtain⟨b,c,T,rfl,h1,m,d⟩:=s;exact⟨b,c,T,rfl,(hb b rfl).trans h1,m.trans l1,λi q=>⟨(d i (by omega)).1.ren hk v (g1 i (by omega)),(d i (by omega)).2⟩⟩
  cases a
 |vec e k n f vw=>
  simp only[SZ,By4]at a;subst a;rcases s with hn|⟨b,cap,c,rfl,h1,m,d,y,z,h6⟩
  .exact .inl hn
  exact .inr ⟨b,cap,c,rfl,(hb b rfl).trans h1,m,d,y,z,λi j q u=>⟨(h6 i j q u).1.keeps hk,(h6 i j q u).2⟩⟩
 |map es=>simp only[SZ,By4]at a;subst a;obtain⟨b,Sg,clock,rfl,h1,m,d,h9⟩:=s;exact⟨b,Sg,clock,rfl,(hb b rfl).trans h1,m,λi q=>⟨(d i q).1.keeps hk,(d i q).2.keeps hk⟩,h9⟩
 |arr n f=>simp only[SZ,By4]at a;subst a;obtain⟨b,c,T,rfl,h1,m,d⟩:=s;exact⟨b,c,T,rfl,(hb b rfl).trans h1,m,λi q=>⟨(d i q).1.keeps hk,(d i q).2⟩⟩
 |blk l jr=>
  simp only[SZ]at a;split at a
  .rename_i jr' u;cases a;obtain⟨g1,g2,b,rfl,h1⟩:=s;obtain⟨g3,g4⟩:=v _ _ (O0 u) g1;exact⟨g3,by rw[g4];exact g2,b,rfl,by rw[g4];exact (hb b rfl).trans h1⟩
  cases a
 |ghost cs=>
  simp only[SZ]at a;split at a
  .rename_i cs' t;cases a;obtain⟨l1,g1⟩:=Df t;obtain⟨vs,rfl,h1,m⟩:=s;exact⟨vs,rfl,h1.trans l1,λi q=>(m i (by omega)).ren hk v (g1 i (by omega))⟩
  cases a
 |yld r b=>simp only[SZ,By4]at a;subst a;exact s
 |dead=>simp only[SZ,By4]at a;subst a;trivial
 |fam e n jr x=>
  simp only[SZ]at a;split at a
  .rename_i jr' u;cases a;obtain⟨rv,g1,g2,hv⟩:=s;obtain⟨g3,g4⟩:=v _ _ (O0 u) g1;refine⟨rv,g3,g4.trans g2,?_⟩;rcases hv with hv|⟨b,cap,c,rfl,h1,m,d,y,z,h6⟩
   .exact .inl hv
   exact .inr ⟨b,cap,c,rfl,(hb b rfl).trans h1,m,d,y,z,trivial⟩
  cases a
 |rows n g=>simp only[SZ,By4]at a;subst a;exact Gp hk hb s
def AI {ids:List Nat}{h:Value}{o o' : Obj}(a:SZ ids o=some o'):E5 h o' = E5 h o:=by
 cases o<;>simp only[SZ]at a
 case fam=>split at a<;>cases a;rfl
 case blk=>split at a<;>cases a;rfl
 case cells=>split at a<;>cases a;rfl
 case ghost=>split at a<;>cases a;rfl
 all_goals (cases a;rfl)
def LQ {ids:List Nat}{o o' : Obj}(a:SZ ids o=some o')(off:Nat):JY o' off↔JY o off:=by
 cases o<;>simp only[SZ]at a
 case fam=>split at a<;>cases a;exact BL1
 case blk=>split at a<;>cases a;exact BL1
 case cells=>split at a<;>cases a;exact BL1
 case ghost=>split at a<;>cases a;exact BL1
 all_goals (cases a;exact BL1)
def Sr.un {ids:List Nat}(hk:Sc w Pi w' Pi')(u:∀p,live p->live' (ids.getD p 0)/\rho' (ids.getD p 0)=rho p){h:Value}{o:Obj}(hb:∀b,E5 h o b->w'.heap[b]? = w.heap[b]?)(t:Sr w Pi live rho h o):Sr w' Pi' live' rho' h (unO ids o):=by
 cases o with
 |cells cs=>
  obtain⟨b,c,T,rfl,h1,m,a⟩:=t;simp only[unO,Tk];refine⟨b,c,T,rfl,(hb b rfl).trans h1,by simpa using m,λi s=>?_⟩;have d : i<cs.length:=by simpa using s
  refine⟨?_,(a i d).2⟩
  have:=(a i d).1.un hk u
  simpa[By3,Bz1,By7 d]using this
 |vec e k n f vw=>
  rcases t with hn|⟨b,cap,c,rfl,h1,m,a,v,y,z⟩
  .exact .inl hn
  exact .inr ⟨b,cap,c,rfl,(hb b rfl).trans h1,m,a,v,y,λi j s hj=>⟨(z i j s hj).1.keeps hk,(z i j s hj).2⟩⟩
 |map es=>obtain⟨b,Sg,clock,rfl,h1,m,a,h9⟩:=t;exact⟨b,Sg,clock,rfl,(hb b rfl).trans h1,m,λi s=>⟨(a i s).1.keeps hk,(a i s).2.keeps hk⟩,h9⟩
 |arr n f=>obtain⟨b,c,T,rfl,h1,m,a⟩:=t;exact⟨b,c,T,rfl,(hb b rfl).trans h1,m,λi s=>⟨(a i s).1.keeps hk,(a i s).2⟩⟩
 |blk l jr=>obtain⟨g1,g2,b,rfl,h1⟩:=t;obtain⟨g3,g4⟩:=u _ g1;exact⟨g3,by rw[g4];exact g2,b,rfl,by rw[g4];exact (hb b rfl).trans h1⟩
 |ghost cs=>
  obtain⟨vs,rfl,h1,m⟩:=t;simp only[unO,Tk];refine⟨vs,rfl,by simpa using h1,λi s=>?_⟩;have d : i<cs.length:=by simpa using s
  have:=(m i d).un hk u
  simpa[By3,Bz1,By7 d]using this
 |yld r b=>exact t
 |dead=>trivial
 |fam e n jr x=>
  obtain⟨rv,g1,g2,hv⟩:=t;obtain⟨g3,g4⟩:=u _ g1;refine⟨rv,g3,g4.trans g2,?_⟩;rcases hv with hv|⟨b,cap,c,rfl,h1,m,a,v,y,z⟩
  .exact .inl hv
  cases x with
  |none=>exact .inr ⟨b,cap,c,rfl,(hb b rfl).trans h1,m,a,v,y,trivial⟩
  |some q=>exact .inr ⟨b,cap,c,rfl,(hb b rfl).trans h1,m,a,v,y,z.un hk u⟩
 |rows n g=>exact Gp hk hb t
def UF {ids:List Nat}{h:Value}{o:Obj}:E5 h (unO ids o)=E5 h o:=by cases o<;>rfl
def AB7 {ids:List Nat}{o:Obj}(off:Nat):JY (unO ids o) off↔JY o off:=by cases o<;>exact BL1
def E7 (objs:List Obj)(j:Nat):A1 (Sa objs) j=objs[j]?:=by
 have a:∀(objs:List Obj) (n:Nat) (acc:C5),A1 (Sa.go n objs acc) j=if n<=j/\j<n+objs.length then objs[j-n]? else A1 acc j:=by
  intro objs
  induction objs with
  |nil=>intro n acc;simp[Sa.go];intro h1 b;omega
  |cons o r ih=>
   intro n acc;simp only[Sa.go,ih,A1,BA2];by_cases h:n=j
   .subst h;rw[Hj (by omega),Gy rfl,Gy ⟨by omega,by omega⟩];simp
   by_cases h1:n+1<=j/\j<n+1+r.length
   .rw[Gy h1,Gy ⟨by omega,by omega⟩];obtain⟨i,rfl⟩:∃i,j=n+1+i:=⟨j-(n+1),by omega⟩;rw[show n+1+i-(n+1)=i by omega,show n+1+i-n=i+1 by omega];simp
   rw[Hj h1,Hj h,Hj (by omega)]
 unfold Sa;rw[a];by_cases h:j<objs.length
 .rw[Gy ⟨by omega,by omega⟩];simp
 rw[Hj (by omega),BD0 (by omega)];rfl
def AJ (args:List AV)(j:Nat):get (Ss args) j=args.getD j .top:=by
 have a:∀(objs:List AV) (n:Nat) (acc:Env),get (Ss.go n objs acc) j=if n<=j/\j<n+objs.length then objs.getD (j-n) .top else get acc j:=by
  intro objs
  induction objs with
  |nil=>intro n acc;simp[Ss.go];intro h1 b;omega
  |cons o r ih=>
   intro n acc;simp only[Ss.go,ih,get,BA2];by_cases h:n=j
   .subst h;rw[Hj (by omega),Gy rfl,Gy ⟨by omega,by omega⟩];simp
   by_cases h1:n+1<=j/\j<n+1+r.length
   .rw[Gy h1,Gy ⟨by omega,by omega⟩];obtain⟨i,rfl⟩:∃i,j=n+1+i:=⟨j-(n+1),by omega⟩;rw[show n+1+i-(n+1)=i by omega,show n+1+i-n=i+1 by omega];simp
   rw[Hj h1,Hj h,Hj (by omega)]
 unfold Ss;rw[a];by_cases h:j<args.length
 .rw[Gy ⟨by omega,by omega⟩];simp
 rw[Hj (by omega)];simp[get,By3,BD0 (show args.length<=j by omega)]
def AK {ids:List Nat}{Qw:C5}:∀{l:List Nat}{objs:List Obj},M0 ids Qw l=some objs->objs.length=l.length/\∀(p j:Nat),l[p]? = some j->∃o o',A1 Qw j=some o/\SZ ids o=some o' /\ objs[p]? = some o'
 |[],objs,h=>by simp only[M0,By4]at h;subst h;exact⟨rfl,λp j hp=>by simp at hp⟩
 |j::l,objs,h=>by
  simp only[M0]at h;split at h
  .rename_i o a;split at h
   .rename_i o' l' h1 b;cases h;obtain⟨c,d⟩:=AK b;refine⟨by simp[c],λp i hp=>?_⟩;cases p with
    |zero=>simp only[BF5,By4]at hp;subst hp;exact⟨o,o',a,h1,by simp⟩
    |succ p=>simpa using d p i (by simpa using hp)
   cases h
  cases h
def CF:∀{l:List Nat},H5 l=true->l.Nodup
 |[],_=>BG8
 |a::r,h=>by simp only[H5,By5,BA7,BC2,decide_eq_false_iff_not]at h;exact BE5.2 ⟨h.1,CF h.2⟩
def Gr:∀{l:List Nat}(h:l.Nodup) {p q j:Nat}(hp:l[p]? = some j) (b:l[q]? = some j),p=q
 |[],h,p,q,j,hp,b=>by simp at hp
 |a::l,h,p,q,j,hp,b=>by
  obtain⟨h1,c⟩:=BE5.1 h;cases p with
  |zero=>
   cases q with
   |zero=>rfl
   |succ q=>simp only[BF5,By4]at hp;simp only[BL6]at b;subst hp;exact Ij (BB3 b) h1
  |succ p=>
   cases q with
   |zero=>simp only[BF5,By4]at b;simp only[BL6]at hp;subst b;exact Ij (BB3 hp) h1
   |succ q=>exact congrArg (· + 1) (Gr (j:=j) c (by simpa using hp) (by simpa using b))
def Tl:∀{l:List Obj},Fu l=true->∀(p:Nat) (r:List (List PV)) (b:Bool),l[p]? ≠ some (.yld r b)
 |[],_,p,r,b=>by simp
 |o::l,h,p,r,b=>by
  cases p with
  |zero=>intro a;simp only[BF5,By4]at a;subst a;simp[Fu]at h
  |succ p=>simp only[BL6];exact Tl (by cases o<;>simp[Fu]at h<;>exact h) p r b
end
def Bl8 (C:Ctx)(R:C5)(rho:Nat->Value)(ids:List Nat)(b off:Nat):Prop:= C.X b off \/ ∃j o,j ∉ ids/\A1 R j=some o/\E5 (rho j) o b/\JY o off
def Ctx.callee (C:Ctx)(R:C5)(w:World)(rho:Nat->Value)(ids:List Nat):Ctx where
 X:=Bl8 C R rho ids
 w0:=w
 E0:=λb=>∃j o,j∈ids/\A1 R j=some o/\E5 (rho j) o b
 Pi0:=Prv C.X (A1 R) rho
 rho0:=λp=>rho (ids.getD p 0)
 Y:=λ_ _=>False
 yv:=C.yv
section
variable {P:Program}{C:Ctx}{st:St}{a:Act}{w:World}{rho:Nat->Value}
def DQ {ids:List Nat}{p j:Nat}(h:ids[p]? = some j):ids.getD p 0=j:=by simp[By3,h]
def Tm {R:C5}{ids:List Nat}{objs:List Obj}(g:M0 ids R ids=some objs)(b off:Nat) :Prv (Bl8 C R rho ids) (A1 (Sa objs)) (λp=>rho (ids.getD p 0)) b off↔Prv C.X (A1 R) rho b off:=by
 obtain⟨hl,m⟩:=AK g;constructor
 .rintro ((i|⟨j,o,_,d,hb,hp⟩)|⟨p,o',hp,hb,l⟩)
  .exact .inl i
  .exact .inr ⟨j,o,d,hb,hp⟩
  rw[E7]at hp;have a:p<ids.length:=by rw[<- hl];exact (Bz8.1 hp).1
  obtain⟨o,o2,h1,c,f⟩:=m p _ (By7 a);rw[hp]at f;cases f;simp only[DQ (By7 a),AI c]at hb;exact .inr ⟨_,o,h1,hb,(LQ c off).1 l⟩
 rintro (i|⟨j,o,d,hb,hp⟩)
 .exact .inl (.inl i)
 by_cases hm:j∈ids
 .obtain⟨p,a,rfl⟩:=BI6.1 hm;obtain⟨o1,o2,h1,c,f⟩:=m p _ (By7 a);rw[d]at h1;cases h1;refine .inr ⟨p,o2,by rw[E7];exact f,?_,(LQ c off).2 hp⟩;simp only[DQ (By7 a),AI c];exact hb
 exact .inl (.inr ⟨j,o,hm,d,hb,hp⟩)
def NJ (h:Sat C st a w rho){ids:List Nat}{objs:List Obj}{as args:List AV}{vs:Array Value}(hd:H5 ids=true)(s:M0 ids st.Qw ids=some objs)(hny:Fu objs=true)(u:True)
 (hr:DP ids as=some args) (hvs:vs.size=as.length) (hv:∀i,i<as.length->RS C st w rho (vs.getD i undef) (as.getD i .top)) :
 Sat (C.callee st.Qw w rho ids) ⟨Ss args,Sa objs⟩ ⟨vs,[]⟩ w (λp=>rho (ids.getD p 0)):=by
 obtain⟨hl,hg⟩:=AK s;have x:=CF hd;have hpi:=Tm (C:=C) (rho:=rho) s;have hk:Sc w (Prv C.X (A1 st.Qw) rho) w (Prv (Bl8 C st.Qw rho ids) (A1 (Sa objs)) (λp=>rho (ids.getD p 0))):=
  λb o v hp hc=>⟨hc,λhp'=>hp ((hpi b o).1 hp')⟩
 have c:∀p o',A1 (Sa objs) p=some o' -> ∃j o,ids[p]? = some j/\A1 st.Qw j=some o/\SZ ids o=some o' /\ rho (ids.getD p 0)=rho j:=by
  intro p o' hp;rw[E7]at hp;have m:p<ids.length:=by rw[<- hl];exact (Bz8.1 hp).1
  obtain⟨o,o2,h1,f,g⟩:=hg p _ (By7 m);rw[hp]at g;cases g;exact⟨_,o,By7 m,h1,f,by rw[DQ (By7 m)]⟩
 have l:∀p j,ids[p]? = some j->Lv (A1 st.Qw) j->Lv (A1 (Sa objs)) p/\rho (ids.getD p 0)=rho j:=by intro p j hp _;obtain⟨o,o2,h1,f,g⟩:=hg p j hp;exact⟨by simp[Lv,E7,g],by rw[DQ hp]⟩
 refine⟨⟨⟨?_,?_,?_,?_⟩,Ext.refl _,Bz5 _,λb _ _=>rfl,hk,?_,?_⟩,?_,λj _ _=>rfl,BG8,λd hd=>by simp at hd⟩
 .intro p o' hp;obtain⟨j,o,h1,f,g,n⟩:=c p o' hp;show Sr w _ _ _ (rho (ids.getD p 0)) o';rw[n];exact (h.hp.holds j o f).ren hk l (λb _=>rfl) g
 .intro p q op oq b hp hq y z;obtain⟨j,o,h1,f,g,n⟩:=c p op hp;obtain⟨j',o',h1',h2',h3',h4'⟩:=c q oq hq;simp only[n,h4',AI g,AI h3']at y z
  have:=h.hp.sep j j' o o' b f h2' y z
  subst this;exact Gr x h1 h1'
 .intro p o' b off hp hb hX;obtain⟨j,o,h1,f,g,n⟩:=c p o' hp;simp only[n,AI g]at hb;rcases hX with hX|⟨j',o2,hj',h5,h6,_⟩
  .exact h.hp.out j o b off f hb hX
  have:=h.hp.sep j j' o o2 b f h5 hb h6
  subst this;exact hj' (BB3 h1)
 .rintro b off (hX|⟨j,o,_,hj,hb,_⟩)
  .exact h.hp.bound b off hX
  exact (h.hp.holds j o hj).lt hb
 .rintro b ⟨p,o',hp,hb⟩;obtain⟨j,o,h1,f,g,n⟩:=c p o' hp;simp only[n,AI g]at hb;exact .inl ⟨j,o,BB3 h1,f,hb⟩
 .intro p r b hp;rw[E7]at hp;exact Ij hp (Tl hny p r b)
 intro t;show Sq w _ _ _ (vs.getD t undef) (get (Ss args) t);rw[AJ];obtain⟨h1,f⟩:=Df hr;by_cases ht:t<as.length
 .exact (hv t ht).ren hk l (f t ht)
 rw[By3,BD0 (by omega)];exact .top _
def Ai6 (all:List Nat)(j:Nat):∀(ids:List Nat) (objs:List Obj) (Qw:C5),ids.Nodup->ids.length=objs.length ->
 A1 (back all ids objs Qw) j=match idx ids j with
  |some p=>(objs[p]?).map (unO all)
  |none=>A1 Qw j
 |[],objs,Qw,_,hl=>by
  cases objs with
  |nil=>rfl
  |cons=>simp at hl
 |i::ids,[],Qw,_,hl=>by simp at hl
 |i::ids,o::objs,Qw,hn,hl=>by
  obtain⟨h1,a⟩:=BE5.1 hn;simp only[back];rw[Ai6 all j ids objs _ a (by simpa using hl)];simp only[idx];by_cases e:i=j
  .subst e
   have:idx ids i=none:=by
    cases hx:idx ids i with
    |none=>rfl
    |some p=>exact Ij (BB3 (O0 hx)) h1
   simp[this,A3]
  simp only[e,Ld];cases hx:idx ids j with
  |none=>simp[A3,e]
  |some p=>simp
def Gs (j:Nat):∀(ids:List Nat) (ks:List Bool) (Qw:C5),ids.Nodup ->
 A1 (J9 ids ks Qw) j=match idx ids j with
  |some p=>if ks[p]? = some true then A1 Qw j else some .dead
  |none=>A1 Qw j
 |[],ks,Qw,_=>by cases ks<;>rfl
 |i::ids,[],Qw,hn=>by
  obtain⟨h1,b⟩:=BE5.1 hn;simp only[J9];rw[Gs j ids [] _ b];simp only[idx];by_cases e:i=j
  .subst e
   have:idx ids i=none:=by
    cases hx:idx ids i with
    |none=>rfl
    |some p=>exact Ij (BB3 (O0 hx)) h1
   simp[this,A3]
  simp only[e,Ld];cases hx:idx ids j with
  |none=>simp[A3,e]
  |some p=>simp
 |i::ids,k::ks,Qw,hn=>by
  obtain⟨h1,b⟩:=BE5.1 hn;simp only[J9];have a:idx ids i=none:=by
   cases hx:idx ids i with
   |none=>rfl
   |some p=>exact Ij (BB3 (O0 hx)) h1
  by_cases hk:k=true
  .rw[Gy hk,Gs j ids ks _ b];simp only[idx];by_cases e:i=j
   .subst e;simp[a,hk]
   simp only[e,Ld];cases hx:idx ids j with
   |none=>rfl
   |some p=>simp
  rw[Hj hk,Gs j ids ks _ b];simp only[idx];by_cases e:i=j
  .subst e;simp[a,hk,A3]
  simp only[e,Ld];cases hx:idx ids j with
  |none=>simp[A3,e]
  |some p=>simp[A3,e]
def UG {ids:List Nat}{j:Nat}(h:j∈ids):∃p,idx ids j=some p:=by
 induction ids with
 |nil=>simp at h
 |cons i r ih=>
  simp only[idx];by_cases e:i=j
  .exact⟨0,by simp[e]⟩
  rcases BC1.1 h with h' | h'
  .exact Ij h'.symm e
  obtain⟨p,hp⟩:=ih h';exact⟨p+1,by simp[e,hp]⟩
def AY8 {ids:List Nat}(hn:ids.Nodup){p j:Nat}(h:ids[p]? = some j):idx ids j=some p:=by obtain⟨q,a⟩:=UG (BB3 h);rw[a,Gr hn (O0 a) h]
def PB {n p:Nat}(h:p<n):(List.range n)[p]? = some p:=by simp[h]
def MZ {d:Nat}{ids:List Nat}{ks:List Bool}{n p j:Nat}(h:(G7 d ids ks n)[p]? = some j):p<n/\((ids[p]? = some j/\ks[p]? = some true) \/ (j=nid d p/\∀i,ids[p]? = some i->ks[p]? ≠ some true)):=by
 unfold G7 at h;rw[Bz1,BB6]at h;obtain⟨q,b,c⟩:=h;have a:p<n:=by simpa using (Bz8.1 b).1
 rw[PB a]at b;cases b;refine⟨a,?_⟩;split at c
 .rename_i j' h1 g;subst c;exact .inl ⟨h1,g⟩
 rename_i f;subst c;exact .inr ⟨rfl,λi l hk=>f i l hk⟩
def Ap6 {d:Nat}{ids:List Nat}{ks:List Bool}{n:Nat}:(G7 d ids ks n).length=n:=by simp[G7]
def KT {Qw:C5}{ids:List Nat}{ks:List Bool}{d n p:Nat}(a:X1 Qw ids ks d n=true)(hp:p<n)(b:∀i,ids[p]? = some i->ks[p]? ≠ some true):A1 Qw (nid d p)=none:=by
 unfold X1 at a;rw[Bz2]at a
 have:=a p (by simp[hp])
 split at this
 .rename_i i h1 c;exact Ij c (b i h1)
 simpa using this
def NK:∀{l:List Nat},(∀p q j:Nat,l[p]? = some j->l[q]? = some j->p=q)->l.Nodup
 |[],_=>BG8
 |a::l,h=>by
  refine BE5.2 ⟨λhm=>?_,NK λp q j hp b=>?_⟩
  .obtain⟨p,hp⟩:=BF1.1 hm
   have:=h 0 (p+1) a (by simp) (by simpa using hp)
   omega
  have:=h (p+1) (q+1) j (by simpa using hp) (by simpa using b)
  omega
def Xb {Qw:C5}{ids:List Nat}{ks:List Bool}{d n:Nat}{objs:List Obj}(g:M0 ids Qw ids=some objs)(r:ids.Nodup)(l:X1 Qw ids ks d n=true):(G7 d ids ks n).Nodup:=by
 refine NK λp q j hp s=>?_;obtain⟨h1,a⟩:=MZ hp;obtain⟨t,b⟩:=MZ s;obtain⟨_,m⟩:=AK g;rcases a with⟨a,u⟩ | ⟨c,a⟩<;>rcases b with⟨b,v⟩ | ⟨f,b⟩
 .exact Gr r a b
 .obtain⟨o,_,i,_⟩:=m p _ a
  have:=KT l t b
  rw[<- f,i]at this;cases this
 .obtain⟨o,_,i,_⟩:=m q _ b
  have:=KT l h1 a
  rw[<- c,i]at this;cases this
 have:nid d p=nid d q:=c.symm.trans f
 unfold nid at this;omega
def Ai7 (new:List Nat)(rho rho' : Nat->Value)(j:Nat):Value:=match idx new j with
 |some p=>rho' p
 |none=>rho j
def Ap7 (h:Sat C st a w rho){ids:List Nat}{objs objs' : List Obj}{ks:List Bool}{d:Nat}{w' : World}{rho' : Nat->Value}(hd:H5 ids=true)(hob:M0 ids st.Qw ids=some objs)
 (hE:SatE (C.callee st.Qw w rho ids) (Sa objs') w' rho') (hks:∀i:Nat,ks[i]? = some true->i<objs'.length/\rho' i=rho (ids.getD i 0)) (hf:X1 st.Qw ids ks d objs'.length=true) :
 let new:=G7 d ids ks objs'.length
 let R':=back new new objs' (J9 ids ks st.Qw)
 Sat C { st with Qw:=R' } a w' (Ai7 new rho rho')/\Kp C st.Qw R' w w' rho (Ai7 new rho rho') /\
  Sc w' (Prv (Bl8 C st.Qw rho ids) (A1 (Sa objs')) rho') w' (Prv C.X (A1 R') (Ai7 new rho rho')) /\
  ∀p,Lv (A1 (Sa objs')) p->Lv (A1 R') (new.getD p 0)/\Ai7 new rho rho' (new.getD p 0)=rho' p:=by
 intro new R';have hdup:=CF hd;obtain⟨hl,hg⟩:=AK hob;have hnd:new.Nodup:=Xb hob hdup hf;have hnl:new.length=objs'.length:=Ap6;have hR:∀j,A1 R' j=match idx new j with
  |some p=>(objs'[p]?).map (unO new)
  |none=>A1 (J9 ids ks st.Qw) j:=λj=>Ai6 new j new objs' _ hnd hnl
 have hD:∀j,A1 (J9 ids ks st.Qw) j=match idx ids j with
  |some p=>if ks[p]? = some true then A1 st.Qw j else some .dead
  |none=>A1 st.Qw j:=λj=>Gs j ids ks _ hdup
 have z:∀j p,idx new j=some p->p<objs'.length/\((ids[p]? = some j/\rho' p=rho j/\Lv (A1 st.Qw) j) \/ (A1 st.Qw j=none/\1000<=j)):=by
  intro j p hp;obtain⟨h1,f⟩:=MZ (O0 hp);refine⟨h1,?_⟩;rcases f with⟨f,x⟩ | ⟨rfl,f⟩
  .obtain⟨o,_,ho,_⟩:=hg p j f;exact .inl ⟨f,by rw[(hks p x).2,DQ f],by simp[Lv,ho]⟩
  exact .inr ⟨KT hf h1 f,Bp d p⟩
 have l:∀j,idx new j=none->j∈ids->A1 R' j=some .dead:=by
  intro j c hm;rw[hR j,c];obtain⟨p,hp⟩:=UG hm;simp only[hD j,hp];by_cases hk:ks[p]? = some true
  .exfalso;have hlt:=(hks p hk).1
   have:new[p]? = some j:=by show (G7 d ids ks objs'.length)[p]? = some j;unfold G7;rw[Bz1,PB hlt];simp[O0 hp,hk]
   rw[AY8 hnd this]at c;cases c
  simp[hk]
 have g:∀j,idx new j=none->j ∉ ids->A1 R' j=A1 st.Qw j:=by
  intro j c hm;rw[hR j,c]
  have:idx ids j=none:=by
   cases hx:idx ids j with
   |none=>rfl
   |some p=>exact Ij (BB3 (O0 hx)) hm
  simp only[hD j,this]
 have s:∀j p,idx new j=some p->∃o',objs'[p]? = some o' /\ A1 R' j=some (unO new o')/\Ai7 new rho rho' j=rho' p:=by intro j p hp;obtain⟨h1,_⟩:=z j p hp;refine⟨objs'[p],By7 h1,?_,by simp[Ai7,hp]⟩;rw[hR j,hp];simp[By7 h1]
 have hrn:∀j,idx new j=none->Ai7 new rho rho' j=rho j:=λj c=>by simp[Ai7,c]
 have a0:∀j,Lv (A1 st.Qw) j->Lv (A1 R') j/\Ai7 new rho rho' j=rho j:=by
  intro j c;cases hx:idx new j with
  |some p=>
   obtain⟨o',_,f,x⟩:=s j p hx;refine⟨by simp[Lv,f],?_⟩;rcases (z j p hx).2 with⟨_,y,_⟩ | ⟨y,_⟩
   .rw[x,y]
   simp[Lv,y]at c
  |none=>
   refine⟨?_,hrn j hx⟩;by_cases hm:j∈ids
   .simp[Lv,l j hx hm]
   simpa[Lv,g j hx hm]using c
 have hback:∀p,p<objs'.length->idx new (new.getD p 0)=some p:=by
  intro p hp
  have:new[p]? = some (new.getD p 0):=by rw[By3,By7 (by omega)];rfl
  exact AY8 hnd this
 have hpi:∀b off,Prv C.X (A1 R') (Ai7 new rho rho') b off->Prv (Bl8 C st.Qw rho ids) (A1 (Sa objs')) rho' b off:=by
  rintro b off (hX|⟨j,o,c,hb,hp⟩)
  .exact .inl (.inl hX)
  cases hx:idx new j with
  |some p=>obtain⟨o',h1,f,x⟩:=s j p hx;rw[f]at c;cases c;rw[x,UF]at hb;exact .inr ⟨p,o',by rw[E7];exact h1,hb,(AB7 off).1 hp⟩
  |none=>
   by_cases hm:j∈ids
   .rw[l j hx hm]at c;cases c;simp[E5,N1]at hb
   rw[g j hx hm]at c;rw[hrn j hx]at hb;exact .inl (.inr ⟨j,o,hm,c,hb,hp⟩)
 have hk2:Sc w' (Prv (Bl8 C st.Qw rho ids) (A1 (Sa objs')) rho') w' (Prv C.X (A1 R') (Ai7 new rho rho')):=λb o v hp hc=>⟨hc,λu=>hp (hpi b o u)⟩;have hlb:∀p,Lv (A1 (Sa objs')) p->Lv (A1 R') (new.getD p 0)/\Ai7 new rho rho' (new.getD p 0)=rho' p:=by
  intro p hp;have hlt:p<objs'.length:=by simp only[Lv,E7]at hp;exact (Bz8.1 (Option.eq_some_of_isSome hp)).1
  obtain⟨o',_,f,x⟩:=s _ p (hback p hlt);exact⟨by rw[Lv,f];rfl,x⟩
 have hyld:∀(p:Nat) r b,objs'[p]? ≠ some (.yld r b):=by intro p r b hp;exact (hE.yld p r b (by rw[E7];exact hp)).1
 obtain⟨g1,g2⟩:=h.step (R':=R') (rho':=Ai7 new rho rho') (w':=w') (λj=>j∈ids \/ ∃p,idx new j=some p)
  (λj c=>by
   have h1:j ∉ ids:=λe=>c (.inl e);have f:idx new j=none:=by
    cases hx:idx new j with
    |none=>rfl
    |some p=>exact Ij (.inr ⟨p,hx⟩) c
   exact g j f h1)
  a0 hE.size
  (λj c hj'=>by
   cases hx:idx new j with
   |some p=>
    rcases (z j p hx).2 with⟨_,_,y⟩ | ⟨_,y⟩
    .exact Ij y c
    exact y
   |none=>
    by_cases hm:j∈ids
    .obtain⟨p,hp⟩:=UG hm;obtain⟨o,_,ho,_⟩:=hg p j (O0 hp);exact Ij (by simp[Lv,ho]) c
    rw[Lv,g j hx hm]at hj';exact Ij hj' c)
  (λj r b m c=>by
   cases hx:idx new j with
   |some p=>
    obtain⟨o',h1,f,x⟩:=s j p hx;rw[f]at c
    have:o' = .yld r b:=by cases o'<;>simp[unO]at c⊢;exact c
    subst this;exact hyld p r b h1
   |none=>
    rcases m with hm|⟨p,hp⟩
    .rw[l j hx hm]at c;cases c
    rw[hx]at hp;cases hp)
  (λb hb hno=>hE.same b hb (by rintro⟨j,o,hm,c,n⟩;exact hno j o (.inl hm) c n))
  (λj o b m c n=>by
   cases hx:idx new j with
   |some p=>
    obtain⟨o',h1,f,x⟩:=s j p hx;rw[f]at c;cases c;rw[x,UF]at n;rcases hE.own b ⟨p,o',by rw[E7];exact h1,n⟩with⟨i,oi,hm,hi,t⟩ | hge
    .exact .inl ⟨i,oi,.inl hm,hi,t⟩
    exact .inr hge
   |none=>
    rcases m with hm|⟨p,hp⟩
    .rw[l j hx hm]at c;cases c;simp[E5,N1]at n
    rw[hx]at hp;cases hp)
  (λi j oi oj b hDi m hi c t hbj=>by
   have key:∀i oi,(i∈ids \/ ∃p,idx new i=some p)->A1 R' i=some oi->E5 (Ai7 new rho rho' i) oi b->∃p o',idx new i=some p/\A1 (Sa objs') p=some o' /\ E5 (rho' p) o' b:=by
    intro i oi hDi hi t;cases hx:idx new i with
    |some p=>obtain⟨o',h1,f,x⟩:=s i p hx;rw[f]at hi;cases hi;rw[x,UF]at t;exact⟨p,o',rfl,by rw[E7];exact h1,t⟩
    |none=>
     rcases hDi with hm|⟨p,hp⟩
     .rw[l i hx hm]at hi;cases hi;simp[E5,N1]at t
     rw[hx]at hp;cases hp
   obtain⟨p,o1,h1,f,x⟩:=key i oi hDi hi t;obtain⟨q,o2,y,h5,h6⟩:=key j oj m c hbj
   have:=hE.hp.sep p q o1 o2 b f h5 x h6
   subst this;have e1:=O0 h1;have e2:=O0 y;rw[e1]at e2;cases e2;rfl)
  (λi oi b off v hDi hi t hnp hc=>by
   obtain⟨h1,f⟩:=hE.keep b off v hnp hc;refine⟨h1,λj o m c n hp=>f ?_⟩;cases hx:idx new j with
   |some p=>obtain⟨o',y,h5,h6⟩:=s j p hx;rw[h5]at c;cases c;rw[h6,UF]at n;exact .inr ⟨p,o',by rw[E7];exact y,n,(AB7 off).1 hp⟩
   |none=>
    rcases m with hm|⟨p,u⟩
    .rw[l j hx hm]at c;cases c;simp[E5,N1]at n
    rw[hx]at u;cases u)
  (λhk j o m c=>by
   cases hx:idx new j with
   |some p=>obtain⟨o',y,h5,h6⟩:=s j p hx;rw[h5]at c;cases c;rw[h6];exact (hE.hp.holds p o' (by rw[E7];exact y)).un hk2 hlb (λb _=>rfl)
   |none=>
    rcases m with hm|⟨p,u⟩
    .rw[l j hx hm]at c;cases c;trivial
    rw[hx]at u;cases u) hE.ext
 exact⟨g1,⟨g2,a0⟩,hk2,hlb⟩
end
section
variable {P:Program}{C:Ctx}{st t:St}{a:Act}{w:World}{rho:Nat->Value}
def semUp.refl {st:St}{K:St->Prop}(h:K st):semUp st K:=λC a w rho hs=>⟨st,rho,h,λ_ _ h=>h,hs⟩
def semUp.trans {st:St}{K:St->Prop}(h:semUp st λt=>semUp t K):semUp st K:=λC a w rho hs=>
 let ⟨st',rho',h1,hp,h2⟩:=h C a w rho hs
 let ⟨st2,rho2,h3,hp',h4⟩:=h1 C a w rho' h2
 ⟨st2,rho2,h3,λb o hx=>hp b o (hp' b o hx),h4⟩
def semUp.mono {st:St}{K K' : St->Prop}(hk:∀t,K t->K' t)(h:semUp st K):semUp st K':=λC a w rho hs=>
 let ⟨st',rho',h1,h2⟩:=h C a w rho hs
 ⟨st',rho',hk _ h1,h2⟩
def Sat.slot (h:Sat C st a w rho){t:Nat}{x:AV}(hx:RS C st w rho (a.tmps.getD t undef) x):Sat C ⟨ins t x st.env,st.Qw⟩ a w rho:=by
 refine⟨h.toSatE,λi=>?_,h.pin,h.marks⟩;show Sq w _ _ rho _ (get (ins t x st.env) i);rw[MT];split
 .rename_i e;subst e;exact hx
 exact h.env i
def semUp.bool {st:St}{t:Nat}{b:Bool}{K:St->Prop}(c:get st.env t=.p (.bb b))(h:K ⟨ins t (.p (.v (.bool b))) st.env,st.Qw⟩):semUp st K:=λC a w rho hs=>by
 refine⟨_,rho,h,λ_ _ h=>h,hs.slot ?_⟩
 have:=hs.env t
 rw[c]at this;rw[this.toP.toBool];exact .p _ _ (.v _)
def semUp.pq {st:St}{t:Nat}{x y:PV}{K:St->Prop}(b:get st.env t=.p x)(c:leQ x y)(h:K ⟨ins t (.p y) st.env,st.Qw⟩):semUp st K:=λC a w rho hs=>by
 refine⟨_,rho,h,λ_ _ h=>h,hs.slot ?_⟩
 have:=hs.env t
 rw[b]at this;exact .p _ _ (this.toP.leQ c)
def semUp.nil {st:St}{t k n:Nat}{f:Nat->List PV}{K:St->Prop}(g:get st.env t=.p (.sl false k n f))
 (h1:n=0->K ⟨ins t (.p (.v (.slice none 0 0))) st.env,st.Qw⟩) (i:K ⟨ins t (.p (.sl true k n f)) st.env,st.Qw⟩):semUp st K:=λC a w rho hs=>by
 have:=hs.env t
 rw[g]at this
 have:=this.toP
 generalize d:a.tmps.getD t undef=v at this;cases this with
 |slnil=>exact⟨_,rho,h1 rfl,λ_ _ h=>h,hs.slot (by rw[d];exact .p _ _ (.v _))⟩
 |sl _ b off cap _ _ _ c hn hk hc h sp hsp=>exact⟨_,rho,i,λ_ _ h=>h,hs.slot (by rw[d];exact .p _ _ (.sl true b off cap k n f c hn hk hc h sp hsp))⟩
def Ai8 (n:Nat)(f:Nat->PV){i:Nat}(a:i<n):(AN2 n f).getD i .top=.p (f i):=by simp[AN2,By3,a]
def UH (n:Nat)(f:Nat->PV):(AN2 n f).length=n:=by simp[AN2]
def semUp.swap {st:St}{j:Nat}{o o' : Obj}{K:St->Prop}(m:A1 st.Qw j=some o)(hb:∀v,E5 v o' = E5 v o)(hp:∀off,JY o' off↔JY o off)(hy:∀r b,o' ≠ .yld r b)
 (hh:∀{w:World}{Pi:Nat->Nat->Prop}{live:Nat->Prop}{rho:Nat->Value}{v:Value},Sr w Pi live rho v o->Sr w Pi live rho v o') (hK:K ⟨st.env,ins j o' st.Qw⟩):semUp st K:=λC a w rho hs=>by
 have d:∀i,A1 (ins j o' st.Qw) i=if j=i then some o' else A1 st.Qw i:=λi=>A3 _ _ _ _
 have q:∀i,Lv (A1 (ins j o' st.Qw)) i↔Lv (A1 st.Qw) i:=λi=>by
  unfold Lv;rw[d];split
  .rename_i e;subst e;rw[m];simp
  rfl
 have s:∀b off,Prv C.X (A1 (ins j o' st.Qw)) rho b off↔Prv C.X (A1 st.Qw) rho b off:=λb off=>by
  unfold Prv;refine or_congr BL1 ⟨?_,?_⟩
  .rintro⟨i,oi,h1,l,n⟩;rw[d]at h1;split at h1
   .rename_i e;subst e;cases h1;exact⟨j,o,m,by rw[<- hb];exact l,(hp off).1 n⟩
   exact⟨i,oi,h1,l,n⟩
  rintro⟨i,oi,h1,l,n⟩;by_cases e:j=i
  .subst e;rw[m]at h1;cases h1;exact⟨j,o',by rw[d,Gy rfl],by rw[hb];exact l,(hp off).2 n⟩
  exact⟨i,oi,by rw[d,Hj e];exact h1,l,n⟩
 have hk:Sc w (Prv C.X (A1 st.Qw) rho) w (Prv C.X (A1 (ins j o' st.Qw)) rho):=λb off v h1 l=>⟨l,λh=>h1 ((s b off).1 h)⟩;have hl:∀i,Lv (A1 st.Qw) i->Lv (A1 (ins j o' st.Qw)) i/\rho i=rho i:=λi c=>⟨(q i).2 c,rfl⟩;refine⟨_,rho,hK,λb off h=>(s b off).1 h,⟨⟨⟨λi oi f=>?_,λi i' oi oi' b c x g u=>?_,λi oi b off f g=>?_,hs.hp.bound⟩,hs.ext,hs.size,hs.same,hs.keep.trans hk,λb y=>?_,λi r b f=>?_⟩,λt=>(hs.env t).keeps hk hl,λi c z=>hs.pin i c ((q i).1 z),hs.marks⟩⟩
 .have c:A1 (ins j o' st.Qw) i=some oi:=f;clear f;rw[d]at c;split at c
  .rename_i e;subst e;cases c;exact hh ((hs.hp.holds j o m).keeps hk hl λ_ _=>rfl)
  exact (hs.hp.holds i oi c).keeps hk hl λ_ _=>rfl
 .have own:∀{i:Nat}{oi:Obj}{b:Nat},A1 (ins j o' st.Qw) i=some oi->E5 (rho i) oi b->∃o2,A1 st.Qw i=some o2/\E5 (rho i) o2 b:=by
   intro i oi b c g;rw[d]at c;split at c
   .rename_i e;subst e;cases c;exact⟨o,m,by rw[<- hb];exact g⟩
   exact⟨oi,c,g⟩
  obtain⟨o2,h1,l⟩:=own c g;obtain⟨o3,n,h4⟩:=own x u;exact hs.hp.sep i i' o2 o3 b h1 n l h4
 .have c:A1 (ins j o' st.Qw) i=some oi:=f;clear f;rw[d]at c;split at c
  .rename_i e;subst e;cases c;exact hs.hp.out j o b off m (by rw[<- hb];exact g)
  exact hs.hp.out i oi b off c g
 .obtain⟨i,oi,f,g⟩:=y;have c:A1 (ins j o' st.Qw) i=some oi:=f;clear f;rw[d]at c;split at c
  .rename_i e;subst e;cases c;exact hs.own b ⟨j,o,m,by rw[<- hb];exact g⟩
  exact hs.own b ⟨i,oi,c,g⟩
 have c:A1 (ins j o' st.Qw) i=some (.yld r b):=f;clear f;rw[d]at c;split at c
 .cases c;exact Ij rfl (hy r b)
 exact hs.yld i r b c
def semUp.toArr {st:St}{j n:Nat}{f:Nat->PV}{K:St->Prop}(l:A1 st.Qw j=some (.cells (AN2 n f)))(m:K ⟨st.env,ins j (.arr n f) st.Qw⟩):semUp st K:=
 semUp.swap (o':=.arr n f) l (λ_=>rfl) (λ_=>BL1) (λ_ _ h=>by cases h) (λo=>by obtain⟨b,c,T,h1,q,g,a⟩:=o;rw[UH]at g a;exact⟨b,c,T,h1,q,g,λi d=>⟨by have:=(a i d).1;rw[Ai8 n f d]at this;exact this.toP,(a i d).2⟩⟩) m
def semUp.ofArr {st:St}{j n:Nat}{f:Nat->PV}{K:St->Prop}(g:A1 st.Qw j=some (.arr n f))(l:K ⟨st.env,ins j (.cells (AN2 n f)) st.Qw⟩):semUp st K:=
 semUp.swap (o':=.cells (AN2 n f)) g (λ_=>rfl) (λ_=>BL1) (λ_ _ h=>by cases h) (λm=>by obtain⟨b,c,T,h1,o,q,d⟩:=m;exact⟨b,c,T,h1,o,by rw[UH];exact q,λi a=>by rw[UH]at a;rw[Ai8 n f a];exact⟨.p _ _ (d i a).1,(d i a).2⟩⟩) l
def semUp.vecq {st:St}{j n k:Nat}{e:TypeId}{f g:Nat->List PV}{vw:Bool}{K:St->Prop}(r:A1 st.Qw j=some (.vec e k n f vw))(m:∀i,i<n->leC (f i) (g i))(s:K ⟨st.env,ins j (.vec e k n g vw) st.Qw⟩):semUp st K:=
 semUp.swap (o':=.vec e k n g vw) r (λ_=>rfl) (λ_=>by cases vw<;>exact BL1) (λ_ _ h=>by cases h) (λt=>by
  rcases t with⟨h1,l⟩ | ⟨b,cap,c,h1,l,u,v,w,x,o⟩
  .exact .inl ⟨h1,l⟩
  exact .inr ⟨b,cap,c,h1,l,u,v,w,λi a=>by rw[<- (m i a).1];exact x i a,λi q a d=>⟨(o i q a d).1.leQ ((m i a).2 q),(o i q a d).2⟩⟩) s
def AP0 (j:Nat)(ps:List PV)(env:Env)(t:Nat):get (AM5 j ps env) t=frzA j ps (get env t):=by
 induction env with
 |nil=>rfl
 |cons p r ih=>
  obtain⟨i,a⟩:=p;simp only[AM5,get];split
  .rfl
  exact ih
def semUp.frz {st:St}{j:Nat}{ps:List PV}{K:St->Prop}(z:A1 st.Qw j=some (.cells (ps.map .p)))(hK:K ⟨AM5 j ps st.env,ins j .dead st.Qw⟩):semUp st K:=λC a w rho hs=>by
 have d:∀i,A1 (ins j .dead st.Qw) i=if j=i then some .dead else A1 st.Qw i:=λi=>A3 _ _ _ _
 obtain⟨h1,hk⟩:=hs.step (D:=(· = j)) (R':=ins j .dead st.Qw) (rho':=rho) (w':=w)
  (λi f=>by rw[d,Hj (λe=>f e.symm)])
  (λi f=>⟨by
   unfold Lv at f⊢;rw[d];split
   .rfl
   exact f,rfl⟩) (Bz5 _)
  (λi f hl=>by
   unfold Lv at f hl;rw[d]at hl;split at hl
   .rename_i e;subst e;rw[z]at f;exact Ij rfl f
   exact Ij hl f)
  (λi r b f=>by subst f;rw[d,Gy rfl];simp)
  (λ_ _ _=>rfl)
  (λi o b f l hb=>by subst f;rw[d,Gy rfl]at l;cases l;cases hb)
  (λi i' oi oj b f g _ _ _ _=>f.trans g.symm)
  (λi oi b off v f l hb hp hc=>⟨hc,λi' o g s m=>by subst g;rw[d,Gy rfl]at s;cases s;cases m⟩)
  (λ_ i o f l=>by subst f;rw[d,Gy rfl]at l;cases l;trivial)
 have u:∀b off,Prv C.X (A1 (ins j .dead st.Qw)) rho b off->Prv C.X (A1 st.Qw) rho b off:=by
  rintro b off (hX|⟨i,o,f,hb,hp⟩)
  .exact .inl hX
  rw[d]at f;split at f
  .cases f;cases hb
  exact .inr ⟨i,o,f,hb,hp⟩
 refine⟨_,rho,hK,u,⟨h1.toSatE,λt=>?_,h1.pin,h1.marks⟩⟩;show Sq w _ _ rho (a.tmps.getD t undef) (get (AM5 j ps st.env) t);rw[AP0];have y:=h1.env t;have y:Sq w (Prv C.X (A1 (ins j .dead st.Qw)) rho) (Lv (A1 (ins j .dead st.Qw))) rho (a.tmps.getD t undef) (get st.env t):=y;have l:=hs.env t;generalize get st.env t=x at y l⊢;cases x with
 |reg i o=>
  simp only[frzA];split
  .rename_i e;subst e;generalize a.tmps.getD t undef=v at l⊢;cases l with
   |reg _ _ b hl hr=>
    obtain⟨b',c,T,e1,e2,e3,e4⟩:=hs.hp.holds i _ z;rw[hr]at e1;cases e1;have hsz:c.size=ps.length:=by simpa using e3
    refine .p _ _ (.ptr b o (ps.drop o) (λq=>c.getD (o+q) undef) (λq hq=>?_) λq hq=>?_)
    .have n:o+q<ps.length:=by simp only[BB1]at hq;omega
     refine⟨cell_of_heap e2 (by omega),?_,(e4 (o+q) (by simpa using n)).2⟩;rintro (hX|⟨i',o',g,m,hp'⟩)
     .exact hs.hp.out i _ b _ z (by simp[E5,N1,hr]) hX
     rw[d]at g;split at g
     .cases g;cases m
     rename_i hne;exact hne (hs.hp.sep i i' _ o' b z g (by simp[E5,N1,hr]) m)
    have n:o+q<ps.length:=by simp only[BB1]at hq;omega
    have h4:=(e4 (o+q) (by simpa using n)).1;have e5:(ps.map AV.p).getD (o+q) .top=.p (ps.getD (o+q) default):=by simp[By3,n]
    rw[e5]at h4;have e6:(ps.drop o).getD q default=ps.getD (o+q) default:=by simp[By3,BF6]
    rw[e6];exact h4.toP.keeps hk
  exact y
 |_=>exact y
def Sat.congr {s t:St}(h:Sat C s a w rho)(h1:∀x,get s.env x=get t.env x)(b:∀j,A1 s.Qw j=A1 t.Qw j):Sat C t a w rho:=by have e1:get s.env=get t.env:=funext h1;have e2:A1 s.Qw=A1 t.Qw:=funext b;obtain⟨⟨g1,g0,g2,g3,g4,g5,g6⟩,g7,g8,g9⟩:=h;rw[e2]at g1 g4 g5 g6 g7 g8;rw[e1]at g7;exact⟨⟨g1,g0,g2,g3,g4,g5,g6⟩,g7,g8,g9⟩
def semUp.eqv {s t:St}{K:St->Prop}(h1:∀x,get s.env x=get t.env x)(c:∀j,A1 s.Qw j=A1 t.Qw j)(h:K t):semUp s K:=λC a w rho hs=>
 ⟨t,rho,h,λb o hp=>by rw[funext c];exact hp,hs.congr h1 c⟩
def semUp.less {s t:St}{K:St->Prop}(h1:∀x,Uw (get t.env x) (get s.env x))(d:∀j,A1 s.Qw j=A1 t.Qw j)(h:K t):semUp s K:=λC a w rho hs=>by
 have c:Sat C ⟨s.env,t.Qw⟩ a w rho:=hs.congr (λ_=>rfl) d;refine⟨t,rho,h,λb o hp=>by rw[funext d];exact hp,c.toSatE,λx=>?_,c.pin,c.marks⟩
 have:=c.env x
 rcases h1 x with e|e|⟨y,e1,e2⟩
 .rw[e];exact .top _
 .rw[e];exact this
 rw[e1];rw[show get (St.mk s.env t.Qw).env x=_ from e2]at this;exact .p _ _ (this.toP.leP (.inr (.inr (.inr (.inl ⟨y,rfl,rfl⟩)))))
def AY9 {ids:List (Nat×Nat)}{j i:Nat}(h:lk ids j=some i):(j,i)∈ids:=by
 induction ids with
 |nil=>simp[lk]at h
 |cons p r ih=>
  obtain⟨x,y⟩:=p;simp only[lk]at h;split at h
  .rename_i e;cases h;subst e;simp
  exact BB4 _ (ih h)
def Bo7 {ids:List (Nat×Nat)}(hn:H5 (ids.map (·.2))=true){j j' i:Nat}(h:lk ids j=some i)(h' : lk ids j' = some i):j=j':=by
 have b:=CF hn;obtain⟨p,hp⟩:=BF1.1 (AY9 h);obtain⟨q,a⟩:=BF1.1 (AY9 h')
 have:p=q:=Gr (j:=i) b (by rw[Bz1,hp];rfl) (by rw[Bz1,a];rfl)
 subst this;rw[hp]at a;cases a;rfl
def Bo8 {ids:List (Nat×Nat)}(hp:Ao8 ids=true){j i:Nat}(h:lk ids j=some i)(a:j<1000):i=j:=by
 induction ids with
 |nil=>simp[lk]at h
 |cons p r ih=>
  obtain⟨x,y⟩:=p;simp only[Ao8,By5,BA4,beq_iff_eq,decide_eq_true_eq]at hp;simp only[lk]at h;split at h
  .rename_i e;cases h;omega
  exact ih hp.2 h
def OZ {Qw:C5}{j:Nat}{o:Obj}(h:A1 Qw j=some o):(j,o)∈Qw:=by
 induction Qw with
 |nil=>simp[A1]at h
 |cons p r ih=>
  obtain⟨x,y⟩:=p;simp only[A1]at h;split at h
  .rename_i e;cases h;subst e;simp
  exact BB4 _ (ih h)
def AP1 {Qw:C5}{j:Nat}(h:j∈Qw.map (·.1)):(A1 Qw j).isSome=true:=by
 induction Qw with
 |nil=>simp at h
 |cons p r ih=>
  obtain⟨x,y⟩:=p;simp only[A1];split
  .rfl
  rename_i e;simp only[BA3,BC1]at h;rcases h with h|h
  .exact Ij h.symm e
  exact ih h
def Gt {Qw:C5}{ids:List (Nat×Nat)}:∀{r:C5},WI Qw ids r->∀{j:Nat}{p:Obj},A1 r j=some p ->
 (∃i o,lk ids j=some i/\A1 Qw i=some o/\leO Qw ids o p) \/ (lk ids j=none/\∃e k f vw,p=.vec e k 0 f vw)
 |[],_,j,p,h=>by simp[A1]at h
 |(x,y)::r,hl,j,p,h=>by
  simp only[A1]at h;split at h
  .rename_i e;cases h;subst e;exact hl.1
  exact Gt hl.2 h
def Xc {Qw:C5}{ids:List (Nat×Nat)}{env:Env}:∀{r:Env},Uu Qw ids env r->∀(t:Nat),(∃b,(t,b)∈r/\get r t=b/\leA Qw ids (get env t) b/\∀i∈LF (get env t) b,i∈seen env r) \/ get r t=.top
 |[],_,t=>.inr rfl
 |(x,y)::r,hl,t=>by
  simp only[get];split
  .rename_i e;subst e;exact .inl ⟨y,by simp,rfl,hl.1,λi a=>by simp only[seen];exact BB9 _ a⟩
  rcases Xc hl.2 t with⟨b,h1,c,d,f⟩ | h
  .exact .inl ⟨b,BB4 _ h1,c,d,λi a=>by simp only[seen];exact BA9 _ (f i a)⟩
  exact .inr h
def Tn {ids:List (Nat×Nat)}{js:List Nat}:∀{r:C5},NG ids js r=true->∀{j e k n f i},(j,Obj.vec e k n f false)∈r->lk ids j=some i->i ∉ js
 |[],_,j,e,k,n,f,i,h,_=>by simp at h
 |p::r,hs,j,e,k,n,f,i,h,hi=>by
  rcases BC1.1 h with h|h
  .subst h;simp only[NG,hi,By5,BA7,BC2,decide_eq_false_iff_not]at hs;exact hs.1
  refine Tn (r:=r) ?_ h hi;obtain⟨x,o⟩:=p;cases o with
  |vec _ _ _ _ b=>cases b<;>simp only[NG,By5]at hs<;>first|exact hs.2|exact hs
  |_=>exact hs
def KU {Qw:C5}{ids:List (Nat×Nat)}:∀{l m:List AV},leL Qw ids l m->l.length=m.length/\∀i,i<l.length->leA Qw ids (l.getD i .top) (m.getD i .top)/\∀x∈LF (l.getD i .top) (m.getD i .top),x∈Pn l m
 |l,[],h=>by unfold leL at h;subst h;exact⟨rfl,λi a=>Ij a (by simp)⟩
 |l,y::m,h=>by
  unfold leL at h;obtain⟨x,r,rfl,h1,c⟩:=h;obtain⟨d,f⟩:=KU c;refine⟨by simp[d],λi a=>?_⟩;cases i with
  |zero=>exact⟨by simpa using h1,λz b=>by unfold Pn;exact BB9 _ (by simpa using b)⟩
  |succ i=>obtain⟨g,j⟩:=f i (by simpa using a);exact⟨by simpa using g,λz b=>by unfold Pn;exact BA9 _ (j z (by simpa using b))⟩
def CG {js:List Nat}:∀{m:List AV},inL js m=true->∀i,i<m.length->inA js (m.getD i .top)=true
 |[],_,i,hi=>Ij hi (by simp)
 |y::m,h,i,hi=>by
  unfold inL at h;rw[By5]at h;cases i with
  |zero=>simpa using h.1
  |succ i=>simpa using CG h.2 i (by simpa using hi)
section
variable {Pi Pi' : Nat->Nat->Prop}{live live' : Nat->Prop}{rho' : Nat->Value}{Qw:C5}{ids:List (Nat×Nat)}{js:List Nat}
def Sq.viewP (hk:Sc w Pi w Pi'){seenP:Nat->Prop}
 (o:∀i,seenP i->∀e k n f vw base n' cap,A1 Qw i=some (.vec e k n f vw)->rho i=.slice base n' cap->n' = n/\∀m,m<=n->Sd w Pi' (.slice base m cap) (.sl false k m f))
 {v:Value}{a:AV}(h:Sq w Pi live rho v a) {x y:PV}(hx:AM.viewP Qw a=some x) (hs:∀i∈LF a (.p y),seenP i):Sd w Pi' v x:=by
 cases h with
 |p _ z hz=>simp only[AM.viewP,By4]at hx;subst hx;exact hz.keeps hk
 |vec j base n' cap hl hr=>
  simp only[AM.viewP]at hx;split at hx
  .rename_i e k n f vw c;cases hx;obtain⟨rfl,d⟩:=o j (hs j (by simp[LF])) _ _ _ _ _ _ _ _ c hr;exact d _ (Bz5 _)
  cases hx
 |vecp j m base n' cap hl hr hm=>
  simp only[AM.viewP]at hx;split at hx
  .rename_i e k n f vw c;cases hx;obtain⟨rfl,d⟩:=o j (hs j (by simp[LF])) _ _ _ _ _ _ _ _ c hr;rw[BI7 hm];exact d _ hm
  cases hx
 |clo f x' y' l r hx' hy' hl hr=>
  have gen:(match Wy l,Wy r with
   |some a,some b=>some (PV.fn f a b)
   |_,_=>none)=some x->Sd w Pi' (.func (.func f) x' y') x:=by
   intro g;split at g
   .rename_i a' b' ha hb;cases g;exact (Sq.clo_fn ha hb (.clo f x' y' l r hx' hy' hl hr)).keeps hk
   cases g
  cases l with
  |cons _ _=>exact gen hx
  |nil=>
   cases r with
   |cons _ _=>exact gen hx
   |nil=>simp only[AM.viewP,By4]at hx;subst hx;have e1:x' = #[]:=BG4.1 (by simpa using hx');have e2:y' = #[]:=BG4.1 (by simpa using hy');subst e1;subst e2;exact .v _
 |_=>simp[AM.viewP]at hx
def Sq.le (hk:Sc w Pi w Pi')(t:∀j i,lk ids j=some i->rho' j=rho i)(hnil:∀j,lk ids j=none->rho' j=.slice none 0 0)(s:∀j,js.contains j=true->live' j){seenP:Nat->Prop}
 (u:∀i,seenP i->∀e k n f vw base n' cap,A1 Qw i=some (.vec e k n f vw)->rho i=.slice base n' cap->n' = n/\∀m,m<=n->Sd w Pi' (.slice base m cap) (.sl false k m f))
 {v:Value}{a:AV}(h:Sq w Pi live rho v a):∀{b:AV},leA Qw ids a b->inA js b=true->(∀i∈LF a b,seenP i)->Sq w Pi' live' rho' v b:=by
 induction h with
 |p v x h=>
  intro b' hle c hs;cases b' with
  |top=>exact .top _
  |p y'=>unfold leA at hle;obtain⟨x',d,g⟩:=hle;exact .p _ _ (((Sq.p (live:=live) v x h).viewP hk u d hs).leP g)
  |vec j'=>
   unfold leA at hle;rcases hle with⟨i',_,q⟩ | ⟨hn,q⟩
   .cases q
   cases q;rw[h.toV];exact .vec j' none 0 0 (s j' (by unfold inA at c;exact c)) (hnil j' hn)
  |_=>simp[leA]at hle
 |reg j off b hl h=>
  intro b' hle c hs;cases b' with
  |top=>exact .top _
  |p y'=>unfold leA at hle;obtain⟨x',d,g⟩:=hle;exact .p _ _ (((Sq.reg j off b hl h).viewP hk u d hs).leP g)
  |reg j' off'=>unfold leA at hle;obtain⟨i',o,q⟩:=hle;cases q;exact .reg j' off b (s j' (by unfold inA at c;exact c)) ((t _ _ o).trans h)
  |_=>simp[leA]at hle
 |vec j base n cap hl h=>
  intro b' hle c hs;cases b' with
  |top=>exact .top _
  |p y'=>unfold leA at hle;obtain⟨x',d,g⟩:=hle;exact .p _ _ (((Sq.vec j base n cap hl h).viewP hk u d hs).leP g)
  |vec j'=>
   unfold leA at hle;rcases hle with⟨i',o,q⟩ | ⟨hn,q⟩
   .cases q;exact .vec j' base n cap (s j' (by unfold inA at c;exact c)) ((t _ _ o).trans h)
   cases q
  |_=>simp[leA]at hle
 |vecp j m base n cap hl h hm=>
  intro b' hle c hs;cases b' with
  |top=>exact .top _
  |p y'=>unfold leA at hle;obtain⟨x',d,g⟩:=hle;exact .p _ _ (((Sq.vecp j m base n cap hl h hm).viewP hk u d hs).leP g)
  |vecp j' m'=>unfold leA at hle;obtain⟨i',o,q⟩:=hle;cases q;exact .vecp j' m base n cap (s j' (by unfold inA at c;exact c)) ((t _ _ o).trans h) hm
  |_=>simp[leA]at hle
 |elt j k i off b n cap hl h=>
  intro b' hle c hs;cases b' with
  |top=>exact .top _
  |p y'=>unfold leA at hle;obtain⟨x',d,g⟩:=hle;exact .p _ _ (((Sq.elt j k i off b n cap hl h).viewP hk u d hs).leP g)
  |elt j' k' i2 off'=>unfold leA at hle;obtain⟨i',o,q⟩:=hle;cases q;exact .elt j' k i off b n cap (s j' (by unfold inA at c;exact c)) ((t _ _ o).trans h)
  |_=>simp[leA]at hle
 |Se j r hl h=>
  intro b' hle c hs;cases b' with
  |top=>exact .top _
  |p y'=>unfold leA at hle;obtain⟨x',d,g⟩:=hle;exact .p _ _ (((Sq.Se j r hl h).viewP hk u d hs).leP g)
  |Se j'=>unfold leA at hle;obtain⟨i',o,q⟩:=hle;cases q;exact .Se j' r (s j' (by unfold inA at c;exact c)) ((t _ _ o).trans h)
  |_=>simp[leA]at hle
 |clo f x y a b hx hy ha hb iha ihb=>
  intro b' hle c hs;cases b' with
  |top=>exact .top _
  |p y'=>unfold leA at hle;obtain⟨x',d,g⟩:=hle;exact .p _ _ (((Sq.clo f x y a b hx hy ha hb).viewP hk u d hs).leP g)
  |clo f' x2 y2=>
   unfold leA at hle;obtain⟨x3,y3,q,h1,h2⟩:=hle;cases q;unfold inA at c;rw[By5]at c;obtain⟨l1,g1⟩:=KU h1;obtain⟨l2,g2⟩:=KU h2;exact .clo f x y x2 y2 (hx.trans l1) (hy.trans l2)
    (λi hi=>iha i (by omega) (g1 i (by omega)).1 (CG c.1 i hi) λz hz=>hs z (by unfold LF;exact BB9 _ ((g1 i (by omega)).2 z hz)))
    λi hi=>ihb i (by omega) (g2 i (by omega)).1 (CG c.2 i hi) λz hz=>hs z (by unfold LF;exact BA9 _ ((g2 i (by omega)).2 z hz))
  |_=>simp[leA]at hle
 |tup x a hx ha ih=>
  intro b' hle c hs;cases b' with
  |top=>exact .top _
  |p y'=>unfold leA at hle;obtain⟨x',d,g⟩:=hle;exact .p _ _ (((Sq.tup x a hx ha).viewP hk u d hs).leP g)
  |tup l2=>unfold leA at hle;obtain⟨l3,q,h1'⟩:=hle;cases q;unfold inA at c;obtain⟨l1,g1⟩:=KU h1';exact .tup x l2 (hx.trans l1) λi hi=>ih i (by omega) (g1 i (by omega)).1 (CG c i hi) λz hz=>hs z (by unfold LF;exact (g1 i (by omega)).2 z hz)
  |_=>simp[leA]at hle
 |agr x a hx h1 ha ih=>
  intro b' hle c hs;cases b' with
  |top=>exact .top _
  |p y'=>unfold leA at hle;obtain⟨x',d,g⟩:=hle;exact .p _ _ (((Sq.agr x a hx h1 ha).viewP hk u d hs).leP g)
  |agr l2=>unfold leA at hle;obtain⟨l3,q,h1'⟩:=hle;cases q;unfold inA at c;obtain⟨l1,g1⟩:=KU h1';exact .agr x l2 (hx.trans l1) (λi hi=>h1 i (by omega)) λi hi=>ih i (by omega) (g1 i (by omega)).1 (CG c i hi) λz hz=>hs z (by unfold LF;exact (g1 i (by omega)).2 z hz)
  |_=>simp[leA]at hle
 |rsl j n b hl h=>
  intro b' hle c hs;cases b' with
  |top=>exact .top _
  |p y'=>unfold leA at hle;obtain⟨x',d,g⟩:=hle;exact .p _ _ (((Sq.rsl j n b hl h).viewP hk u d hs).leP g)
  |rsl j' m'=>unfold leA at hle;obtain⟨i',o,q⟩:=hle;cases q;exact .rsl j' n b (s j' (by unfold inA at c;exact c)) ((t _ _ o).trans h)
  |_=>simp[leA]at hle
 |yf j l hl h=>
  intro b' hle c hs;cases b' with
  |top=>exact .top _
  |p y'=>unfold leA at hle;obtain⟨x',d,g⟩:=hle;exact .p _ _ (((Sq.yf j l hl h).viewP hk u d hs).leP g)
  |yf j'=>unfold leA at hle;obtain⟨i',o,q⟩:=hle;cases q;exact .yf j' l (s j' (by unfold inA at c;exact c)) ((t _ _ o).trans h)
  |_=>simp[leA]at hle
 |top v=>
  intro b' hle c hs;cases b' with
  |top=>exact .top _
  |p y'=>unfold leA at hle;obtain⟨x',d,g⟩:=hle;exact .p _ _ (((Sq.top (live:=live) v).viewP hk u d hs).leP g)
  |_=>simp[leA]at hle
end
def Ay1 (ids:List (Nat×Nat))(rho:Nat->Value)(j:Nat):Value:=match lk ids j with
 |some i=>rho i
 |none=>.slice none 0 0
def Bf0 {Qw:C5}{ids:List (Nat×Nat)}{o p:Obj}(h:leO Qw ids o p){v:Value}{b:Nat}(hb:E5 v p b):E5 v o b/\∀off,JY p off->JY o off:=by
 cases p with
 |cells cs=>obtain⟨cs',rfl,_⟩:=h;exact⟨hb,λ_ h=>h⟩
 |vec e k n f vw=>
  obtain⟨g,vw',rfl,h1,c⟩:=h;refine⟨hb,λoff hp=>?_⟩;cases vw'
  .trivial
  rw[c rfl]at hp;exact hp
 |map es=>subst h;exact⟨hb,λ_ h=>h⟩
 |arr n f=>obtain⟨g,rfl,_⟩:=h;exact⟨hb,λ_ h=>h⟩
 |blk l jr=>obtain⟨_,rfl,_⟩:=h;exact⟨hb,λ_ h=>h⟩
 |fam e n jr x=>obtain⟨_,_,rfl,_⟩:=h;exact⟨hb,λ_ h=>h⟩
 |rows n g=>obtain⟨g',rfl,h1⟩:=h;obtain⟨rv,d,i,a,hb⟩:=hb;exact⟨⟨rv,d,i,a,by rw[h1 i a];exact hb⟩,λ_ _=>trivial⟩
 |_=>simp[E5,N1]at hb
def Sat.le (h:Sat C st a w rho){ids:List (Nat×Nat)}(hle:Le ids st t):Sat C t a w (Ay1 ids rho)/\∀b off,Prv C.X (A1 t.Qw) (Ay1 ids rho) b off->Prv C.X (A1 st.Qw) rho b off:=by
 obtain⟨⟨hwf,hnd,hpin,hpn,hseen⟩,hE,hR⟩:=hle;have hlk:∀j i,lk ids j=some i->Ay1 ids rho j=rho i:=λj i u=>by simp[Ay1,u]
 have hnil:∀j,lk ids j=none->Ay1 ids rho j=.slice none 0 0:=λj u=>by simp[Ay1,u]
 simp only[wf,By5,Bz2]at hwf;obtain⟨⟨⟨_,_⟩,hwe⟩,hwr⟩:=hwf;have hjs:∀j,(t.Qw.map (·.1)).contains j=true->Lv (A1 t.Qw) j:=λj u=>AP1 (by simpa using u);have hown:∀j p b,A1 t.Qw j=some p->E5 (Ay1 ids rho j) p b->∃i o,lk ids j=some i/\A1 st.Qw i=some o/\E5 (rho i) o b/\leO st.Qw ids o p/\∀off,JY p off->JY o off:=by
  intro j p b u hb;rcases Gt hR u with⟨i,o,h1,h2,d⟩ | ⟨h1,e,k,f,vw,rfl⟩
  .rw[hlk j i h1]at hb;obtain⟨h4,h5⟩:=Bf0 d hb;exact⟨i,o,h1,h2,h4,d,h5⟩
  rw[hnil j h1]at hb;simp[E5,N1]at hb
 have hpi:∀b off,Prv C.X (A1 t.Qw) (Ay1 ids rho) b off->Prv C.X (A1 st.Qw) rho b off:=by
  rintro b off (hX|⟨j,p,u,hb,hp⟩)
  .exact .inl hX
  obtain⟨i,o,_,h2,d,_,h5⟩:=hown j p b u hb;exact .inr ⟨i,o,h2,d,h5 off hp⟩
 have hk:Sc w (Prv C.X (A1 st.Qw) rho) w (Prv C.X (A1 t.Qw) (Ay1 ids rho)):=λb o v hp hc=>⟨hc,λhp'=>hp (hpi b o hp')⟩;have hv:∀i,i∈seen st.env t.env++LG ids st.Qw t.Qw->∀e k n f vw base n' cap,A1 st.Qw i=some (.vec e k n f vw)->rho i=.slice base n' cap->n' = n/\∀m,m<=n->Sd w (Prv C.X (A1 t.Qw) (Ay1 ids rho)) (.slice base m cap) (.sl false k m f):=by
  intro i hi e k n f vw base n' cap hri hrho;have hh:=h.hp.holds i _ hri;rw[hrho]at hh;rcases hh with⟨he,rfl⟩ | ⟨b,cap',c,he,h1,h2,d,h4,h5,h6⟩
  .cases he;refine⟨rfl,λm hm=>?_⟩;obtain rfl:m=0:=by omega
   exact .slnil k f
  cases he;refine⟨rfl,λm hm=>?_⟩;refine .sl false b 0 cap k m f (λi j=>c.getD (i*k+j) undef) (by omega) (λi hi=>h5 i (by omega)) (λx y hx hy=>?_) (λx y hx hy=>((h6 x y (by omega) hy).1).keeps hk) none (λ_=>rfl);have hlt:=H3 (show x<n by omega) hy;have hle' : n*k<=c.size:=by rw[d];exact BA6 k h2
  rw[BE1];refine⟨cell_of_heap h1 (by omega),?_,(h6 x y (by omega) hy).2⟩;rintro (hX|⟨j,p,u,hb,hp⟩)
  .exact h.hp.out i _ b _ hri (by simp[E5,N1,hrho]) hX
  obtain⟨i',o,h7,h8,h9,h10,h11⟩:=hown j p b u hb
  have:=h.hp.sep i' i o _ b h8 hri h9 (by simp[E5,N1,hrho])
  subst this;rw[hri]at h8;cases h8;cases p with
  |vec e2 k2 n2 f2 vw2=>
   obtain⟨g,vw',he,h12,h13⟩:=h10;cases he;cases vw2
   .exact Tn hseen (OZ u) h7 hi
   simp only[JY]at hp;omega
  |cells cs=>obtain⟨cs',he,_⟩:=h10;cases he
  |map es=>cases h10
  |arr n f=>obtain⟨g,he,_⟩:=h10;cases he
  |blk l jr=>obtain⟨_,he,_⟩:=h10;cases he
  |ghost cs=>obtain⟨cs',he,_⟩:=h10;cases he
  |yld r b=>cases h10
  |fam e n jr x=>obtain⟨_,_,he,_⟩:=h10;cases he
  |rows n g=>obtain⟨_,he,_⟩:=h10;cases he
  |dead=>simp[E5,N1]at hb
 have hA:∀{v:Value}{x:AV},RS C st w rho v x->∀{y:AV},leA st.Qw ids x y->inA (t.Qw.map (·.1)) y=true->(∀i∈LF x y,i∈seen st.env t.env++LG ids st.Qw t.Qw)->Sq w (Prv C.X (A1 t.Qw) (Ay1 ids rho)) (Lv (A1 t.Qw)) (Ay1 ids rho) v y:=
  λhx y hle hin hs=>hx.le (live':=Lv (A1 t.Qw)) hk hlk hnil hjs hv hle hin hs
 have hseenR:∀{r:C5}{j i:Nat}{cs cs' : List AV},(∀(q:Nat) (p:Obj),(q,p)∈r->(q,p)∈t.Qw)->lk ids j=some i->((j,Obj.cells cs)∈r/\A1 st.Qw i=some (.cells cs') \/ (j,Obj.ghost cs)∈r/\A1 st.Qw i=some (.ghost cs'))->∀x∈Pn cs' cs,x∈LG ids st.Qw r:=by
  intro r
  induction r with
  |nil=>intro j i cs cs' _ _ h;simp at h
  |cons p r ih=>
   intro j i cs cs' hsub hi hm x hx;obtain⟨q,p⟩:=p;have hrec:((j,Obj.cells cs)∈r/\A1 st.Qw i=some (.cells cs') \/ (j,Obj.ghost cs)∈r/\A1 st.Qw i=some (.ghost cs'))->x∈LG ids st.Qw r:=λhm'=>ih (λq p hqp=>hsub q p (BB4 _ hqp)) hi hm' x hx;rcases hm with⟨hm,hr⟩ | ⟨hm,hr⟩
   .rcases BC1.1 hm with he|hm
    .cases he;simp only[LG,hi,hr];exact BB9 _ hx
    have:=hrec (.inl ⟨hm,hr⟩)
    cases p<;>simp only[LG]<;>first|exact BA9 _ this|exact this
   rcases BC1.1 hm with he|hm
   .cases he;simp only[LG,hi,hr];exact BB9 _ hx
   have:=hrec (.inr ⟨hm,hr⟩)
   cases p<;>simp only[LG]<;>first|exact BA9 _ this|exact this
 refine⟨⟨⟨⟨?_,?_,?_,λb off hX=>h.hp.bound b off hX⟩,h.ext,h.size,h.same,h.keep.trans hk,?_,?_⟩,?_,?_,h.marks⟩,hpi⟩
 .intro j p u;rcases Gt hR u with⟨i,o,h1,h2,d⟩ | ⟨h1,e,k,f,vw,rfl⟩
  .rw[hlk j i h1];have hh:=h.hp.holds i o h2;have hmem:=OZ u;have hin:=hwr _ hmem;cases p with
   |cells cs=>obtain⟨cs',rfl,hl⟩:=d;obtain⟨l1,g1⟩:=KU hl;obtain⟨b,c,T,hb,h4,h5,h6⟩:=hh;refine⟨b,c,T,hb,h4,h5.trans l1,λq s=>⟨?_,(h6 q (by omega)).2⟩⟩;refine hA (h6 q (by omega)).1 (g1 q (by omega)).1 (CG hin q s) λz hz=>BA9 _ ?_;exact hseenR (λ_ _ h=>h) h1 (.inl ⟨hmem,h2⟩) z ((g1 q (by omega)).2 z hz)
   |vec e k n f vw=>
    obtain⟨g,vw',rfl,h4,h5⟩:=d;rcases hh with hn|⟨b,cap,c,hb,h6,h7,h8,h9,h10,h11⟩
    .exact .inl hn
    exact .inr ⟨b,cap,c,hb,h6,h7,h8,h9,λq s=>by rw[<- h4 q s];exact h10 q s,λq r s hr=>by rw[<- h4 q s];exact⟨(h11 q r s hr).1.keeps hk,(h11 q r s hr).2⟩⟩
   |map es=>have d:o=.map es:=d;subst d;obtain⟨b,Sg,clock,hb,h4,h5,h6,h9⟩:=hh;exact⟨b,Sg,clock,hb,h4,h5,λq s=>⟨(h6 q s).1.keeps hk,(h6 q s).2.keeps hk⟩,h9⟩
   |blk l jr=>obtain⟨jr',rfl,h4⟩:=d;obtain⟨g1,g2,b,hb,h5⟩:=hh;simp only[inO]at hin;exact⟨hjs jr hin,by rw[hlk _ _ h4];exact g2,b,hb,by rw[hlk _ _ h4];exact h5⟩
   |arr n f=>obtain⟨g,rfl,h7⟩:=d;obtain⟨b,c,T,hb,h4,h5,h6⟩:=hh;exact⟨b,c,T,hb,h4,h5,λq s=>by rw[<- h7 q s];exact⟨(h6 q s).1.keeps hk,(h6 q s).2⟩⟩
   |ghost cs=>obtain⟨cs',rfl,hl⟩:=d;obtain⟨l1,g1⟩:=KU hl;obtain⟨vs,hb,h5,h6⟩:=hh;refine⟨vs,hb,h5.trans l1,λq s=>?_⟩;refine hA (h6 q (by omega)) (g1 q (by omega)).1 (CG hin q s) λz hz=>BA9 _ ?_;exact hseenR (λ_ _ h=>h) h1 (.inr ⟨hmem,h2⟩) z ((g1 q (by omega)).2 z hz)
   |yld r b=>have d:o=.yld r b:=d;subst d;exact hh
   |fam e n jr x=>
    obtain⟨jr',x',rfl,h4,h5⟩:=d;obtain⟨rv,g1,g2,hv2⟩:=hh;simp only[inO,By5]at hin;refine⟨rv,hjs jr hin.1,(hlk _ _ h4).trans g2,?_⟩;rcases hv2 with hv2|⟨b,cap,c,hb,k1,k2,k3,k4,k5,k6⟩
    .exact .inl hv2
    refine .inr ⟨b,cap,c,hb,k1,k2,k3,k4,?_,?_⟩
    .intro q s;refine⟨(k5 q s).1,λhx=>(k5 q s).2 ?_⟩;cases x with
     |none=>subst h5;exact hx
     |some y=>obtain⟨a',rfl,_⟩:=h5;exact hx
    cases x with
    |none=>trivial
    |some q=>obtain⟨i,a⟩:=q;obtain⟨a',rfl,h6,h7⟩:=h5;refine hA k6 h7 hin.2 λz hz=>?_;cases a<;>cases a'<;>first|(simp[nov]at h6;done)|(unfold LF at hz;simp at hz)
   |rows n g=>obtain⟨g',rfl,h4⟩:=d;obtain⟨rv,hb,k1,k2⟩:=hh;refine⟨rv,hb,λq s=>by rw[<- h4 q s];exact (k1 q s).keeps' hk λ_ _=>rfl,λq l b s hl h8 h9=>?_⟩;rw[<- h4 q s]at h8;rw[<- h4 l hl]at h9;exact k2 q l b s hl h8 h9
   |dead=>trivial
  rw[hnil j h1];exact .inl ⟨rfl,rfl⟩
 .intro i j oi oj b hi u hbi hbj;obtain⟨i',o1,h1,h2,d,_⟩:=hown i oi b hi hbi;obtain⟨j',o2,h4,h5,h6,_⟩:=hown j oj b u hbj
  have:=h.hp.sep i' j' o1 o2 b h2 h5 d h6
  subst this;exact Bo7 hnd h1 h4
 .intro j p b off u hb;obtain⟨i,o,_,h2,d,_⟩:=hown j p b u hb;exact h.hp.out i o b off h2 d
 .rintro b ⟨j,p,u,hb⟩;obtain⟨i,o,_,h2,d,_⟩:=hown j p b u hb;exact h.own b ⟨i,o,h2,d⟩
 .intro j r b u;rcases Gt hR u with⟨i,o,h1,h2,d⟩ | ⟨h1,e,k,f,vw,he⟩
  .have d:o=.yld r b:=d;subst d;rw[hlk j i h1];exact h.yld i r b h2
  cases he
 .intro x;rcases Xc hE x with⟨b,h1,h2,d,h4⟩ | h1
  .rw[h2];exact hA (h.env x) d (hwe _ h1) λz hz=>BB9 _ (h4 z hz)
  rw[h1];exact .top _
 intro j u hl;obtain⟨p,hp⟩:=BA1.1 hl;rcases Gt hR hp with⟨i,o,h1,h2,d⟩ | ⟨h1,_⟩
 .have:=Bo8 hpin h1 u
  subst this;rw[hlk _ _ h1];exact h.pin _ u (by simp[Lv,h2])
 exfalso
 have:∀{r:C5},Tb ids r=true->(j,p)∈r->False:=by
  intro r
  induction r with
  |nil=>intro _ hm;simp at hm
  |cons q r ih=>
   intro s hm;obtain⟨x,y⟩:=q;simp only[Tb,By5,BA4,decide_eq_true_eq]at s;rcases BC1.1 hm with he|hm
   .cases he;rcases s.1 with h5|h5
    .rw[h1]at h5;cases h5
    omega
   exact ih s.2 hm
 exact this hpn (OZ hp)
def semUp.le {ids:List (Nat×Nat)}{K:St->Prop}(hle:Le ids st t)(b:K t):semUp st K:=λC a w rho hs=>⟨t,_,b,(hs.le hle).2,(hs.le hle).1⟩
end
def AP2 (j n j' : Nat)(env:Env)(t:Nat):get (AY4 j n j' env) t=AN1 j n j' (get env t):=by
 induction env with
 |nil=>rfl
 |cons p r ih=>
  obtain⟨i,b⟩:=p;simp only[AY4,get];split
  .rfl
  exact ih
def AB8 (j n j' : Nat)(Qw:C5)(t:Nat):A1 (Ah9 j n j' Qw) t=(A1 Qw t).map (Bl7 j n j'):=by
 induction Qw with
 |nil=>rfl
 |cons p r ih=>
  obtain⟨i,b⟩:=p;simp only[Ah9,A1];split
  .rfl
  exact ih
def UI (j n j' : Nat):∀l:List AV,(AY5 j n j' l).length=l.length
 |[]=>rfl
 |_::r=>congrArg (· + 1) (UI j n j' r)
def Ai9 (j n j' : Nat):∀(l:List AV) (i:Nat),(AY5 j n j' l).getD i .top=AN1 j n j' (l.getD i .top)
 |[],i=>by simp[AY5,AN1]
 |a::r,0=>rfl
 |a::r,i+1=>by simpa[AY5]using Ai9 j n j' r i
def Aj0 {w:World}{Pi Pi' : Nat->Nat->Prop}{live live' : Nat->Prop}{rho rho' : Nat->Value}{j n j' : Nat}(hk:Sc w Pi w Pi')(hl:∀i,live i->live' i/\rho' i=rho i)(b:live' j')
 (c:∀base N cap,rho j=.slice base N cap->rho' j' = .slice base n cap) {v:Value}{x:AV}(h:Sq w Pi live rho v x):Sq w Pi' live' rho' v (AN1 j n j' x):=by
 have a:=h.keeps hk hl;cases h with
 |vecp i m base N cap hl' hr hm=>
  simp only[AN1];split
  .rename_i e;obtain⟨rfl,rfl⟩:=e;exact .vec j' base _ cap b (c _ _ _ hr)
  exact a
 |_=>exact a
def semUp.trunc {st:St}{j j' n N k:Nat}{e:TypeId}{f:Nat->List PV}{K:St->Prop}(hj:A1 st.Qw j=some (.vec e k N f false))(hn:n<=N)(hf:A1 st.Qw j' = none)(h1:1000<=j')
 (hK:K ⟨AY4 j n j' st.env,ins j' (.vec e k n f false) (ins j .dead (Ah9 j n j' st.Qw))⟩):semUp st K:=λC a w rho hs=>by
 have hne:j≠j':=by rintro rfl;rw[hj]at hf;cases hf
 obtain⟨rho',y,x⟩:∃rho' : Nat->Value,(∀i,i≠j' -> rho' i=rho i)/\∀base M cap,rho j=.slice base M cap->rho' j' = .slice base n cap:=
  ⟨λi=>if i=j' then (match rho j with | .slice b _ c=>.slice b n c|v=>v)else rho i,λi d=>Hj d,λbase M cap h=>by simp only[Lc,h]⟩
 have m:∀i,A1 (ins j' (.vec e k n f false) (ins j .dead (Ah9 j n j' st.Qw))) i=if j' = i then some (.vec e k n f false)else if j=i then some .dead else (A1 st.Qw i).map (Bl7 j n j'):=λi=>by rw[A3,A3,AB8]
 have s:=hs.hp.holds j _ hj;have hblk:E5 (rho' j') (.vec e k n f false)=E5 (rho j) (.vec e k N f false):=by rcases s with⟨h,_⟩ | ⟨b,cap,c,h,_⟩<;>rw[x _ _ _ h,h]<;>rfl
 have z:∀i oi b off,(i=j \/ i=j' \/ ∃cs,A1 st.Qw i=some (.cells cs))->A1 st.Qw i=some oi->E5 (rho i) oi b->Prv C.X (A1 st.Qw) rho b off:=by
  rintro i oi b off (rfl|rfl|⟨cs,hc⟩) g hb
  .rw[hj]at g;cases g;exact .inr ⟨_,_,hj,hb,trivial⟩
  .rw[hf]at g;cases g
  rw[hc]at g;cases g;exact .inr ⟨_,_,hc,hb,trivial⟩
 have u:∀i o b,A1 (ins j' (.vec e k n f false) (ins j .dead (Ah9 j n j' st.Qw))) i=some o->E5 (rho' i) o b ->
  ∃i0 o0,A1 st.Qw i0=some o0/\E5 (rho i0) o0 b/\(i=j' /\ i0=j \/ i≠j' /\ i0=i)/\(∀off,JY o off->JY o0 off):=by
  intro i o b g hb;rw[m]at g;split at g
  .rename_i e1;subst e1;cases g;rw[hblk]at hb;exact⟨j,_,hj,hb,.inl ⟨rfl,rfl⟩,λ_ h=>h⟩
  rename_i e1;split at g
  .cases g;cases hb
  obtain⟨o0,a0,rfl⟩:=BB6.1 g;rw[y i (λh=>e1 h.symm)]at hb;refine⟨i,o0,a0,?_,.inr ⟨λh=>e1 h.symm,rfl⟩,?_⟩
  .cases o0<;>exact hb
  cases o0<;>exact λ_ h=>h
 have q:∀i,Lv (A1 st.Qw) i->Lv (A1 (ins j' (.vec e k n f false) (ins j .dead (Ah9 j n j' st.Qw)))) i/\rho' i=rho i:=by
  intro i d;have hij:i≠j':=by rintro rfl;unfold Lv at d;rw[hf]at d;cases d
  refine⟨?_,y i hij⟩;unfold Lv at d⊢;rw[m,Hj (λh=>hij h.symm)];split
  .rfl
  simpa using d
 have hlj:Lv (A1 (ins j' (.vec e k n f false) (ins j .dead (Ah9 j n j' st.Qw)))) j':=by unfold Lv;rw[m,Gy rfl];rfl
 obtain⟨h2,hk⟩:=hs.step (D:=λi=>i=j \/ i=j' \/ ∃cs,A1 st.Qw i=some (.cells cs)) (R':=ins j' (.vec e k n f false) (ins j .dead (Ah9 j n j' st.Qw))) (rho':=rho') (w':=w)
  (λi d=>by
   rw[m,Hj (λh=>d (.inr (.inl h.symm))),Hj (λh=>d (.inl h.symm))];cases g:A1 st.Qw i with
   |none=>rfl
   |some o=>cases o<;>first|rfl|exact Ij (.inr (.inr ⟨_,g⟩)) d)
  q (Bz5 _)
  (λi d hl=>by
   unfold Lv at d hl;rw[m]at hl;split at hl
   .rename_i e1;omega
   split at hl
   .rename_i e1 e2;subst e2;rw[hj]at d;exact Ij rfl d
   exact Ij (by simpa using hl) d)
  (λi r b d=>by
   rw[m];split
   .simp
   rename_i e1;split
   .simp
   rename_i e2;rcases d with rfl|rfl|⟨cs,hc⟩
   .exact Ij rfl e2
   .exact Ij rfl e1
   rw[hc];simp[Bl7])
  (λ_ _ _=>rfl)
  (λi o b d g hb=>by
   obtain⟨i0,o0,g1,g2,g3,_⟩:=u i o b g hb;refine .inl ⟨i0,o0,?_,g1,g2⟩;rcases g3 with⟨rfl,rfl⟩ | ⟨g3,rfl⟩
   .exact .inl rfl
   exact d)
  (λi i' oi oj b d hi' g ho' hb hb'=>by
   obtain⟨i0,o0,g1,g2,g3,_⟩:=u i oi b g hb;obtain⟨i1,o1,g1',g2',g3',_⟩:=u i' oj b ho' hb';have a1:=hs.hp.sep i0 i1 o0 o1 b g1 g1' g2 g2';have hd:∀i o,A1 (ins j' (.vec e k n f false) (ins j .dead (Ah9 j n j' st.Qw))) i=some o->E5 (rho' i) o b->i≠j:=by rintro i o g hb rfl;rw[m,Hj (λh=>hne h.symm),Gy rfl]at g;cases g;cases hb
   have d1:=hd i oi g hb;have d2:=hd i' oj ho' hb';rcases g3 with⟨rfl,rfl⟩ | ⟨g3,rfl⟩<;>rcases g3' with⟨rfl,rfl⟩ | ⟨g3',rfl⟩
   .rfl
   .exact Ij a1.symm d2
   .exact Ij a1 d1
   exact a1)
  (λi oi b off v d g hb hp hc=>Ij (z i oi b off d g hb) hp)
  (λhk i o d g=>by
   rw[m]at g;split at g
   .rename_i e1;subst e1;cases g;have s:=s.keeps (w':=w) hk (λi d=>q i d) (λ_ _=>rfl);rcases s with⟨h,h0⟩ | ⟨b,cap,c,h,g1,g2,g3,g4,g5,g6⟩
    .refine .inl ⟨?_,by omega⟩
     have:=x _ _ _ h
     rw[this]
     have:n=0:=by omega
     rw[this]
    exact .inr ⟨b,cap,c,x _ _ _ h,g1,by omega,g3,g4,λi d=>g5 i (by omega),λi l d hl=>g6 i l (by omega) hl⟩
   rename_i e1;split at g
   .cases g;trivial
   rename_i e2;obtain⟨o0,a0,rfl⟩:=BB6.1 g;rw[y i (λh=>e1 h.symm)];have hh:=hs.hp.holds i _ a0;cases o0 with
   |cells cs=>obtain⟨b,c,T,g0,g1,g2,g3⟩:=hh;refine⟨b,c,T,g0,g1,by rw[UI];exact g2,λl hl=>?_⟩;rw[UI]at hl;rw[Ai9];exact⟨Aj0 hk q hlj x (g3 l hl).1,(g3 l hl).2⟩
   |_=>exact hh.keeps hk (λi d=>q i d) (λ_ _=>rfl))
 refine⟨_,rho',hK,?_,⟨h2.toSatE,λt=>?_,h2.pin,h2.marks⟩⟩
 .rintro b off (hX|⟨i,o,d,hb,hp⟩)
  .exact .inl hX
  obtain⟨i0,o0,g1,g2,_,g4⟩:=u i o b d hb;exact .inr ⟨i0,o0,g1,g2,g4 off hp⟩
 show Sq w _ _ rho' (a.tmps.getD t undef) (get (AY4 j n j' st.env) t);rw[AP2];exact Aj0 hk q hlj x (hs.env t)
def Aj1 {w:World}{Pi Pi' : Nat->Nat->Prop}{live:Nat->Prop}{rho:Nat->Value}{v:Value}{o:Obj}{x:PV}(h:rowV w Pi live rho v o)(hp:RG o=some x)(hk:Sc w Pi w Pi')
 (hb:∀b,N1 v o=some b->∀off,¬Pi' b off):Sd w Pi' v x:=by
 unfold RG at hp;split at hp
 .rename_i e k n f;cases hp;rcases h with⟨rfl,rfl⟩ | ⟨b,cap,c,rfl,h1,d,m,s,q,g⟩
  .exact .slnil _ _
  refine .sl false b 0 cap k n f (λi j=>c.getD (i*k+j) undef) d q (λi l a hl=>?_) (λi l a hl=>(g i l a hl).1.keeps hk) none (λ_=>rfl);have r:=H3 a hl;have hle:n*k<=c.size:=by rw[m];exact BA6 k d
  rw[BE1];exact⟨cell_of_heap h1 (by omega),hb b rfl _,(g i l a hl).2⟩
 .cases hp;exact h.keeps hk
 cases hp
section
variable {st t:St}{j jr j' i:Nat}{g:Nat->Obj}{c:List Prop}{K:St->Prop}
def semUp.famF (he:W0 (.fam j jr g) st=some (c,t))(hc:C6 c)(hK:K t):semUp st K:=λC a w rho hs=>by
 simp only[W0]at he;split at he
 .rename_i e n f hj hf;cases he;obtain⟨h1,hrow⟩:=hc;have a1:j≠jr:=by rintro rfl;rw[hj]at hf;cases hf
  obtain⟨rv,hrv⟩:∃rv:Array Value,(rho j=.slice none 0 0/\n=0) \/ ∃b cap,rho j=.slice (some ⟨b,0,none⟩) n cap/\w.heap[b]? = some (.cells rv e (0,0))/\n<=cap/\rv.size=cap/\cap<=maxLen /\
   ∀i,i<n->(∃x,f i=[x]/\Sd w (PiS C st rho) (rv.getD i undef) x)/\(rv.getD i undef).oneCell' = true:=by
   rcases hs.hp.holds j _ hj with⟨h,h0⟩ | ⟨b,cap,c,h,g1,g2,g3,g4,g5,g6⟩
   .exact⟨#[],.inl ⟨h,h0⟩⟩
   refine⟨c,.inr ⟨b,cap,h,g1,g2,by simpa using g3,g4,λi v=>?_⟩⟩;obtain⟨x,hx⟩:=BM1.1 (g5 i v)
   have:=g6 i 0 v (by omega)
   rw[hx,BH5,BG2]at this;exact⟨⟨x,hx,this.1⟩,this.2⟩
  have z:∀i,i<n->N1 (rv.getD i undef) (g i)=none/\∀{Pi' live' rho'},Sc w (PiS C st rho) w Pi' -> rowV w Pi' live' rho' (rv.getD i undef) (g i):=by
   intro i v;have hr:=hrow i v;rcases hrv with⟨_,h0⟩ | ⟨b,cap,_,_,_,_,_,hx⟩
   .omega
   obtain⟨⟨x,hfx,hx⟩,_⟩:=hx i v;rw[hfx]at hr;unfold Po at hr;split at hr
   .rename_i hgi;cases hr;rw[hx.toV,hgi];exact⟨rfl,λ_=>.inl ⟨rfl,rfl⟩⟩
   .rename_i y hgi;obtain⟨hr,_⟩:=hr;cases hr;rw[hgi];exact⟨rfl,λhk=>hx.keeps hk⟩
   exact hr.elim
  have s:∀q,A1 (ins jr (.rows n g) (ins j (.fam e n jr none) st.Qw)) q=if jr=q then some (.rows n g)else if j=q then some (.fam e n jr none)else A1 st.Qw q:=λq=>by rw[A3,A3]
  obtain⟨rho',hr'⟩:∃rho' : Nat->Value,rho' = λq=>if q=jr then .agg rv else rho q:=⟨_,rfl⟩
  have hr1:rho' jr=.agg rv:=by rw[hr'];exact Gy rfl
  have hr2:∀q,q≠jr->rho' q=rho q:=λq d=>by rw[hr'];exact Hj d
  have hlive:∀q,Lv (A1 st.Qw) q->Lv (A1 (ins jr (.rows n g) (ins j (.fam e n jr none) st.Qw))) q/\rho' q=rho q:=λq d=>
   ⟨EL (EL d),hr2 q (by rintro rfl;unfold Lv at d;rw[hf]at d;cases d)⟩
  have a0:∀q o b,(q=j \/ q=jr)->A1 (ins jr (.rows n g) (ins j (.fam e n jr none) st.Qw)) q=some o->E5 (rho' q) o b->q=j/\E5 (rho j) (.vec e 1 n f false) b:=by
   intro q o b d m hb;rw[s]at m;split at m
   .rename_i e1;subst e1;cases m;rw[hr1]at hb;obtain⟨rv',he,i,v,hb⟩:=hb;cases he;rw[(z i v).1]at hb;cases hb
   rename_i e1;obtain rfl:q=j:=d.resolve_right λe=>e1 e.symm;rw[Gy rfl]at m;cases m;rw[hr2 q a1]at hb;exact⟨rfl,hb⟩
  obtain⟨h2,h3⟩:=hs.re (λq=>q=j \/ q=jr) (R':=ins jr (.rows n g) (ins j (.fam e n jr none) st.Qw)) (rho':=rho')
   (λq d=>by rw[s,Hj (λe=>d (.inr e.symm)),Hj (λe=>d (.inl e.symm))]) hlive
   (λq d u=>by
    rcases EM u with rfl|u
    .exact h1
    rcases EM u with rfl|u
    .exact Ij (Pz hj) d
    exact Ij u d)
   (λq r b d=>by rw[s];rcases d with rfl|rfl<;>simp[a1,BC5 a1])
   (λq o b d m hb=>by obtain⟨rfl,h⟩:=a0 q o b d m hb;exact⟨q,_,.inl rfl,hj,h⟩)
   (λq q' o o' b d u m ho' hb hb'=>by rw[(a0 q o b d m hb).1,(a0 q' o' b u ho' hb').1])
   (λq o d m off=>by
    rcases d with rfl|rfl
    .rw[hj]at m;cases m;trivial
    rw[hf]at m;cases m)
   (λ_ hk q o d m=>by
    rw[s]at m;split at m
    .rename_i e1;subst e1;cases m;rw[hr1];exact⟨rv,rfl,λi v=>(z i v).2 hk,λi l b v hl hb _=>by rw[(z i v).1]at hb;cases hb⟩
    rename_i e1;obtain rfl:q=j:=d.resolve_right λe=>e1 e.symm;rw[Gy rfl]at m;cases m;rw[hr2 q a1];refine⟨rv,by unfold Lv;rw[s,Gy rfl];rfl,hr1,?_⟩;rcases hrv with h|⟨b,cap,g1,g2,g3,g4,g5,g6⟩
    .exact .inl h
    exact .inr ⟨b,cap,rv,g1,g2,g3,g4,g5,λi v=>⟨(g6 i v).2,λ_=>rfl⟩,trivial⟩)
  exact⟨_,rho',hK,h3,h2⟩
 cases he
def semUp.famO (z:W0 (.over j i) st=some (c,t))(hc:C6 c)(hK:K t):semUp st K:=λC a w rho hs=>by
 simp only[W0]at z;split at z
 .rename_i e n jr hj;split at z
  .rename_i m g x;cases z;obtain⟨rfl,hi0⟩:=hc;have hne:j≠jr:=by rintro rfl;rw[hj]at x;cases x
   obtain⟨rv,l1,l2,hfam⟩:=hs.hp.holds j _ hj;obtain⟨rv',e1,hrow,hdis⟩:=hs.hp.holds jr _ x;rw[l2]at e1;cases e1;have v:∀q,A1 (ins jr (.rows m λl=>if l=i then .dead else g l) (ins j (.fam e m jr (some (i,.top))) st.Qw)) q=if jr=q then some (.rows m λl=>if l=i then .dead else g l)else if j=q then some (.fam e m jr (some (i,.top)))else A1 st.Qw q:=λq=>by rw[A3,A3]
   have s:∀l b,N1 (rv.getD l undef) (if l=i then .dead else g l)=some b->N1 (rv.getD l undef) (g l)=some b:=by
    intro l b h;split at h
    .cases h
    exact h
   have y:∀q o b,(q=j \/ q=jr)->A1 (ins jr (.rows m λl=>if l=i then .dead else g l) (ins j (.fam e m jr (some (i,.top))) st.Qw)) q=some o->E5 (rho q) o b->∃oi,A1 st.Qw q=some oi/\E5 (rho q) oi b:=by
    intro q o b d f hb;rw[v]at f;split at f
    .rename_i e1;subst e1;cases f;obtain⟨rv',z,l,hl,hb⟩:=hb;exact⟨_,x,rv',z,l,hl,by rw[l2]at z;cases z;exact s l b hb⟩
    rename_i e1;obtain rfl:q=j:=d.resolve_right λe=>e1 e.symm;rw[Gy rfl]at f;cases f;exact⟨_,hj,hb⟩
   obtain⟨h2,h3⟩:=hs.re (λq=>q=j \/ q=jr) (R':=ins jr (.rows m λl=>if l=i then .dead else g l) (ins j (.fam e m jr (some (i,.top))) st.Qw)) (rho':=rho)
    (λq d=>by rw[v,Hj (λe=>d (.inr e.symm)),Hj (λe=>d (.inl e.symm))]) (λq d=>⟨EL (EL d),rfl⟩)
    (λq d u=>by
     rcases EM u with rfl|u
     .exact Ij (Pz x) d
     rcases EM u with rfl|u
     .exact Ij (Pz hj) d
     exact Ij u d)
    (λq r b d=>by rw[v];rcases d with rfl|rfl<;>simp[hne,BC5 hne])
    (λq o b d f hb=>by obtain⟨oi,h,h'⟩:=y q o b d f hb;exact⟨q,oi,d,h,h'⟩)
    (λq q' o o' b d u f ho' hb a0=>by obtain⟨o1,g1,g2⟩:=y q o b d f hb;obtain⟨o2,g3,g4⟩:=y q' o' b u ho' a0;exact hs.hp.sep q q' o1 o2 b g1 g3 g2 g4)
    (λq o d f off=>by
     rcases d with rfl|rfl
     .rw[hj]at f;cases f;trivial
     rw[x]at f;cases f;trivial)
    (λ_ hk q o d f=>by
     rw[v]at f;split at f
     .rename_i e1;subst e1;cases f;refine⟨rv,l2,λl hl=>?_,λl l' b hl hl' hb a0=>hdis l l' b hl hl' (s l b hb) (s l' b a0)⟩;by_cases e:l=i
      .simp only[Gy e];trivial
      simp only[Hj e];exact (hrow l hl).keeps' hk λ_ _=>rfl
     rename_i e1;obtain rfl:q=j:=d.resolve_right λe=>e1 e.symm;rw[Gy rfl]at f;cases f;refine⟨rv,EL (EL l1),l2,?_⟩;rcases hfam with h|⟨b,cap,c,g1,g2,g3,g4,g5,g6,g7⟩
     .exact .inl h
     exact .inr ⟨b,cap,c,g1,g2,g3,g4,g5,λl hl=>⟨(g6 l hl).1,λ_=>(g6 l hl).2 (by simp)⟩,.top _⟩)
   exact⟨_,rho,hK,h3,h2⟩
  cases z
 cases z
def semUp.famP (he:W0 (.pub j) st=some (c,t))(hc:C6 c)(hK:K t):semUp st K:=λC a w rho hs=>by
 simp only[W0]at he;split at he
 .rename_i e n jr hj;split at he
  .rename_i m g s;cases he;obtain⟨rfl,hpr⟩:=hc;have hne:j≠jr:=by rintro rfl;rw[hj]at s;cases s
   obtain⟨rv,l1,l2,hfam⟩:=hs.hp.holds j _ hj;obtain⟨rv',e1,hrow,hdis⟩:=hs.hp.holds jr _ s;rw[l2]at e1;cases e1;have u:∀q,A1 (ins jr .dead (ins j (.vec e 1 m (λi=>[(RG (g i)).getD default]) false) st.Qw)) q=if jr=q then some .dead else if j=q then some (.vec e 1 m (λi=>[(RG (g i)).getD default]) false)else A1 st.Qw q:=λq=>by rw[A3,A3]
   have v:∀q o b,A1 (ins jr .dead (ins j (.vec e 1 m (λi=>[(RG (g i)).getD default]) false) st.Qw)) q=some o->E5 (rho q) o b->q≠jr/\∃oi,A1 st.Qw q=some oi/\E5 (rho q) oi b:=by
    intro q o b d hb;rw[u]at d;split at d
    .cases d;cases hb
    rename_i e1;refine⟨λe=>e1 e.symm,?_⟩;split at d
    .rename_i e2;subst e2;cases d;exact⟨_,hj,hb⟩
    exact⟨_,d,hb⟩
   obtain⟨h2,h3⟩:=hs.re (λq=>q=j \/ q=jr) (R':=ins jr .dead (ins j (.vec e 1 m (λi=>[(RG (g i)).getD default]) false) st.Qw)) (rho':=rho)
    (λq f=>by rw[u,Hj (λe=>f (.inr e.symm)),Hj (λe=>f (.inl e.symm))]) (λq f=>⟨EL (EL f),rfl⟩)
    (λq f y=>by
     rcases EM y with rfl|y
     .exact Ij (Pz s) f
     rcases EM y with rfl|y
     .exact Ij (Pz hj) f
     exact Ij y f)
    (λq r b f=>by rw[u];rcases f with rfl|rfl<;>simp[hne,BC5 hne])
    (λq o b f d hb=>by obtain⟨_,oi,h,h'⟩:=v q o b d hb;exact⟨q,oi,f,h,h'⟩)
    (λq q' o o' b f y d ho' hb z=>by obtain⟨_,o1,g1,g2⟩:=v q o b d hb;obtain⟨_,o2,g3,g4⟩:=v q' o' b ho' z;exact hs.hp.sep q q' o1 o2 b g1 g3 g2 g4)
    (λq o f d off=>by
     rcases f with rfl|rfl
     .rw[hj]at d;cases d;trivial
     rw[s]at d;cases d;trivial)
    (λ_ hk q o f d=>by
     rw[u]at d;split at d
     .cases d;trivial
     rename_i e1;obtain rfl:q=j:=f.resolve_right λe=>e1 e.symm;rw[Gy rfl]at d;cases d;rcases hfam with h|⟨b,cap,c,g1,g2,g3,g4,g5,g6,g7⟩
     .exact .inl h
     refine .inr ⟨b,cap,c,g1,g2,g3,by omega,g5,λ_ _=>rfl,λi l hi hl=>?_⟩;obtain rfl:l=0:=by omega
     rw[BH5,BG2];refine⟨?_,(g6 i hi).1⟩;rw[(g6 i hi).2 (by simp)];obtain⟨x,hx⟩:=BA1.1 (hpr i hi);show Sd w _ _ ((RG (g i)).getD default);rw[hx];refine Aj1 (hrow i hi) hx hk λb' z off hp=>?_;have hbr:E5 (rho jr) (.rows m g) b':=⟨rv,l2,i,hi,z⟩;rcases hp with hX|⟨q',o',h5,h6,_⟩
     .exact hs.hp.out jr _ b' off s hbr hX
     obtain⟨h7,oi,h8,h9⟩:=v q' o' b' h5 h6;exact h7 (hs.hp.sep q' jr oi _ b' h8 s h9 hbr))
   exact⟨_,rho,hK,h3,h2⟩
  cases he
 cases he
def AB9 {o o' : Obj}{a:AV}(h:rowA j' o=some (a,o')):(∀v b,N1 v o' = some b->N1 v o=some b)/\(∀off,JY o' off)/\(∀r b,o' ≠ .yld r b)/\(∀n g,o' ≠ .rows n g) /\
 ∀{w Pi Pi' live live' rho rho' v},Sc w Pi w Pi' -> rowV w Pi live rho v o->live' j' -> rho' j' = v->Sr w Pi' live' rho' v o' /\ Sq w Pi' live' rho' v a:=by
 unfold rowA at h;split at h
 .rename_i e k n f;cases h;refine⟨λ_ _ h=>h,λ_=>trivial,λ_ _ h=>(nomatch h),λ_ _ h=>(nomatch h),λhk c hl d=>?_⟩;refine⟨c.keeps' hk λ_ _=>rfl,?_⟩;obtain⟨base,cap,hs⟩:=LI (vw:=false) (e:=e) (k:=k) (n:=n) (f:=f) c;rw[hs]at d⊢;exact .vec j' _ _ _ hl d
 .rename_i es;cases h;refine⟨λ_ _ h=>h,λ_=>trivial,λ_ _ h=>(nomatch h),λ_ _ h=>(nomatch h),λhk c hl d=>?_⟩;refine⟨c.keeps' hk λ_ _=>rfl,?_⟩;obtain⟨b,Sg,clock,hs,_⟩:=c;rw[hs]at d⊢;exact .Se j' b hl d
 .cases h;exact⟨λ_ _ h=>(nomatch h),λ_=>trivial,λ_ _ h=>(nomatch h),λ_ _ h=>(nomatch h),λhk c hl d=>⟨trivial,.p _ _ (c.keeps hk)⟩⟩
 cases h
def AP3 {v:Value}{o:Obj}(h:∀n g,o ≠ .rows n g){b:Nat}(hb:E5 v o b):N1 v o=some b:=by
 cases o with
 |rows n g=>exact Ij rfl (h n g)
 |_=>exact hb
def semUp.famT (he:W0 (.take j i j') st=some (c,t))(hc:C6 c)(hK:K t):semUp st K:=λC a w rho hs=>by
 simp only[W0]at he;split at he
 .rename_i e n jr hj hf;split at he
  .rename_i m g s;split at he
   .rename_i av o' hra;cases he;obtain⟨⟨h1,rfl⟩,v⟩:=hc;obtain⟨s1,s2,s3,s4,s5⟩:=AB9 hra;have hne:j≠jr:=by rintro rfl;rw[hj]at s;cases s
    have hn1:j≠j':=by rintro rfl;rw[hj]at hf;cases hf
    have hn2:jr≠j':=by rintro rfl;rw[s]at hf;cases hf
    obtain⟨rv,l1,l2,hfam⟩:=hs.hp.holds j _ hj;obtain⟨rv',e1,hrow,hdis⟩:=hs.hp.holds jr _ s;rw[l2]at e1;cases e1;obtain⟨R',hR'⟩:∃R' : C5,R' = ins j' o' (ins jr (.rows m λl=>if l=i then .dead else g l) (ins j (.fam e m jr (some (i,av))) st.Qw)):=⟨_,rfl⟩;have x:∀q,A1 R' q=if j' = q then some o' else if jr=q then some (.rows m λl=>if l=i then .dead else g l)else if j=q then some (.fam e m jr (some (i,av)))else A1 st.Qw q:=λq=>by rw[hR',A3,A3,A3]
    obtain⟨rho',hr'⟩:∃rho' : Nat->Value,rho' = λq=>if q=j' then rv.getD i undef else rho q:=⟨_,rfl⟩
    have hr1:rho' j' = rv.getD i undef:=by rw[hr'];exact Gy rfl
    have hr2:∀q,q≠j' -> rho' q=rho q:=λq d=>by rw[hr'];exact Hj d
    have y:∀q,Lv (A1 st.Qw) q->Lv (A1 R') q/\rho' q=rho q:=λq d=>
     ⟨by rw[hR'];exact EL (EL (EL d)),hr2 q (by rintro rfl;unfold Lv at d;rw[hf]at d;cases d)⟩
    have z:∀l b,N1 (rv.getD l undef) (if l=i then .dead else g l)=some b->l≠i/\N1 (rv.getD l undef) (g l)=some b:=by
     intro l b h;split at h
     .cases h
     rename_i e;exact⟨e,h⟩
    have hlj:Lv (A1 R') j':=by unfold Lv;rw[x,Gy rfl];rfl
    have hwas:∀q o b,(q=j \/ q=jr \/ q=j')->A1 R' q=some o->E5 (rho' q) o b ->
     (q=j' /\ N1 (rv.getD i undef) (g i)=some b) \/ (q=jr/\∃l,l<m/\l≠i/\N1 (rv.getD l undef) (g l)=some b) \/ (q=j/\E5 (rho j) (.fam e m jr none) b):=by
     intro q o b d f hb;rw[x]at f;split at f
     .rename_i e1;subst e1;cases f;rw[hr1]at hb;exact .inl ⟨rfl,s1 _ _ (AP3 s4 hb)⟩
     rename_i e1;rw[hr2 q (λe=>e1 e.symm)]at hb;split at f
     .rename_i e2;subst e2;cases f;obtain⟨rv',he,l,hl,hb⟩:=hb;rw[l2]at he;cases he;obtain⟨h5,h6⟩:=z l b hb;exact .inr (.inl ⟨rfl,l,hl,h5,h6⟩)
     rename_i e2;obtain rfl:q=j:=d.resolve_right λe=>e.elim (λe=>e2 e.symm) λe=>e1 e.symm;rw[Gy rfl]at f;cases f;exact .inr (.inr ⟨rfl,hb⟩)
    have a0:∀l b,l<m->N1 (rv.getD l undef) (g l)=some b->E5 (rho jr) (.rows m g) b:=λl b hl hb=>⟨rv,l2,l,hl,hb⟩;obtain⟨h2,h3⟩:=hs.re (λq=>q=j \/ q=jr \/ q=j') (R':=R') (rho':=rho')
     (λq d=>by rw[x,Hj (λe=>d (.inr (.inr e.symm))),Hj (λe=>d (.inr (.inl e.symm))),Hj (λe=>d (.inl e.symm))]) y
     (λq d u=>by
      rw[hR']at u;rcases EM u with rfl|u
      .exact h1
      rcases EM u with rfl|u
      .exact Ij (Pz s) d
      rcases EM u with rfl|u
      .exact Ij (Pz hj) d
      exact Ij u d)
     (λq r b d=>by
      rw[x];split
      .simp only[ne_eq,By4];exact s3 r b
      split
      .simp
      split
      .simp
      rename_i x1 x2 x3;rcases d with rfl|rfl|rfl<;>simp at x1 x2 x3)
     (λq o b d f hb=>by
      rcases hwas q o b d f hb with⟨rfl,h⟩ | ⟨rfl,l,hl,_,h⟩ | ⟨rfl,h⟩
      .exact⟨jr,_,.inr (.inl rfl),s,a0 i b v h⟩
      .exact⟨_,_,.inr (.inl rfl),s,a0 l b hl h⟩
      exact⟨_,_,.inl rfl,hj,h⟩)
     (λq q' o o2 b d u f ho' hb hb'=>by
      rcases hwas q o b d f hb with⟨rfl,h⟩ | ⟨rfl,l,hl,hli,h⟩ | ⟨rfl,h⟩<;>rcases hwas q' o2 b u ho' hb' with⟨rfl,h'⟩ | ⟨rfl,l',hl',hli',h'⟩ | ⟨rfl,h'⟩
      .rfl
      .exact Ij (hdis l' i b hl' v h' h) hli'
      .exact Ij (hs.hp.sep _ _ _ _ b hj s h' (a0 i b v h)) hne
      .exact Ij (hdis l i b hl v h h') hli
      .rfl
      .exact Ij (hs.hp.sep _ _ _ _ b hj s h' (a0 l b hl h)) hne
      .exact Ij (hs.hp.sep _ _ _ _ b hj s h (a0 i b v h')) hne
      .exact Ij (hs.hp.sep _ _ _ _ b hj s h (a0 l' b hl' h')) hne
      rfl)
     (λq o d f off=>by
      rcases d with rfl|rfl|rfl
      .rw[hj]at f;cases f;trivial
      .rw[s]at f;cases f;trivial
      rw[hf]at f;cases f)
     (λ_ hk q o d f=>by
      rw[x]at f;split at f
      .rename_i e1;subst e1;cases f;rw[hr1];exact (s5 hk (hrow i v) hlj hr1).1
      rename_i e1;rw[hr2 q (λe=>e1 e.symm)];split at f
      .rename_i e2;subst e2;cases f;refine⟨rv,l2,λl hl=>?_,λl l' b hl hl' hb hb'=>hdis l l' b hl hl' (z l b hb).2 (z l' b hb').2⟩;by_cases e:l=i
       .simp only[Gy e];trivial
       simp only[Hj e];exact (hrow l hl).keeps' hk λ_ _=>rfl
      rename_i e2;obtain rfl:q=j:=d.resolve_right λe=>e.elim (λe=>e2 e.symm) λe=>e1 e.symm;rw[Gy rfl]at f;cases f;refine⟨rv,(y jr l1).1,(y jr l1).2.trans l2,?_⟩;rcases hfam with h|⟨b,cap,c,g1,g2,g3,g4,g5,g6,g7⟩
      .exact .inl h
      refine .inr ⟨b,cap,c,g1,g2,g3,g4,g5,λl hl=>⟨(g6 l hl).1,λ_=>(g6 l hl).2 (by simp)⟩,?_⟩;show Sq w _ _ rho' (c.getD i undef) av;rw[(g6 i v).2 (by simp)];exact (s5 hk (hrow i v) hlj hr1).2)
    subst hR';exact⟨_,rho',hK,h3,h2⟩
   cases he
  cases he
 cases he
def To (jo:Option Nat)(Qw:C5)(q:Nat):A1 (Zq jo Qw) q=if jo=some q then some .dead else A1 Qw q:=by
 cases jo with
 |none=>simp[Zq]
 |some j=>simp[Zq,A3]
def Aj2 {C:Ctx}{a:Act}{w:World}{rho:Nat->Value}(hs:Sat C st a w rho){x:AV}{jo:Option Nat}{o:Obj}(h:ofA st.Qw x=some (jo,o)){v:Value}(m:RS C st w rho v x) :(∀j',jo=some j' -> A1 st.Qw j' = some o/\rho j' = v/\(∀off,JY o off)/\(∀e n r y,o ≠ .fam e n r y)/\∀n g,o ≠ .rows n g)/\(∀b,N1 v o=some b->∃j',jo=some j' /\ E5 (rho j') o b) /\
 ∀{Pi' live' rho'},Sc w (PiS C st rho) w Pi' -> rowV w Pi' live' rho' v o:=by
 unfold ofA at h;split at h
 .rename_i j';split at h
  .rename_i e k l f d;cases h;have i:=hs.hp.holds j' _ d;have c:rho j' = v:=by cases m;assumption
   rw[c]at i;exact⟨λq j=>by cases j;exact⟨d,c,λ_=>trivial,λ_ _ _ _ h=>(nomatch h),λ_ _ h=>(nomatch h)⟩,λb hb=>⟨j',rfl,by rw[c];exact hb⟩,λhk=>rowV.keeps' (o:=.vec e k l f false) hk i λ_ _=>rfl⟩
  cases h
 .rename_i j';split at h
  .rename_i es d;cases h;have i:=hs.hp.holds j' _ d;have c:rho j' = v:=by cases m;assumption
   rw[c]at i;exact⟨λq j=>by cases j;exact⟨d,c,λ_=>trivial,λ_ _ _ _ h=>(nomatch h),λ_ _ h=>(nomatch h)⟩,λb hb=>⟨j',rfl,by rw[c];exact hb⟩,λhk=>rowV.keeps' (o:=.map es) hk i λ_ _=>rfl⟩
  cases h
 .cases h;exact⟨λ_ j=>(nomatch j),λ_ hb=>(nomatch hb),λhk=>m.toP.keeps hk⟩
 cases h
def semUp.famB (he:W0 (.put j j') st=some (c,t))(hc:C6 c)(hK:K t):semUp st K:=λC a w rho hs=>by
 simp only[W0]at he;split at he
 .rename_i e n jr i x hj hf;split at he
  .rename_i m g jo o s ho;cases he;obtain⟨⟨h1,rfl⟩,hi0⟩:=hc;obtain⟨rv,l1,l2,hfam⟩:=hs.hp.holds j _ hj;obtain⟨rv',e1,hrow,hdis⟩:=hs.hp.holds jr _ s;rw[l2]at e1;cases e1;obtain⟨b0,cap,c,g1,g2,g3,g4,g5,g6,g7⟩:=hfam.resolve_left (λh=>by omega);obtain⟨s1,s2,s3⟩:=Aj2 hs ho g7;have hne:j≠jr:=by rintro rfl;rw[hj]at s;cases s
   have hn1:j≠j':=by rintro rfl;rw[hj]at hf;cases hf
   have hn2:jr≠j':=by rintro rfl;rw[s]at hf;cases hf
   have hn3:∀q,jo=some q->q≠j/\q≠jr/\q≠j':=by intro q f;obtain⟨k1,_,_,k4,k5⟩:=s1 q f;exact⟨by rintro rfl;rw[hj]at k1;cases k1;exact k4 _ _ _ _ rfl,by rintro rfl;rw[s]at k1;cases k1;exact k5 _ _ rfl,by rintro rfl;rw[hf]at k1;cases k1⟩
   obtain⟨rn,z⟩:∃rn:Array Value,∀q,q<m->rn.getD q undef=if q=i then c.getD i undef else rv.getD q undef:=
    ⟨Array.ofFn (n:=m) λq=>if q.1=i then c.getD i undef else rv.getD q.1 undef,λq f=>by simp[By2,f]⟩
   obtain⟨R',hR'⟩:∃R' : C5,R' = ins j' (.rows m λq=>if q=i then o else g q) (Zq jo (ins jr .dead (ins j (.fam e m j' none) st.Qw))):=⟨_,rfl⟩;have v:∀q,A1 R' q=if j' = q then some (.rows m λq=>if q=i then o else g q)else if jo=some q then some .dead else if jr=q then some .dead else if j=q then some (.fam e m j' none)else A1 st.Qw q:=λq=>by rw[hR',A3,To,A3,A3]
   obtain⟨rho',hr'⟩:∃rho' : Nat->Value,rho' = λq=>if q=j' then .agg rn else rho q:=⟨_,rfl⟩
   have hr1:rho' j' = .agg rn:=by rw[hr'];exact Gy rfl
   have hr2:∀q,q≠j' -> rho' q=rho q:=λq f=>by rw[hr'];exact Hj f
   have hlv:∀q,Lv (A1 R') q↔q=j' \/ Lv (A1 st.Qw) q:=by
    intro q;unfold Lv;rw[v];constructor
    .intro h;split at h
     .exact .inl (Eq.symm ‹_›)
     split at h
     .rename_i k;obtain⟨k1,_⟩:=s1 q k;right;rw[k1];rfl
     split at h
     .rename_i k;subst k;right;rw[s];rfl
     split at h
     .rename_i k;subst k;right;rw[hj];rfl
     exact .inr h
    rintro (rfl|h)
    .rw[Gy rfl];rfl
    split;rfl;split;rfl;split;rfl;split;rfl;exact h
   have hlive:∀q,Lv (A1 st.Qw) q->Lv (A1 R') q/\rho' q=rho q:=λq f=>
    ⟨(hlv q).2 (.inr f),hr2 q (by rintro rfl;unfold Lv at f;rw[hf]at f;cases f)⟩
   have a0:∀q o2 b,(q=j \/ q=jr \/ q=j' \/ jo=some q)->A1 R' q=some o2->E5 (rho' q) o2 b ->
    (q=j' /\ ((∃q',jo=some q' /\ E5 (rho q') o b) \/ ∃l,l<m/\N1 (rv.getD l undef) (g l)=some b)) \/ (q=j/\E5 (rho j) (.fam e m jr (some (i,x))) b):=by
    intro q o2 b f d hb;rw[v]at d;split at d
    .rename_i e1;subst e1;cases d;rw[hr1]at hb;obtain⟨rv',he,l,hl,hb⟩:=hb;cases he;rw[z l hl]at hb;refine .inl ⟨rfl,?_⟩;by_cases e:l=i
     .simp only[Gy e]at hb;exact .inl (s2 b hb)
     simp only[Hj e]at hb;exact .inr ⟨l,hl,hb⟩
    rename_i e1;split at d
    .cases d;cases hb
    rename_i e2;split at d
    .cases d;cases hb
    rename_i e3;obtain rfl:q=j:=f.resolve_right λe=>e.elim (λe=>e3 e.symm) λe=>e.elim (λe=>e1 e.symm) e2;rw[Gy rfl]at d;cases d;rw[hr2 q hn1]at hb;exact .inr ⟨rfl,hb⟩
   have hrb:∀l b,l<m->N1 (rv.getD l undef) (g l)=some b->E5 (rho jr) (.rows m g) b:=λl b hl hb=>⟨rv,l2,l,hl,hb⟩;have y:∀b,((∃q',jo=some q' /\ E5 (rho q') o b) \/ ∃l,l<m/\N1 (rv.getD l undef) (g l)=some b)->¬E5 (rho j) (.fam e m jr (some (i,x))) b:=by
    rintro b (⟨q',k1,k2⟩ | ⟨l,hl,k2⟩) hb
    .exact (hn3 q' k1).1 (hs.hp.sep _ _ _ _ b (s1 q' k1).1 hj k2 hb)
    exact hne (hs.hp.sep _ _ _ _ b hj s hb (hrb l b hl k2))
   obtain⟨h2,h3⟩:=hs.re (λq=>q=j \/ q=jr \/ q=j' \/ jo=some q) (R':=R') (rho':=rho')
    (λq f=>by rw[v,Hj (λe=>f (.inr (.inr (.inl e.symm)))),Hj (λe=>f (.inr (.inr (.inr e)))),Hj (λe=>f (.inr (.inl e.symm))),Hj (λe=>f (.inl e.symm))]) hlive
    (λq f hq'=>by
     rcases (hlv q).1 hq' with rfl|h
     .exact h1
     exact Ij h f)
    (λq r b f=>by
     rw[v];split
     .simp
     split
     .simp
     split
     .simp
     split
     .simp
     rename_i x1 x2 x3 x4;exact Ij f (by simp[BC5 x1,x2,BC5 x3,BC5 x4]))
    (λq o2 b f d hb=>by
     rcases a0 q o2 b f d hb with⟨rfl,⟨q',k1,k2⟩ | ⟨l,hl,k2⟩⟩ | ⟨rfl,h⟩
     .exact⟨q',o,.inr (.inr (.inr k1)),(s1 q' k1).1,k2⟩
     .exact⟨jr,_,.inr (.inl rfl),s,hrb l b hl k2⟩
     exact⟨_,_,.inl rfl,hj,h⟩)
    (λq q' o2 o3 b f hq' d ho3 hb u=>by
     rcases a0 q o2 b f d hb with⟨rfl,h⟩ | ⟨rfl,h⟩<;>rcases a0 q' o3 b hq' ho3 u with⟨rfl,h'⟩ | ⟨rfl,h'⟩
     .rfl
     .exact Ij h' (y b h)
     .exact Ij h (y b h')
     rfl)
    (λq o2 f d off=>by
     rcases f with rfl|rfl|rfl|f
     .rw[hj]at d;cases d;trivial
     .rw[s]at d;cases d;trivial
     .rw[hf]at d;cases d
     obtain⟨k1,_,k3,_⟩:=s1 q f;rw[k1]at d;cases d;exact k3 off)
    (λ_ hk q o2 f d=>by
     rw[v]at d;split at d
     .rename_i e1;subst e1;cases d;rw[hr1];refine⟨rn,rfl,λl hl=>?_,λl l' b hl hl' hb u=>?_⟩
      .rw[z l hl];by_cases e:l=i
       .simp only[Gy e];exact s3 hk
       simp only[Hj e];exact (hrow l hl).keeps' hk λ_ _=>rfl
      rw[z l hl]at hb;rw[z l' hl']at u;by_cases e:l=i<;>by_cases e' : l' = i
      .rw[e,e']
      .simp only[Gy e]at hb;simp only[Hj e']at u;obtain⟨q',k1,k2⟩:=s2 b hb;exact Ij (hs.hp.sep _ _ _ _ b (s1 q' k1).1 s k2 (hrb l' b hl' u)) (hn3 q' k1).2.1
      .simp only[Hj e]at hb;simp only[Gy e']at u;obtain⟨q',k1,k2⟩:=s2 b u;exact Ij (hs.hp.sep _ _ _ _ b (s1 q' k1).1 s k2 (hrb l b hl hb)) (hn3 q' k1).2.1
      simp only[Hj e]at hb;simp only[Hj e']at u;exact hdis l l' b hl hl' hb u
     rename_i e1;split at d
     .cases d;trivial
     rename_i e2;split at d
     .cases d;trivial
     rename_i e3;obtain rfl:q=j:=f.resolve_right λe=>e.elim (λe=>e3 e.symm) λe=>e.elim (λe=>e1 e.symm) e2;rw[Gy rfl]at d;cases d;rw[hr2 q hn1];refine⟨rn,(hlv j').2 (.inl rfl),hr1,.inr ⟨b0,cap,c,g1,g2,g3,g4,g5,λl hl=>⟨(g6 l hl).1,λ_=>?_⟩,trivial⟩⟩;rw[z l hl];by_cases e:l=i
     .rw[Gy e,e]
     rw[Hj e];exact (g6 l hl).2 (by simp;exact λx=>e x.symm))
   subst hR';exact⟨_,rho',hK,h3,h2⟩
  cases he
 cases he
def semUp.famH (he:W0 (.psh j j') st=some (c,t))(hc:C6 c)(hK:K t):semUp st K:=λC a w rho hs=>by
 simp only[W0]at he;split at he
 .rename_i e n jr m x hj hf;split at he
  .rename_i m1 g jo o i ho;cases he;obtain⟨h1,rfl,rfl⟩:=hc;obtain⟨rv,l1,l2,hfam⟩:=hs.hp.holds j _ hj;obtain⟨rv',e1,hrow,hdis⟩:=hs.hp.holds jr _ i;rw[l2]at e1;cases e1;obtain⟨b0,cap,c,g1,g2,g3,g4,g5,g6,g7⟩:=hfam.resolve_left (λh=>by omega);obtain⟨s1,s2,s3⟩:=Aj2 hs ho g7;have hne:j≠jr:=by rintro rfl;rw[hj]at i;cases i
   have hn1:j≠j':=by rintro rfl;rw[hj]at hf;cases hf
   have hn2:jr≠j':=by rintro rfl;rw[i]at hf;cases hf
   have hn3:∀q,jo=some q->q≠j/\q≠jr/\q≠j':=by intro q f;obtain⟨k1,_,_,k4,k5⟩:=s1 q f;exact⟨by rintro rfl;rw[hj]at k1;cases k1;exact k4 _ _ _ _ rfl,by rintro rfl;rw[i]at k1;cases k1;exact k5 _ _ rfl,by rintro rfl;rw[hf]at k1;cases k1⟩
   obtain⟨rn,y⟩:∃rn:Array Value,∀q,q<m+1->rn.getD q undef=if q=m then c.getD m undef else rv.getD q undef:=
    ⟨Array.ofFn (n:=m+1) λq=>if q.1=m then c.getD m undef else rv.getD q.1 undef,λq f=>by simp[By2,f]⟩
   obtain⟨R',hR'⟩:∃R' : C5,R' = ins j' (.rows (m+1) λq=>if q=m then o else g q) (Zq jo (ins jr .dead (ins j (.fam e (m+1) j' none) st.Qw))):=⟨_,rfl⟩;have u:∀q,A1 R' q=if j' = q then some (.rows (m+1) λq=>if q=m then o else g q)else if jo=some q then some .dead else if jr=q then some .dead else if j=q then some (.fam e (m+1) j' none)else A1 st.Qw q:=λq=>by rw[hR',A3,To,A3,A3]
   obtain⟨rho',hr'⟩:∃rho' : Nat->Value,rho' = λq=>if q=j' then .agg rn else rho q:=⟨_,rfl⟩
   have hr1:rho' j' = .agg rn:=by rw[hr'];exact Gy rfl
   have hr2:∀q,q≠j' -> rho' q=rho q:=λq f=>by rw[hr'];exact Hj f
   have hlv:∀q,Lv (A1 R') q↔q=j' \/ Lv (A1 st.Qw) q:=by
    intro q;unfold Lv;rw[u];constructor
    .intro h;split at h
     .exact .inl (Eq.symm ‹_›)
     split at h
     .rename_i k;obtain⟨k1,_⟩:=s1 q k;right;rw[k1];rfl
     split at h
     .rename_i k;subst k;right;rw[i];rfl
     split at h
     .rename_i k;subst k;right;rw[hj];rfl
     exact .inr h
    rintro (rfl|h)
    .rw[Gy rfl];rfl
    split;rfl;split;rfl;split;rfl;split;rfl;exact h
   have hlive:∀q,Lv (A1 st.Qw) q->Lv (A1 R') q/\rho' q=rho q:=λq f=>
    ⟨(hlv q).2 (.inr f),hr2 q (by rintro rfl;unfold Lv at f;rw[hf]at f;cases f)⟩
   have z:∀q o2 b,(q=j \/ q=jr \/ q=j' \/ jo=some q)->A1 R' q=some o2->E5 (rho' q) o2 b ->
    (q=j' /\ ((∃q',jo=some q' /\ E5 (rho q') o b) \/ ∃l,l<m/\N1 (rv.getD l undef) (g l)=some b)) \/ (q=j/\E5 (rho j) (.fam e (m+1) jr (some (m,x))) b):=by
    intro q o2 b f d hb;rw[u]at d;split at d
    .rename_i e1;subst e1;cases d;rw[hr1]at hb;obtain⟨rv',he,l,hl,hb⟩:=hb;cases he;rw[y l hl]at hb;refine .inl ⟨rfl,?_⟩;by_cases e:l=m
     .simp only[Gy e]at hb;exact .inl (s2 b hb)
     simp only[Hj e]at hb;exact .inr ⟨l,by omega,hb⟩
    rename_i e1;split at d
    .cases d;cases hb
    rename_i e2;split at d
    .cases d;cases hb
    rename_i e3;obtain rfl:q=j:=f.resolve_right λe=>e.elim (λe=>e3 e.symm) λe=>e.elim (λe=>e1 e.symm) e2;rw[Gy rfl]at d;cases d;rw[hr2 q hn1]at hb;exact .inr ⟨rfl,hb⟩
   have hrb:∀l b,l<m->N1 (rv.getD l undef) (g l)=some b->E5 (rho jr) (.rows m g) b:=λl b hl hb=>⟨rv,l2,l,hl,hb⟩;have v:∀b,((∃q',jo=some q' /\ E5 (rho q') o b) \/ ∃l,l<m/\N1 (rv.getD l undef) (g l)=some b)->¬E5 (rho j) (.fam e (m+1) jr (some (m,x))) b:=by
    rintro b (⟨q',k1,k2⟩ | ⟨l,hl,k2⟩) hb
    .exact (hn3 q' k1).1 (hs.hp.sep _ _ _ _ b (s1 q' k1).1 hj k2 hb)
    exact hne (hs.hp.sep _ _ _ _ b hj i hb (hrb l b hl k2))
   obtain⟨h2,h3⟩:=hs.re (λq=>q=j \/ q=jr \/ q=j' \/ jo=some q) (R':=R') (rho':=rho')
    (λq f=>by rw[u,Hj (λe=>f (.inr (.inr (.inl e.symm)))),Hj (λe=>f (.inr (.inr (.inr e)))),Hj (λe=>f (.inr (.inl e.symm))),Hj (λe=>f (.inl e.symm))]) hlive
    (λq f hq'=>by
     rcases (hlv q).1 hq' with rfl|h
     .exact h1
     exact Ij h f)
    (λq r b f=>by
     rw[u];split
     .simp
     split
     .simp
     split
     .simp
     split
     .simp
     rename_i x1 x2 x3 x4;exact Ij f (by simp[BC5 x1,x2,BC5 x3,BC5 x4]))
    (λq o2 b f d hb=>by
     rcases z q o2 b f d hb with⟨rfl,⟨q',k1,k2⟩ | ⟨l,hl,k2⟩⟩ | ⟨rfl,h⟩
     .exact⟨q',o,.inr (.inr (.inr k1)),(s1 q' k1).1,k2⟩
     .exact⟨jr,_,.inr (.inl rfl),i,hrb l b hl k2⟩
     exact⟨_,_,.inl rfl,hj,h⟩)
    (λq q' o2 o3 b f hq' d ho3 hb s=>by
     rcases z q o2 b f d hb with⟨rfl,h⟩ | ⟨rfl,h⟩<;>rcases z q' o3 b hq' ho3 s with⟨rfl,h'⟩ | ⟨rfl,h'⟩
     .rfl
     .exact Ij h' (v b h)
     .exact Ij h (v b h')
     rfl)
    (λq o2 f d off=>by
     rcases f with rfl|rfl|rfl|f
     .rw[hj]at d;cases d;trivial
     .rw[i]at d;cases d;trivial
     .rw[hf]at d;cases d
     obtain⟨k1,_,k3,_⟩:=s1 q f;rw[k1]at d;cases d;exact k3 off)
    (λ_ hk q o2 f d=>by
     rw[u]at d;split at d
     .rename_i e1;subst e1;cases d;rw[hr1];refine⟨rn,rfl,λl hl=>?_,λl l' b hl hl' hb s=>?_⟩
      .rw[y l hl];by_cases e:l=m
       .simp only[Gy e];exact s3 hk
       simp only[Hj e];exact (hrow l (by omega)).keeps' hk λ_ _=>rfl
      rw[y l hl]at hb;rw[y l' hl']at s;by_cases e:l=m<;>by_cases e' : l' = m
      .rw[e,e']
      .simp only[Gy e]at hb;simp only[Hj e']at s;obtain⟨q',k1,k2⟩:=s2 b hb;exact Ij (hs.hp.sep _ _ _ _ b (s1 q' k1).1 i k2 (hrb l' b (by omega) s)) (hn3 q' k1).2.1
      .simp only[Hj e]at hb;simp only[Gy e']at s;obtain⟨q',k1,k2⟩:=s2 b s;exact Ij (hs.hp.sep _ _ _ _ b (s1 q' k1).1 i k2 (hrb l b (by omega) hb)) (hn3 q' k1).2.1
      simp only[Hj e]at hb;simp only[Hj e']at s;exact hdis l l' b (by omega) (by omega) hb s
     rename_i e1;split at d
     .cases d;trivial
     rename_i e2;split at d
     .cases d;trivial
     rename_i e3;obtain rfl:q=j:=f.resolve_right λe=>e.elim (λe=>e3 e.symm) λe=>e.elim (λe=>e1 e.symm) e2;rw[Gy rfl]at d;cases d;rw[hr2 q hn1];refine⟨rn,(hlv j').2 (.inl rfl),hr1,.inr ⟨b0,cap,c,g1,g2,g3,g4,g5,λl hl=>⟨(g6 l hl).1,λ_=>?_⟩,trivial⟩⟩;rw[y l hl];by_cases e:l=m
     .rw[Gy e,e]
     rw[Hj e];exact (g6 l hl).2 (by simp;exact λx=>e x.symm))
   subst hR';exact⟨_,rho',hK,h3,h2⟩
  cases he
 cases he
def semUp.famAll {op:Uv}(a:W0 op st=some (c,t))(hc:C6 c)(b:K t):semUp st K:=match op with
 |.fam _ _ _=>semUp.famF a hc b
 |.take _ _ _=>semUp.famT a hc b
 |.over _ _=>semUp.famO a hc b
 |.put _ _=>semUp.famB a hc b
 |.psh _ _=>semUp.famH a hc b
 |.pub _=>semUp.famP a hc b
end
def FW (ro:Option Nat):Fence:={ Fence.wide with round:=ro }
def Tp {ro:Option Nat}{m n:Nat}{P:Program}{f:FuncId}{vs:Array Value}{w:World}{R:Ending->World->Prop}(h:CallsIn Fence.wide m P f vs w R):CallsIn (FW ro) n P f vs w R:=
 ⟨trivial,λcs _=>h.2 cs (room_wide _)⟩
def AC0 {ro:Option Nat}{m n:Nat}{P:Program}{f:String}{vs:Array Value}{w:World}{R:Value->World->Prop}(h:RowsIn Fence.wide m P f vs w R):RowsIn (FW ro) n P f vs w R:=
 λc cs _=>h c cs (room_wide _)
def Tq {ro:Option Nat}{m n:Nat}{P:Program}{l:Nat}{f:FuncId}{tmps:Array Value}{as body:Code}{w:World}{R:Ending->World->Prop}(h:RoundIn Fence.wide m P l f tmps as body w R):RoundIn (FW ro) n P l f tmps as body w R:=
 ⟨trivial,λc cs _=>h.2 c cs (room_wide _)⟩
section
variable {P:Program}{C:Ctx}{st:St}{a:Act}{w:World}{rho:Nat->Value}{𝒢 : Prot P}{n:Nat}
def NextOk (𝒢 : Prot P)(n:Nat)(k:St->Prop)(a:Act)(w:World):Prop:=∃C st rho,𝒢.G C/\Sat C st a w rho/\a.tmps.size=n/\k st
def PanicOk (𝒢 : Prot P)(n:Nat)(Q:J3)(chain:List PanicEntry)(a:Act)(w:World):Prop:=∃C st rho v x,chain=[{ v,recovered:=false }] /\ 𝒢.G C/\Sat C st a w rho/\a.tmps.size=n/\Sd w (PiS C st rho) v x/\Q (.panic x) st
def WP (𝒢 : Prot P)(n:Nat)(Q:J3):Exit->Act->World->Prop
 |.normal,a,w=>NextOk 𝒢 n (Q .normal) a w
 |.exit id,a,w=>NextOk 𝒢 n (Q (.exit id)) a w
 |.goto l,a,w=>NextOk 𝒢 n (Q (.goto l)) a w
 |.ret,a,w=>NextOk 𝒢 n (Q .ret) a w
 |.panic chain,a,w=>PanicOk 𝒢 n Q chain a w
 |.outgrown,_,_=>False
def Na:∀(xs:List Operand) (st:St) (l:List AV) (R' : C5),Sat C st a w rho->Im st.Qw (xs.map (aev st.env))=some (l,R') ->
 Sat C { st with Qw:=R' } a w rho/\Kp C st.Qw R' w w rho rho/\l.length=xs.length/\∀i x,xs[i]? = some x->RS C { st with Qw:=R' } w rho (a.eval x) (l.getD i .top)
 |[],st,l,R',h,he=>by simp only[BE9,Im,By4,Bz3]at he;obtain⟨rfl,rfl⟩:=he;exact⟨h,Kp.refl _ _ _ _,rfl,λi x hx=>by simp at hx⟩
 |x::xs,st,l,R',h,he=>by
  simp only[BA3,Im]at he;split at he
  .rename_i y R1 b;have step:Sat C { st with Qw:=R1 } a w rho/\Kp C st.Qw R1 w w rho rho/\RS C { st with Qw:=R1 } w rho (a.eval x) y:=by
    have gen:(match DO st.Qw (aev st.env x)with|some (x,Qw)=>some (AV.p x,Qw)|none=>none)=some (y,R1)->Sat C { st with Qw:=R1 } a w rho/\Kp C st.Qw R1 w w rho rho/\RS C { st with Qw:=R1 } w rho (a.eval x) y:=by
     intro b;split at b
     .rename_i z R2 c;simp only[By4,Bz3]at b;obtain⟨rfl,rfl⟩:=b;obtain⟨h1,d,f⟩:=Ez h (h.aev x) c;exact⟨h1,f,.p _ _ d⟩
     cases b
    split at b
    .exact gen b
    .exact gen b
    simp only[By4,Bz3]at b;obtain⟨rfl,rfl⟩:=b;exact⟨h,Kp.refl _ _ _ _,h.aev x⟩
   obtain⟨h1,d,f⟩:=step;split at he
   .rename_i l' R2 g;cases he;obtain⟨m,j,n,o⟩:=Na xs { st with Qw:=R1 } l' R' h1 g;refine⟨m,d.trans j,by simp[n],λi z c=>?_⟩;cases i with
    |zero=>simp only[BF5,By4]at c;subst c;exact j.av f
    |succ i=>exact o i z (by simpa using c)
   cases he
  cases he
def ZF {xs:List Operand}{st:St}{l:List AV}{R' : C5}(h:Sat C st a w rho)(b:Bn3 st.Qw (xs.map (aev st.env)) l R') :Sat C { st with Qw:=R' } a w rho/\Kp C st.Qw R' w w rho rho/\l.length=xs.length/\∀i x,xs[i]? = some x->RS C { st with Qw:=R' } w rho (a.eval x) (l.getD i .top):=by
 rcases b with b|⟨rfl,rfl⟩
 .exact Na xs st l R' h b
 refine⟨h,Kp.refl _ _ _ _,by simp,λi x hx=>?_⟩
 have:(xs.map (aev st.env)).getD i .top=aev st.env x:=by simp[By3,hx]
 rw[this];exact h.aev x
def PC (hG : 𝒢.G C)(h:Sat C st a w rho)(hsz:a.tmps.size=n){d:Nat}{ids:List Nat}{f:FuncId}{as:List AV}{K:ARes->St->Prop}(hc:Zn (Gj P) d ids f as st K)
 {vs:Array Value}(g:vs.size=as.length) (l:∀i,i<as.length->RS C st w rho (vs.getD i undef) (as.getD i .top)) :
 CallF P f vs w λe w'=>∃st' rho' r,Sat C st' a w' rho' /\ K r st' /\ AM6 w' (PiS C st' rho') (Lv (A1 st'.Qw)) rho' e r:=by
 obtain⟨args,objs,y,z,m,q,hF⟩:=hc;have hs:=NJ h y m q trivial z g l;refine (hF (Prot.triv P (C.callee st.Qw w rho ids) (λ_ _ h=>h) ((𝒢.tab C hG).keeps h.keep h.same λb hb ⟨j,o,_,h1,h2⟩=>(h.own b ⟨j,o,h1,h2⟩).resolve_right (Nat.not_le.2 hb))) _ w vs _ rfl hs (by rw[g];exact (Df z).1)).mono ?_;rintro e w' ⟨C',r,objs',ks,rho',s,⟨hf,hK⟩,hE,c,t⟩;obtain rfl:C' = C.callee st.Qw w rho ids:=s;obtain⟨g1,g2,g3,g4⟩:=Ap7 h y m hE t hf;refine⟨_,_,_,g1,hK,?_⟩;cases r with
 |ret x=>obtain⟨v,u,l⟩:=c;exact⟨v,u,l.un g3 g4⟩
 |panic x=>obtain⟨v,u,l⟩:=c;exact⟨v,u,l.keeps g3⟩
def PD {ro:Option Nat}{o:Oper}(l:∀t,o.dst=some t->t<n){next:Act->World->Prop}{Q' : Exit->Act->World->Prop}{k:St->Prop}{Q:J3}
 (hk:∀a' w,a'.defers=a.defers->NextOk 𝒢 n k a' w->next a' w) (m:∀chain a w,PanicOk 𝒢 n Q chain a w->Q' (.panic chain) a w) (j : 𝒢.G C) (c:a.tmps.size=n) {f:FuncId}{vs:Array Value}
 (g:(o.semAt ro a.eval).run P w=(callFunc f vs).run P w)
 (h:CallF P f vs w λe w'=>∃st' rho' r,Sat C st' a w' rho' /\ Io o.dst k Q r st' /\ AM6 w' (PiS C st' rho') (Lv (A1 st'.Qw)) rho' e r) :
 o.uponIn (FW ro) 0 P a next Q' ((o.semAt ro a.eval).run P w):=by
 obtain⟨nx,w1,h1,i⟩:=h;rw[g,h1];have fin:∀v w',(∃st' rho' r,Sat C st' a w' rho' /\ Io o.dst k Q r st' /\ AM6 w' (PiS C st' rho') (Lv (A1 st'.Qw)) rho' (.returned v) r)->next (a.put o.dst v) w':=by
  rintro v w' ⟨st',rho',r,g1,g2,g3⟩;cases r with
  |ret x=>obtain⟨v',b,d⟩:=g3;cases b;refine hk _ _ (by cases o.dst<;>rfl) ⟨C,_,rho',j,g1.put d (λt ht=>by rw[c];exact l t ht),?_,g2⟩;rw[<- c];cases o.dst<;>simp[Act.put]
  |panic x=>obtain⟨v',b,_⟩:=g3;cases b
 cases nx with
 |enter f' as=>
  rw[Oper.uponIn_enter];refine⟨λh=>by simp[FW,Fence.wide]at h,(Tp i).mono ?_⟩;intro e w' b;cases e with
  |returned v=>exact fin v w' b
  |panicked chain=>
   obtain⟨st',rho',r,g1,g2,g3⟩:=b;cases r with
   |ret x=>obtain⟨v',b,_⟩:=g3;cases b
   |panic x=>obtain⟨v',b,d⟩:=g3;cases b;exact m _ _ _ ⟨C,st',rho',v',x,rfl,j,g1,c,d,g2⟩
  |outgrown=>obtain⟨st',rho',r,g1,g2,g3⟩:=b;cases r<;>(obtain⟨v',b,_⟩:=g3;cases b)
 |value v=>rw[BN8];exact fin v w1 i
 |row row as=>rw[Oper.uponIn_row];exact⟨λh=>by simp[FW,Fence.wide]at h,(AC0 i).mono λv w'=>fin v w'⟩
 |_=>exact i.elim
def RepV (w:World)(Pi:Nat->Nat->Prop)(live:Nat->Prop)(rho:Nat->Value)(vs:Array Value)(l:List AV):Prop:= vs.size=l.length/\∀i,i<l.length->Sq w Pi live rho (vs.getD i undef) (l.getD i .top)
def RepV.append {Pi:Nat->Nat->Prop}{live:Nat->Prop}{vs us:Array Value}{l m:List AV}(h:RepV w Pi live rho vs l)(h' : RepV w Pi live rho us m):RepV w Pi live rho (vs++us) (l++m):=by
 refine⟨by simp[h.1,h'.1],λi b=>?_⟩;simp only[Bz6]at b;by_cases hl:i<l.length
 .have:=h.2 i hl
  have a:i<vs.size:=by rw[h.1];exact hl
  simpa[By2,BH0,a,BD8 hl]using this
 have:=h'.2 (i-l.length) (by omega)
 have a:¬i<vs.size:=by rw[h.1];exact hl
 simpa[By2,BH0,a,hl,BI0 (show l.length<=i by omega),h.1]using this
def RepV.ofP {Pi:Nat->Nat->Prop}{live:Nat->Prop}{vs:Array Value}{l:List PV}(hs:vs.size=l.length)(h:∀i,i<l.length->Sd w Pi (vs.getD i undef) (l.getD i default)):RepV w Pi live rho vs (l.map .p):=by
 refine⟨by simpa using hs,λi b=>?_⟩;have a : i<l.length:=by simpa using b
 have:=h i a
 simp only[By3,Bz1,By7 a,Bz7,Bz4]at this⊢;exact .p _ _ this
def Tr (h:Sat C st a w rho){f:Operand}{f' : FuncId}{as as' : List AV}(hw:Ta st.env f as=some (f',as')){R' : C5}(d:Kp C st.Qw R' w w rho rho){vals:Array Value}(i:RepV w (Prv C.X (A1 R') rho) (Lv (A1 R')) rho vals as) :∃x y,a.eval f=.func (.func f') x y/\RepV w (Prv C.X (A1 R') rho) (Lv (A1 R')) rho (x++vals++y) as':=by
 unfold Ta at hw;have b:=d.av (h.aev f);split at hw
 .rename_i g first caps c
  cases hw;rw[c]at b;generalize a.eval f=v at b;cases b with
  |clo _ x y _ _ hx hy ha hb=>exact⟨x,y,rfl,RepV.append (RepV.append ⟨hx,ha⟩ i) ⟨hy,hb⟩⟩
 .rename_i g x y c;split at hw
  .rename_i hx hy;cases hw;rw[c]at b;have e1:x = #[]:=by simpa using hx
   have e2:y = #[]:=by simpa using hy
   subst e1;subst e2;exact⟨#[],#[],b.toP.toV,by simpa using i⟩
  cases hw
 .rename_i g first caps c
  cases hw;rw[c]at b;have b:=b.toP;generalize a.eval f=v at b;cases b with
  |fn _ x y _ _ hx hy ha hb=>exact⟨x,y,rfl,RepV.append (RepV.append (RepV.ofP hx ha) i) (RepV.ofP hy hb)⟩
 cases hw
def ZG (h:Sat C st a w rho){f:Operand}{f' : FuncId}{first caps:List AV}(hw:FN st.env f=some (f',first,caps)) :∃x y,a.eval f=.func (.func f') x y/\RepV w (PiS C st rho) (Lv (A1 st.Qw)) rho x first/\RepV w (PiS C st rho) (Lv (A1 st.Qw)) rho y caps:=by
 unfold FN at hw;have b:=h.aev f;split at hw
 .rename_i g first caps c
  cases hw;rw[c]at b;generalize a.eval f=v at b;cases b with
  |clo _ x y _ _ hx hy ha hb=>exact⟨x,y,rfl,⟨hx,ha⟩,⟨hy,hb⟩⟩
 .rename_i g x y c;split at hw
  .rename_i hx hy;cases hw;rw[c]at b;have e1:x = #[]:=by simpa using hx
   have e2:y = #[]:=by simpa using hy
   subst e1;subst e2;exact⟨#[],#[],b.toP.toV,⟨rfl,λi d=>Ij d (by simp)⟩,⟨rfl,λi d=>Ij d (by simp)⟩⟩
  cases hw
 .rename_i g first caps c
  cases hw;rw[c]at b;have b:=b.toP;generalize a.eval f=v at b;cases b with
  |fn _ x y _ _ hx hy ha hb=>exact⟨x,y,rfl,RepV.ofP hx ha,RepV.ofP hy hb⟩
 cases hw
def PE {args:Array Operand}{i:Nat}(b:i<args.toList.length):(args.map a.eval).getD i undef=a.eval (args.toList[i]):=by
 have:i<args.size:=by simpa using b
 simp[By2,this]
def Aj3 {Pi:Nat->Nat->Prop}:∀{xs ys:List PV},Bc8 xs ys->xs.length=ys.length/\∀i,i<xs.length->∀v,Sd w Pi v (xs.getD i default)->Sd w Pi v (ys.getD i default)
 |[],[],_=>⟨rfl,λi b=>Ij b (by simp)⟩
 |[],y::ys,h=>by simp[Bc8]at h
 |x::xs,[],h=>by simp[Bc8]at h
 |x::xs,y::ys,h=>by
  obtain⟨h1,c⟩:=h;obtain⟨d,j⟩:=Aj3 (Pi:=Pi) c;refine⟨by simp[d],λi b v a=>?_⟩;cases i with
  |zero=>
   have a:Sd w Pi v x:=by simpa using a
   have:Sd w Pi v y:=by
    rcases h1 with rfl|⟨nn,k,n,f,g,rfl,rfl,l⟩ | ⟨k,f,rfl,rfl⟩
    .exact a
    .exact a.leP (.inr (.inl ⟨nn,k,n,f,g,rfl,rfl,l⟩))
    exact a.leP (.inr (.inr (.inl ⟨k,f,rfl,rfl⟩)))
   simpa using this
  |succ i=>simpa using j i (by simpa using b) v (by simpa using a)
def Sat.rel (h:Sat C st a w rho):Rel C w (Wz st.Qw rho a.defers) (PvR st.Qw rho):=by
 refine⟨h.ext,h.size,h.same,h.keep,?_,?_,?_,λb off f=>h.hp.bound b off f,λb off ⟨j,o,d,hb,_⟩=>.inl ⟨j,o,d,hb⟩⟩
 .rintro b (hb|hb)
  .exact h.own b hb
  obtain⟨r,h1,c,_⟩:=h.marks.2 _ hb;cases h1;exact c
 .rintro b off (⟨j,o,d,hb⟩ | hb)
  .exact h.hp.out j o b off d hb
  obtain⟨r,h1,_,_,c⟩:=h.marks.2 _ hb;cases h1;exact c off
 rintro b (hb|hb)
 .exact h.hp.lt hb
 obtain⟨r,h1,_,c,_⟩:=h.marks.2 _ hb;cases h1;exact (Bz0.1 c).1
def Sc.of_imp' {w:World}{p q:Nat->Nat->Prop}(h:∀b o,q b o->p b o):Sc w p w q:=λb o v hp hc=>⟨hc,λa=>hp (h b o a)⟩
def Sat.yielded (h:Sat C st a w rho){C' : Ctx}{w' : World}{j:Nat}{r0 rest:List (List PV)}{l0 live:Bool}(hj:A1 st.Qw j=some (.yld r0 l0))(hY:C'.Y rest live)(hyv:C'.yv=C.yv)(hrho:C'.rho0=C.rho0)(hw:C'.w0=w')(hE:C'.E0=Wz st.Qw rho a.defers)
 (hPi:C'.Pi0=λb o=>C'.X b o \/ PvR st.Qw rho b o) (hR:Rel C' w' (Wz st.Qw rho a.defers) (PvR st.Qw rho)) {H:Nat->Prop}(l:∀b,Wz st.Qw rho a.defers b->¬H b->w'.heap[b]? = w.heap[b]?)
 (hk:Sc w (λb o=>C.X b o \/ PvR st.Qw rho b o) w' (λb o=>C'.X b o \/ PvR st.Qw rho b o)) (x:∀i r b,A1 st.Qw i=some (.yld r b)->i=j)
 (hH:∀b,H b->∃jw e m n g,A1 st.Qw jw=some (.vec e m n g false)/\N1 (rho jw) (.vec e m n g false)=some b/\HoldsC w' (λb o=>C'.X b o \/ PvR st.Qw rho b o) (λ_=>False) (λ_=>undef) (rho jw) (.vec e m n g false)) :
 Sat C' { st with Qw:=ins j (.yld rest live) st.Qw } a w' rho:=by
 have q:∀i,Lv (A1 st.Qw) i->Lv (A1 (ins j (.yld rest live) st.Qw)) i/\rho i=rho i:=by
  intro i c;refine⟨?_,rfl⟩;simp only[Lv,A3];split
  .rfl
  exact c
 have hpv:∀b off,PvR (ins j (.yld rest live) st.Qw) rho b off↔PvR st.Qw rho b off:=by
  intro b off;constructor
  .rintro⟨i,o,c,hb,hp⟩;rw[A3]at c;split at c
   .cases c;simp[E5,N1]at hb
   exact⟨i,o,c,hb,hp⟩
  rintro⟨i,o,c,hb,hp⟩;refine⟨i,o,?_,hb,hp⟩;rw[A3,Hj]
  .exact c
  rintro rfl;rw[hj]at c;cases c;simp[E5,N1]at hb
 have u:∀b,Own (A1 (ins j (.yld rest live) st.Qw)) rho b↔Own (A1 st.Qw) rho b:=by
  intro b;constructor
  .rintro⟨i,o,c,hb⟩;rw[A3]at c;split at c
   .cases c;simp[E5,N1]at hb
   exact⟨i,o,c,hb⟩
  rintro⟨i,o,c,hb⟩;refine⟨i,o,?_,hb⟩;rw[A3,Hj]
  .exact c
  rintro rfl;rw[hj]at c;cases c;simp[E5,N1]at hb
 have s:∀b off,Prv C'.X (A1 (ins j (.yld rest live) st.Qw)) rho b off↔(C'.X b off \/ PvR st.Qw rho b off):=λb off=>or_congr BL1 (hpv b off);have hk1:Sc w (Prv C.X (A1 st.Qw) rho) w' (Prv C'.X (A1 (ins j (.yld rest live) st.Qw)) rho):=λb o v hp hc=>
  let ⟨h1,h2⟩:=hk b o v hp hc
  ⟨h1,λy=>h2 ((s b o).1 y)⟩
 have f:∀i o,A1 (ins j (.yld rest live) st.Qw) i=some o->(i=j/\o=.yld rest live) \/ (i≠j/\A1 st.Qw i=some o):=by
  intro i o c;rw[A3]at c;split at c
  .rename_i e;cases c;exact .inl ⟨e.symm,rfl⟩
  rename_i e;exact .inr ⟨λe'=>e e'.symm,c⟩
 refine⟨⟨⟨?_,?_,?_,λb off hX=>hR.bnd b off hX⟩,hR.ext,hR.size,hR.same,?_,?_,?_⟩,λt=>(h.env t).keeps hk1 q,?_,h.marks.1,?_⟩
 .intro i o c;rcases f i o c with⟨rfl,rfl⟩ | ⟨_,c⟩
  .exact h.hp.holds i _ hj
  by_cases hbH:∃b,H b/\E5 (rho i) o b
  .obtain⟨b,hb,hbo⟩:=hbH;obtain⟨jw,e,m,n,g,q1,q2,q3⟩:=hH b hb;obtain rfl:=h.hp.sep i jw o (.vec e m n g false) b c q1 hbo q2;rw[c]at q1;cases q1;exact q3.vec (Sc.of_imp' λb o hp=>(s b o).1 hp) λ_ _=>rfl
  exact (h.hp.holds i o c).keeps hk1 q λb hb=>l b (.inl ⟨i,o,c,hb⟩) λhh=>hbH ⟨b,hh,hb⟩
 .intro i i' oi oj b c z hb hb';rcases f i oi c with⟨rfl,rfl⟩ | ⟨_,c⟩
  .simp[E5,N1]at hb
  rcases f i' oj z with⟨rfl,rfl⟩ | ⟨_,z⟩
  .simp[E5,N1]at hb'
  exact h.hp.sep i i' oi oj b c z hb hb'
 .intro i o b off c hb;exact hR.out b off (.inl ((u b).1 ⟨i,o,c,hb⟩))
 .intro b o v hp hc;obtain⟨h1,h2⟩:=hR.keep b o v hp hc;exact⟨h1,λy=>h2 ((s b o).1 y)⟩
 .intro b hb;exact hR.own b (.inl ((u b).1 hb))
 .intro i r b c;rcases f i _ c with⟨rfl,he⟩ | ⟨hne,c⟩
  .cases he;exact⟨hY,by rw[hyv];exact (h.yld i _ _ hj).2⟩
  exact Ij (x i r b c) hne
 .intro i c hl;rw[hrho];refine h.pin i c ?_;simp only[Lv,A3]at hl;split at hl
  .rename_i e;subst e;simp[Lv,hj]
  exact hl
 intro d hd;obtain⟨r,h1,h2,h3,h4⟩:=h.marks.2 d hd;have hm:UE a.defers r:=by unfold UE;rw[<- h1];exact hd
 refine⟨r,h1,hR.own r (.inr hm),?_,λoff=>hR.out r off (.inr hm)⟩;rw[l r (.inr hm) λhh=>?_]
 .exact h3
 obtain⟨jw,e,m,n,g,q1,q2,_⟩:=hH r hh;exact (h.hp.holds jw _ q1).nd q2 h3
def Iv {j:Nat}:∀{Qw:C5},FP j Qw=true->∀i r b,A1 Qw i=some (.yld r b)->i=j
 |[],_,i,r,b,h=>by simp[A1]at h
 |(x,o)::Qw,hy,i,r,b,h=>by
  have a:FP j Qw=true:=by cases o<;>simp only[FP,By5]at hy<;>first|exact hy.2|exact hy
  simp only[A1]at h;split at h
  .rename_i e;cases h;subst e;simp only[FP,By5,beq_iff_eq]at hy;exact hy.1
  exact Iv a i r b h
end
section
variable {P:Program}{C:Ctx}{st:St}{a:Act}{w:World}{rho:Nat->Value}{𝒢 : Prot P}
def PF {w' : World}{Pi Pi' : Nat->Nat->Prop}{v:Value}{x:PV}(h:Sd w Pi v x)(a:Zo x=true):Sd w' Pi' v x:=by cases h<;>first|exact .v _|exact .bb _|exact .str _|simp[Zo]at a
def AC1:∀{l:List AV},Az2 l=true->∀i,i<l.length->∃x,l.getD i .top=.p x/\Zo x=true
 |[],_,i,hi=>Ij hi (by simp)
 |.p x::r,h,0,_=>by simp only[Az2,By5]at h;exact⟨x,rfl,h.1⟩
 |.p x::r,h,i+1,hi=>by simp only[Az2,By5]at h;obtain⟨y,h1,a⟩:=AC1 h.2 i (by simpa using hi);exact⟨y,by simpa using h1,a⟩
def AC2 {w' : World}{Pi Pi' : Nat->Nat->Prop}{live live' : Nat->Prop}{rho rho' : Nat->Value}{v:Value}{x:AV}(h:Sq w Pi live rho v x)(a:Bc9 x=true):Sq w' Pi' live' rho' v x:=by
 cases h with
 |p v x h=>exact .p v x (PF h a)
 |tup vs l hs h=>
  refine .tup vs l hs λi b=>?_;obtain⟨x,h1,c⟩:=AC1 (l:=l) a i b
  have:=h i b
  rw[h1]at this⊢;exact .p _ _ (PF this.toP c)
 |_=>simp[Bc9]at a
def LR {f:AV->Option (List Prop×PV)}:∀{l:List AV}{c:List Prop}{xs:List PV},Us f l=some (c,xs)->C6 c->xs.length=l.length/\∀i,i<l.length->∃d,f (l.getD i .top)=some (d,xs.getD i default)/\C6 d
 |[],c,xs,h,_=>by simp only[Us,By4,Bz3]at h;obtain⟨_,rfl⟩:=h;exact⟨rfl,λi b=>Ij b (by simp)⟩
 |a::r,c,xs,h,hc=>by
  simp only[Us]at h;split at h
  .rename_i c1 x d l h1 g;simp only[By4,Bz3]at h;obtain⟨rfl,rfl⟩:=h;rw[CE]at hc;obtain⟨j,m⟩:=LR g hc.1;refine⟨by simp[j],λi b=>?_⟩;cases i with
   |zero=>exact⟨c1,h1,hc.2⟩
   |succ i=>exact m i (by simpa using b)
  cases h
def Sat.pubX (h:Sat C st a w rho):Sc w (PiS C st rho) w C.X:=λb o v hp hc=>⟨hc,λc=>hp (.inl c)⟩
def KV (h:Sat C st a w rho):∀(n:Nat) {v:Value}{x:AV}{c:List Prop}{y:PV},RS C st w rho v x->WH st.Qw n x=some (c,y)->C6 c->Sd w C.X v y
 |0,v,x,c,y,hv,hl,hc=>by
  simp only[WH]at hl;split at hl
  .cases hl;exact hv.toP.keeps h.pubX
  cases hl
 |n+1,v,x,c,y,hv,hl,hc=>by
  simp only[WH]at hl;split at hl
  .cases hl;exact hv.toP.keeps h.pubX
  .rename_i j;split at hl
   .rename_i e k m f vw s;simp only[By4,Bz3]at hl;obtain⟨rfl,rfl⟩:=hl;have q:=h.hp.holds j _ s;cases hv with
    |vec _ base n' cap hlv t=>
     rw[t]at q;rcases q with⟨hn,rfl⟩ | ⟨b,cap',cc,q,h1,h2,h3,h4,h5,h6⟩
     .cases hn;exact .slnil _ _
     cases q;refine .sl false b 0 _ k _ f (λi l=>cc.getD (i*k+l) undef) h2 h5 (λi l o hl=>?_) (λi l o hl=>(h6 i l o hl).1.keeps h.pubX) none (λ_=>rfl);have hlt:=H3 o hl;have hle:=BA6 k h2;rw[BE1];exact⟨cell_of_heap h1 (by omega),h.hp.out j _ b _ s (by simp[E5,N1,t]),(h6 i l o hl).2⟩
   .rename_i e m jr s;split at hl
    .rename_i l g hjr;simp only[By4,Bz3]at hl;obtain⟨rfl,rfl⟩:=hl;obtain⟨rfl,hrow⟩:=hc;have q:=h.hp.holds j _ s;obtain⟨rv,r,u,_⟩:=h.hp.holds jr _ hjr;cases hv with
     |vec _ base n' cap hlv t=>
      rw[t]at q;obtain⟨rv',_,hr3,q⟩:=q;rw[r]at hr3;cases hr3;rcases q with⟨hn,rfl⟩ | ⟨b,cap',cc,q,h1,h2,h3,h4,h5,_⟩
      .cases hn;exact .slnil _ _
      cases q;refine .sl false b 0 _ 1 _ _ (λi _=>cc.getD i undef) h2 (λ_ _=>rfl) (λi l o hl=>?_) (λi l o hl=>?_) none (λ_=>rfl)
      .obtain rfl:l=0:=by omega
       rw[BE1,BH5,BG2];exact⟨cell_of_heap h1 (by omega),h.hp.out j _ b _ s (by simp[E5,N1,t]),(h5 i o).1⟩
      obtain rfl:l=0:=by omega
      obtain⟨x,hx⟩:=BA1.1 (hrow i o);show Sd w _ _ ((RG (g i)).getD default);rw[hx,(h5 i o).2 (by simp)];exact Aj1 (u i o) hx h.pubX λb' hb' off hX=>h.hp.out jr _ b' off hjr ⟨rv,r,i,o,hb'⟩ hX
    cases hl
   cases hl
  .rename_i j off;split at hl
   .rename_i cs s;split at hl
    .rename_i c' l z;simp only[By4,Bz3]at hl;obtain⟨rfl,rfl⟩:=hl;obtain⟨b,cc,T,t,h1,h2,h3⟩:=h.hp.holds j _ s;obtain⟨g1,g2⟩:=LR z hc;rw[BB1]at g1 g2;cases hv with
     |reg _ _ b' hlv hr'=>
      have e:b' = b:=by have r:rho j=.pointer (some ⟨b',0,none⟩):=hr';rw[t]at r;cases r;rfl
      subst e;refine .ptr b' off l (λi=>cc.getD (off+i) undef) (λi o=>?_) (λi o=>?_)
      .exact⟨cell_of_heap h1 (by omega),h.hp.out j _ b' _ s (by simp[E5,N1,t]),(h3 (off+i) (by omega)).2⟩
      obtain⟨d,g3,g4⟩:=g2 i (by omega);have e1:(cs.drop off).getD i .top=cs.getD (off+i) .top:=by simp[By3,BF6]
      rw[e1]at g3;exact KV h n (h3 (off+i) (by omega)).1 g3 g4
    cases hl
   cases hl
  .rename_i cs;split at hl
   .rename_i c' l z;simp only[By4,Bz3]at hl;obtain⟨rfl,rfl⟩:=hl;obtain⟨g1,g2⟩:=LR z hc;cases hv with
    |agr x _ hx h1 ha=>refine .agg x l (hx.trans g1.symm) (λi o=>h1 i (by omega)) λi o=>?_;obtain⟨d,g3,g4⟩:=g2 i (by omega);exact KV h n (ha i (by omega)) g3 g4
   cases hl
  cases hl
def Ap8 (hG : 𝒢.G C)(h:Sat C st a w rho){vs:Array Value}{as:List AV}(hv:RepV w (Prv C.X (A1 st.Qw) rho) (Lv (A1 st.Qw)) rho vs as){c:List Prop}{xs:List PV}(hl:Us (WH st.Qw 9) as=some (c,xs))(hc:C6 c)
 {f:FuncId}{o:Oper}{k:St->Prop}{Q:J3}(hF:SemF P f (xs.map .p) [] λr objs _=>Ah8 (nid (o.dst.getD 0) 0) o.dst k st r objs) :
 CallF P f vs w λe w'=>∃st' rho' r,Sat C st' a w' rho' /\ Io o.dst k Q r st' /\ AM6 w' (PiS C st' rho') (Lv (A1 st'.Qw)) rho' e r:=by
 obtain⟨g1,g2⟩:=LR hl hc;have hT:TabE P w C.X (λ_=>False):=((𝒢.tab C hG).keeps h.keep h.same (E':=λ_=>False) λ_ _ z=>z.elim).keeps h.pubX (λ_ _ _=>rfl) λ_ _ z=>z;have hS:Sat { X:=C.X,w0:=w,E0:=λ_=>False,Pi0:=C.X,rho0:=λ_=>undef,Y:=λ_ _=>False,yv:=undef } ⟨Ss (xs.map .p),Sa []⟩ ⟨vs,[]⟩ w λ_=>undef:=by
  refine⟨⟨⟨λj o s=>(nomatch s),λi j oi oj b x=>(nomatch x),λj o b off s=>(nomatch s),h.hp.bound⟩,Ext.refl _,Bz5 _,λb _ _=>rfl,λb o v hp hc=>⟨hc,?_⟩,?_,λj r b s=>(nomatch s)⟩,λt=>?_,λj _ s=>(nomatch s),BG8,λd hd=>by simp at hd⟩
  .rintro (hX|⟨j,o,s,_⟩)
   .exact hp hX
   cases s
  .rintro b ⟨j,o,s,_⟩;cases s
  show Sq w _ _ _ (vs.getD t undef) (get (Ss (xs.map .p)) t);rw[AJ];by_cases ht:t<as.length
  .obtain⟨d,g3,g4⟩:=g2 t ht;have e:(xs.map AV.p).getD t .top=.p (xs.getD t default):=by
    have:t<xs.length:=by omega
    simp[By3,this]
   rw[e];refine .p _ _ ((KV h 9 (hv.2 t ht) g3 g4).keeps λb o v hp hc=>⟨hc,?_⟩);rintro (hX|⟨j,o,s,_⟩)
   .exact hp hX
   cases s
  rw[By3,BD0 (by simp;omega)];exact .top _
 refine (hF (Prot.triv P _ (λr b hb=>hb) hT) _ w vs _ rfl hS (by simp[hv.1,g1])).mono ?_;rintro e w' ⟨C',r,objs',ks,rho',rfl,⟨b,rfl,u,hk⟩ | ⟨e1,m,n,g,rfl,rfl,u,y,hk⟩,q,⟨v,rfl,hr⟩,_⟩
 .obtain⟨hs,_⟩:=h.grow q.size (λb hb=>q.same b hb (λh=>h)) q.ext;exact⟨st,rho,.ret b,hs,hk,v,rfl,AC2 hr u⟩
 cases hr with
 |vec _ base nn cap hl hrr=>
  have hh:Sr w' _ _ _ (rho' 0) (.vec e1 m n g false):=q.hp.holds 0 _ rfl;rw[hrr]at hh;obtain⟨g1',g2',g3'⟩:=h.fresh (Bp (o.dst.getD 0) 0) y (.vec e1 m n g false) (.slice base nn cap) (w':=w') q.size (λb hb=>q.same b hb (λh=>h))
   (λb hb=>(q.own b ⟨0,_,rfl,by rw[hrr];exact hb⟩).resolve_left λh=>h) (λ_=>by
    rcases hh with hn|⟨b,cap',cc,h0,h1,h2,h3,h4,h5,h6⟩
    .exact .inl hn
    exact .inr ⟨b,cap',cc,h0,h1,h2,h3,h4,h5,λi l x hl=>⟨PF (h6 i l x hl).1 (u i l x hl),(h6 i l x hl).2⟩⟩) (λ_ _ h=>by cases h) q.ext
  exact⟨_,_,.ret (.vec (nid (o.dst.getD 0) 0)),g1',hk,_,rfl,.vec _ base nn cap (by simp[Lv,A3]) (by simp)⟩
end
section
variable {P:Program}{C:Ctx}{st:St}{a:Act}{w:World}{rho:Nat->Value}{𝒢 : Prot P}{n:Nat}
def Ap9 {t:TypeId}{m:String}{f:FuncId}(hm:WG P t m=some f)(x:Value):(method (P.types.size+Made.depth) t x m).run P w=.ok (f,x) w:=by
 unfold WG at hm;split at hm
 .rename_i i d b c;split at hm
  .cases hm
  rename_i a;split at hm
  .rename_i q g;split at hm
   .rename_i f' hp j;cases hm;show (method (P.types.size+99+1) t x m).run P w=_;generalize P.types.size+99=fuel;have l : q.path = #[]:=by simpa using hp
    cases d<;>first
     |exact Ij rfl (a _)
     |simp[method,Be0 w b,g,hp,j,follow,receiverAt,Ag w c,Place.get]
   cases hm
  cases hm
 cases hm
def PG (a:Act)(d:Option Nat)(v:Value):(a.put d v).tmps.size=a.tmps.size:=by cases d<;>simp[Act.put]
def Aj4 {o:Oper}{k:St->Prop}{Q:J3}(hG : 𝒢.G C)(h:Sat C st a w rho)(s:a.tmps.size=n)(hd:∀t,o.dst=some t->t<n)(hw:wOp (Gj P) P o k Q st){ro:Option Nat}{next:Act->World->Prop}{Q' : Exit->Act->World->Prop}
 (hk:∀a' w,a'.defers=a.defers->NextOk 𝒢 n k a' w->next a' w) (hq:∀chain a w,PanicOk 𝒢 n Q chain a w->Q' (.panic chain) a w):o.wpIn (FW ro) 0 P a w next Q':=by
 refine⟨λf _=>trivial,?_⟩;have hdef:∀c,o.op ≠ .defer c:=by intro c he;simp[wOp,he,aop,RK,bop]at hw
 have q:o.semAt ro a.eval=execOp a.eval o:=Oper.semAt_eq _ _ _ hdef;have a9:∀t,o.dst=some t->t<a.tmps.size:=λt ht=>by rw[s];exact hd t ht
 show o.uponIn (FW ro) 0 P a next Q' ((o.semAt ro a.eval).run P w)
 unfold wOp at hw;split at hw
 .rename_i f args types he;rcases hw with⟨as,Qw,f',as',ha,hwh,ids,hc⟩ | ⟨j,xs,Qw,ys,rest,hf,hvs,hj,a2,hle,d⟩ | ⟨f',as',c,xs,hwh,hl,hc,hF⟩ | ⟨j,jw,e,m,n2,g,rest,⟨hf,ha,hjw⟩,hj,a2,d⟩
  .obtain⟨g1,g2,g3,g4⟩:=ZF h ha;have hv:RepV w (Prv C.X (A1 Qw) rho) (Lv (A1 Qw)) rho (args.map a.eval) as:=
    ⟨by simp[g3],λi hi=>by rw[PE (by omega)];exact g4 i _ (By7 (by omega))⟩
   obtain⟨x,y,hx,a3⟩:=Tr h hwh g2 hv;have hcf:=PC hG g1 s hc a3.1 a3.2;refine PD hd hk hq hG s ?_ hcf;rw[q];simp[execOp,he,resolve,Deferred.ofValue,hx,invoke]
  .obtain⟨g1,g2,g3,g4,_⟩:=GU args.toList st xs Qw h hvs;have a4:=g2.av (h.aev f);rw[hf]at a4;obtain⟨hY,hyv⟩:=g1.yld j _ _ hj;obtain⟨hl,hrep⟩:=Aj3 (w:=w) (Pi:=Prv C.X (A1 Qw) rho) hle;have a5:=𝒢.call C w _ _ ys rest (args.map a.eval) (λ_=>False) hG g1.rel hY (λ_ h=>h.elim) (.inl ⟨λ_ h=>h,by simp;rw[<- hl,g3];simp,λi hi=>by rw[PE (by omega)];exact hrep i (by omega) _ (g4 i _ (By7 (by omega)))⟩)
   obtain⟨l,fn,tmps,assign,body,h1,h2,h3⟩:=a5;have hfv:a.eval f=.func (.yield l) #[] #[]:=by
    generalize a.eval f=v at a4;cases a4 with
    |yf _ l' hlv hr=>have hr' : rho j=.func (.yield l') #[] #[]:=hr;rw[hyv,h1]at hr';cases hr';rfl
   have u:(o.semAt ro a.eval).run P w=.ok (.round l fn tmps assign body) w:=by rw[q];simp[execOp,he,resolve,Deferred.ofValue,hfv,invoke,h2]
   rw[u,Oper.uponIn_round];refine⟨λh=>by simp[FW,Fence.wide]at h,(Tq h3).mono ?_⟩;rintro e w' ⟨b,rfl,C',hG',hyv',a6,hY',hw0,hE,hPi,hR,a7,a8,_⟩;have hs:=g1.yielded hj hY' hyv' a6 hw0 hE hPi hR a7 a8 (Iv a2) (λ_ h=>h.elim);exact hk _ _ (by cases o.dst<;>rfl) ⟨C',_,rho,hG',hs.put (x:=.p (.bb b)) (.p _ _ (.bb b)) a9,by rw[PG,s],d b⟩
  .have hv:RepV w (Prv C.X (A1 st.Qw) rho) (Lv (A1 st.Qw)) rho (args.map a.eval) (args.toList.map (aev st.env)):=
    ⟨by simp,λi hi=>by
     have hi' : i<args.size:=by simpa using hi
     have:=h.aev args[i]
     simpa[By2,By3,hi']using this⟩
   obtain⟨x,y,hx,a3⟩:=Tr h hwh (Kp.refl _ _ _ _) hv;have hcf:=Ap8 hG h a3 hl hc (o:=o) (Q:=Q) hF;refine PD hd hk hq hG s ?_ hcf;rw[q];simp[execOp,he,resolve,Deferred.ofValue,hx,invoke]
  have a4:=h.aev f;rw[hf]at a4;obtain⟨hY,hyv⟩:=h.yld j _ _ hj;obtain⟨x,rfl⟩:∃x,args = #[x]:=by
   obtain⟨l⟩:=args;cases l with
   |nil=>simp at ha
   |cons x r=>cases r with
    |nil=>exact⟨x,rfl⟩
    |cons y r=>simp at ha
  have hx:=h.aev x;rw[show aev st.env x=.vec jw by simpa using ha]at hx;obtain⟨hv,hlv⟩:a.eval x=rho jw/\Lv (A1 st.Qw) jw:=by
   generalize a.eval x=v at hx;cases hx with
   |vec _ base n cap hl hr=>exact⟨hr.symm,hl⟩
  have hh:=h.hp.holds jw _ hjw;have hpr:∀b off,N1 (rho jw) (.vec e m n2 g false)=some b->PvR st.Qw rho b off:=λb off hb=>⟨jw,_,hjw,hb,trivial⟩;have a5:=𝒢.call C w _ _ _ rest #[rho jw] (λb=>N1 (rho jw) (.vec e m n2 g false)=some b) hG h.rel hY (λb hb=>⟨.inl ⟨jw,_,hjw,hb⟩,λo=>hpr b o hb⟩) (.inr ⟨_,_,_,_,_,rfl,rfl,λ_=>BL1,hh⟩);obtain⟨l,fn,tmps,assign,body,h1,h2,h3⟩:=a5;have hfv:a.eval f=.func (.yield l) #[] #[]:=by
   generalize a.eval f=v at a4;cases a4 with
   |yf _ l' hlv hr=>have hr' : rho j=.func (.yield l') #[] #[]:=hr;rw[hyv,h1]at hr';cases hr';rfl
  have u:(o.semAt ro a.eval).run P w=.ok (.round l fn tmps assign body) w:=by rw[q];simp[execOp,he,resolve,Deferred.ofValue,hfv,invoke,hv,h2]
  rw[u,Oper.uponIn_round];refine⟨λh=>by simp[FW,Fence.wide]at h,(Tq h3).mono ?_⟩;rintro e' w' ⟨b,rfl,C',hG',hyv',a6,hY',hw0,hE,hPi,hR,a7,a8,_,_,hya⟩;have hs:=h.yielded hj hY' hyv' a6 hw0 hE hPi hR a7 a8 (Iv a2) (λb hb=>by
   rcases hya with⟨hn,_⟩ | ⟨v,e',m',n',g',q1,q2,_,q4⟩
   .exact Ij hb (hn b)
   simp only[Ut,BD6,PV.agg.injEq,PV.iface.injEq,PV.sl.injEq,and_true,true_and]at q2;obtain⟨rfl,rfl,rfl,rfl⟩:=q2;obtain rfl:rho jw=v:=by simpa using q1
   exact⟨jw,e,m,n2,g,hjw,hb,q4⟩)
  exact hk _ _ (by cases o.dst<;>rfl) ⟨C',_,rho,hG',hs.put (x:=.p (.bb b)) (.p _ _ (.bb b)) a9,by rw[PG,s],d b⟩
 .rename_i r m args types he;obtain⟨as,Qw,t,y,f',ha,hr,hm,ids,hc⟩:=hw;obtain⟨g1,g2,g3,g4⟩:=Na args.toList st as Qw h ha;have hv:RepV w (Prv C.X (A1 Qw) rho) (Lv (A1 Qw)) rho (args.map a.eval) as:=
   ⟨by simp[g3],λi hi=>by rw[PE (by omega)];exact g4 i _ (By7 (by omega))⟩
  have hrv:=g2.av (h.aev r);rw[hr]at hrv;have hrv:=hrv.toP;obtain⟨x,hx,a0⟩:∃x,a.eval r=.iface t x/\Sd w (Prv C.X (A1 Qw) rho) x y:=by
   generalize a.eval r=v at hrv;cases hrv with
   |iface _ x _ hx=>exact⟨x,rfl,hx⟩
  have a3:RepV w (Prv C.X (A1 Qw) rho) (Lv (A1 Qw)) rho (#[x]++args.map a.eval) (.p y::as):=
   RepV.append (vs:=#[x]) (l:=[.p y]) ⟨rfl,λi hi=>by
    simp only[BC3]at hi;obtain rfl:i=0:=by omega
    exact .p _ _ a0⟩ hv
  have hcf:=PC hG g1 s hc a3.1 a3.2;refine PD hd hk hq hG s ?_ hcf;rw[q];have e0:(#[Value.iface t x]++args.map a.eval)[0]? = some (.iface t x):=by simp[BH0]
  have e1:(args.map a.eval).extract 0 args.size=args.map a.eval:=by
   have:=Array.extract_size (xs:=args.map a.eval)
   rwa [BQ3]at this
  simp[execOp,he,resolve,invoke,hx,callMethod,e0,e1,Ap9 hm]
 .rename_i x he;obtain⟨t,y,hx,hQ⟩:=hw;have a0:=h.aev x;rw[hx]at a0;have a0:=a0.toP;obtain⟨v,hv⟩:∃v,a.eval x=.iface t v:=by
   generalize a.eval x=z at a0;cases a0 with
   |iface _ v _ _=>exact⟨v,rfl⟩
  have u:(o.semAt ro a.eval).run P w=.halt (.panic (.iface t v)) w:=by rw[q];simp[execOp,he,Instr.panic,hv,goPanic,Result.andThen]
  rw[u,Oper.uponIn_panic];exact hq _ _ _ ⟨C,st,rho,_,_,rfl,hG,h,s,by rw[<- hv];exact a0,hQ⟩
 .rename_i x he;obtain⟨j,cl,last,seen,jm,es,h1,h2,h3,h4,h5,h6,h7⟩:=hw;have hw2:∃out,OpOk P C o st a w rho out/\k (AM.put { st with Qw:=out.Qw } o.dst out.val):=by
   rcases Be8 h he h1 h2 h3 h4 h5 with⟨g1,g2⟩ | ⟨i,g1,g2,g3⟩
   .exact⟨_,g2,h6 g1⟩
   exact⟨_,g3,h7 i g1 g2⟩
  obtain⟨out,⟨nx,v,w',rho',h1,h2,h3,_,h5⟩,d⟩:=hw2;have a1:next (a.put o.dst v) w':=hk _ _ (by cases o.dst<;>rfl) ⟨C,_,rho',hG,h3.put h5 a9,by rw[PG,s],d⟩
  rw[q,h1];rcases h2 with rfl|⟨rfl,rfl⟩
  .rw[BN8];exact a1
  rw[Oper.uponIn_skip];exact a1
 have hw2:∃out,OpOk P C o st a w rho out/\k (AM.put { st with Qw:=out.Qw } o.dst out.val):=by
  rcases hw with⟨out,ha,hc,d⟩ | ⟨c,x,ha,hc,d⟩ | ⟨out,ha,hc,d⟩
  .exact⟨out,AB6 h ha hc,d⟩
  .exact⟨⟨c,.p x,st.Qw⟩,Ap4 h ha hc,d⟩
  exact⟨out,AB5 h ha,d⟩
 obtain⟨out,⟨nx,v,w',rho',h1,h2,h3,_,h5⟩,d⟩:=hw2;have a1:next (a.put o.dst v) w':=hk _ _ (by cases o.dst<;>rfl) ⟨C,_,rho',hG,h3.put h5 a9,by rw[PG,s],d⟩
 rw[q,h1];rcases h2 with rfl|⟨rfl,rfl⟩
 .rw[BN8];exact a1
 rw[Oper.uponIn_skip];exact a1
def NextOk.up {K:St->Prop}{a:Act}{w:World}(c : 𝒢.G C)(h:Sat C st a w rho)(b:a.tmps.size=n)(d:semUp st K):NextOk 𝒢 n K a w:=
 let ⟨st',rho',hK,_,hs⟩:=d C a w rho h
 ⟨C,st',rho',c,hs,b,hK⟩
def Aq0 (h:Sat C st a w rho)(i:a.tmps.size=n){ops:Array Oper}{j:Nat}{o' : Oper}{d:Nat}(g:ops[j]? = some o')(c:o'.dst=some d)(l:d<n){b:Option Bool}(hy:yv (get st.env (FO ops.toList j))=some b):yielded ops a.tmps j=b:=by
 have m:FO ops.toList j=d:=by simp[FO,g,c]
 rw[m]at hy;have f:=h.env d;have ht:a.tmps[d]? = some (a.tmps.getD d undef):=by
  have:d<a.tmps.size:=by omega
  simp[By2,this]
 unfold yielded;simp only[g,c,By8,ht];unfold yv at hy;split at hy
 .rename_i x hx;cases hy;rw[hx]at f;rw[f.toP.toV]
 .rename_i x hx;cases hy;rw[hx]at f;rw[f.toP.toBool]
 .rename_i x hx;cases hy;rw[hx]at f;rw[f.toP.toV]
 cases hy
def Ts {ops:Array Oper}{o:Oper}(s:JX n ops.toList o=true)(m:∀(j:Nat) (o' : Oper) d,ops[j]? = some o' -> o'.dst=some d->d<n){K:St->Prop}{Q:J3}(hG : 𝒢.G C)(h:Sat C st a w rho)(c:a.tmps.size=n)(hw:Id (Gj P) P ops.toList o K Q st){ro:Option Nat}{next:Act->World->Prop}{Q' : Exit->Act->World->Prop}
 (hk:∀a' w,a'.defers=a.defers->NextOk 𝒢 n K a' w->next a' w) (hq:∀chain a w,PanicOk 𝒢 n Q chain a w->Q' (.panic chain) a w) :
 if Region.wanted o (yielded ops a.tmps)then o.wpIn (FW ro) 0 P a w next Q' else (∀f,o.about P w a.eval=some f->(FW ro).fn f)/\next (a.put o.dst undef) w:=by
 simp only[JX,By5]at s;obtain⟨u,i⟩:=s;have r:∀t,o.dst=some t->t<n:=λt ht=>by rw[ht]at u;simpa using u
 obtain⟨st1,rho1,hw,_,h⟩:=hw C a w rho h;cases z:o.guard with
 |none=>
  simp only[z]at hw
  have:Region.wanted o (yielded ops a.tmps)=true:=by simp[Region.wanted,z]
  rw[Gy this];exact Aj4 hG h c r hw hk hq
 |some q=>
  obtain⟨j,want⟩:=q;simp only[z]at hw i;obtain⟨b,hy,hw⟩:=hw;split at i
  .rename_i o' l;have l : ops[j]? = some o':=by simpa using l
   obtain⟨d,y⟩:=BA1.1 i;have hyy:=Aq0 h c l y (m j o' d l y) hy;have g:Region.wanted o (yielded ops a.tmps)=(b==some want):=by simp[Region.wanted,z,hyy]
   by_cases hb:b=some want
   .rw[Gy hb]at hw;rw[Gy (by rw[g];simp[hb])];exact Aj4 hG h c r hw hk hq
   rw[Hj hb]at hw;rw[Hj (by rw[g];simpa using hb)];refine⟨λf _=>trivial,hk _ _ (by cases o.dst<;>rfl) ⟨C,_,rho1,hG,h.put (x:=Cl) (.p _ _ (.v _)) (λt ht=>by rw[c];exact r t ht),by rw[PG,c],hw⟩⟩
  cases i
end
section
variable {P:Program}{C:Ctx}{st:St}{a:Act}{w:World}{rho:Nat->Value}{𝒢 : Prot P}{n:Nat}{ro:Option Nat}{ops:Array Oper}{Q:J3}
def Xd (a:ops.toList.all (JX n ops.toList)=true)(j:Nat)(o' : Oper)(d:Nat)(b:ops[j]? = some o')(c:o'.dst=some d):d<n:=by
 rw[Bz2]at a
 have:=a o' (by
  have:ops.toList[j]? = some o':=by simpa using b
  exact BB3 this)
 simp only[JX,c,By5]at this;simpa using this.1
def PH (c:ops.toList.all (JX n ops.toList)=true):∀(l:List Oper) (i:Nat),ops.toList.drop i=l->i+l.length=ops.size->∀{C st a w rho},𝒢.G C->Sat C st a w rho->a.tmps.size=n->JO (Gj P) P ops.toList l Q st ->
 wpOpsIn (FW ro) 0 P ops (WP 𝒢 n Q) ((List.range ops.size).drop i) a w
 |[],i,hl,hi,C,st,a,w,rho,g,h,b,hw=>by rw[BG5 (by simp at hi⊢;omega)];exact⟨C,st,rho,g,h,b,hw⟩
 |o::l,i,hl,hi,C,st,a,w,rho,g,h,b,hw=>by
  have m:i<ops.size:=by simp at hi;omega
  have f:(List.range ops.size).drop i=i::(List.range ops.size).drop (i+1):=by rw[BI5 (by simpa using m)];simp
  rw[f];have d:ops.toList[i]? = some o:=by
   have:(ops.toList.drop i)[0]? = some o:=by rw[hl];rfl
   simpa using this
  have r:ops[i]? = some o:=by simpa using d
  have q : ops.toList.drop (i+1)=l:=by
   have:(ops.toList.drop i).drop 1=l:=by rw[hl];rfl
   rwa [BK7]at this
  have j:JX n ops.toList o=true:=by rw[Bz2]at c;exact c o (BB3 d)
  simp only[wpOpsIn,r]
  have:=Ts (ro:=ro) (Q':=WP 𝒢 n Q) (next:=wpOpsIn (FW ro) 0 P ops (WP 𝒢 n Q) ((List.range ops.size).drop (i+1))) j (Xd c) g h b hw
   (λa w _ ⟨C,st,rho,g,h,b,hw⟩=>PH c l (i+1) q (by simp at hi⊢;omega) g h b hw) (λchain a w h=>h)
  exact this
def cnt:List Bool->Nat
 |[]=>0
 |true::r=>cnt r+1
 |false::r=>cnt r
def AC3:∀{l:List Bool}{i:Nat},l[i]? = some false->cnt (l.set i true)=cnt l+1
 |[],i,h=>by simp at h
 |b::r,0,h=>by simp at h;subst h;simp[cnt]
 |b::r,i+1,h=>by
  have:=AC3 (l:=r) (i:=i) (by simpa using h)
  cases b<;>simp[cnt,this]
def AC4:∀(l:List Bool),cnt l<=l.length
 |[]=>by simp[cnt]
 |true::r=>by simp[cnt,AC4 r]
 |false::r=>by have:=AC4 r;simp[cnt];omega
def Aj5:∀{l:List Bool},l.length<=cnt l->∀i,i<l.length->l[i]? = some true
 |[],_,i,hi=>by simp at hi
 |true::r,h,i,hi=>by
  cases i with
  |zero=>simp
  |succ i=>simpa using Aj5 (l:=r) (by simpa[cnt]using h) i (by simpa using hi)
 |false::r,h,i,hi=>by have:=AC4 r;simp[cnt]at h;omega
def AC5 (m:Region.Mode)(ops:Array Oper):∀(fuel t:Nat) (listed:Array Bool) (acc:List Nat),Region.linearise.go m ops fuel t listed acc=acc.reverse++Region.linearise.go m ops fuel t listed []
 |0,t,listed,acc=>by simp[Region.linearise.go]
 |fuel+1,t,listed,acc=>by
  simp only[Region.linearise.go];split
  .rename_i i a;rw[AC5 m ops fuel _ _ (i::acc),AC5 m ops fuel _ _ [i]];simp
  simp
def Aq1 (q:ops.toList.all (JX n ops.toList)=true)(c:Ip ops.toList=true){Inv:(Nat->Bool)->St->Prop}
 (u:∀D i s o,Inv D s->ops.toList[i]? = some o->D i=false->(∀e∈o.after.toList,EH e=true->D e.on=true)->Id (Gj P) P ops.toList o (Inv λj=>if j=i then true else D j) Q s)
 (z:∀D s,Inv D s->(∀i,i<ops.toList.length->D i=true)->semUp s (Q .normal)):∀(fuel t:Nat) (listed:Array Bool),listed.size=ops.size->ops.size<=cnt listed.toList+fuel->∀{a w},NextOk 𝒢 n (Inv λj=>listed.getD j false) a w ->
 wpOpsIn (FW ro) 0 P ops (WP 𝒢 n Q) (Region.linearise.go .any ops fuel t listed []) a w:=by
 have d:∀(listed:Array Bool) {a w},NextOk 𝒢 n (Inv λj=>listed.getD j false) a w->(∀i,i<ops.size->listed.getD i false=true)->wpOpsIn (FW ro) 0 P ops (WP 𝒢 n Q) [] a w:=by intro listed a w h a0;obtain⟨C,st,rho,hG,hs,f,hI⟩:=h;exact NextOk.up hG hs f (z _ st hI λi m=>a0 i (by simpa using m))
 intro fuel
 induction fuel with
 |zero=>
  intro t listed f a1 a w h;simp only[Region.linearise.go,List.reverse_nil];refine d listed h λi m=>?_
  have:=Aj5 (l:=listed.toList) (by simp;omega) i (by simp;omega)
  simp only[BC9]at this;simp[By2,this]
 |succ fuel ih=>
  intro t listed f a1 a w h;simp only[Region.linearise.go];generalize a2:(List.range ops.size).filter (λi=>!listed.getD i true&&((ops[i]?).map (·.after.all λe=>!Region.binds .any e||listed.getD e.on false)).getD false)=rs;split
  .rename_i i m;rw[AC5];have b:i∈rs:=BB3 m;rw[<- a2,BN0]at b;obtain⟨hr,hc⟩:=b;simp only[BC0]at hr;simp only[By5,BA7]at hc;obtain⟨hl,ha⟩:=hc;have ho:ops[i]? = some ops[i]:=BA8 hr;have hof:listed[i]? = some false:=by
    have:i<listed.size:=by omega
    simp only[By2,BA8 this,Bz4]at hl;rw[BA8 this,hl]
   simp only[ho,Bz7,Bz4,BQ9,BA4,BA7]at ha;have v:JX n ops.toList ops[i]=true:=by rw[Bz2]at q;exact q _ (by simp)
   show wpOpsIn (FW ro) 0 P ops (WP 𝒢 n Q) (i::Region.linearise.go .any ops fuel (t / rs.length) (listed.setIfInBounds i true) []) a w;simp only[wpOpsIn,ho];obtain⟨C,st,rho,hG,hs,hsz',hI⟩:=h;have hw:=u _ i st ops[i] hI (by simp[hr]) (by simp[By2,hof]) (λe he hb=>by
    rcases ha e (by simpa using he)with h1|h1
    .unfold EH at hb;rw[hb]at h1;cases h1
    exact h1)
   have hset:(λj=>if j=i then true else listed.getD j false)=λj=>(listed.setIfInBounds i true).getD j false:=by
    funext j;by_cases e:j=i
    .subst e;simp[By2,show j<listed.size by omega]
    simp[By2,e,BC5 e]
   rw[hset]at hw;exact Ts (ro:=ro) (Q':=WP 𝒢 n Q) v (Xd q) hG hs hsz' hw
    (λa w _ h=>ih _ _ (by simp[f]) (by rw[BN2,AC3 (by simpa using hof)];omega) h) (λchain a w h=>h)
  rename_i y;have g:rs=[]:=by
   cases rs with
   |nil=>rfl
   |cons x r=>
    rw[List.getElem?_eq_none_iff]at y
    have:=BP8 t (show 0<(x::r).length by simp)
    omega
  subst g;refine d listed h λi m=>?_
  induction i using Nat.strongRecOn with
  |_ i ihi=>
   cases hv:listed.getD i false with
   |true=>rfl
   |false=>
    exfalso;have b:i∈(List.range ops.size).filter (λi=>!listed.getD i true&&((ops[i]?).map (·.after.all λe=>!Region.binds .any e||listed.getD e.on false)).getD false):=by
     rw[BN0];refine⟨by simpa using m,?_⟩;have ho:ops[i]? = some ops[i]:=BA8 m;have hlt:i<listed.size:=by omega
     simp only[ho,Bz7,Bz4,By5,BA7,BQ9,BA4];refine⟨by simpa[By2,hlt]using hv,λe he=>?_⟩;unfold Ip at c;rw[Bz2]at c
     have:=c i (by simpa using m)
     simp only[BC9,ho,Bz2,BA4,BA7,decide_eq_true_eq]at this;rcases this e (by simpa using he)with h1|h1
     .exact .inl h1
     exact .inr (ihi e.on h1 (by omega))
    rw[a2]at b;simp at b
end
section
variable {P:Program}{C:Ctx}{st:St}{a:Act}{w:World}{rho:Nat->Value}{𝒢 : Prot P}{n:Nat}{ro:Option Nat}{Q:J3}
def Bl9 (𝒢 : Prot P)(ro:Option Nat):Prop:=∀l,ro=some l->∀C,𝒢.G C->∃r,C.w0.heap[l]? = some (.loop r)/\¬C.E0 l
def Ig (P:Program)(n:Nat)(c:Code):Prop:=∀(𝒢 : Prot P) (ro:Option Nat),Bl9 𝒢 ro->∀(Q:J3) (C:Ctx) (st:St) (a:Act) (w:World) (rho:Nat->Value),𝒢.G C->Sat C st a w rho->a.tmps.size=n->awp (Gj P) P c Q st->c.wpIn (FW ro) 0 P (WP 𝒢 n Q) a w
def CH {b:Frame}{c:Code}{k:List Item}{cs:List Frame}:step P (lone (b.atR a (.code (.scope c)::k)) cs w)=.next (lone (b.atR a (.code c :: .inScope c::k)) cs w):=
 step_lone_go (by simp[stepG,stepG.exec,Frame.atR])
def UJ {b:Frame}{c:Code}{k:List Item}{cs:List Frame}:step P (lone (b.atR a (.inScope c::k)) cs w)=.next (lone (b.atR a k) cs w):=
 step_lone_go (by simp[stepG,stepG.exec,Frame.atR])
def Aq2 {F:Fence}{m:Nat}{c:Code}{Q:Exit->Act->World->Prop}(h:c.wpIn F m P (λe a w=>(∀l,e ≠ .goto l)/\Q e a w) a w):(Code.scope c).wpIn F m P Q a w:=by
 intro b k cs i hb j;have f:(lone (b.atR a (.code (.scope c)::k)) cs w).fenced P F:=fenced_calm hb j rfl;obtain⟨e,a₁,w₁,⟨o,g⟩,d⟩:=h b (.inScope c::k) cs i hb j;cases e with
 |normal=>exact⟨.normal,a₁,w₁,g,.head f CH (StepsIn.trans d (.one (fenced_calm hb j rfl) UJ))⟩
 |exit id=>
  have hx:exitTo id (.inScope c::k)=exitTo id k:=by simp[exitTo]
  exact⟨_,a₁,w₁,g,λk' hk=>.head f CH (d.1 k' (by rw[hx];exact hk)),
   λn hk=>let ⟨k₁,h1,h2⟩:=d.2 n (by rw[hx];exact hk);⟨k₁,h1,.head f CH h2⟩⟩
 |goto l=>exact Ij rfl (o l)
 |ret=>exact⟨_,a₁,w₁,g,.of_steps (.one f CH) d⟩
 |panic ch=>exact⟨_,a₁,w₁,g,.of_steps (.one f CH) d⟩
 |outgrown=>exact⟨_,a₁,w₁,g,.of_steps (b:=b) (k:=k) (cs:=cs) (e:=.outgrown) (.one f CH) d⟩
def PanicOk.mono {Q Q' : J3}{ch:List PanicEntry}{a:Act}{w:World}(h:PanicOk 𝒢 n Q ch a w)(b:∀x s,Q (.panic x) s->Q' (.panic x) s):PanicOk 𝒢 n Q' ch a w:=
 let ⟨C,st,rho,v,x,h1,h2,h3,h4,h5,h6⟩:=h
 ⟨C,st,rho,v,x,h1,h2,h3,h4,h5,b _ _ h6⟩
def Bf1 (h:Sat C st a w rho){c:Operand}{b:Bool}(hb:Pl (aev st.env c)=some b):a.eval c=.bool b:=by
 have d:=h.aev c;unfold Pl at hb;split at hb
 .rename_i x hx;cases hb;rw[hx]at d;exact d.toP.toV
 .rename_i x hx;cases hb;rw[hx]at d;exact d.toP.toBool
 cases hb
open Classical in
theorem Aq3 {b:Code}(ih:Ig P n b)(u:Bl9 𝒢 ro)(hG : 𝒢.G C)(h:Sat C st a w rho)(v:a.tmps.size=n)(hw:awp (Gj P) P (.loop b) Q st):(Code.loop b).wpIn (FW ro) 0 P (WP 𝒢 n Q) a w:=by
 obtain⟨X,s,J,m,hu,g⟩:=hw
 let at' : Act->World->X->Prop:=λa w x=>J x/\∃C rho,𝒢.G C/\Sat C (s x) a w rho/\a.tmps.size=n
 let I:Act->World->Prop:=λa w=>∃x,at' a w x
 let le:Act->World->Nat->Prop:=λa w k=>∃x,at' a w x/\m x=k
 have d:∀(p:Nat->Prop),(∃k,p k)->∃k,p k/\∀j,p j->k<=j:=by
  intro p ⟨k,hk⟩
  induction k using Nat.strongRecOn with
  |_ k ih=>
   by_cases c:∃j,j<k/\p j
   .obtain⟨j,hj,hp⟩:=c;exact ih j hj hp
   exact⟨k,hk,λj hj=>BO5 λhlt=>c ⟨j,hlt,hj⟩⟩
 let μ : Act->World->Nat:=λa w=>if hx:∃k,le a w k then (d _ hx).choose else 0
 have hμ : ∀a w x,at' a w x->∃y,at' a w y/\m y = μ a w /\ μ a w<=m x:=by
  intro a w x hx;have c:∃k,le a w k:=⟨m x,x,hx,rfl⟩;have h1:=(d _ c).choose_spec;have h2 : μ a w=(d _ c).choose:=by simp only[μ,dif_pos c]
  obtain⟨⟨y,hy,hm⟩,hle⟩:=h1;exact⟨y,hy,by rw[h2];exact hm,by rw[h2];exact hle _ ⟨x,hx,rfl⟩⟩
 refine wpIn_loop I μ ?_ ?_
 .obtain⟨C',st',rho',i,o,f,⟨x,rfl,hJ⟩⟩:=NextOk.up hG h v hu;exact⟨x,hJ,C',rho',i,o,f⟩
 rintro a w ⟨x,hx⟩;obtain⟨y,⟨hJ,C',rho',i,o,f⟩,hm,_⟩:=hμ a w x hx;refine wpIn_mono (ih 𝒢 ro u _ C' (s y) a w rho' i o f (g y hJ)) ?_;intro e a' w' q;cases e with
 |normal=>obtain⟨C2,st2,rho2,hG2,hs2,r,hu2⟩:=q;obtain⟨C3,st3,rho3,hG3,hs3,t,⟨z,rfl,hJz,hmz⟩⟩:=NextOk.up hG2 hs2 r hu2;have hz:at' a' w' z:=⟨hJz,C3,rho3,hG3,hs3,t⟩;obtain⟨_,_,_,hle⟩:=hμ a' w' z hz;exact⟨⟨z,hz⟩,by omega⟩
 |exit id=>exact q
 |goto l=>exact q
 |ret=>exact q
 |panic ch=>exact q.mono λx s h=>h
 |outgrown=>exact q
def ZH (z:∀g ps asg body,(ps.toList.all λt=>Nat.blt t n)=true->Ig P n asg->Ig P n body->Ig P n (.rangeFunc g ps asg body)):∀(c:Code),Bm n c=true->Ig P n c:=by
 intro c
 induction c with
 |skip=>exact λ_ 𝒢 ro m Q C st a w rho o h d hw=>wpIn_skip ⟨C,st,rho,o,h,d,hw⟩
 |label l=>exact λ_ 𝒢 ro m Q C st a w rho o h d hw=>wpIn_label ⟨C,st,rho,o,h,d,hw⟩
 |exit id=>exact λ_ 𝒢 ro m Q C st a w rho o h d hw=>wpIn_exit ⟨C,st,rho,o,h,d,hw⟩
 |goto l=>exact λ_ 𝒢 ro m Q C st a w rho o h d hw=>wpIn_goto ⟨C,st,rho,o,h,d,hw⟩
 |ret=>exact λ_ 𝒢 ro m Q C st a w rho o h d hw=>wpIn_ret ⟨C,st,rho,o,h,d,hw⟩
 |refuse y=>exact λ_ 𝒢 ro m Q C st a w rho o h d hw=>hw.elim
 |region id ops draw=>
  intro f 𝒢 ro m Q C st a w rho o h d hw;simp only[Bm]at f;simp only[awp]at hw;cases draw with
  |false=>
   simp only[By9,Ld]at hw
   have:=PH (ro:=ro) f ops.toList 0 (by simp) (by simp) o h d hw
   exact wpIn_region (by simpa using this)
  |true=>
   simp only[Lc]at hw;obtain⟨hmix,hdep,Inv,h0,a0,hfin⟩:=hw;refine wpIn_region_draw λt=>?_;have hsch:Region.schedule (P.follows .mixedOrders) ops t=Region.linearise.go .any ops ops.size t (Array.replicate ops.size false) []:=by simp[Region.schedule,hmix,Region.linearise]
   rw[hsch];obtain⟨h1,_⟩:=h.grow (w':={ w with drawn:=w.drawn+1 }) (Bz5 _) (λ_ _=>rfl);refine Aq1 f hdep a0 hfin _ _ _ (by simp) (by simp) ⟨C,st,rho,o,h1,d,?_⟩
   have:(λj=>(Array.replicate ops.size false).getD j false)=λ_=>false:=by funext j;simp only[By2,Array.getElem?_replicate];split<;>rfl
   rw[this];exact h0
 |seq x y ihx ihy=>
  intro f 𝒢 ro m Q C st a w rho o h d hw;simp only[Bm,By5]at f;refine wpIn_seq (wpIn_mono (ihx f.1 𝒢 ro m _ C st a w rho o h d hw) ?_);intro e a' w' q;cases e with
  |normal=>obtain⟨C2,st2,rho2,u,v,r,hu2⟩:=q;obtain⟨C3,st3,rho3,hG3,hs3,hsz3,hw3⟩:=NextOk.up u v r hu2;exact ihy f.2 𝒢 ro m _ C3 st3 a' w' rho3 hG3 hs3 hsz3 hw3
  |exit id=>exact q
  |goto l=>exact q
  |ret=>exact q
  |panic ch=>exact q.mono λx s h=>h
  |outgrown=>exact q
 |cond c x y ihx ihy=>
  intro f 𝒢 ro m Q C st a w rho o h d hw;simp only[Bm,By5]at f;obtain⟨b,hb,hw⟩:=hw;refine wpIn_cond (Bf1 h hb) ?_;cases b
  .exact ihy f.2 𝒢 ro m _ C st a w rho o h d hw
  exact ihx f.1 𝒢 ro m _ C st a w rho o h d hw
 |block id b ih=>
  intro f 𝒢 ro m Q C st a w rho o h d hw;refine wpIn_block (wpIn_mono (ih f 𝒢 ro m _ C st a w rho o h d hw) ?_);intro e a' w' q;cases e with
  |normal=>exact q
  |exit i=>
   simp only[Exit.inBlock];obtain⟨C2,st2,rho2,u,v,r,hq⟩:=q;by_cases hi:i=id
   .simp only[blk,hi,Lc]at hq;rw[Gy hi];exact⟨C2,st2,rho2,u,v,r,hq⟩
   simp only[blk,hi,Ld]at hq;rw[Hj hi];exact⟨C2,st2,rho2,u,v,r,hq⟩
  |goto l=>exact q
  |ret=>exact q
  |panic ch=>exact q.mono λx s h=>h
  |outgrown=>exact q
 |loop b ih=>exact λf 𝒢 ro m Q C st a w rho o h d hw=>Aq3 (ih f) m o h d hw
 |scope b ih=>
  intro f 𝒢 ro m Q C st a w rho o h d hw;refine Aq2 (wpIn_mono (ih f 𝒢 ro m _ C st a w rho o h d hw) ?_);intro e a' w' q;cases e with
  |normal=>exact⟨λl h=>(by cases h),q⟩
  |exit id=>exact⟨λl h=>(by cases h),q⟩
  |goto l=>obtain⟨C2,st2,rho2,u,v,r,hq⟩:=q;exact hq.elim
  |ret=>exact⟨λl h=>(by cases h),q⟩
  |panic ch=>exact⟨λl h=>(by cases h),q.mono λx s h=>h⟩
  |outgrown=>exact q.elim
 |rangeFunc g ps asg body iha ihb=>intro f;simp only[Bm,By5]at f;exact z g ps asg body f.1.1 (iha f.1.2) (ihb f.2)
end
section
variable {P:Program}{C:Ctx}{st:St}{a:Act}{w:World}{rho:Nat->Value}{𝒢 : Prot P}{n:Nat}{Q:J3}
def Prot.fix (𝒢 : Prot P)(r0:Nat->Value):Prot P where
 G:=λC=>𝒢.G C/\C.rho0=r0
 tab:=λC h=>𝒢.tab C h.1
 call:=by intro C w O V ys rest vs H a hR c hs d;obtain⟨l,fn,tmps,as,body,h1,f,g⟩:=𝒢.call C w O V ys rest vs H a.1 hR c hs d;refine⟨l,fn,tmps,as,body,h1,f,g.mono ?_⟩;rintro e w' ⟨b,i,C',g1,g2,g3,g4⟩;exact⟨b,i,C',⟨g1,g3.trans a.2⟩,g2,g3,g4⟩
def Sat.unmark (h:Sat C st a w rho){d:Deferred}{ds:List Deferred}(n:a.defers=d::ds):∃r w',d.target=.collected r/\(Instr.takeDeferred r).run P w=.ok [] w' /\ Sat C st { a with defers:=ds } w' rho:=by
 obtain⟨r,rfl,l,f,q⟩:=h.marks.2 d (by rw[n];simp);have u:r<w.heap.size:=(Bz0.1 f).1;refine⟨r,w.putObj r (.deferred none),rfl,run_takeDeferred f,?_⟩;have c:∀b,b≠r->(w.putObj r (.deferred none)).heap[b]? = w.heap[b]?:=λb hb=>BD7 hb;have g:∀b off v,w.cell? ⟨b,off,none⟩=some v->b≠r:=by rintro b off v hc rfl;simp[World.cell?,f]at hc
 have hk:Sc w (Prv C.X (A1 st.Qw) rho) (w.putObj r (.deferred none)) (Prv C.X (A1 st.Qw) rho):=λb o v hp hc=>
  ⟨by rw[<- hc];exact BC8 (c b (g b o v hc)),hp⟩
 refine⟨⟨⟨?_,h.hp.sep,h.hp.out,λb off q=>by rw[BD1];exact h.hp.bound b off q⟩,h.ext.trans ⟨rfl,rfl⟩,by rw[BD1];exact h.size,?_,h.keep.trans hk,h.own,h.yld⟩,λt=>(h.env t).keeps hk λj i=>⟨i,rfl⟩,h.pin,?_,?_⟩
 .intro j o i;exact (h.hp.holds j o i).keeps hk (λj i=>⟨i,rfl⟩) λb hb=>c b λe=>(h.hp.holds j o i).nd hb (by rw[e];exact f)
 .intro b hb s;rw[c b (λe=>by subst e;rcases l with h1|h1;exact s h1;omega)];exact h.same b hb s
 .have:=h.marks.1;rw[n]at this;exact (BE5.1 this).2
 intro d' m;obtain⟨r',h1,x,y,z⟩:=h.marks.2 d' (by rw[n];exact BB4 _ m);refine⟨r',h1,x,?_,z⟩;rw[c r' ?_]
 .exact y
 rintro rfl
 have:=h.marks.1;rw[n]at this
 exact (BE5.1 this).1 (by rw[<- h1];exact m)
def NL {fn:Func}{R:Ending->World->Prop}{u:FrameMode}(c:u ≠ .run){tmps:Array Value}(b:∀a w,Sat C st a w rho->a.tmps=tmps->a.defers=[]->LeavesIn Fence.wide 0 P fn tmps R [] u w):∀(ds:List Deferred) (a:Act) (w:World),a.defers=ds->a.tmps=tmps->Sat C st a w rho ->
 LeavesInM Fence.wide 0 P fn tmps R ds u w
 |[],a,w,hd,ht,h=>b a w h ht hd
 |d::ds,a,w,hd,ht,h=>by obtain⟨r,w',h1,f,g⟩:=h.unmark hd;exact⟨c,.inl ⟨r,w',h1,f,NL c b ds { a with defers:=ds } w' rfl ht g⟩⟩
def AP4 {Pi:Nat->Nat->Prop}{live:Nat->Prop}{Qw:C5}{t:TypeId}{v:Value}{x:AV}{r:List Prop×AV}(b:Sq w Pi live rho v x)(a:load P Qw t x=some r):∃ad,v=.pointer (some ad):=by
 cases b with
 |reg=>exact⟨_,rfl⟩
 |elt=>exact⟨_,rfl⟩
 |p _ y hy=>cases hy<;>first|exact⟨_,rfl⟩ | simp[load]at a
 |_=>simp[load]at a
def Bx1 (tmps:Array Value):ResultVar->Sem Value
 |.tmp t=>pure (tmps.getD t undef)
 |.cell a t=>do loadVar t (<- asAddr (tmps.getD a undef))
def Aq4 (fn:Func)(tmps:Array Value):results fn tmps=(do
 let vs <- fn.results.mapM (Bx1 tmps)
 pure (if h:vs.size=1 then vs[0]else .tuple vs):Sem Value):=by
 unfold results;refine congrArg (λf=>((fn.results.mapM f >>= λvs=>pure (if h:vs.size=1 then vs[0]else .tuple vs)):Sem Value)) ?_;funext r;cases r<;>rfl
def LS (h:Sat C st a w rho):∀(rs:List ResultVar) (l:List AV),Iq P st rs=some l ->
 ∃vs:List Value,(rs.mapM (Bx1 a.tmps)).run P w=.ok vs w/\vs.length=l.length/\∀i,i<l.length->RS C st w rho (vs.getD i undef) (l.getD i .top)
 |[],l,he=>by simp only[Iq,By4]at he;subst he;exact⟨[],by simp,rfl,λi d=>Ij d (by simp)⟩
 |r::rs,l,he=>by
  simp only[Iq]at he;split at he
  .rename_i x l' hx hl;cases he;obtain⟨vs,h1,m,n⟩:=LS h rs l' hl;have b:∃v,(Bx1 a.tmps r).run P w=.ok v w/\RS C st w rho v x:=by
    cases r with
    |tmp t=>simp only[Az6,By4]at hx;subst hx;exact⟨_,rfl,h.env t⟩
    |cell y t=>
     simp only[Az6]at hx;split at hx
     .rename_i z g;cases hx;obtain⟨u,j,f⟩:=Te h (h.env y) g trivial;obtain⟨ad,c⟩:=AP4 (h.env y) g;rw[c]at j;refine⟨u,?_,f⟩;simp only[Bx1,c];simpa[Instr.loadAt,Instr.sureAddr,asAddr]using j
     cases hx
   obtain⟨v,o,f⟩:=b;refine⟨v::vs,?_,by simp[m],λi d=>?_⟩
   .rw[List.mapM_cons];simp only[BB2,o,Bz9,h1,BC7]
   cases i with
   |zero=>simpa using f
   |succ i=>simpa using n i (by simpa using d)
  cases he
def UK (h:Sat C st a w rho){fn:Func}{l:List AV}(d:Iq P st fn.results.toList=some l):∃v,(results fn a.tmps).run P w=.ok v w/\RS C st w rho v (one l):=by
 obtain⟨vs,h1,b,c⟩:=LS h _ l d;refine⟨if h:vs.toArray.size=1 then vs.toArray[0]else .tuple vs.toArray,?_,?_⟩
 .rw[Aq4,Array.mapM_eq_mapM_toList];simp only[BB2,map_eq_pure_bind,h1,Bz9,BC7]
 by_cases hl:l.length=1
 .obtain⟨x,rfl⟩:=BM1.1 hl;obtain⟨v,rfl⟩:=BM1.1 (b.trans hl);simpa[one]using c 0 (by simp)
 rw[dif_neg (by simpa using (b ▸ hl:¬vs.length=1))]
 have:one l=.tup l:=by
  cases l with
  |nil=>rfl
  |cons x r=>
   cases r with
   |nil=>exact Ij rfl hl
   |cons _ _=>rfl
 rw[this];refine .tup _ l (by simpa using b) λi f=>?_
 have:=c i f
 simpa[By3,By2]using this
def PI (h:Sat C st a w rho){outs:List Nat}{objs:List Obj}(hd:H5 outs=true)(u:M0 outs st.Qw outs=some objs) :SatE C (Sa objs) w (λp=>rho (outs.getD p 0))/\Sc w (PiS C st rho) w (Prv C.X (A1 (Sa objs)) (λp=>rho (outs.getD p 0))) /\
  ∀p j:Nat,outs[p]? = some j->Lv (A1 st.Qw) j->Lv (A1 (Sa objs)) p/\rho (outs.getD p 0)=rho j:=by
 obtain⟨hl,hg⟩:=AK u;have m:=CF hd;have c:∀p o',A1 (Sa objs) p=some o' -> ∃j o,outs[p]? = some j/\A1 st.Qw j=some o/\SZ outs o=some o' /\ rho (outs.getD p 0)=rho j:=by
  intro p o' hp;rw[E7]at hp;have l:p<outs.length:=by rw[<- hl];exact (Bz8.1 hp).1
  obtain⟨o,o2,h1,f,d⟩:=hg p _ (By7 l);rw[hp]at d;cases d;exact⟨_,o,By7 l,h1,f,by rw[DQ (By7 l)]⟩
 have x:∀b off,Prv C.X (A1 (Sa objs)) (λp=>rho (outs.getD p 0)) b off->Prv C.X (A1 st.Qw) rho b off:=by
  rintro b off (n|⟨p,o',hp,hb,y⟩)
  .exact .inl n
  obtain⟨j,o,h1,f,d,g⟩:=c p o' hp;simp only[g,AI d]at hb;exact .inr ⟨j,o,f,hb,(LQ d off).1 y⟩
 have hk:Sc w (PiS C st rho) w (Prv C.X (A1 (Sa objs)) (λp=>rho (outs.getD p 0))):=λb o v hp hc=>⟨hc,λz=>hp (x b o z)⟩;have i:∀p j:Nat,outs[p]? = some j->Lv (A1 st.Qw) j->Lv (A1 (Sa objs)) p/\rho (outs.getD p 0)=rho j:=by intro p j hp _;obtain⟨o,o2,h1,f,d⟩:=hg p j hp;exact⟨by simp[Lv,E7,d],by rw[DQ hp]⟩
 refine⟨⟨⟨?_,?_,?_,λb off n=>h.hp.bound b off n⟩,h.ext,h.size,h.same,h.keep.trans hk,?_,?_⟩,hk,i⟩
 .intro p o' hp;obtain⟨j,o,h1,f,d,g⟩:=c p o' hp;show Sr w _ _ _ (rho (outs.getD p 0)) o';rw[g];exact (h.hp.holds j o f).ren hk i (λb _=>rfl) d
 .intro p q op oq b hp hq s t;obtain⟨j,o,h1,f,d,g⟩:=c p op hp;obtain⟨j',o',a0,a1,a2,a3⟩:=c q oq hq;simp only[g,a3,AI d,AI a2]at s t
  have:=h.hp.sep j j' o o' b f a1 s t
  subst this;exact Gr m h1 a0
 .intro p o' b off hp hb n;obtain⟨j,o,h1,f,d,g⟩:=c p o' hp;simp only[g,AI d]at hb;exact h.hp.out j o b off f hb n
 .rintro b ⟨p,o',hp,hb⟩;obtain⟨j,o,h1,f,d,g⟩:=c p o' hp;simp only[g,AI d]at hb;exact h.own b ⟨j,o,f,hb⟩
 intro p r b hp;obtain⟨j,o,h1,f,d,g⟩:=c p _ hp
 have:o=.yld r b:=by
  cases o<;>simp only[SZ]at d
  case cells=>split at d<;>cases d
  case ghost=>split at d<;>cases d
  case fam=>split at d<;>cases d
  case blk=>split at d<;>cases d
  case yld=>cases d;rfl
  all_goals cases d
 subst this;simp only[g];exact h.yld j r b f
def Aq5 {m:Nat}{outs:List Nat}(hm:m<1000){i:Nat}(hk:(Fy m outs)[i]? = some true):i<m/\outs[i]? = some i:=by
 unfold Fy at hk;rw[Bz1,BB6]at hk;obtain⟨q,c,a⟩:=hk;have b:i<m:=by simpa using (Bz8.1 c).1
 rw[PB b]at c;cases c;refine⟨b,?_⟩;simp only[beq_iff_eq,By3]at a;cases d:outs[i]? with
 |none=>rw[d]at a;simp at a;omega
 |some j=>rw[d]at a;simp at a;rw[a]
def Aq6 (s:∀c,Bm n c=true->Ig P n c){f:FuncId}{fn:Func}{code:Code}{args:List AV}{objs:List Obj}{Q:ARes->List Obj->List Bool->Prop}(hf:P.funcs[f]? = some fn)(hb:fn.body=some code)(y:(fn.name == "runtime.NumGoroutine")=false)(hn:fn.ntmps=n)
 (hok:Bm n code=true) (hargs:args.length<=n) (z:objs.length<1000)
 (hw:semUp ⟨Ss args,Sa objs⟩ (awp (Gj P) P code (Cm (Gj P) P objs.length fn.results.toList Q))):SemF P f args objs Q:=by
 intro 𝒢 C w vs rho hG hS hvs;have hn' : ¬fn.name = "runtime.NumGoroutine" := by simpa using y
 refine⟨.enter f vs,w,by simp[callFunc,hf,hn',hb],?_⟩;refine callsIn_of_wp_marks hf hb trivial ?_;have hS' : Sat C ⟨Ss args,Sa objs⟩ { tmps:=vs++Array.replicate (fn.ntmps-vs.size) undef,defers:=[] } w rho:=by
  refine⟨hS.toSatE,λt=>?_,hS.pin,hS.marks⟩
  have:=hS.env t
  by_cases ht:t<vs.size
  .simpa[By2,BH0,ht]using this
  show Sq w _ _ _ _ (get (Ss args) t);rw[AJ,By3,BD0 (by omega)];exact .top _
 obtain⟨st1,rho1,hw1,_,hS1⟩:=hw C _ w rho hS';have hsz:(vs++Array.replicate (fn.ntmps-vs.size) undef).size=n:=by simp;omega
 have hro:Bl9 (𝒢.fix C.rho0) none:=λl h=>by cases h
 refine wpIn_mono (s code hok (𝒢.fix C.rho0) none hro _ C st1 _ w rho1 ⟨hG,rfl⟩ hS1 hsz hw1) ?_;have j:∀{C' : Ctx}{st' : St}{a' : Act}{w' : World}{rho' : Nat->Value}{outs:List Nat}{objs' : List Obj},C'.rho0=C.rho0->Sat C' st' a' w' rho' -> M0 outs st'.Qw outs=some objs' -> ∀i:Nat,(Fy objs.length outs)[i]? = some true->i<objs'.length/\rho' (outs.getD i 0)=rho i:=by intro C' st' a' w' rho' outs objs' hr hs hob i hi;obtain⟨h1,h2⟩:=Aq5 z hi;obtain⟨hl,hg⟩:=AK hob;obtain⟨o,_,ho,_⟩:=hg i i h2;refine⟨by rw[hl];exact (Bz8.1 h2).1,?_⟩;rw[DQ h2,hs.pin i (by omega) (by simp[Lv,ho]),hr];exact (hS.pin i (by omega) (by simp[Lv,E7,h1])).symm
 have q:∀(a' : Act) (w' : World),NextOk (𝒢.fix C.rho0) n (λst=>semUp st λst1=>∃l outs a objs',Iq P st1 fn.results.toList=some l/\H5 outs=true/\Ur outs (one l)=some a/\M0 outs st1.Qw outs=some objs' /\ Q (.ret a) objs' (Fy objs.length outs)) a' w' ->
  LeavesInM Fence.wide 0 P fn a'.tmps (λe w'=>∃C' r objs' ks rho', 𝒢.G C' /\ Q r objs' ks/\SatE C' (Sa objs') w' rho' /\
   AM6 w' (Prv C'.X (A1 (Sa objs')) rho') (Lv (A1 (Sa objs'))) rho' e r/\∀i:Nat,ks[i]? = some true->i<objs'.length/\rho' i=rho i) a'.defers .returning w':=by
  rintro a' w' ⟨C',st',rho',m,hs',hsz',hu⟩;obtain⟨st2,rho2,⟨l,outs,x,objs',h1,h2,h3,h4,h5⟩,_,g⟩:=hu C' a' w' rho' hs';refine NL (C:=C') (st:=st2) (rho:=rho2) (by simp) ?_ a'.defers a' w' rfl rfl g;intro a3 w3 hs3 ht hd;obtain⟨v,hv,hrep⟩:=UK hs3 h1;obtain⟨g1,g2,g3⟩:=PI hs3 h2 h4;rw[ht]at hv;exact⟨v,hv,C', .ret x,objs',_,_,m.1,h5,g1,⟨v,rfl,hrep.ren g2 g3 h3⟩,j m.2 hs3 h4⟩
 intro e a' w' he;cases e with
 |normal=>exact q a' w' he
 |ret=>exact q a' w' he
 |exit id=>obtain⟨_,_,_,_,_,_,h⟩:=he;exact h.elim
 |goto l=>obtain⟨_,_,_,_,_,_,h⟩:=he;exact h.elim
 |outgrown=>exact he.elim
 |panic ch=>
  obtain⟨C',st',rho',v,x,rfl,m,hs',hsz',hv,outs,objs',h2,h4,h5⟩:=he
  have:∀(ds:List Deferred) (a2:Act) (w2:World),a2.defers=ds->a2.tmps=a'.tmps->Sat C' st' a2 w2 rho' -> Sd w2 (PiS C' st' rho') v x ->
   LeavesInM Fence.wide 0 P fn a'.tmps (λe w'=>∃C' r objs' ks rho', 𝒢.G C' /\ Q r objs' ks/\SatE C' (Sa objs') w' rho' /\
    AM6 w' (Prv C'.X (A1 (Sa objs')) rho') (Lv (A1 (Sa objs'))) rho' e r/\∀i:Nat,ks[i]? = some true->i<objs'.length/\rho' i=rho i) ds (.panicking [{ v,recovered:=false }]) w2:=by
   intro ds
   induction ds with
   |nil=>intro a2 w2 hd ht g hv2;obtain⟨g1,g2,g3⟩:=PI g h2 h4;exact⟨C', .panic x,objs',_,_,m.1,h5,g1,⟨v,rfl,hv2.keeps g2⟩,j m.2 g h4⟩
   |cons d ds ih=>
    intro a2 w2 hd ht g hv2;obtain⟨r,w3,h6,h7,h8⟩:=g.unmark (P:=P) hd;refine⟨by simp,.inl ⟨r,w3,h6,h7,ih { a2 with defers:=ds } w3 rfl ht h8 ?_⟩⟩;obtain⟨r',h9,_,h10,_⟩:=g.marks.2 d (by rw[hd];simp);have e6:r=r':=by rw[h9]at h6;cases h6;rfl
    subst e6;have hw3:w3=w2.putObj r (.deferred none):=by rw[run_takeDeferred h10]at h7;cases h7;rfl
    subst hw3;refine hv2.keeps λb o u hp hc=>⟨?_,hp⟩;rw[<- hc];refine BC8 (BD7 ?_);rintro rfl;simp[World.cell?,h10]at hc
  exact this a'.defers a' w' rfl rfl hs' hv
end
section
variable {P:Program}{C:Ctx}{st:St}{a:Act}{w:World}{rho:Nat->Value}{𝒢 : Prot P}{n:Nat}{Q:J3}
def Sat.poke (h:Sat C st a w rho){r:Nat}{lo:Loop}(f:w.heap[r]? = some (.loop lo))(o' : Go.Obj)(m:C.E0 r \/ C.w0.heap.size<=r):Sat C st a (w.putObj r o') rho/\∀Pi,Sc w Pi (w.putObj r o') Pi:=by
 have c:∀b,b≠r->(w.putObj r o').heap[b]? = w.heap[b]?:=λb hb=>BD7 hb;have g:∀b off v,w.cell? ⟨b,off,none⟩=some v->b≠r:=by rintro b off v hc rfl;simp[World.cell?,f]at hc
 have hk:∀Pi,Sc w Pi (w.putObj r o') Pi:=λPi b o v hp hc=>⟨by rw[<- hc];exact BC8 (c b (g b o v hc)),hp⟩;have i:∀{Pi live rho' v ob b},Sr w Pi live rho' v ob->E5 v ob b->b≠r:=by
  rintro Pi live rho' v ob b s hb rfl
  have:=s.kind hb
  rw[f]at this;cases this
 refine⟨⟨⟨⟨?_,h.hp.sep,h.hp.out,λb off u=>by rw[BD1];exact h.hp.bound b off u⟩,h.ext.trans ⟨rfl,rfl⟩,by rw[BD1];exact h.size,?_,h.keep.trans (hk _),h.own,h.yld⟩,λt=>(h.env t).keeps (hk _) λj l=>⟨l,rfl⟩,h.pin,h.marks.1,?_⟩,hk⟩
 .intro j o l;exact (h.hp.holds j o l).keeps (hk _) (λj l=>⟨l,rfl⟩) λb hb=>c b (i (h.hp.holds j o l) hb)
 .intro b hb q;rw[c b (λe=>by subst e;rcases m with h1|h1;exact q h1;omega)];exact h.same b hb q
 intro d x;obtain⟨r',h1,y,n,z⟩:=h.marks.2 d x;refine⟨r',h1,y,?_,z⟩;rw[c r' ?_]
 .exact n
 rintro rfl;rw[f]at n;cases n
def Ctx.plus (C:Ctx)(V:Nat->Nat->Prop):Ctx:={ C with X:=λb o=>C.X b o \/ V b o }
def SatE.add {R R' : C5}(h:SatE C R w rho){j:Nat}(y:A1 R j=none){o:Obj}{v:Value}(hb:∀u b,¬E5 u o b)(f : ∀i,A1 R' i=if i=j then some o else A1 R i)
 (z:Sc w (Prv C.X (A1 R) rho) w (Prv C.X (A1 R') (λi=>if i=j then v else rho i))->(∀i,Lv (A1 R) i->Lv (A1 R') i/\(if i=j then v else rho i)=rho i)->Sr w (Prv C.X (A1 R') (λi=>if i=j then v else rho i)) (Lv (A1 R')) (λi=>if i=j then v else rho i) v o) (hy:∀r b,o=.yld r b->C.Y r b/\v=C.yv) :
 SatE C R' w (λi=>if i=j then v else rho i)/\(∀b off,Prv C.X (A1 R') (λi=>if i=j then v else rho i) b off↔Prv C.X (A1 R) rho b off) /\
  (∀i,Lv (A1 R) i->Lv (A1 R') i/\(if i=j then v else rho i)=rho i):=by
 have g:∀i,Lv (A1 R) i->Lv (A1 R') i/\(if i=j then v else rho i)=rho i:=by
  intro i a;have e:i≠j:=by rintro rfl;simp[Lv,y]at a
  simp only[Lv,f,Hj e];exact⟨a,trivial⟩
 have d:∀i oi b,A1 R' i=some oi->E5 (if i=j then v else rho i) oi b->i≠j/\A1 R i=some oi/\E5 (rho i) oi b:=by
  intro i oi b a c;rw[f]at a;by_cases e:i=j
  .rw[Gy e]at a;cases a;exact Ij c (hb _ _)
  rw[Hj e]at a c;exact⟨e,a,c⟩
 have n:∀i oi,A1 R i=some oi->A1 R' i=some oi/\(if i=j then v else rho i)=rho i:=by
  intro i oi a;have e:i≠j:=by rintro rfl;rw[y]at a;cases a
  rw[f,Hj e,Hj e];exact⟨a,rfl⟩
 have q:∀b off,Prv C.X (A1 R') (λi=>if i=j then v else rho i) b off↔Prv C.X (A1 R) rho b off:=by
  intro b off;constructor
  .rintro (t|⟨i,oi,a,c,hp⟩)
   .exact .inl t
   obtain⟨_,h1,l⟩:=d i oi b a c;exact .inr ⟨i,oi,h1,l,hp⟩
  rintro (t|⟨i,oi,a,c,hp⟩)
  .exact .inl t
  obtain⟨h1,l⟩:=n i oi a;exact .inr ⟨i,oi,h1,by simp only[l];exact c,hp⟩
 have hk:Sc w (Prv C.X (A1 R) rho) w (Prv C.X (A1 R') (λi=>if i=j then v else rho i)):=λb o v hp hc=>⟨hc,λx=>hp ((q b o).1 x)⟩;refine⟨⟨⟨?_,?_,?_,h.hp.bound⟩,h.ext,h.size,h.same,h.keep.trans hk,?_,?_⟩,q,g⟩
 .intro i oi a;by_cases e:i=j
  .subst e;rw[f,Gy rfl]at a;cases a;simp only[Lc];exact z hk g
  have m:=a;rw[f,Hj e]at m;simp only[e,Ld];exact (h.hp.holds i oi m).keeps hk g λb _=>rfl
 .intro i i' oi oj b a m c s;obtain⟨_,h1,l⟩:=d i oi b a c;obtain⟨_,h3,h4⟩:=d i' oj b m s;exact h.hp.sep i i' oi oj b h1 h3 l h4
 .intro i oi b off a c;obtain⟨_,h1,l⟩:=d i oi b a c;exact h.hp.out i oi b off h1 l
 .rintro b ⟨i,oi,a,c⟩;obtain⟨_,h1,l⟩:=d i oi b a c;exact h.own b ⟨i,oi,h1,l⟩
 intro i r b a;by_cases e:i=j
 .subst e;rw[f,Gy rfl]at a;cases a;simp only[Lc];exact hy r b rfl
 rw[f,Hj e]at a;simp only[e,Ld];exact h.yld i r b a
def Sat.suspend (h:Sat C st a w rho){ids:List Nat}(hd:H5 ids=true){E:Env}(hE:∀t,get E t=get st.env t \/ get E t=.top){V:Nat->Nat->Prop}(q:∀b off,V b off ↔ ∃j o,j∈ids/\A1 st.Qw j=some o/\E5 (rho j) o b/\JY o off)(z:∀j∈ids,Lv (A1 st.Qw) j) :Sat (C.plus V) ⟨E,J9 ids (ids.map λ_=>false) st.Qw⟩ a w rho/\∀b off,Prv (C.plus V).X (A1 (J9 ids (ids.map λ_=>false) st.Qw)) rho b off↔Prv C.X (A1 st.Qw) rho b off:=by
 have s:=CF hd;have n:∀j,A1 (J9 ids (ids.map λ_=>false) st.Qw) j=if j∈ids then some .dead else A1 st.Qw j:=by
  intro j;rw[Gs j ids _ _ s];by_cases hm:j∈ids
  .obtain⟨p,hp⟩:=UG hm
   have:(ids.map λ_=>false)[p]? = some false:=by rw[Bz1,O0 hp];rfl
   simp only[hp,this];simp[hm]
  have:idx ids j=none:=by
   cases hx:idx ids j with
   |none=>rfl
   |some p=>exact Ij (BB3 (O0 hx)) hm
  simp[this,hm]
 have f:∀i oi b,A1 (J9 ids (ids.map λ_=>false) st.Qw) i=some oi->E5 (rho i) oi b->i ∉ ids/\A1 st.Qw i=some oi:=by
  intro i oi b c hb;rw[n]at c;by_cases hm:i∈ids
  .rw[Gy hm]at c;cases c;simp[E5,N1]at hb
  rw[Hj hm]at c;exact⟨hm,c⟩
 have u:∀b off,Prv (C.plus V).X (A1 (J9 ids (ids.map λ_=>false) st.Qw)) rho b off↔Prv C.X (A1 st.Qw) rho b off:=by
  intro b off;constructor
  .rintro ((g|g)|⟨i,oi,c,hb,hp⟩)
   .exact .inl g
   .obtain⟨j,o,_,h1,m,y⟩:=(q b off).1 g;exact .inr ⟨j,o,h1,m,y⟩
   obtain⟨_,h1⟩:=f i oi b c hb;exact .inr ⟨i,oi,h1,hb,hp⟩
  rintro (g|⟨i,oi,c,hb,hp⟩)
  .exact .inl (.inl g)
  by_cases hm:i∈ids
  .exact .inl (.inr ((q b off).2 ⟨i,oi,hm,c,hb,hp⟩))
  exact .inr ⟨i,oi,by rw[n,Hj hm];exact c,hb,hp⟩
 have hk:Sc w (Prv C.X (A1 st.Qw) rho) w (Prv (C.plus V).X (A1 (J9 ids (ids.map λ_=>false) st.Qw)) rho):=λb o v hp hc=>⟨hc,λa0=>hp ((u b o).1 a0)⟩;have l:∀i,Lv (A1 st.Qw) i->Lv (A1 (J9 ids (ids.map λ_=>false) st.Qw)) i/\rho i=rho i:=by
  intro i c;refine⟨?_,rfl⟩;simp only[Lv,n];split
  .rfl
  exact c
 refine⟨⟨⟨⟨?_,?_,?_,?_⟩,h.ext,h.size,h.same,h.keep.trans hk,?_,?_⟩,?_,?_,h.marks.1,?_⟩,u⟩
 .intro i oi c;rw[n]at c;by_cases hm:i∈ids
  .rw[Gy hm]at c;cases c;trivial
  rw[Hj hm]at c;exact (h.hp.holds i oi c).keeps hk l λb _=>rfl
 .intro i i' oi oj b c a1 hb x;exact h.hp.sep i i' oi oj b (f i oi b c hb).2 (f i' oj b a1 x).2 hb x
 .rintro i oi b off c hb (g|g)
  .exact h.hp.out i oi b off (f i oi b c hb).2 hb g
  obtain⟨j,o,hm,h1,m,_⟩:=(q b off).1 g
  have:=h.hp.sep i j oi o b (f i oi b c hb).2 h1 hb m
  subst this;exact (f i oi b c hb).1 hm
 .rintro b off (g|g)
  .exact h.hp.bound b off g
  obtain⟨j,o,hm,h1,m,_⟩:=(q b off).1 g;exact (h.hp.holds j o h1).lt m
 .rintro b ⟨i,oi,c,hb⟩;exact h.own b ⟨i,oi,(f i oi b c hb).2,hb⟩
 .intro i r b c;rw[n]at c;by_cases hm:i∈ids
  .rw[Gy hm]at c;cases c
  rw[Hj hm]at c;exact h.yld i r b c
 .intro t;rcases hE t with he|he
  .show Sq w _ _ rho _ (get E t);rw[he];exact (h.env t).keeps hk l
  show Sq w _ _ rho _ (get E t);rw[he];exact .top _
 .intro i c hl;refine h.pin i c ?_;simp only[Lv,n]at hl;by_cases hm:i∈ids
  .exact z i hm
  rw[Hj hm]at hl;exact hl
 intro d hd';obtain⟨r,h1,m,y,h4⟩:=h.marks.2 d hd';refine⟨r,h1,m,y,?_⟩;rintro off (g|g)
 .exact h4 off g
 obtain⟨j,o,_,h5,h6,_⟩:=(q r off).1 g;exact (h.hp.holds j o h5).nd h6 y
def Sat.moves {C C' : Ctx}{V:Nat->Nat->Prop}{V' : Nat->Nat->Prop}{w' : World}{O' : Nat->Prop}(h:Sat (C.plus V) st a w rho)(hw:C'.w0=w)(z:C'.X=λb o=>C.X b o \/ PvR st.Qw rho b o)(s:C'.Pi0=λb o=>C'.X b o \/ V b o)
 (hR:Rel C' w' O' V') (g:∀b,C'.E0 b->¬Wz st.Qw rho a.defers b) (u:∀b,C'.E0 b->C.E0 b \/ C.w0.heap.size<=b) :
 Sat (C.plus V') st a w' rho/\Sc w (Prv (C.plus V).X (A1 st.Qw) rho) w' (Prv (C.plus V').X (A1 st.Qw) rho)/\∀b,b<w.heap.size->¬C'.E0 b->w'.heap[b]? = w.heap[b]?:=by
 subst hw;have c:=hR.same;have e1:∀b o,Prv (C.plus V).X (A1 st.Qw) rho b o↔C'.Pi0 b o:=by
  intro b o;rw[s,z];show ((C.X b o \/ V b o) \/ PvR st.Qw rho b o)↔((C.X b o \/ PvR st.Qw rho b o) \/ V b o);constructor
  .rintro ((h|h)|h)
   .exact .inl (.inl h)
   .exact .inr h
   exact .inl (.inr h)
  rintro ((h|h)|h)
  .exact .inl (.inl h)
  .exact .inr h
  exact .inl (.inr h)
 have e2:∀b o,Prv (C.plus V').X (A1 st.Qw) rho b o->(C'.X b o \/ V' b o):=by
  intro b o;rw[z];rintro ((h|h)|h)
  .exact .inl (.inl h)
  .exact .inr h
  exact .inl (.inr h)
 have hk:Sc C'.w0 (Prv (C.plus V).X (A1 st.Qw) rho) w' (Prv (C.plus V').X (A1 st.Qw) rho):=λb o v hp hc=>
  let ⟨h1,x⟩:=hR.keep b o v (λl=>hp ((e1 b o).2 l)) hc
  ⟨h1,λl=>x (e2 b o l)⟩
 have m:∀b,Wz st.Qw rho a.defers b->b<C'.w0.heap.size:=h.rel.lt;have i:∀b,Wz st.Qw rho a.defers b->w'.heap[b]? = C'.w0.heap[b]?:=λb hb=>c b (m b hb) (λq=>g b q hb);have n:∀b off,Wz st.Qw rho a.defers b->¬V' b off:=by
  intro b off hb hv;rcases hR.own b (hR.vo b off hv)with h1|h1
  .exact g b h1 hb
  have:=m b hb;omega
 refine⟨⟨⟨⟨?_,h.hp.sep,?_,?_⟩,h.ext.trans hR.ext,BD9 h.size hR.size,?_,h.keep.trans hk,h.own,h.yld⟩,λt=>(h.env t).keeps hk λj f=>⟨f,rfl⟩,h.pin,h.marks.1,?_⟩,hk,c⟩
 .intro j o f;exact (h.hp.holds j o f).keeps hk (λj f=>⟨f,rfl⟩) λb hb=>i b (.inl ⟨j,o,f,hb⟩)
 .rintro j o b off f hb (hx|hx)
  .exact h.hp.out j o b off f hb (.inl hx)
  exact n b off (.inl ⟨j,o,f,hb⟩) hx
 .rintro b off (hx|hx)
  .exact BB0 (h.hp.bound b off (.inl hx)) hR.size
  exact hR.lt b (hR.vo b off hx)
 .intro b hb q;have y:b<C'.w0.heap.size:=BB0 hb h.size;have hn:¬C'.E0 b:=by
   intro he;rcases u b he with h1|h1
   .exact q h1
   have:b<C.w0.heap.size:=hb;omega
  rw[c b y hn];exact h.same b hb q
 intro d hd;obtain⟨r,h1,x,h3,h4⟩:=h.marks.2 d hd;have hm:Wz st.Qw rho a.defers r:=.inr (by unfold UE;rw[<- h1];exact hd);refine⟨r,h1,x,(i r hm).trans h3,?_⟩;rintro off (hx|hx)
 .exact h4 off (.inl hx)
 exact n r off hm hx
def Sat.minus {V:Nat->Nat->Prop}(h:Sat (C.plus V) st a w rho):Sat C st a w rho/\∀b off,Prv C.X (A1 st.Qw) rho b off->Prv (C.plus V).X (A1 st.Qw) rho b off:=by
 have g:∀b off,Prv C.X (A1 st.Qw) rho b off->Prv (C.plus V).X (A1 st.Qw) rho b off:=by
  rintro b off (c|c)
  .exact .inl (.inl c)
  exact .inr c
 have hk:Sc w (Prv (C.plus V).X (A1 st.Qw) rho) w (Prv C.X (A1 st.Qw) rho):=λb o v hp hc=>⟨hc,λi=>hp (g b o i)⟩;refine⟨⟨⟨⟨?_,h.hp.sep,λj o b off f hb c=>h.hp.out j o b off f hb (.inl c),λb off c=>h.hp.bound b off (.inl c)⟩,h.ext,h.size,h.same,h.keep.trans hk,h.own,h.yld⟩,λt=>(h.env t).keeps hk λj f=>⟨f,rfl⟩,h.pin,h.marks.1,?_⟩,g⟩
 .intro j o f;exact (h.hp.holds j o f).keeps hk (λj f=>⟨f,rfl⟩) λb hb=>rfl
 intro d l;obtain⟨r,h1,m,n,q⟩:=h.marks.2 d l;exact⟨r,h1,m,n,λoff c=>q off (.inl c)⟩
end
end Go.AM
