/- Part 2. -/
import Derived.Test.YtndjjecpdipknaaGreatDoorWA
import Derived.Laws.BytesString
import Derived.Laws.StructEq
import Derived.ChangeKeysEq
set_option linter.defProp false
set_option linter.unusedSimpArgs false
set_option linter.unusedVariables false
set_option linter.unusedSectionVars false
namespace Go.AM
def By9:=@Bool.false_eq_true
def Bz9:=@Go.Result.andThen_ok
def BA1:=@Option.isSome_iff_exists
def BA5:=@Classical.byContradiction
def BA7:=@Bool.not_eq_true'
def BB2:=@Go.Sem.run_bind
def BB5:=@Nat.not_lt_zero
def BB8:=@List.map_congr_left
def BC0:=@List.mem_range
def BC2:=@List.contains_eq_mem
def BC4:=@List.append_nil
def BC7:=@Go.Sem.run_pure
def BD3:=@List.nil_append
def BD5:=@List.eq_nil_of_length_eq_zero
def BD8:=@List.getElem?_append_left
def BE4:=@List.length_nil
def BE6:=@Function.comp_def
def BE7:=@Option.some.inj
def BF0:=@Array.getElem?_modify
def BF5:=@List.getElem?_cons_zero
def BF7:=@Option.getD_none
def BG5:=@List.drop_eq_nil_of_le
def BG7:=@Array.getElem?_setIfInBounds_ne
def BH0:=@Array.getElem?_append
def BH7:=@List.map_map
def BI0:=@List.getElem?_append_right
def BI3:=@List.all_cons
def BI4:=@Bool.not_true
def BI5:=@List.drop_eq_getElem_cons
def BI6:=@List.mem_iff_getElem
def BI8:=@List.append_assoc
def BI9:=@Int.emod_eq_of_lt
def BJ3:=@List.take_succ_cons
def BJ4:=@Option.bind_eq_some_iff
def BJ5:=@Array.getElem?_push
def BK5:=@Bool.true_and
def BK6:=@Array.getElem_modify
def BK7:=@List.drop_drop
def BL4:=@List.foldl_cons
def BL5:=@Option.map_none
def BM0:=@List.getElem?_set_self
def BM2:=@Nat.add_mul
def BM3:=@List.take_zero
def BM6:=@List.getElem?_set_ne
def BM9:=@List.getElem?_concat_length
def BN2:=@Array.toList_setIfInBounds
def BP4:=@Array.mem_of_getElem?
def BP6:=@List.length_set
def BQ5:=@Array.toList_append
def BQ8:=@Array.foldl_toList
def BR6:=@Int.toNat_le
def BR7:=@Nat.sub_zero
section
variable {P:Program}{C:Ctx}{st:St}{a:Act}{w:World}{rho:Nat->Value}{o:Oper}{out:Out}{d:Nat}
def Sat.moved (h:Sat C st a w rho){j jn:Nat}{oj:Obj}(u:A1 st.Qw j=some oj)(a5:1000<=jn)(hn:A1 st.Qw jn=none)(ob:Obj)(l:Value){w' : World}(a0:w.heap.size<=w'.heap.size)
 (o:∀b,b<w.heap.size->¬E5 (rho j) oj b->w'.heap[b]? = w.heap[b]?)
 (hb:∀b,E5 l ob b->E5 (rho j) oj b \/ w.heap.size<=b)
 (q:∀b off v,E5 (rho j) oj b->¬Prv C.X (A1 st.Qw) rho b off->w.cell? ⟨b,off,none⟩=some v->w'.cell? ⟨b,off,none⟩=some v/\(E5 l ob b->¬JY ob off))
 (hh:Sc w (PiS C st rho) w' (Prv C.X (A1 (ins jn ob (ins j .dead st.Qw))) (λi=>if i=jn then l else rho i)) ->
  Sr w' (Prv C.X (A1 (ins jn ob (ins j .dead st.Qw))) (λi=>if i=jn then l else rho i)) (Lv (A1 (ins jn ob (ins j .dead st.Qw)))) (λi=>if i=jn then l else rho i) l ob) (hy:∀r b,ob ≠ .yld r b:=by intro _ _ h;cases h) (hext:Ext w w':=by exact⟨rfl,rfl⟩) :
 Sat C { st with Qw:=ins jn ob (ins j .dead st.Qw) } a w' (λi=>if i=jn then l else rho i)/\Kp C st.Qw (ins jn ob (ins j .dead st.Qw)) w w' rho (λi=>if i=jn then l else rho i):=by
 have s:jn≠j:=by rintro rfl;rw[hn]at u;cases u
 have m:∀i,Lv (A1 st.Qw) i->Lv (A1 (ins jn ob (ins j .dead st.Qw))) i/\(if i=jn then l else rho i)=rho i:=by
  intro i c;have e:i≠jn:=by rintro rfl;simp[Lv,hn]at c
  refine⟨?_,by simp[e]⟩;simp only[Lv,A3,Hj (BC5 e)];split
  .rfl
  exact c
 have hR:∀i oi b,A1 (ins jn ob (ins j .dead st.Qw)) i=some oi->(i=j \/ i=jn)->E5 (if i=jn then l else rho i) oi b->i=jn/\oi=ob:=by
  intro i oi b c d f;rcases d with rfl|rfl
  .rw[A3,Hj s,A3,Gy rfl]at c;cases c;simp[E5,N1]at f
  rw[A3,Gy rfl]at c;cases c;exact⟨rfl,rfl⟩
 obtain⟨h1,y⟩:=h.step (R':=ins jn ob (ins j .dead st.Qw)) (rho':=λi=>if i=jn then l else rho i) (w':=w') (λi=>i=j \/ i=jn)
  (λi c=>by have h1:¬j=i:=λe=>c (.inl e.symm);have y:¬jn=i:=λe=>c (.inr e.symm);rw[A3,Hj y,A3,Hj h1])
  m a0
  (λi c g=>by
   by_cases e:i=jn
   .omega
   simp only[Lv,A3,Hj (BC5 e)]at g;split at g
   .rename_i e';subst e';simp[Lv,u]at c
   exact Ij g c)
  (λi r b c z=>by
   rcases c with rfl|rfl
   .rw[A3,Hj s,A3,Gy rfl]at z;cases z
   rw[A3,Gy rfl]at z;cases z;exact hy r b rfl)
  (λb n a1=>o b n (a1 j oj (.inl rfl) u))
  (λi oi b d c f=>by
   obtain⟨rfl,rfl⟩:=hR i oi b c d f;simp only[Lc]at f;rcases hb b f with h1|h1
   .exact .inl ⟨j,oj,.inl rfl,u,h1⟩
   exact .inr h1)
  (λi i' oi oi' b c g x t a2 a3=>(hR i oi b x c a2).1.trans (hR i' oi' b t g a3).1.symm)
  (λi oi b off v d x f a4 hc=>by
   rcases d with rfl|rfl
   .rw[u]at x;cases x;obtain⟨h1,y⟩:=q b off v f a4 hc;refine⟨h1,λi' oi' g t n=>?_⟩;obtain⟨rfl,rfl⟩:=hR i' oi' b t g n;simp only[Lc]at n;exact y n
   rw[hn]at x;cases x)
  (λhk i oi d c=>by
   rcases d with rfl|rfl
   .rw[A3,Hj s,A3,Gy rfl]at c;cases c;trivial
   rw[A3,Gy rfl]at c;cases c;simp only[Lc];exact hh hk) hext
 exact⟨h1,y,m⟩
def Br {t tx ty e:TypeId}{i:TypeInfo}{z:Value}(ht:P.underlying t=some (.slice e))(y:P.info? e=some i)(hz:i.zero=some z)(a0:z.cells.size=i.size)(hby:0<i.bytes)
 {x:Value}{n:Nat}{news:List Value}(hs:Src P i.size tx x n news w) {s:Value}{m:Nat}{olds:List Value}{b cap:Nat}{c:Array Value}
 (hv:(s=.slice none 0 0/\m=0/\olds=[]) \/ (s=.slice (some ⟨b,0,none⟩) m cap/\w.heap[b]? = some (.cells c e (0,0))/\m<=cap/\c.size=cap*i.size/\cap<=maxLen/\olds=c.toList.take (m*i.size)))
 (hmax:m+n<=140737488355328) (d:(m+n)*i.bytes<=140737488355328) :
 ∃v' w',(Builtin.append_ #[t,tx] ty #[s,x]).run P w=.ok v' w' /\
  ((s=.slice none 0 0/\v' = .slice none 0 0/\m+n=0/\w' = w) \/
   (∃cap',s=.slice (some ⟨b,0,none⟩) m cap' /\ v' = .slice (some ⟨b,0,none⟩) (m+n) cap/\m+n<=cap/\w' = w.setRow b (splice c.toList (m*i.size) news).toArray) \/
   (∃cap' arr,v' = .slice (some ⟨w.heap.size,0,none⟩) (m+n) cap' /\ w' = w.drew.alloc (.cells arr e)/\m+n<=cap' /\ cap' <= maxLen/\arr.size=cap' * i.size/\∃r,arr.toList=olds++news++r)):=by
 have a1:((m+n:Nat):Int)<=9223372036854775807:=by omega
 have a2:m+n<=maxLen:=by simp only[maxLen];omega
 have grow:∀(base:Option Addr) (old:Nat),s=.slice base m old->old<m+n->olds.length=m*i.size->(Builtin.firstCells i.size m (.slice base m old)).run P w.drew=.ok olds.toArray w.drew ->
  ∃v' w',(Builtin.append_ #[t,tx] ty #[s,x]).run P w=.ok v' w' /\ (∃cap' arr,v' = .slice (some ⟨w.heap.size,0,none⟩) (m+n) cap' /\ w' = w.drew.alloc (.cells arr e)/\m+n<=cap' /\ cap' <= maxLen/\arr.size=cap' * i.size/\∃r,arr.toList=olds++news++r):=by
  intro base old a3 j f a4;subst a3;have hr:=run_append_grow_src (P:=P) w t tx ty e i z ht y hz base m old olds a4 x n news hs j a1 (growslice_fits j d);refine⟨_,_,hr,_,_,rfl,rfl,grownCap_ge w _ _ e,grownCap_le_maxLen w _ _ e a2,?_,(Builtin.zeroCells z.cells (grownCap w (m+n) old e-(m+n))).toList,?_⟩
  .have hge:=grownCap_ge w (m+n) old e;simp only[Array.size_append,BF9,Bz6,size_zeroCells,a0,f,hs.newsLen,<- BM2];congr 1;omega
  simp[BQ5,BI8]
 rcases hv with⟨rfl,rfl,rfl⟩ | ⟨rfl,hg,a5,l,hcm,rfl⟩
 .by_cases hn:n=0
  .subst hn;refine⟨.slice none 0 0,w,?_,.inl ⟨rfl,rfl,rfl,rfl⟩⟩;have g:news=[]:=BD5 (by simpa using hs.newsLen);subst g;rcases hs.kind with⟨e',hk⟩ | hk<;>simp[Builtin.append_,run_underlying ht,run_underlying hk,sizeOf,typeInfo,y,hs.len,hs.cells]
  obtain⟨v',w',h1,h2⟩:=grow none 0 rfl (by omega) (by simp) (by simpa using run_firstCells_none (P:=P) w.drew i.size 0 0 0);exact⟨v',w',h1,.inr (.inr h2)⟩
 have hle:m*i.size<=c.size:=by rw[l];exact BA6 _ a5
 have f:(c.toList.take (m*i.size)).length=m*i.size:=by simp;omega
 by_cases a:m+n<=cap
 .have q:m*i.size+news.length<=c.size:=by rw[hs.newsLen,l,<- BM2];exact BA6 _ a
  have v:=run_storeCells_at (P:=P) b (m*i.size) e news 0 c w hg (by simpa using q) hs.one;simp only[BG2]at v;refine⟨.slice (some ⟨b,0,none⟩) (m+n) cap,_,?_,.inr (.inl ⟨cap,rfl,rfl,a,rfl⟩)⟩;rcases hs.kind with⟨e',hk⟩ | hk<;>simp[Builtin.append_,run_underlying ht,run_underlying hk,sizeOf,typeInfo,y,hs.len,a,hs.cells,BE8,v,splice]
 obtain⟨v',w',h1,h2⟩:=grow (some ⟨b,0,none⟩) cap rfl (by omega) f (run_firstCells_some w.drew i.size m ⟨b,0,none⟩ m cap _ f (by
  intro p u hp;rw[BH1]at hp;split at hp
  .rename_i hpl;rw[BE8,BE1]
   have:=cell_of_heap (w:=w) hg (o:=p) (by omega)
   simp only[World.cell?_drew];rw[this];simp[By2,show p<c.size by omega]at hp⊢;exact hp
  cases hp))
 exact⟨v',w',h1,.inr (.inr h2)⟩
def HK {l r:List Value}{i:Nat}(h:i<l.length):(l++r).getD i undef=l.getD i undef:=by simp[By3,BD8 h]
def MU {l r:List Value}{i:Nat}(h:l.length<=i):(l++r).getD i undef=r.getD (i-l.length) undef:=by simp[By3,BI0 h]
def WS {l:List Value}{i n:Nat}(h:i<n):(l.take n).getD i undef=l.getD i undef:=by simp[By3,h]
def EI {w:World}{Pi:Nat->Nat->Prop}{k m n:Nat}{f g:Nat->List PV}{arr:Array Value}{olds news r:List Value}(ha:arr.toList=olds++news++r)(c:olds.length=m*k)(hn:news.length=n*k)
 (d:∀i j,i<m->j<k->Sd w Pi (olds.getD (i*k+j) undef) ((f i).getD j default)/\(olds.getD (i*k+j) undef).oneCell' = true)
 (l:∀i j,i<n->j<k->Sd w Pi (news.getD (i*k+j) undef) ((g i).getD j default)/\(news.getD (i*k+j) undef).oneCell' = true) :
 ∀i j,i<m+n->j<k->Sd w Pi (arr.getD (i*k+j) undef) ((Ey m f g i).getD j default)/\(arr.getD (i*k+j) undef).oneCell' = true:=by
 intro i j q b;rw[D0,ha];unfold Ey;by_cases a:i<m
 .have:=H3 a b
  rw[Gy a,BI8,HK (by omega)];exact d i j a b
 rw[Hj a];have h1:m*k<=i*k:=BA6 k (by omega);have s:=H3 (show i-m<n by omega) b;have o:(i-m)*k=i*k-m*k:=Nat.sub_mul _ _ _;rw[BI8,MU (by omega),HK (by omega),c]
 have:=l (i-m) j (by omega) b
 rwa [o,show i*k-m*k+j=i*k+j-m*k by omega]at this
def BK {k m n:Nat}{f g:Nat->List PV}(a:∀i,i<m->(f i).length=k)(b:∀i,i<n->(g i).length=k):∀i,i<m+n->(Ey m f g i).length=k:=by
 intro i c;unfold Ey;split
 .rename_i h;exact a i h
 exact b _ (by omega)
def Tg (h:Sat C st a w rho){c:Call}(hf:∀s x e m b,c.args.toList=[s,x]->LD st.Qw e m d b (aev st.env s) (aev st.env x)=none)(hc:c.callee=.builtin .append)(ho:o.op=.call c)(he:aop P st.env st.Qw d o.op=some out)(hcond:C6 out.cond):OpOk P C o st a w rho out:=by
 obtain⟨callee,args,types⟩:=c;simp only at hc;subst hc;rw[ho]at he;simp only[aop]at he;split at he
 .rename_i s x t t2 hargs htypes;split at he
  .rename_i e k2 ht ht2;split at he
   .rename_i k z hk2 hm hz;split at he
    .rename_i n g l f vw R1 hn hel htk;split at he
     .rename_i hzl;cases he;obtain⟨args⟩:=args;obtain⟨types⟩:=types;simp only at hargs htypes;subst hargs;subst htypes;obtain⟨hbytes,hmax⟩:=hcond;obtain⟨i,hi,rfl⟩:=OY hm;obtain⟨i',zv,q,hzv,hze⟩:=Y9 hz;rw[hi]at q;cases q;have hzs:zv.cells.size=i.size:=by have:=hzl.1;rw[hze]at this;simpa using this
      have hby:DZ P e=i.bytes:=by simp[DZ,Program.bytesOf,hi]
      rw[hby]at hbytes;have hbp:0<i.bytes:=by have:=hzl.2;rwa [hby]at this
      obtain⟨cx,hsrc,hgl,hgr⟩:=Pu h (h.aev x) hel ht2 hk2;have hgr' : ∀i' j,i' < n->j<i.size->Sd w (PiS C st rho) ((Bq cx n i.size).getD (i' * i.size+j) undef) ((g i').getD j default)/\((Bq cx n i.size).getD (i' * i.size+j) undef).oneCell' = true:=by intro i' j q hj;rw[AA6 cx q hj];exact hgr i' j q hj
      have y:∀v' w',(Builtin.append_ #[t,t2] o.type #[a.eval s,a.eval x]).run P w=.ok v' w' -> (execOp a.eval o).run P w=.ok (.value v') w':=by intro v' w' hr;simp[execOp,ho,resolve,invoke,builtin,hr]
      have hs:=h.aev s;have u:=I0 ht;unfold Up at htk;split at htk
      .
       rename_i hse;cases htk;rw[hse]at hs;have hv:=hs.toP.toV;obtain⟨v',w',hr,hres⟩:=Br (ty:=o.type) (b:=0) (cap:=0) (c:=#[]) u hi hzv hzs hbp hsrc (s:=a.eval s) (m:=0) (olds:=[]) (.inl ⟨hv,rfl,rfl⟩) hmax hbytes;rcases hres with⟨_,rfl,h0,rfl⟩ | ⟨cap',hse',_⟩ | ⟨cap',arr,rfl,rfl,hge,hcm,hsz,r,harr⟩
       .obtain⟨h1,h2,h3⟩:=h.fresh (Bp d 0) hn (.vec e i.size (0+n) (Ey 0 (λ_=>[]) g) false) (.slice none 0 0) (w':=w') (Bz5 _) (λb hb=>rfl) (λb hb=>by simp[E5,N1]at hb) (λhk=>.inl ⟨rfl,h0⟩);refine⟨_,_,_,_,y _ _ hr,.inl rfl,h1,⟨h2,h3⟩,?_⟩;exact .vec _ none 0 0 (by simp[Lv,A3]) (by simp)
       .rw[hv]at hse';cases hse'
       obtain⟨h1,h2,h3⟩:=h.fresh (Bp d 0) hn (.vec e i.size (0+n) (Ey 0 (λ_=>[]) g) false) (.slice (some ⟨w.heap.size,0,none⟩) (0+n) cap') (w':=w.drew.alloc (.cells arr e)) (by simp) (λb hb=>heap_alloc_old w.drew _ b hb) (λb hb=>by simp[E5,N1]at hb;omega)
        (λhk=>.inr ⟨w.heap.size,cap',arr,rfl,heap_alloc_new w.drew _,hge,hsz,hcm,BK (λi hi=>Ij hi (by omega)) hgl,
         EI harr (by simp) (J4 _ _ _) (λi j hi=>Ij hi (by omega)) λi' j q hj=>⟨(hgr' i' j q hj).1.keeps hk,(hgr' i' j q hj).2⟩⟩)
       refine⟨_,_,_,_,y _ _ hr,.inl rfl,h1,⟨h2,h3⟩,?_⟩;exact .vec _ _ _ _ (by simp[Lv,A3]) (by simp)
      .
       rename_i j hse;split at htk
       .rename_i e' m' n' f' vw' hj;split at htk
        .rename_i hem;cases htk;obtain⟨rfl,rfl⟩:=hem;rw[hse]at hs;generalize hvs:a.eval s=v at hs;rw[hvs]at y;cases hs with
         |vec j base nn cap hl hrj=>
         have hh:=h.hp.holds j _ hj;rw[hrj]at hh;have hne:nid d 0≠j:=by intro e;rw[e,hj]at hn;cases hn
         rcases hh with⟨hnil,rfl⟩ | ⟨b,cap',c,hb',hheap,hncap,hcsz,hcmax,hlen,hrep⟩
         .cases hnil;obtain⟨v',w',hr,hres⟩:=Br (ty:=o.type) (b:=0) (cap:=0) (c:=#[]) u hi hzv hzs hbp hsrc (s:=.slice none 0 0) (m:=0) (olds:=[]) (.inl ⟨rfl,rfl,rfl⟩) hmax hbytes;rcases hres with⟨_,rfl,h0,rfl⟩ | ⟨cap',hse',_⟩ | ⟨cap',arr,rfl,rfl,hge,hcm,hsz,r,harr⟩
          .obtain⟨h1,h2⟩:=h.moved hj (Bp d 0) hn (.vec e' i.size (0+n) (Ey 0 f g) vw) (.slice none 0 0) (w':=w') (Bz5 _) (λb _ _=>rfl) (λb hb=>by simp[E5,N1]at hb) (λb off v hb _ hc=>by simp[E5,N1,hrj]at hb) (λhk=>.inl ⟨rfl,h0⟩);exact⟨_,_,_,_,y _ _ hr,.inl rfl,h1,h2,.vec _ none 0 0 (by simp[Lv,A3]) (by simp)⟩
          .cases hse'
          obtain⟨h1,h2⟩:=h.moved hj (Bp d 0) hn (.vec e' i.size (0+n) (Ey 0 f g) vw) (.slice (some ⟨w.heap.size,0,none⟩) (0+n) cap') (w':=w.drew.alloc (.cells arr e')) (by simp) (λb hb _=>heap_alloc_old w.drew _ b hb) (λb hb=>by simp[E5,N1]at hb;omega) (λb off v hb _ hc=>by simp[E5,N1,hrj]at hb)
           (λhk=>.inr ⟨w.heap.size,cap',arr,rfl,heap_alloc_new w.drew _,hge,hsz,hcm,BK (λi hi=>Ij hi (by omega)) hgl,
            EI harr (by simp) (J4 _ _ _) (λi j hi=>Ij hi (by omega)) λi' j q hj=>⟨(hgr' i' j q hj).1.keeps hk,(hgr' i' j q hj).2⟩⟩)
          exact⟨_,_,_,_,y _ _ hr,.inl rfl,h1,h2,.vec _ _ _ _ (by simp[Lv,A3]) (by simp)⟩
         cases hb';have hle:l*i.size<=c.size:=by rw[hcsz];exact BA6 _ hncap
         obtain⟨v',w',hr,hres⟩:=Br (ty:=o.type) (b:=b) (cap:=cap) (c:=c) u hi hzv hzs hbp hsrc (s:=.slice (some ⟨b,0,none⟩) l cap) (m:=l) (olds:=c.toList.take (l*i.size)) (.inr ⟨rfl,hheap,hncap,hcsz,hcmax,rfl⟩) hmax hbytes;have holds:∀i' j,i' < l->j<i.size->Sd w (PiS C st rho) ((c.toList.take (l*i.size)).getD (i' * i.size+j) undef) ((f i').getD j default)/\((c.toList.take (l*i.size)).getD (i' * i.size+j) undef).oneCell' = true:=by intro i' j q hj;rw[WS (H3 q hj),<- D0];exact hrep i' j q hj
         have hol:(c.toList.take (l*i.size)).length=l*i.size:=by simp;omega
         have hpub:∀off,¬Prv C.X (A1 st.Qw) rho b off->vw=true/\off<l*i.size:=by
          intro off hnp;have hnp' : ¬JY (.vec e' i.size l f vw) off:=λhp=>hnp (.inr ⟨j,_,hj,by simp[E5,N1,hrj],hp⟩);cases vw
          .exact Ij trivial hnp'
          exact⟨rfl,by simpa[JY]using hnp'⟩
         rcases hres with⟨hse',_⟩ | ⟨cap'',_,rfl,hroom,rfl⟩ | ⟨cap'',arr,rfl,rfl,hge,hcm,hsz,r,harr⟩
         .cases hse'
         .have hfit:l*i.size+(Bq cx n i.size).length<=c.toList.length:=by rw[J4,BC6,hcsz,<- BM2];exact BA6 _ hroom
          obtain⟨h1,h2⟩:=h.moved hj (Bp d 0) hn (.vec e' i.size (l+n) (Ey l f g) vw) (.slice (some ⟨b,0,none⟩) (l+n) cap) (w':=w.setRow b (splice c.toList (l*i.size) (Bq cx n i.size)).toArray) (by simp)
           (λb' hb' hnb=>setRow_other w b b' _ (λe=>hnb (by simp[E5,N1,hrj,e]))) (λb' hb'=>.inl (by simpa[E5,N1,hrj]using hb'))
           (λb' off v hb' hnp hcell=>by
            have e:b' = b:=by simp[E5,N1,hrj]at hb';exact hb'.symm
            subst e;obtain⟨hvw,hoff⟩:=hpub off hnp;refine⟨?_,λ_=>?_⟩
            .have h1:=cell_of_heap (w:=w) hheap (o:=off) (by omega);have h2:=cell_of_heap (w:=w.setRow b' (splice c.toList (l*i.size) (Bq cx n i.size)).toArray) (setRow_heap w b' c _ e' _ hheap) (o:=off) (by rw[BF9,I1 _ _ _ hfit];simp;omega);rw[h2,<- hcell,h1,D0,D0];congr 1;show (splice c.toList (l*i.size) (Bq cx n i.size)).getD off undef=_;rw[X2 _ _ _ _ _ hfit,Hj (by omega)]
            rw[hvw];simp only[JY,BM2];omega)
           (λhk=>.inr ⟨b,cap,_,rfl,setRow_heap w b c _ e' _ hheap,hroom,by rw[BF9,I1 _ _ _ hfit];simpa using hcsz,hcmax,BK hlen hgl,
            EI (r:=c.toList.drop (l*i.size+(Bq cx n i.size).length)) (by simp[splice]) hol (J4 _ _ _) (λi' j q hj=>⟨(holds i' j q hj).1.keeps hk,(holds i' j q hj).2⟩) λi' j q hj=>⟨(hgr' i' j q hj).1.keeps hk,(hgr' i' j q hj).2⟩⟩)
          exact⟨_,_,_,_,y _ _ hr,.inl rfl,h1,h2,.vec _ _ _ _ (by simp[Lv,A3]) (by simp)⟩
         have hlt:b<w.heap.size:=(Bz0.1 hheap).1;obtain⟨h1,h2⟩:=h.moved hj (Bp d 0) hn (.vec e' i.size (l+n) (Ey l f g) vw) (.slice (some ⟨w.heap.size,0,none⟩) (l+n) cap'') (w':=w.drew.alloc (.cells arr e')) (by simp) (λb' hb' _=>heap_alloc_old w.drew _ b' hb') (λb' hb'=>by simp[E5,N1]at hb';omega)
          (λb' off v hb' hnp hcell=>by have hlt' : b' < w.heap.size:=BF4 w ⟨b',off,none⟩ hcell;refine⟨?_,λe=>by simp[E5,N1]at e;omega⟩;rw[<- hcell];exact BC8 (heap_alloc_old w.drew _ b' hlt'))
          (λhk=>.inr ⟨w.heap.size,cap'',arr,rfl,heap_alloc_new w.drew _,hge,hsz,hcm,BK hlen hgl,
           EI harr hol (J4 _ _ _) (λi' j q hj=>⟨(holds i' j q hj).1.keeps hk,(holds i' j q hj).2⟩) λi' j q hj=>⟨(hgr' i' j q hj).1.keeps hk,(hgr' i' j q hj).2⟩⟩)
         exact⟨_,_,_,_,y _ _ hr,.inl rfl,h1,h2,.vec _ _ _ _ (by simp[Lv,A3]) (by simp)⟩
        cases htk
       cases htk
      .
       rename_i j m0 hse;split at htk
       .rename_i e' m' n' f' hj;split at htk
        .rename_i hem;cases htk;obtain⟨rfl,rfl⟩:=hem;rw[hse]at hs;generalize hvs:a.eval s=v at hs;rw[hvs]at y;cases hs with
         |vecp j m0 base nn cap hl hrj hmn=>
         have hh:=h.hp.holds j _ hj;rw[hrj]at hh;have hne:nid d 0≠j:=by intro e;rw[e,hj]at hn;cases hn
         rcases hh with⟨hnil,rfl⟩ | ⟨b,cap',c,hb',hheap,hncap,hcsz,hcmax,hlen,hrep⟩
         .cases hnil;obtain rfl:m0=0:=by omega
          simp only[Nat.min_self]at *;obtain⟨v',w',hr,hres⟩:=Br (ty:=o.type) (b:=0) (cap:=0) (c:=#[]) u hi hzv hzs hbp hsrc (s:=.slice none 0 0) (m:=0) (olds:=[]) (.inl ⟨rfl,rfl,rfl⟩) hmax hbytes;rcases hres with⟨_,rfl,h0,rfl⟩ | ⟨cap',hse',_⟩ | ⟨cap',arr,rfl,rfl,hge,hcm,hsz,r,harr⟩
          .obtain⟨h1,h2⟩:=h.moved hj (Bp d 0) hn (.vec e' i.size (0+n) (Ey 0 f g) false) (.slice none 0 0) (w':=w') (Bz5 _) (λb _ _=>rfl) (λb hb=>by simp[E5,N1]at hb) (λb off v hb _ hc=>by simp[E5,N1,hrj]at hb) (λhk=>.inl ⟨rfl,h0⟩);exact⟨_,_,_,_,y _ _ hr,.inl rfl,h1,h2,.vec _ none 0 0 (by simp[Lv,A3]) (by simp)⟩
          .cases hse'
          obtain⟨h1,h2⟩:=h.moved hj (Bp d 0) hn (.vec e' i.size (0+n) (Ey 0 f g) false) (.slice (some ⟨w.heap.size,0,none⟩) (0+n) cap') (w':=w.drew.alloc (.cells arr e')) (by simp) (λb hb _=>heap_alloc_old w.drew _ b hb) (λb hb=>by simp[E5,N1]at hb;omega) (λb off v hb _ hc=>by simp[E5,N1,hrj]at hb)
           (λhk=>.inr ⟨w.heap.size,cap',arr,rfl,heap_alloc_new w.drew _,hge,hsz,hcm,BK (λi hi=>Ij hi (by omega)) hgl,
            EI harr (by simp) (J4 _ _ _) (λi j hi=>Ij hi (by omega)) λi' j q hj=>⟨(hgr' i' j q hj).1.keeps hk,(hgr' i' j q hj).2⟩⟩)
          exact⟨_,_,_,_,y _ _ hr,.inl rfl,h1,h2,.vec _ _ _ _ (by simp[Lv,A3]) (by simp)⟩
         cases hb';rw[BI7 hmn]at *;have hle:m0*i.size<=c.size:=by rw[hcsz];exact BA6 _ (by omega)
         obtain⟨v',w',hr,hres⟩:=Br (ty:=o.type) (b:=b) (cap:=cap) (c:=c) u hi hzv hzs hbp hsrc (s:=.slice (some ⟨b,0,none⟩) m0 cap) (m:=m0) (olds:=c.toList.take (m0*i.size)) (.inr ⟨rfl,hheap,by omega,hcsz,hcmax,rfl⟩) hmax hbytes;have holds:∀i' j,i' < m0->j<i.size->Sd w (PiS C st rho) ((c.toList.take (m0*i.size)).getD (i' * i.size+j) undef) ((f i').getD j default)/\((c.toList.take (m0*i.size)).getD (i' * i.size+j) undef).oneCell' = true:=by intro i' j q hj;rw[WS (H3 q hj),<- D0];exact hrep i' j (by omega) hj
         have hol:(c.toList.take (m0*i.size)).length=m0*i.size:=by simp;omega
         have hpub:∀off,¬Prv C.X (A1 st.Qw) rho b off->False:=by intro off hnp;exact hnp (.inr ⟨j,_,hj,by simp[E5,N1,hrj],trivial⟩)
         rcases hres with⟨hse',_⟩ | ⟨cap'',_,rfl,hroom,rfl⟩ | ⟨cap'',arr,rfl,rfl,hge,hcm,hsz,r,harr⟩
         .cases hse'
         .have hfit:m0*i.size+(Bq cx n i.size).length<=c.toList.length:=by rw[J4,BC6,hcsz,<- BM2];exact BA6 _ hroom
          obtain⟨h1,h2⟩:=h.moved hj (Bp d 0) hn (.vec e' i.size (m0+n) (Ey m0 f g) false) (.slice (some ⟨b,0,none⟩) (m0+n) cap) (w':=w.setRow b (splice c.toList (m0*i.size) (Bq cx n i.size)).toArray) (by simp)
           (λb' hb' hnb=>setRow_other w b b' _ (λe=>hnb (by simp[E5,N1,hrj,e]))) (λb' hb'=>.inl (by simpa[E5,N1,hrj]using hb'))
           (λb' off v hb' hnp hcell=>by
            have e:b' = b:=by simp[E5,N1,hrj]at hb';exact hb'.symm
            subst e;exact (hpub off hnp).elim)
           (λhk=>.inr ⟨b,cap,_,rfl,setRow_heap w b c _ e' _ hheap,hroom,by rw[BF9,I1 _ _ _ hfit];simpa using hcsz,hcmax,BK (λi hi=>hlen i (by omega)) hgl,
            EI (r:=c.toList.drop (m0*i.size+(Bq cx n i.size).length)) (by simp[splice]) hol (J4 _ _ _) (λi' j q hj=>⟨(holds i' j q hj).1.keeps hk,(holds i' j q hj).2⟩) λi' j q hj=>⟨(hgr' i' j q hj).1.keeps hk,(hgr' i' j q hj).2⟩⟩)
          exact⟨_,_,_,_,y _ _ hr,.inl rfl,h1,h2,.vec _ _ _ _ (by simp[Lv,A3]) (by simp)⟩
         obtain⟨h1,h2⟩:=h.moved hj (Bp d 0) hn (.vec e' i.size (m0+n) (Ey m0 f g) false) (.slice (some ⟨w.heap.size,0,none⟩) (m0+n) cap'') (w':=w.drew.alloc (.cells arr e')) (by simp) (λb' hb' _=>heap_alloc_old w.drew _ b' hb') (λb' hb'=>by simp[E5,N1]at hb';omega)
          (λb' off v hb' hnp hcell=>by
           have e:b' = b:=by simp[E5,N1,hrj]at hb';exact hb'.symm
           subst e;exact (hpub off hnp).elim)
          (λhk=>.inr ⟨w.heap.size,cap'',arr,rfl,heap_alloc_new w.drew _,hge,hsz,hcm,BK (λi hi=>hlen i (by omega)) hgl,
           EI harr hol (J4 _ _ _) (λi' j q hj=>⟨(holds i' j q hj).1.keeps hk,(holds i' j q hj).2⟩) λi' j q hj=>⟨(hgr' i' j q hj).1.keeps hk,(hgr' i' j q hj).2⟩⟩)
         exact⟨_,_,_,_,y _ _ hr,.inl rfl,h1,h2,.vec _ _ _ _ (by simp[Lv,A3]) (by simp)⟩
        cases htk
       cases htk
      cases htk
     cases he
    rw[hf _ _ _ _ _ hargs]at he;cases he
   cases he
  cases he
 cases he
end
section
variable {P:Program}{C:Ctx}{st:St}{a:Act}{w:World}{rho:Nat->Value}{o:Oper}{out:Out}{d:Nat}
def WT (h:Sat C st a w rho){t:TypeId}{x ix:Operand}(z:o.op=.indexAddr t x ix)(he:aop P st.env st.Qw d o.op=some out)(hc:C6 out.cond):OpOk P C o st a w rho out:=by
 rw[z]at he;simp only[aop]at he;split at he
 .rename_i i hi;split at he
  .rename_i c y hy;cases he;obtain⟨ik,q⟩:=Cb (h.aev ix) hi;have hx:=h.aev x;unfold Gl at hy;split at hy
   .
    rename_i n e j oo hk l;split at hy
    .rename_i m hm;cases hy;rw[l]at hx;generalize g:a.eval x=v at hx;cases hx with
     |reg j off b hl hr=>refine OpOk.pure h (v:=.pointer (some ⟨b,oo+i.toNat*m,none⟩)) ?_ (.reg j _ b hl hr);have h1:(0<=i/\i<(n:Int)):=hc;simp[execOp,z,Instr.indexAt,q,asIntOf,Ag w (LL hk),g,Instr.sureAddr,h1,Jx w hm,BE8]
    cases hy
   .rename_i n e cs hk l;split at hy
    .rename_i m hm;cases hy;rw[l]at hx;have hx:=hx.toP;generalize g:a.eval x=v at hx;cases hx with
     |ptr b off cs c hcell hrep=>
      refine OpOk.pure h (v:=.pointer (some ⟨b,off+i.toNat*m,none⟩)) ?_ (.p _ _ (.ptr b _ _ (λj=>c (i.toNat*m+j)) (λj r=>?_) λj r=>?_))
      .have h1:(0<=i/\i<(n:Int)):=hc;simp[execOp,z,Instr.indexAt,q,asIntOf,Ag w (LL hk),g,Instr.sureAddr,h1,Jx w hm,BE8]
      .simp only[BB1]at r
       have:=hcell (i.toNat*m+j) (by omega)
       rwa [<- BK4]at this
      simp only[BB1]at r
      have:=hrep (i.toNat*m+j) (by omega)
      simpa[By3,BF6]using this
    cases hy
   .rename_i e nn k n f hk l;split at hy
    .rename_i hm;cases hy;rw[l]at hx;have hx:=hx.toP;have h1:(0<=i/\i<(n:Int)):=hc;generalize g:a.eval x=v at hx;cases hx with
     |slnil=>omega
     |sl _ b off cap _ _ _ c hn hlen hcell hrep sp hsp=>
      have u:i.toNat<n:=by omega
      obtain rfl:=hsp (by omega);refine OpOk.pure h (v:=.pointer (some ⟨b,off+i.toNat*k,none⟩)) ?_ (.p _ _ (.ptr b _ _ (λj=>c i.toNat j) (λj r=>?_) λj r=>?_))
      .simp[execOp,z,Instr.indexAt,q,asIntOf,Ag w (I0 hk),g,h1,Jx w hm,BE8]
      .rw[hlen _ u]at r;exact hcell _ _ u r
      rw[hlen _ u]at r;exact hrep _ _ u r
    cases hy
   .rename_i e j hk l;split at hy
    .rename_i e' k n f vw r;split at hy
     .rename_i hm;cases hy;rw[l]at hx;have h1:(0<=i/\i<(n:Int)):=hc;generalize g:a.eval x=v at hx;cases hx with
      |vec j base nn cap hl hr=>
       have hh:=h.hp.holds j _ r;rw[hr]at hh;rcases hh with⟨_,rfl⟩ | ⟨b,cap',c,s,_⟩
       .omega
       cases s;refine OpOk.pure h (v:=.pointer (some ⟨b,i.toNat*k+0,none⟩)) ?_ (.elt j k _ _ b _ cap hl hr);simp[execOp,z,Instr.indexAt,q,asIntOf,Ag w (I0 hk),g,h1,Jx w hm,BE8]
     cases hy
    .rename_i e' n jr x0 r;split at hy
     .rename_i hm;cases hy;rw[l]at hx;have h1:(0<=i/\i<(n:Int)):=hc;generalize g:a.eval x=v at hx;cases hx with
      |vec j base nn cap hl hr=>
       obtain⟨rv,_,_,hh⟩:=h.hp.holds j _ r;rw[hr]at hh;rcases hh with⟨_,rfl⟩ | ⟨b,cap',c,s,_⟩
       .omega
       cases s;refine OpOk.pure h (v:=.pointer (some ⟨b,i.toNat*1+0,none⟩)) ?_ (.elt j 1 _ _ b _ cap hl hr);simp[execOp,z,Instr.indexAt,q,asIntOf,Ag w (I0 hk),g,h1,Jx w hm,BE8]
     cases hy
    cases hy
   .rename_i e j m0 hk l;split at hy
    .rename_i e' k n f vw r;split at hy
     .rename_i hm;cases hy;rw[l]at hx;have h1:(0<=i/\i<(m0:Int)/\m0<=n):=hc;generalize g:a.eval x=v at hx;cases hx with
      |vecp j _ base nn cap hl hr hmn=>
       have hh:=h.hp.holds j _ r;rw[hr]at hh;rcases hh with⟨_,rfl⟩ | ⟨b,cap',c,s,_⟩
       .omega
       cases s;refine OpOk.pure h (v:=.pointer (some ⟨b,i.toNat*k+0,none⟩)) ?_ (.elt j k _ _ b _ cap hl hr);simp[execOp,z,Instr.indexAt,q,asIntOf,Ag w (I0 hk),g,h1.1,h1.2.1,Jx w hm,BE8]
     cases hy
    cases hy
   .rename_i e j n hk l;split at hy
    .rename_i hm;cases hy;rw[l]at hx;have h1:(0<=i/\i<(n:Int)):=hc;generalize g:a.eval x=v at hx;cases hx with
     |rsl j n b hl hr=>refine OpOk.pure h (v:=.pointer (some ⟨b,i.toNat,none⟩)) ?_ (.reg j _ b hl hr);simp[execOp,z,Instr.indexAt,q,asIntOf,Ag w (I0 hk),g,h1,Jx w hm,BE8]
    cases hy
   cases hy
  cases he
 cases he
def Pv:∀{cs:List PV}{ss:List (List UInt8)},Ah7 cs=some ss->ss.length=cs.length/\∀i,i<cs.length->cs.getD i default=.str (ss.getD i [])
 |[],ss,h=>by cases h;exact⟨rfl,λi a=>Ij a (BB5 _)⟩
 |x::r,ss,h=>by
  unfold Ah7 at h;split at h
  .rename_i b;cases b
  .rename_i s r' b;cases b;split at h
   .rename_i l hl;cases h;obtain⟨h1,c⟩:=Pv hl;refine⟨by simp[h1],λi a=>?_⟩;cases i with
    |zero=>rfl
    |succ i=>simpa using c i (by simpa using a)
   cases h
  cases h
def AO2 (h:Sat C st a w rho){t:TypeId}{x ix:Operand}(r:o.op=.index t x ix)(g:aop P st.env st.Qw d o.op=some out)(hc:C6 out.cond):OpOk P C o st a w rho out:=by
 rw[r]at g;simp only[aop]at g;split at g
 .rename_i i hi;split at g
  .rename_i c y hy;cases g;obtain⟨ik,j⟩:=Cb (h.aev ix) hi;have hx:=h.aev x;unfold AY3 at hy;split at hy
   .rename_i l hk b;cases hy;rw[b]at hx;have h1:(0<=i/\i<(l.length:Int)):=hc;refine OpOk.pure h (v:=.int .u8 ((l.getD i.toNat 0).toNat:Nat)) ?_ (.p _ _ (.v _));have f:i.toNat<l.length:=by omega
    simp[execOp,r,Instr.index,j,asIntOf,Ag w (JZ hk),hx.toP.toStr,h1.1,bget,f,By3]
   .rename_i n e cs hk b;split at hy
    .rename_i ss z a0;split at hy
     .rename_i hn;cases hy;rw[b]at hx;have hx:=hx.toP;have h1:(0<=i/\i<(n:Int)):=hc;obtain⟨hl,hg⟩:=Pv a0;generalize q:a.eval x=v at hx;cases hx with
      |agg vs cs hs _ hrep=>
       have f:i.toNat<cs.length:=by omega
       have s:=hrep i.toNat f;rw[hg i.toNat f]at s;have hp:(part e vs (i.toNat*1)).run P w=.ok (vs.getD i.toNat undef) w:=by simp[part,H6 w z,Zh,By2,show i.toNat<vs.size by omega]
       refine OpOk.pure h (v:=vs.getD i.toNat undef) ?_ (.p _ _ s);simp only[execOp,r,Instr.index,j,asIntOf,BB2,Ag w (LL hk),q,Bz9,BC7,Gy h1,Jx w hn.2,hp]
     cases hy
    split at hy
    .rename_i m hm;split at hy
     .rename_i c' y' a1;cases hy;rw[b]at hx;have hx:=hx.toP;obtain⟨a2,a3⟩:=(Pm _ _).1 hc;generalize q:a.eval x=v at hx;cases hx with
      |agg vs cs hs h1 hrep=>obtain⟨u,hu,s⟩:=Tf (rho:=rho) (live:=Lv (A1 st.Qw)) hs h1 hrep a1 a2;exact OpOk.pure h (by simp[execOp,r,Instr.index,j,asIntOf,Ag w (LL hk),q,a3,Jx w hm,hu]) s
     cases hy
    cases hy
   cases hy
  cases g
 cases g
def De {x:Value}{k:IntKind}{i:Int}(hx:x=.int k i){y:Nat}(h:0<=i/\i<=y)(code:BoundsCode):(Instr.sliceBound x y code).run P w=.ok i.toNat w:=by subst hx;simp[Instr.sliceBound,asIntOf,h]
def Z5 (v:Option Value)(i:Option Int):Prop:=(v=none/\i=none) \/ ∃k n,v=some (.int k n)/\i=some n
def EJ {isS:Bool}{len cap:Nat}{lo a:Option Value}{l h:Option Int}(hl:Z5 lo l)(b:Z5 a h)(hc:0<=l.getD 0/\l.getD 0<=h.getD len/\h.getD len<=cap) :(Instr.sliceBounds isS len cap lo a none).run P w=.ok ((l.getD 0).toNat,(h.getD len).toNat,cap) w:=by
 have c:0<=h.getD len:=by omega
 rcases hl with⟨rfl,rfl⟩ | ⟨k,n,rfl,rfl⟩<;>rcases b with⟨rfl,rfl⟩ | ⟨k',n',rfl,rfl⟩<;>simp only[BF7,Bz4]at hc c⊢
 .simp[Instr.sliceBounds]
 .simp[Instr.sliceBounds,De (P:=P) (w:=w) (k:=k') (i:=n') rfl (show 0<=n' /\ n' <= (cap:Int) by omega)]
 .simp[Instr.sliceBounds,De (P:=P) (w:=w) (k:=k) (i:=n) rfl (show 0<=n/\n<=(len:Int) by omega)]
 simp[Instr.sliceBounds,De (P:=P) (w:=w) (k:=k') (i:=n') rfl (show 0<=n' /\ n' <= (cap:Int) by omega),De (P:=P) (w:=w) (k:=k) (i:=n) rfl (show 0<=n/\n<=(n'.toNat:Int) by omega)]
def W1 {t e:TypeId}{k:Nat}(ht:tk P t=some (.slice e))(hm:tsz P e=some k){base:Option Addr}{len cap:Nat}{lo a:Option Value}{l h:Option Int}(hl:Z5 lo l)(b:Z5 a h)
 (hc:0<=l.getD 0/\l.getD 0<=h.getD len/\h.getD len<=cap) :
 (Instr.sliceAt t (.slice base len cap) lo a none).run P w=.ok (.slice (if cap=(l.getD 0).toNat then base else base.map (·.add ((l.getD 0).toNat*k))) ((h.getD len).toNat-(l.getD 0).toNat) (cap-(l.getD 0).toNat)) w:=by
 have hb:=EJ (P:=P) (w:=w) (isS:=true) hl b hc;simp[Instr.sliceAt,Ag w (I0 ht),Instr.slice,hb,Jx w hm]
def Ux {t:TypeId}(ht:tk P t=some .str){s:List UInt8}{lo a:Option Value}{l h:Option Int}(hl:Z5 lo l)(b:Z5 a h)(hc:0<=l.getD 0/\l.getD 0<=h.getD s.length/\h.getD s.length<=s.length) :(Instr.sliceAt t (.string ⟨s.toArray⟩) lo a none).run P w=.ok (.string ⟨((s.take (h.getD s.length).toNat).drop (l.getD 0).toNat).toArray⟩) w:=by have hb:=EJ (P:=P) (w:=w) (isS:=false) hl b hc;simp[Instr.sliceAt,Ag w (JZ ht),Instr.slice,RL,hb,AO1]
def LM {t e:TypeId}{n:Nat}(ht:tk P t=some (.arr n e))(hm:tsz P e=some 1){b o:Nat}{lo a:Option Value}{h:Option Int}(hl:Z5 lo none)(c:Z5 a h)
 (hc:0<=h.getD n/\h.getD n<=n):(Instr.sliceAt t (.pointer (some ⟨b,o,none⟩)) lo a none).run P w=.ok (.slice (some ⟨b,o,none⟩) (h.getD n).toNat n) w:=by
 have hb:=EJ (P:=P) (w:=w) (isS:=false) hl c (len:=n) (cap:=n) (by simpa using hc);simp[Instr.sliceAt,Ag w (LL ht),Instr.sureAddr,hb,Jx w hm,Addr.add]
def AA7 {Pi:Nat->Nat->Prop}{b off cap k n l h' : Nat}{sp:Option Nat}{nn:Bool}{f:Nat->List PV}(o:Sd w Pi (.slice (some ⟨b,off,sp⟩) n cap) (.sl nn k n f))(q:l<=h')(s:h' <= n) :Sd w Pi (.slice (if cap=l then some ⟨b,off,sp⟩else some ((⟨b,off,sp⟩:Addr).add (l*k))) (h' - l) (cap-l)) (.sl nn k (h' - l) (λi=>f (l+i))):=by
 cases o with
 |sl _ _ _ _ _ _ _ c hn hlen hcell hrep _ hsp=>
  have e:∃off' sp',(if cap=l then some (⟨b,off,sp⟩:Addr)else some ((⟨b,off,sp⟩:Addr).add (l*k)))=some ⟨b,off',sp'⟩/\(h' - l≠0->off' = off+l*k/\sp' = none):=by
   split
   .exact⟨off,sp,rfl,λh=>by omega⟩
   by_cases d:l*k=0
   .exact⟨off,sp,by simp[Addr.add,d],λh=>⟨by omega,hsp (by omega)⟩⟩
   exact⟨off+l*k,none,by simp[Addr.add,d],λ_=>⟨rfl,rfl⟩⟩
  obtain⟨off',sp',r,g⟩:=e;rw[r];refine .sl nn b off' (cap-l) k (h' - l) _ (λi j=>c (l+i) j) (by omega) (λi m=>hlen _ (by omega)) (λi j m a=>?_) (λi j m a=>hrep _ _ (by omega) a) sp' (λh=>(g (by omega)).2)
  have:=hcell (l+i) j (by omega) a
  rw[(g (by omega)).1,show off+l*k+i*k+j=off+(l+i)*k+j by rw[BM2];omega];exact this
def MV {Pi:Nat->Nat->Prop}{base:Option Addr}{len cap k n l h' : Nat}{nn:Bool}{f:Nat->List PV}(d:Sd w Pi (.slice base len cap) (.sl nn k n f))(a:l<=h')(g:h' <= n) :Sd w Pi (.slice (if cap=l then base else base.map (·.add (l*k))) (h' - l) (cap-l)) (.sl nn k (h' - l) (λi=>f (l+i))):=by
 cases d with
 |slnil=>
  obtain rfl:h' = 0:=by omega
  obtain rfl:l=0:=by omega
  simpa using Sd.slnil (w:=w) (Pi:=Pi) k _
 |sl _ b off cap _ _ _ c hn hlen hcell hrep sp hsp=>exact AA7 (.sl nn b off cap k _ f c hn hlen hcell hrep sp hsp) a g
def Cc (h:Sat C st a w rho){x:Option Operand}{i:Option (Option Int)}(b:x.map (λo=>asInt (aev st.env o))=i):(i=none->Z5 (x.map a.eval) none)/\∀n,i=some (some n)->Z5 (x.map a.eval) (some n):=by
 subst b;cases x with
 |none=>exact⟨λ_=>.inl ⟨rfl,rfl⟩,λn h=>by simp at h⟩
 |some o=>refine⟨λh=>by simp at h,λn hn=>?_⟩;simp only[Bz7,By4]at hn;obtain⟨k,hk⟩:=Cb (h.aev o) hn;exact .inr ⟨k,n,by simp[hk],rfl⟩
def WU (h:Sat C st a w rho){t:TypeId}{v:Value}{x:AV}(o:RS C st w rho v x){lo hi:Option Value}{l q:Option Int}(hl:Z5 lo l)(d:Z5 hi q){c:List Prop}{y:AV}{R' : C5}
 (g:Gm P st.Qw t x l q=some (c,y,R')) (hc:C6 c):∃u,(Instr.sliceAt t v lo hi none).run P w=.ok u w/\Sat C { st with Qw:=R' } a w rho/\Kp C st.Qw R' w w rho rho/\Sq w (Prv C.X (A1 R') rho) (Lv (A1 R')) rho u y:=by
 unfold Gm at g;split at g
 .
  rename_i s hk;have o:=o.toP.toStr;subst o;have fin:∀(l' h' : Option Int),Z5 lo l' -> Z5 hi h' -> (0<=l'.getD 0/\l'.getD 0<=h'.getD s.length/\h'.getD s.length<=s.length)->y=.p (.str ((s.take (h'.getD s.length).toNat).drop (l'.getD 0).toNat))->R' = st.Qw ->
   ∃u,(Instr.sliceAt t (.string ⟨s.toArray⟩) lo hi none).run P w=.ok u w/\Sat C { st with Qw:=R' } a w rho/\Kp C st.Qw R' w w rho rho/\Sq w (Prv C.X (A1 R') rho) (Lv (A1 R')) rho u y:=by
   rintro l' h' h1 h2 h3 rfl rfl;exact⟨_,Ux hk h1 h2 h3,h,Kp.refl _ _ _ _,.p _ _ (.str _)⟩
  split at g<;>cases g
  .exact fin _ _ hl d (by simp only[C6,BF7]at hc⊢;omega) (by simp) rfl
  .exact fin _ _ hl d (by simp only[C6,Bz4,BF7]at hc⊢;omega) (by simp) rfl
  .exact fin _ _ hl d (by simp only[C6,Bz4,BF7]at hc⊢;omega) (by simp) rfl
  exact fin _ _ hl d (by simp only[C6,Bz4]at hc⊢;omega) (by simp) rfl
 .
  rename_i e nn k n f hk;split at g
  .rename_i hm;have o:=o.toP;obtain⟨base,len,cap,rfl,hlen,r⟩:∃base len cap,v=.slice base len cap/\len=n/\n<=cap:=by
    cases o with
    |slnil=>exact⟨_,_,_,rfl,rfl,Bz5 _⟩
    |sl _ b off cap _ _ _ c hn=>exact⟨_,_,_,rfl,rfl,hn⟩
   subst hlen;have fin:∀(l' h' : Option Int),Z5 lo l' -> Z5 hi h' -> (0<=l'.getD 0/\l'.getD 0<=h'.getD len/\h'.getD len<=len)->y=.p (.sl nn k ((h'.getD len).toNat-(l'.getD 0).toNat) (λi=>f ((l'.getD 0).toNat+i)))->R' = st.Qw ->
    ∃u,(Instr.sliceAt t (.slice base len cap) lo hi none).run P w=.ok u w/\Sat C { st with Qw:=R' } a w rho/\Kp C st.Qw R' w w rho rho/\Sq w (Prv C.X (A1 R') rho) (Lv (A1 R')) rho u y:=by
    rintro l' h' h1 h2 h3 rfl rfl;refine⟨_,W1 hk hm h1 h2 (by omega),h,Kp.refl _ _ _ _,.p _ _ ?_⟩;exact MV o (by omega) (by omega)
   split at g<;>cases g
   .exact fin _ _ hl d (by simp only[C6,BF7]at hc⊢;omega) (by simp) rfl
   .exact fin _ _ hl d (by simp only[C6,Bz4,BF7]at hc⊢;omega) (by simp) rfl
   .exact fin _ _ hl d (by simp only[C6,Bz4,BF7]at hc⊢;omega) (by simp) rfl
   exact fin _ _ hl d (by simp only[C6,Bz4]at hc⊢;omega) (by simp) rfl
  cases g
 .
  rename_i e hk;split at g
  .rename_i k hm;cases g;have h1:l.getD 0=0/\q.getD 0=0:=hc;have o:=o.toP.toV;subst o;have hz:q.getD ((0:Nat):Int)=0:=by simpa using h1.2
   refine⟨_,W1 hk hm hl d (len:=0) (cap:=0) (by omega),h,Kp.refl _ _ _ _,.p _ _ ?_⟩;rw[hz,h1.1];simpa using Sd.v (w:=w) (Pi:=PiS C st rho) (.slice none 0 0)
  cases g
 .
  rename_i m e cs hk;split at g
  .rename_i b;split at g
   .rename_i hm;obtain⟨hm,rfl⟩:=hm;cases g;have hc:0<=b/\b<=(cs.length:Int):=hc;cases o.toP with
    |ptr bb off _ c hcc q=>
     refine⟨_,LM hk hm hl d hc,h,Kp.refl _ _ _ _,.p _ _ (.sl true bb off cs.length 1 b.toNat _ (λi _=>c i) (by omega) (λ_ _=>rfl) (λi j hi hj=>?_) (λi j hi hj=>?_) none λ_=>rfl)⟩
     .obtain rfl:j=0:=by omega
      simpa using hcc i (by omega)
     obtain rfl:j=0:=by omega
     simpa using q i (by omega)
   cases g
  .split at g
   .rename_i hm;obtain⟨hm,rfl⟩:=hm;cases g;cases o.toP with
    |ptr bb off _ c hcc q=>
     refine⟨_,LM hk hm hl d (by simp),h,Kp.refl _ _ _ _,.p _ _ (.sl true bb off cs.length 1 cs.length _ (λi _=>c i) (Bz5 _) (λ_ _=>rfl) (λi j hi hj=>?_) (λi j hi hj=>?_) none λ_=>rfl)⟩
     .obtain rfl:j=0:=by omega
      simpa using hcc i (by omega)
     obtain rfl:j=0:=by omega
     simpa using q i (by omega)
   cases g
  cases g
 .
  rename_i e j hk;split at g
  .rename_i e' k n f vw hj;split at g
   .rename_i hm;obtain⟨hm,rfl⟩:=hm;cases o with
    |vec j base len cap hlv hr=>
    have r:len<=cap/\len=n:=by
     have q:=h.hp.holds j _ hj;rw[hr]at q;rcases q with⟨hn,rfl⟩ | ⟨b,cap',c,hb',_,hncap,_⟩
     .cases hn;exact⟨Bz5 _,rfl⟩
     cases hb';exact⟨hncap,rfl⟩
    obtain⟨r,rfl⟩:=r;obtain⟨hv1,hv2,hv3⟩:=h.viewed hj;have hsl:=hv1.sl (j:=j) (m:=len) (e:=e') (k:=k) (n:=len) (f:=f) (by simp[A3]) hr (Bz5 _);have z:(if cap=((none:Option Int).getD 0).toNat then base else base.map (·.add (((none:Option Int).getD 0).toNat*k)))=base:=by
     cases base with
     |none=>simp
     |some ad=>simp[Addr.add]
    split at g<;>cases g
    .refine⟨_,W1 hk hm hl d (len:=len) (cap:=cap) (by simp only[C6,BF7]at hc⊢;omega),h,Kp.refl _ _ _ _,?_⟩;rw[z];simpa using Sq.vec (w:=w) (Pi:=PiS C st rho) j base len cap hlv hr
    .refine⟨_,W1 hk hm hl d (len:=len) (cap:=cap) (by simp only[C6,Bz4,BF7]at hc⊢;omega),h,Kp.refl _ _ _ _,?_⟩;rw[z];simp only[C6]at hc
     have:=Sq.vecp (w:=w) (Pi:=PiS C st rho) j _ base len cap hlv hr (BR6.2 hc.2)
     simpa using this
    .refine⟨_,W1 hk hm hl d (len:=len) (cap:=cap) (by simp only[C6,Bz4,BF7]at hc⊢;omega),hv1,⟨hv2,hv3⟩,.p _ _ ?_⟩;simp only[C6]at hc
     have:=MV hsl (l:=Int.toNat _) (h':=len) (BR6.2 hc.2) (Bz5 _)
     simpa using this
    refine⟨_,W1 hk hm hl d (len:=len) (cap:=cap) (by simp only[C6,Bz4]at hc⊢;omega),hv1,⟨hv2,hv3⟩,.p _ _ ?_⟩;simp only[C6]at hc
    have:=MV hsl (l:=Int.toNat _) (h':=Int.toNat _) (Int.toNat_le_toNat hc.2.1) (BR6.2 hc.2.2)
    simpa using this
   cases g
  cases g
 cases g
def AO3 (h:Sat C st a w rho){t:TypeId}{x:Operand}{lo j:Option Operand}(n:o.op=.slice t x lo j none)(b:aop P st.env st.Qw d o.op=some out)(hc:C6 out.cond):OpOk P C o st a w rho out:=by
 rw[n]at b;simp only[aop]at b;have fin:∀(l g:Option Int),Z5 (lo.map a.eval) l->Z5 (j.map a.eval) g->∀c y R',Gm P st.Qw t (aev st.env x) l g=some (c,y,R')->out=⟨c,y,R'⟩->OpOk P C o st a w rho out:=by rintro l g hl i c y R' hs rfl;obtain⟨u,q,h1,f,r⟩:=WU h (h.aev x) hl i hs hc;exact⟨_,u,w,rho,by simp[execOp,n,q],.inl rfl,h1,f,r⟩
 split at b
 .rename_i h1 f;split at b
  .rename_i hs;cases b;exact fin none none ((Cc h h1).1 rfl) ((Cc h f).1 rfl) _ _ _ hs rfl
  cases b
 .rename_i l h1 f;split at b
  .rename_i hs;cases b;exact fin (some l) none ((Cc h h1).2 l rfl) ((Cc h f).1 rfl) _ _ _ hs rfl
  cases b
 .rename_i l h1 f;split at b
  .rename_i hs;cases b;exact fin none (some l) ((Cc h h1).1 rfl) ((Cc h f).2 l rfl) _ _ _ hs rfl
  cases b
 .rename_i l m h1 f;split at b
  .rename_i hs;cases b;exact fin (some l) (some m) ((Cc h h1).2 l rfl) ((Cc h f).2 m rfl) _ _ _ hs rfl
  cases b
 cases b
end
section
variable {P:Program}{C:Ctx}{st:St}{a:Act}{w:World}{rho:Nat->Value}{o:Oper}{out:Out}{d:Nat}
def Jz {Pi:Nat->Nat->Prop}{v:Value}{x:PV}{b:Bool}(h:Sd w Pi v x)(a:WD x=some b):v=.bool b:=by
 unfold WD at a;split at a<;>cases a
 .exact h.toBool
 exact h.toV
def MW {Pi:Nat->Nat->Prop}{t:TypeId}{k:TK}(hk:tk P t=some k){v u:Value}{x y:PV}(d:Sd w Pi v x)(f:Sd w Pi u y){r:Bool}(c:Zm k x y=some r)(D:Nat) :(Op.equalIn (D+1) t v u).run P w=.ok r w:=by
 unfold Zm at c;split at c
 .rename_i k' k1 a k2 b;split at c
  .rename_i g;subst g;cases c;rw[d.toInt,f.toInt];exact run_equalIn_int w D t k1 k' a b (WN hk)
  cases c
 .split at c
  .rename_i a b ha hb;cases c;rw[Jz d ha,Jz f hb];exact run_equalIn_bool w D t a b (Bd9 hk)
  cases c
 .cases c;rw[d.toStr,f.toStr,run_equalIn_string w D t _ _ (JZ hk)];simp
 cases c
def WV {n:Nat}{t:TypeId}{k:TK}{ks:List TK}(hk:tk P t=some k)(h:lay P n t=some ks)(hs:∀fs,k ≠ .struct fs):ks=[k]/\Zh k=false:=by
 cases n with
 |zero=>simp[lay]at h
 |succ n=>obtain⟨dd,a,rfl⟩:=AY hk;simp only[lay,a]at h;cases dd<;>simp at h<;>first|exact⟨h.symm,rfl⟩ | exact Ij rfl (hs _)
def Ds:∀{k1 k2:List TK}{a b:List PV}{r:Bool},Ab (k1++k2) a b=some r->∃r1 r2,Ab k1 (a.take k1.length) (b.take k1.length)=some r1/\Ab k2 (a.drop k1.length) (b.drop k1.length)=some r2/\r=(r1&&r2)/\a.length=k1.length+k2.length/\b.length=k1.length+k2.length
 |[],k2,a,b,r,h=>by
  have hl:∀{k:List TK}{a b:List PV}{r:Bool},Ab k a b=some r->a.length=k.length/\b.length=k.length:=by
   intro k
   induction k with
   |nil=>intro a b r h;cases a<;>cases b<;>simp[Ab]at h⊢
   |cons k ks ih=>
    intro a b r h;cases a with
    |nil=>simp[Ab]at h
    |cons x a=>
     cases b with
     |nil=>simp[Ab]at h
     |cons y b=>
      cases ks with
      |nil=>cases a<;>cases b<;>simp[Ab]at h⊢
      |cons k' ks=>
       simp only[Ab]at h;split at h
       .rename_i p q hp d
        have:=ih d
        simp only[BA2]at this⊢;omega
       cases h
  have:=hl h
  exact⟨true,r,by simp[Ab],by simpa using h,by simp,by simpa using this.1,by simpa using this.2⟩
 |k::k1,k2,a,b,r,h=>by
  cases a with
  |nil=>simp[Ab]at h
  |cons x a=>
   cases b with
   |nil=>simp[Ab]at h
   |cons y b=>
    cases c:k1++k2 with
    |nil=>
     obtain⟨rfl,rfl⟩:=List.append_eq_nil_iff.1 c;simp only[BC4]at h;cases a with
     |cons _ _=>cases b<;>simp[Ab]at h
     |nil=>
      cases b with
      |cons _ _=>simp[Ab]at h
      |nil=>exact⟨r,true,by simpa using h,by simp[Ab],by simp,rfl,rfl⟩
    |cons k' ks'=>
     have h' : ∃p q,Zm k x y=some p/\Ab (k1++k2) a b=some q/\r=(p&&q):=by
      rw[BA0,c]at h;simp only[Ab]at h;split at h
      .rename_i p q hp d;cases h;exact⟨p,q,hp,by rw[c];exact d,rfl⟩
      cases h
     obtain⟨p,q,hp,d,rfl⟩:=h';obtain⟨r1,r2,h1,f,rfl,g,i⟩:=Ds (k1:=k1) d;refine⟨p&&r1,r2,?_,by simpa using f,by simp[Bool.and_assoc],by simp;omega,by simp;omega⟩;cases k1 with
     |nil=>simp only[Ab,BE4,BM3,By4]at h1;subst h1;simp[Ab,hp]
     |cons k'' k1=>simp only[BA2,BJ3];simp only[BA2]at h1;simp[Ab,hp,h1]
def Eh {l:List PV}{off:Nat}(d:PV)(h:off<l.length):(l.drop off).take 1=[l.getD off d]:=by rw[BI5 h,BJ3,BM3,By3,By7 h];rfl
structure RowP (w:World) (Pi:Nat->Nat->Prop) (vs:Array Value) (cs:List PV):Prop where
 size:vs.size=cs.length
 rep:∀i,i<cs.length->Sd w Pi (vs.getD i undef) (cs.getD i default)
def RowP.extract {Pi:Nat->Nat->Prop}{vs:Array Value}{cs:List PV}(h:RowP w Pi vs cs){off n:Nat}(hle:off+n<=cs.length):RowP w Pi (vs.extract off (off+n)) ((cs.drop off).take n):=by
 have hs:=h.size;refine⟨by simp;omega,λi a=>?_⟩;simp only[BE3,BB1]at a
 have:=h.rep (off+i) (by omega)
 simpa[By2,BJ8,show i<min (off+n) vs.size-off by omega,show off+i<vs.size by omega,show off+i<cs.length by omega,By3,BH1,show i<n by omega,BF6]using this
def Be5 {Pi:Nat->Nat->Prop}:∀(n:Nat) (t:TypeId) (ks:List TK),lay P n t=some ks->Ay9 P n t=true->∀(vs us:Array Value) (as bs:List PV) (off D:Nat) (r:Bool),n<=D ->
 RowP w Pi vs as->RowP w Pi us bs->off+ks.length<=as.length->off+ks.length<=bs.length->Ab ks ((as.drop off).take ks.length) ((bs.drop off).take ks.length)=some r ->
 ∃x y,(part t vs off).run P w=.ok x w/\(part t us off).run P w=.ok y w/\(Op.equalIn D t x y).run P w=.ok r w:=by
 intro n
 induction n with
 |zero=>intro t ks h;simp[lay]at h
 |succ n ih=>
  intro t ks hl hh vs us as bs off D r hD hv j ha hb hc;obtain⟨D,rfl⟩:∃D',D=D' + 1:=⟨D-1,by omega⟩;cases hk:tk P t with
  |none=>
   have:P.underlying t=none:=by unfold tk at hk;cases j:P.underlying t<;>simp[j]at hk⊢
   simp[lay,this]at hl
  |some k=>
   by_cases hs:∀fs,k ≠ .struct fs
   .obtain⟨rfl,m⟩:=WV hk hl hs;simp only[BC3]at ha hb hc;have ea:(as.drop off).take 1=[as.getD off default]:=by exact Eh _ (by omega)
    have eb:(bs.drop off).take 1=[bs.getD off default]:=by exact Eh _ (by omega)
    rw[ea,eb]at hc;simp only[Ab]at hc;have hvs:=hv.size;have hus:=j.size;refine⟨vs.getD off undef,us.getD off undef,?_,?_,MW hk (hv.rep off (by omega)) (j.rep off (by omega)) hc D⟩
    .simp[part,H6 w hk,m,By2,show off<vs.size by omega]
    simp[part,H6 w hk,m,By2,show off<us.size by omega]
   obtain⟨fs,rfl⟩:∃fs,k=.struct fs:=BA5 λhn=>hs λfs e=>hn ⟨fs,e⟩;obtain⟨fa,b,_⟩:=Gq hk;simp only[lay,b]at hl;simp only[Ay9,b,By5,BA7]at hh;split at hl
   .rename_i l hlf;split at hl
    .rename_i q;cases hl;refine⟨.agg (vs.extract off (off+ks.length)),.agg (us.extract off (off+ks.length)),?_,?_,?_⟩
     .simp[part,H6 w hk,Zh,Jx w q]
     .simp[part,H6 w hk,Zh,Jx w q]
     have s:P.fieldsOf t=fa:=by simp[Program.fieldsOf,b]
     rw[run_equalIn_struct w D t _ _ (by rw[s];exact b) hh.1,s];have c:=hv.extract ha;have d:=j.extract hb;generalize hvs' : vs.extract off (off+ks.length)=vs' at c;generalize hus' : us.extract off (off+ks.length)=us' at d;generalize u : (as.drop off).take ks.length=as' at c hc;generalize v : (bs.drop off).take ks.length=bs' at d hc;have hal:as'.length=0+ks.length:=by rw[<- u];simp;omega
     have hbl:bs'.length=0+ks.length:=by rw[<- v];simp;omega
     have hin:∀(fl:List Field) (o:Nat) (l:List TK) (r:Bool),Bc5 (lay P n) fl o=some l->(fl.all λf=>decide (f.name ≠ "_")&&Ay9 P n f.type)=true->as'.length=o+l.length->bs'.length=o+l.length ->
      Ab l (as'.drop o) (bs'.drop o)=some r->(Op.eqFields D vs' us' fl).run P w=.ok r w:=by
      intro fl
      induction fl with
      |nil=>intro o l r h1 _ h2 h3 z;simp only[Bc5,By4]at h1;subst h1;have e1:as'.drop o=[]:=BG5 (by simp at h2;omega);have e2:bs'.drop o=[]:=BG5 (by simp at h3;omega);rw[e1,e2]at z;simp only[Ab,By4]at z;subst z;simp[Op.eqFields]
      |cons f fl ihf=>
       intro o l r h1 h2 h3 z h5;simp only[Bc5]at h1;split at h1
       .cases h1
       rename_i a;have a:f.offset=o:=BA5 a;split at h1
       .rename_i ka hka;split at h1
        .rename_i kb hkb;cases h1;simp only[BI3,By5,decide_eq_true_eq]at h2;obtain⟨⟨g,hhv⟩,i⟩:=h2;obtain⟨r1,r2,hr1,hr2,rfl,_,_⟩:=Ds h5;simp only[Bz6]at h3 z;obtain⟨x,y,hx,hy,he⟩:=ih f.type ka hka hhv vs' us' as' bs' o D r1 (by omega) c d (by omega) (by omega) hr1;have a0:=ihf (o+ka.length) kb r2 hkb (by simpa using i) (by omega) (by omega) (by simpa[BK7,Nat.add_comm]using hr2);simp only[Op.eqFields,Gy g,BB2,a,hx,hy,he,Bz9];cases r1
         .simp
         simp[a0]
        cases h1
       cases h1
     exact hin fa.toList 0 ks r hlf hh.2 hal hbl (by simpa using hc)
    cases hl
   cases hl
def LN {Pi:Nat->Nat->Prop}{e:TypeId}{k:TK}(hk:tk P e=some k)(hb:AX9 k=true){vs us:Array Value}{as bs:List PV}(f:RowP w Pi vs as)(g:RowP w Pi us bs)(D:Nat) :∀(m j:Nat) (r:Bool),as.length=j+m->bs.length=j+m->Ab (List.replicate m k) (as.drop j) (bs.drop j)=some r->(Op.eqItems (D+1) e 1 vs us (List.range' j m)).run P w=.ok r w
 |0,j,r,ha,hbl,h=>by rw[BG5 (by omega),BG5 (by omega)]at h;simp only[List.replicate,Ab,By4]at h;subst h;simp[Op.eqItems]
 |m+1,j,r,ha,hbl,h=>by
  have b:Zh k=false:=by cases k<;>first|rfl|cases hb
  rw[List.replicate_succ]at h;obtain⟨r1,r2,a,c,rfl,_,_⟩:=Ds (k1:=[k]) (k2:=List.replicate m k) h;simp only[BC3]at a c;rw[Eh default (by omega),Eh default (by omega)]at a;simp only[Ab]at a;have i:=f.size;have l:=g.size;have hx:(part e vs (j*1)).run P w=.ok (vs.getD j undef) w:=by simp[part,H6 w hk,b,By2,show j<vs.size by omega]
  have hy:(part e us (j*1)).run P w=.ok (us.getD j undef) w:=by simp[part,H6 w hk,b,By2,show j<us.size by omega]
  have n:=MW hk (f.rep j (by omega)) (g.rep j (by omega)) a D;have d:=LN hk hb f g D m (j+1) r2 (by omega) (by omega) (by simpa[BK7,Nat.add_comm]using c);simp only[List.range'_succ,Op.eqItems,BB2,hx,hy,n,Bz9];cases r1
  .simp
  simp[d]
def Iu {Pi:Nat->Nat->Prop}{t:TypeId}{v u:Value}{x y:PV}(g:Sd w Pi v x)(j:Sd w Pi u y){r:Bool}(a:WF P t x y=some r) :(Op.equal t v u).run P w=.ok r w/\∃xs ys,v=.agg xs/\u=.agg ys:=by
 unfold WF at a;split at a
 .rename_i n e ht;split at a
  .rename_i k xs ys hk;split at a
   .rename_i hc;have b:=LL ht;cases g with
    |agg vs _ hs1 _ hr1=>
    cases j with
    |agg us _ hs2 _ hr2=>
    refine⟨?_,_,_,rfl,rfl⟩;obtain⟨i,f,c⟩:=BB6.1 (show (P.info? e).map (·.size)=some 1 from hc.2);have d:P.cellsOf e=1:=by simp[Program.cellsOf,f,c]
    have hl:xs.length=n/\ys.length=n:=by
     have:=Ds (k1:=List.replicate n k) (k2:=[]) (by simpa using a)
     obtain⟨_,_,_,_,_,h1,l⟩:=this;exact⟨by simpa using h1,by simpa using l⟩
    show (Op.equalIn (9999+1) t (.agg vs) (.agg us)).run P w=_;rw[run_equalIn_array w 9999 vs us b f,d,List.range_eq_range'];exact LN hk hc.1 ⟨hs1,hr1⟩ ⟨hs2,hr2⟩ 9998 n 0 r (by omega) (by omega) (by simpa using a)
   cases a
  cases a
 cases a
def MX {Pi:Nat->Nat->Prop}{t:TypeId}{v u:Value}{x y:PV}(f:Sd w Pi v x)(g:Sd w Pi u y){r:Bool}(b:Ic P t x y=some r)(hc:C6 (HI P t)) :(Op.equal t v u).run P w=.ok r w/\(∀xs ys,v=.agg xs->u=.agg ys->P.eqGuardType P.depth t=false):=by
 unfold Ic at b;unfold HI at hc;split at b
 .rename_i fs hk;simp only[hk,C6,RF,By5,BA7]at hc;split at b
  .rename_i ks xs ys c;refine⟨?_,λ_ _ _ _=>hc.2⟩;cases f with
   |agg vs _ hs1 _ hr1=>
   cases g with
   |agg us _ hs2 _ hr2=>
   obtain⟨fa,i,_⟩:=Gq hk;have hl:=c;simp only[lay,i]at hl;split at hl
   .rename_i l m;split at hl
    .rename_i d;cases hl;have a:xs.length=ks.length/\ys.length=ks.length:=by
      have:=Ds (k1:=ks) (k2:=[]) (by simpa using b)
      obtain⟨_,_,_,_,_,h1,j⟩:=this;exact⟨by simpa using h1,by simpa using j⟩
     obtain⟨x,y,hx,hy,o⟩:=Be5 (P:=P) (w:=w) 10 t ks c hc.1 vs us xs ys 0 10000 r (by omega) ⟨hs1,hr1⟩ ⟨hs2,hr2⟩ (by omega) (by omega) (by simp[<- a.1];rw[a.1,<- a.2];simpa using b);have e1:(part t vs 0).run P w=.ok (.agg vs) w:=by
      have:vs.extract 0 ks.length=vs:=by rw[<- a.1,<- hs1];simp
      simp[part,H6 w hk,Zh,Jx w d,this]
     have e2:(part t us 0).run P w=.ok (.agg us) w:=by
      have:us.extract 0 ks.length=us:=by rw[<- a.2,<- hs2];simp
      simp[part,H6 w hk,Zh,Jx w d,this]
     rw[e1]at hx;rw[e2]at hy;cases hx;cases hy;exact o
    cases hl
   cases hl
  cases b
 .rename_i n e hk;simp only[hk,C6,BA7]at hc;exact⟨(Iu f g b).1,λ_ _ _ _=>hc⟩
 .rename_i k q s hk;refine⟨MW hk f g b 9999,λxs ys h1 j=>?_⟩;subst h1;exfalso;cases f<;>unfold Zm at b<;>split at b<;>simp_all [WD]
 cases b
end
section
variable {P:Program}{C:Ctx}{st:St}{a:Act}{w:World}{rho:Nat->Value}{o:Oper}{out:Out}{d:Nat}
def AO4 {op:BinOp}{t:TypeId}{k l:IntKind}{x y:Int}{c:List Prop}{r:PV}(hk:k=l \/ op=.shl \/ op=.shr)(a:WE op k x y=(c,r))(hc:C6 c)(Pi:Nat->Nat->Prop) :∃v,(binOp op t (.int k x) (.int l y)).run P w=.ok v w/\Sd w Pi v r:=by
 cases op<;>simp only[WE,Bz3]at a<;>obtain⟨rfl,rfl⟩:=a
 case shl=>
  have:¬y<0:=by simp only[C6]at hc;omega
  exact⟨_,by first|(simp[binOp,Op.shift,this];done)|(simp[binOp,Op.shift,this];rfl),.v _⟩
 case shr=>
  have:¬y<0:=by simp only[C6]at hc;omega
  exact⟨_,by first|(simp[binOp,Op.shift,this];done)|(simp[binOp,Op.shift,this];rfl),.v _⟩
 all_goals
  obtain rfl:k=l:=by rcases hk with h|h|h<;>first|exact h|cases h
 case quo=>simp only[C6]at hc;exact⟨_,by first|(simp[binOp,Op.intDiv,hc];done)|(simp[binOp,Op.intDiv,hc];rfl),.v _⟩
 case rem=>simp only[C6]at hc;exact⟨_,by first|(simp[binOp,Op.intDiv,hc];done)|(simp[binOp,Op.intDiv,hc];rfl),.v _⟩
 case add=>exact⟨_,by first|(simp[binOp,Op.intArith];done)|(simp[binOp,Op.intArith];rfl),.v _⟩
 case sub=>exact⟨_,by first|(simp[binOp,Op.intArith];done)|(simp[binOp,Op.intArith];rfl),.v _⟩
 case mul=>exact⟨_,by first|(simp[binOp,Op.intArith];done)|(simp[binOp,Op.intArith];rfl),.v _⟩
 case and=>exact⟨_,by first|(simp[binOp,Op.intBits];done)|(simp[binOp,Op.intBits];rfl),.v _⟩
 case or=>exact⟨_,by first|(simp[binOp,Op.intBits];done)|(simp[binOp,Op.intBits];rfl),.v _⟩
 case xor=>exact⟨_,by first|(simp[binOp,Op.intBits];done)|(simp[binOp,Op.intBits];rfl),.v _⟩
 case andNot=>exact⟨.int k (G6 .andNot k x y),by simp only[binOp,ne_eq,not_true_eq_false,Ld,Op.intBits,G6];rfl,.v _⟩
 case eql=>exact⟨_,by first|(simp[binOp,Op.intCmp];done)|(simp[binOp,Op.intCmp];rfl),.bb _⟩
 case neq=>exact⟨_,by first|(simp[binOp,Op.intCmp];done)|(simp[binOp,Op.intCmp];rfl),.bb _⟩
 case lss=>exact⟨_,by first|(simp[binOp,Op.intCmp];done)|(simp[binOp,Op.intCmp];rfl),.bb _⟩
 case leq=>exact⟨_,by first|(simp[binOp,Op.intCmp];done)|(simp[binOp,Op.intCmp];rfl),.bb _⟩
 case gtr=>exact⟨_,by first|(simp[binOp,Op.intCmp];done)|(simp[binOp,Op.intCmp];rfl),.bb _⟩
 case geq=>exact⟨_,by first|(simp[binOp,Op.intCmp];done)|(simp[binOp,Op.intCmp];rfl),.bb _⟩
def EK {op:BinOp}{t:TypeId}{x y:Operand}{v u:Value}(h1:¬(v=.nilIface/\u=.nilIface))(b:∀xs ys,v=.agg xs->u=.agg ys->P.eqGuardType P.depth t=false) :(eqGuard op t x y v u).run P w=.ok () w:=by
 have key:∀op,op=.eql \/ op=.neq->(eqGuard op t x y v u).run P w=.ok () w:=by
  intro op a;rcases a with rfl|rfl<;>simp only[eqGuard,BI4,By9,Ld]<;>split
  .exact Ij ⟨rfl,rfl⟩ h1
  .simp[run_program,b _ _ rfl rfl]
  .rfl
  .exact Ij ⟨rfl,rfl⟩ h1
  .simp[run_program,b _ _ rfl rfl]
  rfl
 cases op<;>first|exact key _ (.inl rfl)|exact key _ (.inr rfl)|rfl
def Ei {t:TypeId}{v u:Value}{r:Bool}(h:(Op.equal t v u).run P w=.ok r w)(neg:Bool)(h1:∀k n,v ≠ .int k n)(a:∀s,v ≠ .string s)(b:∀k n,v ≠ .float k n)(c:∀k n m,v ≠ .complex k n m) :(binOp (if neg then .neq else .eql) t v u).run P w=.ok (.bool (r != neg)) w:=by
 cases neg
 .have:binOp .eql t v u=(do pure (.bool (<- Op.equal t v u)):Sem Value):=by cases v<;>first|rfl|exact Ij rfl (h1 _ _)|exact Ij rfl (a _)|exact Ij rfl (b _ _)|exact Ij rfl (c _ _ _)
  simp[this,h]
 have:binOp .neq t v u=(do pure (.bool (!(<- Op.equal t v u))):Sem Value):=by cases v<;>first|rfl|exact Ij rfl (h1 _ _)|exact Ij rfl (a _)|exact Ij rfl (b _ _)|exact Ij rfl (c _ _ _)
 simp[this,h]
def Th {Pi:Nat->Nat->Prop}{t:TypeId}{v u:Value}{x y:PV}(d:Sd w Pi v x)(f:Sd w Pi u y){r:Bool}(c:Ic P t x y=some r) :(∃k a b,v=.int k a/\u=.int k b/\r=(a==b)) \/ (∃a b,v=.bool a/\u=.bool b) \/ (∃a b:List UInt8,v=.string ⟨a.toArray⟩/\u=.string ⟨b.toArray⟩/\r=(a==b)) \/ (∃a b,v=.agg a/\u=.agg b):=by
 unfold Ic at c;split at c
 .split at c
  .cases d;cases f;exact .inr (.inr (.inr ⟨_,_,rfl,rfl⟩))
  cases c
 .obtain⟨xs,ys,h1,g⟩:=(Iu d f c).2;exact .inr (.inr (.inr ⟨_,_,h1,g⟩))
 .unfold Zm at c;split at c
  .split at c
   .rename_i hk;subst hk;cases c;exact .inl ⟨_,_,_,d.toInt,f.toInt,rfl⟩
   cases c
  .split at c
   .rename_i ha hb;cases c;exact .inr (.inl ⟨_,_,Jz d ha,Jz f hb⟩)
   cases c
  .cases c;exact .inr (.inr (.inl ⟨_,_,d.toStr,f.toStr,rfl⟩))
  cases c
 cases c
def Be6 {t e:TypeId}(hk:P.underlying t=some (.pointer e))(d:Nat)(p q:Option Addr)(h:p=none \/ q=none):(Op.equalIn (d+1) t (.pointer p) (.pointer q)).run P w=.ok (p.isNone&&q.isNone) w:=by
 rcases h with rfl|rfl
 .simp[Op.equalIn,Ag w hk]
 cases p<;>simp[Op.equalIn,Ag w hk]
def AA8 {t e:TypeId}(hk:P.underlying t=some (.slice e))(d:Nat)(p q:Option Addr)(n m k l:Nat)(h:p=none \/ q=none):(Op.equalIn (d+1) t (.slice p n m) (.slice q k l)).run P w=.ok (p.isNone&&q.isNone) w:=by
 rcases h with rfl|rfl
 .simp[Op.equalIn,Ag w hk]
 cases p<;>simp[Op.equalIn,Ag w hk]
def Be7 {t e f:TypeId}(hk:P.underlying t=some (.map e f))(d:Nat)(p q:Option Nat)(h:p=none \/ q=none):(Op.equalIn (d+1) t (.map p) (.map q)).run P w=.ok (p.isNone&&q.isNone) w:=by
 rcases h with rfl|rfl
 .simp[Op.equalIn,Ag w hk]
 cases p<;>simp[Op.equalIn,Ag w hk]
def Ai3 {t:TypeId}{a b:Array TypeId}{c:Bool}(hk:P.underlying t=some (.func a b c))(d:Nat):(Op.equalIn (d+1) t .nilFunc .nilFunc).run P w=.ok true w/\∀f x y,(Op.equalIn (d+1) t (.func f x y) .nilFunc).run P w=.ok false w:=
 ⟨by simp[Op.equalIn,Ag w hk],λf x y=>by simp[Op.equalIn,Ag w hk]⟩
def AA9 {t:TypeId}{ms:Array (String×TypeId)}(hk:P.underlying t=some (.interface ms))(d:Nat)(u:TypeId)(x:Value):(Op.equalIn (d+1) t (.iface u x) .nilIface).run P w=.ok false w:=by simp[Op.equalIn,Ag w hk]
def Odd (v:Value):Prop:=(∀xs,v ≠ .agg xs)/\(∀k n,v ≠ .int k n)/\(∀s,v ≠ .string s)/\(∀k n,v ≠ .float k n)/\(∀k n m,v ≠ .complex k n m)
def Zy {Pi:Nat->Nat->Prop}{live:Nat->Prop}{t:TypeId}{v u:Value}{x y:AV}(d:Sq w Pi live rho v x)(g:Sq w Pi live rho u y){b:Bool}(i:Bc6 P t x y=some b) :(Op.equal t v u).run P w=.ok b w/\¬(v=.nilIface/\u=.nilIface)/\Odd v:=by
 show (Op.equalIn (9999+1) t v u).run P w=.ok b w/\_;generalize 9999=D;unfold Bc6 at i;split at i
 .rename_i e hk;have fin:∀p q:Option Addr,v=.pointer p->u=.pointer q->(p=none \/ q=none)->b=(p.isNone&&q.isNone)->(Op.equalIn (D+1) t v u).run P w=.ok b w/\¬(v=.nilIface/\u=.nilIface)/\Odd v:=by rintro p q rfl rfl h rfl;exact⟨Be6 hk D p q h,by simp,by simp[Odd]⟩
  split at i<;>cases i
  .exact fin _ _ d.toP.toV g.toP.toV (.inl rfl) rfl
  .have:=g.toP;generalize u=u at this fin;cases this;exact fin _ _ d.toP.toV rfl (.inl rfl) rfl
  .generalize u=u at g fin;cases g;exact fin _ _ d.toP.toV rfl (.inl rfl) rfl
  .generalize u=u at g fin;cases g;exact fin _ _ d.toP.toV rfl (.inl rfl) rfl
  .have:=d.toP;generalize v=v at this fin;cases this;exact fin _ _ rfl g.toP.toV (.inr rfl) rfl
  .generalize v=v at d fin;cases d;exact fin _ _ rfl g.toP.toV (.inr rfl) rfl
  generalize v=v at d fin;cases d;exact fin _ _ rfl g.toP.toV (.inr rfl) rfl
 .rename_i e hk;have fin:∀(p q:Option Addr) (n m k l:Nat),v=.slice p n m->u=.slice q k l->(p=none \/ q=none)->b=(p.isNone&&q.isNone)->(Op.equalIn (D+1) t v u).run P w=.ok b w/\¬(v=.nilIface/\u=.nilIface)/\Odd v:=by rintro p q n m k l rfl rfl h rfl;exact⟨AA8 hk D p q n m k l h,by simp,by simp[Odd]⟩
  split at i<;>cases i
  .exact fin _ _ _ _ _ _ d.toP.toV g.toP.toV (.inl rfl) rfl
  have:=d.toP;generalize v=v at this fin;cases this;exact fin _ _ _ _ _ _ rfl g.toP.toV (.inr rfl) rfl
 .rename_i e f hk;have fin:∀(p q:Option Nat),v=.map p->u=.map q->(p=none \/ q=none)->b=(p.isNone&&q.isNone)->(Op.equalIn (D+1) t v u).run P w=.ok b w/\¬(v=.nilIface/\u=.nilIface)/\Odd v:=by rintro p q rfl rfl h rfl;exact⟨Be7 hk D p q h,by simp,by simp[Odd]⟩
  split at i<;>cases i
  .exact fin _ _ d.toP.toV g.toP.toV (.inl rfl) rfl
  generalize v=v at d fin;cases d;exact fin _ _ rfl g.toP.toV (.inr rfl) rfl
 .rename_i a c e hk;split at i<;>cases i
  .rw[d.toP.toV,g.toP.toV];exact⟨(Ai3 hk D).1,by simp,by simp[Odd]⟩
  rw[g.toP.toV];cases d;exact⟨(Ai3 hk D).2 _ _ _,by simp,by simp[Odd]⟩
 .rename_i ms hk;split at i<;>cases i
  rw[g.toP.toV];have:=d.toP;cases this;exact⟨AA9 hk D _ _,by simp,by simp[Odd]⟩
 cases i
def AO5 (h:Sat C st a w rho){op:BinOp}{t yt:TypeId}{x y:Operand}(ho:o.op=.binOp op t x y yt)(he:aop P st.env st.Qw d o.op=some out)(hc:C6 out.cond):OpOk P C o st a w rho out:=by
 rw[ho]at he;simp only[aop]at he;split at he
 .rename_i c r hb;cases he;have hx:=h.aev x;have hy:=h.aev y;have fin:∀v,(eqGuard op t x y (a.eval x) (a.eval y)).run P w=.ok () w->(binOp op t (a.eval x) (a.eval y)).run P w=.ok v w->Sd w (PiS C st rho) v r->OpOk P C o st a w rho ⟨c,.p r,st.Qw⟩:=by intro v h1 h2 f;exact OpOk.pure h (by simp[execOp,ho,h1,h2]) (.p _ _ f)
  unfold bin at hb;split at hb
  .rename_i k n l m j s;rw[j]at hx;rw[s]at hy;have u:=hx.toP.toInt;have a0:=hy.toP.toInt;have hg:(eqGuard op t x y (a.eval x) (a.eval y)).run P w=.ok () w:=EK (by rw[u];simp) (by rw[u];simp);have key:WE op k n m=(c,r)/\(k=l \/ op=.shl \/ op=.shr):=by
    split at hb
    .cases hb;exact⟨rfl,.inr (.inl rfl)⟩
    .cases hb;exact⟨rfl,.inr (.inr rfl)⟩
    split at hb
    .rename_i hkl;exact⟨BE7 hb,.inl hkl⟩
    cases hb
   obtain⟨v,hv,hr⟩:=AO4 (P:=P) (w:=w) (t:=t) key.2 key.1 hc (PiS C st rho);exact fin v hg (by rw[u,a0];exact hv) hr
  have eq:∀neg:Bool,op=(if neg then .neq else .eql)->eqA P t (aev st.env x) (aev st.env y) neg=some (c,r)->OpOk P C o st a w rho ⟨c,.p r,st.Qw⟩:=by
   intro neg a1 i;unfold eqA at i;split at i
   .rename_i r' g;cases i;split at g
    .rename_i p q j s;rw[j]at hx;rw[s]at hy;have a2:=hx.toP;have a3:=hy.toP;obtain⟨h1,h2⟩:=MX a2 a3 g hc;have hg:(eqGuard op t x y (a.eval x) (a.eval y)).run P w=.ok () w:=by refine EK ?_ h2;rintro⟨e1,e2⟩;rcases Th a2 a3 g with⟨_,_,_,f,_⟩ | ⟨_,_,f,_⟩ | ⟨_,_,f,_⟩ | ⟨_,_,f,_⟩<;>rw[e1]at f<;>cases f
     refine fin (.bool (r' != neg)) hg ?_ (.bb _);subst a1;rcases Th a2 a3 g with⟨k,n,m,f,z,rfl⟩ | ⟨n,m,f,z⟩ | ⟨n,m,f,z,rfl⟩ | ⟨n,m,f,z⟩
     .rw[f,z];cases neg<;>simp[binOp,Op.intCmp,bne]
     .exact Ei h1 neg (by rw[f];simp) (by rw[f];simp) (by rw[f];simp) (by rw[f];simp)
     .rw[f,z];cases neg<;>simp[binOp,Op.stringOp]
     exact Ei h1 neg (by rw[f];simp) (by rw[f];simp) (by rw[f];simp) (by rw[f];simp)
    cases g
   split at i
   .rename_i r' g;cases i;split at g
    .rename_i p q j s;rw[j]at hx;rw[s]at hy;obtain⟨h1,xs,ys,f,z⟩:=Iu hx.toP hy.toP g;have hg:(eqGuard op t x y (a.eval x) (a.eval y)).run P w=.ok () w:=
      EK (by rw[f];simp) λ_ _ _ _=>by simpa[C6]using hc
     refine fin (.bool (r' != neg)) hg ?_ (.bb _);subst a1;exact Ei h1 neg (by rw[f];simp) (by rw[f];simp) (by rw[f];simp) (by rw[f];simp)
    cases g
   split at i
   .rename_i b hnil;cases i;obtain⟨h1,h2,f,z,h5,h6,h7⟩:=Zy hx hy hnil;refine fin (.bool (b != neg)) (EK h2 λxs _ e _=>Ij e (f xs)) ?_ (.v _);subst a1;exact Ei h1 neg z h5 h6 h7
   cases i
  split at hb
  .split at hb
   .rename_i l m j s;cases hb;rw[j]at hx;rw[s]at hy;have u:=hx.toP.toStr;have a0:=hy.toP.toStr;refine fin (.string ⟨(l++m).toArray⟩) (EK (by rw[u];simp) (by rw[u];simp)) ?_ (.str _)
    have:¬(9223372036854775807<((l.length:Int)+(m.length:Int))):=by simp only[C6]at hc;omega
    have hmx:IntKind.i64.max=9223372036854775807:=rfl;rw[u,a0];simp[binOp,Op.stringOp,RL,Be4,hmx,this]
   cases hb
  .exact eq false rfl hb
  .exact eq true rfl hb
  cases hb
 cases he
end
section
variable {P:Program}{C:Ctx}{st:St}{a:Act}{w:World}{rho:Nat->Value}{o:Oper}{out:Out}{d:Nat}
def Sat.grow (h:Sat C st a w rho){w' : World}(g:w.heap.size<=w'.heap.size)(c:∀b,b<w.heap.size->w'.heap[b]? = w.heap[b]?)(hext:Ext w w':=by exact⟨rfl,rfl⟩):Sat C st a w' rho/\Kp C st.Qw st.Qw w w' rho rho:=by
 obtain⟨h1,l⟩:=h.step (R':=st.Qw) (rho':=rho) (w':=w') (λ_=>False) (λ_ _=>rfl) (λj d=>⟨d,rfl⟩) g (λj h1 l=>Ij l h1) (λj _ _ h=>h.elim) (λb hb _=>c b hb)
  (λj o b d=>d.elim) (λi j oi oj b f=>f.elim) (λi oi b off v f=>f.elim) (λ_ j o d=>d.elim) hext
 exact⟨h1,l,λi f=>⟨f,rfl⟩⟩
def MY (e:TypeId)(l:List UInt8):∃w' cap c,(Conv.stringToBytes e ⟨l.toArray⟩).run P w=.ok (.slice (some ⟨w.heap.size,0,none⟩) l.length cap) w' /\ Ext w w' /\ l.length<=cap/\w.heap.size<=w'.heap.size/\(∀b,b<w.heap.size->w'.heap[b]? = w.heap[b]?) /\
 ∀i,i<l.length->w'.cell? ⟨w.heap.size,i,none⟩=some (.int .u8 ((l.getD i 0).toNat:Nat))/\c=():=by
 have d:l.length<=grownCap w l.length 0 e:=grownCap_ge w _ _ e;refine⟨(w.drew.alloc (.cells ((l.toArray.map λb=>Value.int .u8 (b.toNat:Nat))++Array.replicate (grownCap w l.length 0 e-l.length) (.int .u8 0)) e)).freeze ⟨w.heap.size,l.length+(grownCap w l.length 0 e-l.length),none⟩ 1,grownCap w l.length 0 e,(),?_,⟨rfl,rfl⟩,d,?_,?_,?_⟩
 .have f:∀arr:Array Value,(w.drew.alloc (.cells arr e)).shape? w.heap.size=some (e,arr.size):=by
   intro arr
   have:=heap_alloc_new w.drew (.cells arr e)
   simp only[World.size_drew]at this;unfold World.shape?;rw[this]
  simp[Conv.stringToBytes,RL,Question.forced,newRow,markStringish,f,grownCap]
 .simp[World.freeze]
 .intro b hb;have h1:b≠w.heap.size:=by omega
  simp only[World.freeze,Nat.one_ne_zero,Ld,BF0,Hj (BC5 h1)];exact heap_alloc_old w.drew _ b hb
 intro i g;refine⟨?_,rfl⟩;have a:=heap_alloc_new w.drew (.cells ((l.toArray.map λb=>Value.int .u8 (b.toNat:Nat))++Array.replicate (grownCap w l.length 0 e-l.length) (.int .u8 0)) e);simp only[World.size_drew]at a;simp only[World.cell?,World.freeze,Nat.one_ne_zero,Ld,BF0,Lc,a,Bz7];simp[BH0,g,By3]
def Zz {Pi:Nat->Nat->Prop}{f:List PV}{v:Value}(a:(Il f).isSome=true)(hl:f.length=1)(b:Sd w Pi v (f.getD 0 default)):∃n,v=.int .u8 n/\Il f=some (UInt8.ofNat n.toNat):=by
 unfold Il at a⊢;split at a
 .rename_i n;exact⟨n,b.toInt,rfl⟩
 cases a
def Ap2 (ns:List Int):∀s:ByteArray,ns.foldl (λr n=>r.push (UInt8.ofNat n.toNat)) s=⟨s.data++(ns.map λn=>UInt8.ofNat n.toNat).toArray⟩:=by
 induction ns with
 |nil=>intro s;simp
 |cons n ns ih=>intro s;rw[BL4,ih];apply BO2;show (s.data.push _)++_=s.data++_;apply Array.ext';simp
def LO {v:Value}{n:Nat}{news:List Value}(hs:(Builtin.firstCells 1 n v).run P w=.ok news.toArray w)(hl:(Builtin.lenOf v).run P w=.ok n w)(a:∃b k c,v=.slice b k c){ns:List Int}(hn:news=ns.map (Value.int .u8))(d:∀k c,v=.slice none k c->news=[]) :(Conv.bytesToString v).run P w=.ok (.string (ns.foldl (λr n=>r.push (UInt8.ofNat n.toNat)) ByteArray.empty)) w:=by
 obtain⟨b,k,c,rfl⟩:=a;simp only[Builtin.lenOf,BC7,Result.ok.injEq,and_true]at hl;subst hl;cases b with
 |none=>
  have:=d k c rfl
  subst this
  have:ns=[]:=by cases ns<;>simp at hn⊢
  subst this;simp[Conv.bytesToString,ByteArray.empty,ByteArray.emptyWithCapacity]
 |some ad=>simp only[Builtin.firstCells,BH5]at hs;rw[hn]at hs;exact run_bytesToString w ad k c ns hs
def Ap3 (h:Sat C st a w rho){s t:TypeId}{x:Operand}(ho:o.op=.convert s t x)(u:aop P st.env st.Qw d o.op=some out)(hc:C6 out.cond):OpOk P C o st a w rho out:=by
 rw[ho]at u;simp only[aop]at u;have hx:=h.aev x;split at u
 .rename_i k0 k hs ht;split at u
  .rename_i k1 n a1;cases u;rw[a1]at hx;refine OpOk.pure h (v:=.int k (k.wrap n)) ?_ (.p _ _ (.v _));simp[execOp,ho,convert,Ag w (WN hs),Ag w (WN ht),hx.toP.toInt,Conv.intToInt]
  cases u
 .rename_i hs ht;split at u
  .rename_i l a1;cases u;rw[a1]at hx;refine OpOk.pure h (v:=.string ⟨l.toArray⟩) ?_ (.p _ _ (.str _));simp[execOp,ho,convert,Ag w (JZ hs),Ag w (JZ ht),hx.toP.toStr]
  cases u
 .rename_i e hs ht;split at u
  .rename_i l a1 a4;cases u;rw[a1]at hx;obtain⟨w',cap,c,hr,hxt,hcap,hsz,a5,a6⟩:=MY (P:=P) (w:=w) e l;obtain⟨h1,h2⟩:=h.grow hsz a5 hxt;refine⟨_,_,w',rho,?_,.inl rfl,h1,h2,.p _ _ (.sl true w.heap.size 0 cap 1 l.length _ (λi _=>.int .u8 ((l.getD i 0).toNat:Nat)) hcap (λi z=>rfl) (λi j z hj=>?_) (λi j z hj=>?_) none λ_=>rfl)⟩
   .simp[execOp,ho,convert,Ag w (JZ hs),Ag w (I0 ht),Ag w (WN a4),hx.toP.toStr,hr]
   .obtain rfl:j=0:=by omega
    refine⟨by simpa using (a6 i z).1,?_,rfl⟩;rintro (hX|⟨j',o',hj',hbo,_⟩)
    .have:=h.hp.bound _ _ hX;omega
    have:=h.hp.lt ⟨j',o',hj',hbo⟩;omega
   obtain rfl:j=0:=by omega
   exact .v _
  cases u
 .rename_i e hs ht;split at u
  .rename_i a4;split at u
   .rename_i n f hsl q;cases u;have hc:∀i,i<n->(Il (f i)).isSome=true:=hc;obtain⟨c,a2,hfl,hfr⟩:=Pu h hx q hs rfl;have hb:∀i,i<n->∃m,c i 0=.int .u8 m/\Il (f i)=some (UInt8.ofNat m.toNat):=λi z=>Zz (hc i z) (hfl i z) (hfr i 0 z (by omega)).1;obtain⟨g,hg⟩:∃g:Nat->Int,∀i,i<n->c i 0=.int .u8 (g i)/\Il (f i)=some (UInt8.ofNat (g i).toNat):=
     ⟨λi=>if z:i<n then (hb i z).choose else 0,λi z=>by simp only[z,dif_pos];exact (hb i z).choose_spec⟩
    have a7:Bq c n 1=((List.range n).map g).map (Value.int .u8):=by simp only[Bq,BH5,Nat.div_one,Nat.mod_one,BH7];apply BB8;intro i z;exact (hg i (BC0.1 z)).1
    have a0:∃b k cc,a.eval x=.slice b k cc:=by
     generalize a1:aev st.env x=y at hx hsl q;generalize a.eval x=v at hx;cases hx with
     |p _ y hy=>
      cases hy with
      |v y=>
       simp only[elems]at q;split at q<;>first
        |(rename_i a8;cases a8;exact⟨_,_,_,rfl⟩)
        |(cases q;done)
        |(rename_i a8;cases a8)
      |str l=>simp[AY0]at hsl
      |slnil=>exact⟨_,_,_,rfl⟩
      |sl=>exact⟨_,_,_,rfl⟩
      |_=>simp[elems]at q
     |vec=>exact⟨_,_,_,rfl⟩
     |vecp=>exact⟨_,_,_,rfl⟩
     |_=>simp[elems]at q
    have hnil:∀k cc,a.eval x=.slice none k cc->Bq c n 1=[]:=by intro k cc hv;have h1:=a2.cells;rw[hv]at h1;simp only[Builtin.firstCells,BC7,Result.ok.injEq,and_true]at h1;simpa using (congrArg Array.toList h1).symm
    have a3:=LO a2.cells (a2.len w) a0 a7 hnil;refine OpOk.pure h (v:=.string ⟨((List.range n).map λi=>(Il (f i)).getD 0).toArray⟩) ?_ (.p _ _ (.str _));have hfin:(((List.range n).map g).foldl (λr m=>r.push (UInt8.ofNat m.toNat)) ByteArray.empty)=⟨((List.range n).map λi=>(Il (f i)).getD 0).toArray⟩:=by
     rw[Ap2];apply BO2;apply Array.ext';simp only[BQ5,BH7]
     have:ByteArray.empty.data.toList=[]:=rfl
     rw[this,BD3];apply BB8;intro i z;simp[(hg i (BC0.1 z)).2]
    rw[hfin]at a3;obtain⟨b,k,cc,hv⟩:=a0;rw[hv]at a3;simp only[execOp,ho,hv];simp[run_convert_bytes_string w s t e b k cc (I0 hs) (WN a4) (JZ ht),a3]
   cases u
  cases u
 cases u
def WW (h:Sat C st a w rho){t:TypeId}{l c:Operand}(ho:o.op=.makeSlice t l c)(q:aop P st.env st.Qw d o.op=some out)(hc:C6 out.cond):OpOk P C o st a w rho out:=by
 rw[ho]at q;simp only[aop]at q;split at q
 .rename_i e n m hk hn hm y;split at q
  .rename_i k z u hz;split at q
   .rename_i a0;cases q;obtain⟨h1,h2,h3,h4⟩:0<=n/\n<=m/\m*DZ P e<=140737488355328/\m<=140737488355328:=hc;obtain⟨kn,a1⟩:=Cb (h.aev l) hn;obtain⟨km,a2⟩:=Cb (h.aev c) hm;obtain⟨i,v,hi,hiz,rfl⟩:=Y9 hz;have hk' : i.size=k:=by obtain⟨i',f,hs'⟩:=OY u;rw[hi]at f;cases f;exact hs'
    have hvz:v.cells.size=k:=by simpa using a0.1
    have hby:DZ P e=i.bytes:=by simp[DZ,Program.bytesOf,hi]
    rw[hby]at h3;have w64:∀x:Int,0<=x->x<=140737488355328->IntKind.i64.wrap x=x:=by intro x hx hx';have e1:x % (2 ^ 64:Int)=x:=BI9 hx (by omega);unfold IntKind.wrap;simp only[IntKind.bits,IntKind.signed,e1];rw[Hj];simp;omega
    have hrange:(i.bytes:Int)*m<=140737488355328:=by have e:m*(i.bytes:Int)=(i.bytes:Int)*m:=Int.mul_comm _ _;omega
    obtain⟨arr,g⟩:∃arr:Array Value,arr=(Array.range (m.toNat*k)).map ((if m.toNat*k=0 then #[]else v.cells)[· % (if m.toNat*k=0 then #[]else v.cells).size]!):=⟨_,rfl⟩;have hrun:(Instr.makeSlice t (a.eval l) (a.eval c)).run P w=.ok (.slice (some ⟨w.heap.size,0,none⟩) n.toNat m.toNat) (w.alloc (.cells arr e)):=by
     have b1:¬(m<0):=by omega
     have b2:¬(281474976710656<(i.bytes:Int)*m):=by omega
     have b3:¬(n<0):=by omega
     have b4:¬(m<n):=by omega
     rw[g];by_cases r:m.toNat*k=0
     .simp[Instr.makeSlice,Ag w (I0 hk),a1,a2,_root_.Go.asInt,asIntOf,Be0 w hi,w64 n h1 (by omega),w64 m (by omega) h4,b1,b2,b3,b4,Jx w u,r,newRow]
     simp[Instr.makeSlice,Ag w (I0 hk),a1,a2,_root_.Go.asInt,asIntOf,Be0 w hi,w64 n h1 (by omega),w64 m (by omega) h4,b1,b2,b3,b4,Jx w u,r,newRow,AA0 w hi hiz]
    have hget:∀i' j,i' < n.toNat->j<k->arr.getD (i' * k+j) undef=v.cells.getD j undef:=by
     intro i' j f hj;have hlt:=H3 (show i' < m.toNat by omega) hj;have r:¬(m.toNat*k=0):=by omega
     rw[g];simp only[r,Ld]
     have:(i' * k+j) % v.cells.size=j:=by rw[hvz,BG9,BK0,BG3 hj]
     simp[By2,hlt,this,show j<v.cells.size by omega]
    obtain⟨h1',h2',h3'⟩:=h.fresh (Bp d 0) y (.vec e k n.toNat (λ_=>v.cells.toList.map MR) false) (.slice (some ⟨w.heap.size,0,none⟩) n.toNat m.toNat) (w':=w.alloc (.cells arr e)) (by simp)
     (λb hb=>heap_alloc_old w _ b hb) (λb hb=>by simp[E5,N1]at hb;omega) (λhk=>by
      refine .inr ⟨w.heap.size,m.toNat,arr,rfl,heap_alloc_new w _,by omega,by rw[g];simp,by simp only[maxLen];omega,λi' f=>by simpa using hvz,λi' j f hj=>?_⟩;rw[hget i' j f hj];have hj' : j<v.cells.size:=by omega
      have e:(v.cells.getD j undef)=v.cells[j]:=by simp[By2,hj']
      rw[e];refine⟨?_,?_⟩
      .simp only[By3,Bz1,BC9,BA8 hj',Bz7,Bz4];exact K5 _ _ _
      have s:=a0.2;simp only[BI2,Bz2,Function.comp]at s;exact (K5 w (λ_ _=>False) _).cell (s _ (by simp)))
    exact⟨_,_,_,_,by simp[execOp,ho,hrun],.inl rfl,h1',⟨h2',h3'⟩,.vec _ (some ⟨w.heap.size,0,none⟩) n.toNat m.toNat (by simp[Lv,A3]) (by simp)⟩
   cases q
  cases q
 cases q
def Sat.modifyN (h:Sat C st a w rho){j:Nat}{o ob:Obj}(q:A1 st.Qw j=some o)(n:∀b,¬E5 (rho j) o b)(l : ∀b,¬E5 (rho j) ob b)
 (u:Sc w (PiS C st rho) w (Prv C.X (A1 (ins j ob st.Qw)) rho)->Sr w (Prv C.X (A1 (ins j ob st.Qw)) rho) (Lv (A1 (ins j ob st.Qw))) rho (rho j) ob) (hy:∀r b,ob ≠ .yld r b:=by intro _ _ h;cases h) :
 Sat C { st with Qw:=ins j ob st.Qw } a w rho/\Kp C st.Qw (ins j ob st.Qw) w w rho rho:=by
 have d:∀i,Lv (A1 st.Qw) i->Lv (A1 (ins j ob st.Qw)) i/\rho i=rho i:=by
  intro i c;refine⟨?_,rfl⟩;simp only[Lv,A3];split
  .rfl
  exact c
 obtain⟨h1,x⟩:=h.step (R':=ins j ob st.Qw) (rho':=rho) (w':=w) (· = j) (λi c=>by rw[A3,Hj (BC5 c)]) d (Bz5 _)
  (λi c f=>by
   simp only[Lv,A3]at c f;split at f
   .rename_i e;subst e;simp[q]at c
   exact Ij f c)
  (λi r b c s=>by subst c;simp only[A3,Lc,By4]at s;exact hy r b s)
  (λb' _ _=>rfl)
  (λi oi b' c m g=>by subst c;simp only[A3,Lc,By4]at m;subst m;exact Ij g (l b'))
  (λi i' oi oi' b c f _ _ _ _=>c.trans f.symm)
  (λi oi b' off v c t g _ _=>by subst c;rw[q]at t;cases t;exact Ij g (n b'))
  (λhk i oi c m=>by subst c;simp only[A3,Lc,By4]at m;subst m;exact u hk)
 exact⟨h1,x,d⟩
def AO6 (h:Sat C st a w rho){c:Call}(hc:c.callee=.builtin .clear)(ho:o.op=.call c)(he:aop P st.env st.Qw d o.op=some out):OpOk P C o st a w rho out:=by
 obtain⟨callee,args,types⟩:=c;simp only at hc;subst hc;rw[ho]at he;simp only[aop]at he;split at he
 .rename_i x t hargs y;split at he
  .rename_i e j hk hxe;split at he
   .rename_i e' k n f m z hj hsz hz;split at he
    .rename_i hzl;cases he;obtain⟨⟨rfl,hzl⟩,hall⟩:=hzl;obtain⟨args⟩:=args;obtain⟨types⟩:=types;simp only at hargs y;subst hargs;subst y;have hx:=h.aev x;rw[hxe]at hx;obtain⟨i,v,hi,hiz,rfl⟩:=Y9 hz;have hvz:v.cells.size=m:=by simpa using hzl
     have fin:∀w',(Builtin.clear_ #[t] o.type #[a.eval x]).run P w=.ok (.tuple #[]) w' -> Sat C { st with Qw:=ins j (.vec e' m n (λ_=>v.cells.toList.map MR) false) st.Qw } a w' rho/\Kp C st.Qw (ins j (.vec e' m n (λ_=>v.cells.toList.map MR) false) st.Qw) w w' rho rho->OpOk P C o st a w rho ⟨[],LC,ins j (.vec e' m n (λ_=>v.cells.toList.map MR) false) st.Qw⟩:=λw' h1 h2=>
      ⟨_,_,w',rho,by simp[execOp,ho,resolve,invoke,builtin,h1],.inl rfl,h2.1,h2.2,.p _ _ (.v _)⟩
     generalize hvx:a.eval x=vx at hx fin;cases hx with
     |vec j base n' cap hl hr=>
      have hh:=h.hp.holds j _ hj;rw[hr]at hh;rcases hh with⟨hn,rfl⟩ | ⟨b,cap',cc,g,s,hncap,hcsz,hmax,hlen,hrep⟩
      .cases hn;refine fin w (by simp[Builtin.clear_,Ag w (I0 hk)]) ?_;exact h.modifyN hj (λb hb=>by simp[E5,N1,hr]at hb) (λb hb=>by simp[E5,N1,hr]at hb) λ_=>.inl ⟨hr,rfl⟩
      cases g;obtain⟨arr,harr⟩:∃arr,arr=Builtin.zeroCells v.cells n:=⟨_,rfl⟩;have r:arr.size=n*m:=by rw[harr];simp[Builtin.zeroCells,hvz]
      have hget:∀i' j,i' < n->j<m->arr.getD (i' * m+j) undef=v.cells.getD j undef:=by
       intro i' j hi' hj;have hlt:=H3 hi' hj;rw[harr];simp only[Builtin.zeroCells,hvz]
       have:(i' * m+j) % m=j:=by rw[BG9,BK0,BG3 hj]
       simp[By2,hlt,this,show j<v.cells.size by omega]
      have hone:∀(w1:World) (Pi1:Nat->Nat->Prop) j,j<m->Sd w1 Pi1 (v.cells.getD j undef) ((v.cells.toList.map MR).getD j default)/\(v.cells.getD j undef).oneCell' = true:=by
       intro w1 Pi1 j hj;have hj' : j<v.cells.size:=by omega
       have e:(v.cells.getD j undef)=v.cells[j]:=by simp[By2,hj']
       rw[e];refine⟨?_,?_⟩
       .simp only[By3,Bz1,BC9,BA8 hj',Bz7,Bz4];exact K5 _ _ _
       simp only[BI2,Bz2,Function.comp]at hall;exact (K5 w (λ_ _=>False) _).cell (hall _ (by simp))
      have hle:n*m<=cc.size:=by rw[hcsz];exact BA6 m hncap
      by_cases hn0:n=0
      .subst hn0;refine fin w (by simp[Builtin.clear_,Ag w (I0 hk)]) ?_;obtain⟨h1,h2,h3⟩:=h.modify (ob:=.vec e' m 0 (λ_=>v.cells.toList.map MR) false) hj (b:=b) (by simp[E5,N1,hr]) (λ_=>trivial) (λb' g=>by simp[E5,N1,hr]at g;exact g.symm) (w':=w) rfl (λ_ _=>rfl) (λhk=>.inr ⟨b,cap,cc,hr,s,BG6 _,hcsz,hmax,λi hi=>Ij hi (BB5 _),λi _ hi=>Ij hi (BB5 _)⟩);exact⟨h1,h2,h3⟩
      have hst:=run_storeCells_at (P:=P) b 0 e' arr.toList 0 cc w s (by simp[r];omega) (λu hu=>by
       obtain⟨q,hq,rfl⟩:=BE2 hu;simp only[BC6]at hq;have hm0:0<m:=Nat.pos_of_ne_zero λe=>by rw[r,e]at hq;simp at hq
       have h5:=hget (q / m) (q % m) (BQ0 (by rw[BG9,<- r];exact hq)) (BP8 _ hm0);rw[BG9,Nat.div_add_mod]at h5;have h6:=(hone w (λ_ _=>False) (q % m) (BP8 _ hm0)).2;rw[<- h5]at h6;simpa[By2,hq]using h6)
      simp only[BG2,BE1,BM3,BD3,BC6]at hst;refine fin (w.setRow b (arr.toList++cc.toList.drop arr.size).toArray) ?_ ?_
      .cases n with
       |zero=>exact Ij rfl hn0
       |succ n=>simp[Builtin.clear_,Ag w (I0 hk),AA0 w hi hiz,<- harr,hst]
      obtain⟨h1,h2,h3⟩:=h.modify (ob:=.vec e' m n (λ_=>v.cells.toList.map MR) false) hj (b:=b) (by simp[E5,N1,hr]) (λ_=>trivial) (λb' g=>by simp[E5,N1,hr]at g;exact g.symm)
       (w':=w.setRow b (arr.toList++cc.toList.drop arr.size).toArray) (by simp) (λb' g=>setRow_other w b b' _ g) (λhk=>by
        refine .inr ⟨b,cap,_,hr,setRow_heap w b cc _ e' _ s,hncap,?_,hmax,λl hl=>by simpa using hvz,λl jj hl hjj=>?_⟩
        .simp[r];omega
        have hlt:=H3 hl hjj;have e1:((arr.toList++cc.toList.drop arr.size).toArray).getD (l*m+jj) undef=arr.getD (l*m+jj) undef:=by simp[By2,BP9,r,hlt]
        rw[e1,hget l jj hl hjj];exact hone _ _ jj hjj)
      exact⟨h1,h2,h3⟩
    cases he
   cases he
  cases he
 cases he
end
section
variable {P:Program}{C:Ctx}{st:St}{a:Act}{w:World}{rho:Nat->Value}{o:Oper}{out:Out}{d:Nat}
def Ai4 (off:Nat):∀(vs:List Value) (k:Nat) (cells:Array Value),off+k+vs.length<=cells.size ->
 ((vs.zipIdx k).foldl (λcs (p:Value×Nat)=>cs.setIfInBounds (off+p.2) p.1) cells).toList=splice cells.toList (off+k) vs
 |[],k,cells,h=>by simp[splice]
 |v::vs,k,cells,h=>by simp only[BA2]at h;rw[List.zipIdx_cons,BL4,Ai4 off vs (k+1) _ (by simp;omega)];have e:=list_seg_step cells.toList (off+k) v vs (by simp;omega);simpa[splice,BN2,BK4]using e
def WX (off:Nat)(vs:Array Value)(cells:Array Value)(h:off+vs.size<=cells.size) :(vs.zipIdx.foldl (λcs (p:Value×Nat)=>cs.setIfInBounds (off+p.2) p.1) cells).toList=splice cells.toList off vs.toList:=by rw[<- BQ8,Array.toList_zipIdx];exact Ai4 off vs.toList 0 cells (by simpa using h)
def RM (fs:List Field)(h:∀f∈fs,(tsz P f.type).isSome=true):(fs.mapM λf=>(do pure (f.offset,<- sizeOf f.type):Sem (Nat×Nat))).run P w=.ok (fs.map λf=>(f.offset,(tsz P f.type).getD 0)) w:=by
 induction fs with
 |nil=>simp
 |cons f fs ih=>obtain⟨m,hm⟩:=BA1.1 (h f (by simp));rw[List.mapM_cons];simp only[BB2,Jx w hm,Bz9,BC7,ih λg a=>h g (by simp[a]),BA3,hm,Bz4]
def Ti (h:Sat C st a w rho){place:Nat->Option (Nat×Nat)}:∀(parts:List (Nat×Operand)) (cs cs' : List AV) (c:Array Value) (f:List AV->Option (List AV)),
 (∀cs,NE st.env place parts cs=f cs)->f cs=some cs' -> c.size=cs.length->RepL w (PiS C st rho) (Lv (A1 st.Qw)) rho (λi=>c.getD i undef) cs ->
 ∃c',Instr.fill place c (parts.map λq=>(q.1,a.eval q.2))=some c' /\ c'.size=cs'.length/\RepL w (PiS C st rho) (Lv (A1 st.Qw)) rho (λi=>c'.getD i undef) cs'
 |[],cs,cs',c,f,hf,he,hs,hr=>by rw[<- hf]at he;simp only[NE,By4]at he;subst he;exact⟨c,rfl,hs,hr⟩
 |(i,x)::parts,cs,cs',c,f,hf,he,hs,hr=>by
  rw[<- hf]at he;simp only[NE]at he;split at he
  .rename_i off m g hp;split at he
   .rename_i l;have hc:=Jy (h.aev x) g;have b:=WX off (a.eval x).cells c (by omega);have j:((a.eval x).cells.zipIdx.foldl (λcs (p:Value×Nat)=>cs.setIfInBounds (off+p.2) p.1) c).size=(splice cs off (cellsOf (aev st.env x))).length:=by rw[<- BC6,b,I1 _ _ _ (by simp;omega),I1 _ _ _ (by omega)];simpa using hs
    obtain⟨c',h1,n,o⟩:=Ti h parts (splice cs off (cellsOf (aev st.env x))) cs' _ _ (λ_=>rfl) he j (by
     have:=RepL.splice (c:=c.toList) (cs:=cs) (vs:=(a.eval x).cells.toList) (new:=cellsOf (aev st.env x)) (off:=off) (by simpa using hs)
      (by intro i d;have:=hr i d;simpa only[D0]using this) (by simpa using hc.1) (by intro i d;have:=hc.2 i d;simpa only[D0]using this) (by omega)
     intro i d
     have:=this i d
     simpa only[D0,b]using this)
    refine⟨c', ?_,n,o⟩;simp only[BA3,Instr.fill,hp];rw[Hj (by simp;omega)];exact h1
   cases he
  cases he
def Uy {t:TypeId}{i:TypeInfo}{v:Value}{Pi:Nat->Nat->Prop}{live:Nat->Prop}{rho:Nat->Value}(a:(v.cells.toList.map MR).all JM=true):RepL w Pi live rho (λi=>v.cells.getD i undef) ((v.cells.toList.map MR).map .p):=by
 intro i b;simp only[BD2,BC6]at b;have e:(v.cells.getD i undef)=v.cells[i]:=by simp[By2,b]
 simp only[e];refine⟨?_,?_⟩
 .simp only[By3,Bz1,BC9,BA8 b,Bz7,Bz4];exact .p _ _ (K5 _ _ _)
 simp only[BI2,Bz2,Function.comp]at a;exact (K5 w (λ_ _=>False) _).cell (a _ (by simp))
def AO7 (h:Sat C st a w rho){t:TypeId}{parts:Array (Nat×Operand)}(l:o.op=.build t parts)(c:aop P st.env st.Qw d o.op=some out):OpOk P C o st a w rho out:=by
 rw[l]at c;simp only[aop]at c;split at c
 .rename_i z x;split at c
  .rename_i cs g hb;cases c;simp only[By5]at g;obtain⟨i,v,u,j,rfl⟩:=Y9 x;obtain⟨c',h1,y,h3⟩:=Ti h (place:=SY P t) parts.toList _ cs v.cells _ (λ_=>rfl) hb (by simp) (Uy (t:=t) (i:=i) g.1);refine OpOk.pure h (v:=.agg c') ?_ (h3.mkAgg y λ_ _=>rfl);have b:(parts.map λq=>(q.1,a.eval q.2)).toList=parts.toList.map λq=>(q.1,a.eval q.2):=by simp
   have hs:=g.2;unfold Az0 at hs;split at hs
   .rename_i fs hk;obtain⟨fa,hu,rfl⟩:=Gq hk;have hp:SY P t=λi=>((fa.toList.map λf=>(f.offset,(tsz P f.type).getD 0)).toArray)[i]?:=by
     funext i;simp only[SY,hk,Bz1,BC9,List.getElem?_toArray];cases r:fa[i]? with
     |none=>simp
     |some f=>
      simp only[BI2,Bz2,Function.comp]at hs
      have:=hs f (by have:=BP4 r;simpa using this)
      obtain⟨m,hm⟩:=BA1.1 this;simp[hm]
    have hm:=RM (P:=P) (w:=w) fa.toList (λf r=>by simp only[BI2,Bz2,Function.comp]at hs;exact hs f r)
    have s : (fa.mapM λf=>(do pure (f.offset,<- sizeOf f.type):Sem (Nat×Nat))).run P w=.ok ((fa.toList.map λf=>(f.offset,(tsz P f.type).getD 0)).toArray) w:=by obtain⟨fl⟩:=fa;rw[List.mapM_toArray];simp only[Sem.run_map,hm,Bz9]
    rw[hp]at h1;simp only[execOp,l,BB2,Instr.build,AA0 w u j,Bz9,Ag w hu,s,b,h1,BC7]
   .rename_i n e hk;obtain⟨m,hm⟩:=BA1.1 hs;have hp:SY P t=λi=>some (i*m,m):=by funext i;simp[SY,hk,hm]
    rw[hp]at h1;simp only[execOp,l,BB2,Instr.build,AA0 w u j,Bz9,Ag w (LL hk),Jx w hm,b,h1,BC7]
   cases hs
  cases c
 cases c
end
section
variable {P:Program}{C:Ctx}{st:St}{a:Act}{w:World}{rho:Nat->Value}{o:Oper}{out:Out}{d:Nat}
def AB0 {Qw R' : C5}{x:AV}{y:PV}(h:DO Qw x=some (y,R')){i:Nat}(a:A1 Qw i=none):A1 R' i=none:=by
 unfold DO at h;split at h
 .cases h;exact a
 .split at h
  .rename_i b;cases h;rw[A3];split
   .rename_i e;subst e;rw[a]at b;cases b
   exact a
  cases h
 .split at h
  .rename_i b;cases h;rw[A3];split
   .rename_i e;subst e;rw[a]at b;cases b
   exact a
  cases h
 .cases h;exact a
 .split at h
  .cases h;exact a
  cases h
 .split at h
  .cases h;exact a
  cases h
 cases h
def GU:∀(xs:List Operand) (st:St) (l:List PV) (R' : C5),Sat C st a w rho->Gk st.Qw (xs.map (aev st.env))=some (l,R') ->
 Sat C { st with Qw:=R' } a w rho/\Kp C st.Qw R' w w rho rho/\l.length=xs.length/\(∀i x,xs[i]? = some x->Sd w (Prv C.X (A1 R') rho) (a.eval x) (l.getD i default))/\∀i,A1 st.Qw i=none->A1 R' i=none
 |[],st,l,R',h,he=>by simp only[BE9,Gk,By4,Bz3]at he;obtain⟨rfl,rfl⟩:=he;exact⟨h,Kp.refl _ _ _ _,rfl,λi x hx=>by simp at hx,λi b=>b⟩
 |x::xs,st,l,R',h,he=>by
  simp only[BA3,Gk]at he;split at he
  .rename_i y R1 f;split at he
   .rename_i l' R2 c;cases he;obtain⟨h1,j,m⟩:=Ez h (h.aev x) f;obtain⟨n,g,o,q,r⟩:=GU xs { st with Qw:=R1 } l' R' h1 c;refine⟨n,m.trans g,by simp[o],λi z d=>?_,λi b=>r i (AB0 f b)⟩;cases i with
    |zero=>simp only[BF5,By4]at d;subst d;simpa using g.p j
    |succ i=>simpa using q i z (by simpa using d)
   cases he
  cases he
def OB (F:Nat->List PV):List (Nat×List PV)->Nat->List PV
 |[],i=>F i
 |(j,x)::r,i=>if i=j then x else OB F r i
def Uz (z:List PV)(l:List (Nat×List PV))(i:Nat):OB (λ_=>z) l i=H0 z l i:=by
 induction l with
 |nil=>rfl
 |cons p r ih=>obtain⟨j,x⟩:=p;simp only[OB,H0,ih]
def Pw {F:Nat->List PV}{j:Nat}{x:List PV}:∀(l:List (Nat×List PV)),(∀p∈l,p.1≠j)->∀i,OB (λi=>if i=j then x else F i) l i=if i=j then x else OB F l i
 |[],_,i=>rfl
 |(k,y)::r,h,i=>by
  have hk:=h (k,y) (by simp);simp only[OB,Pw r (λp hp=>h p (by simp[hp])) i];by_cases e:i=k
  .subst e;simp only[Lc];rw[Hj hk]
  simp only[e,Ld]
def ZA {x:PV}(h:Pk x=true):Dd (.p x)=true/\cellsOf (.p x)=(Ca x).map .p:=by cases x<;>simp_all [Pk,Dd,Ay8,cellsOf,Ca]
def KQ {Pi:Nat->Nat->Prop}{m n:Nat}:∀(ps:List (Nat×Value)) (xs:List PV) (c:Array Value) (F:Nat->List PV),ps.length=xs.length->GR n m (ps.map (·.1)) xs=true ->
 (∀i x,ps[i]? = some x->Sd w Pi x.2 (xs.getD i default))->c.size=n*m->(∀i,i<n->(F i).length=m)->(∀i j,i<n->j<m->Sd w Pi (c.getD (i*m+j) undef) ((F i).getD j default)/\(c.getD (i*m+j) undef).oneCell' = true) ->
 ∃c',Instr.fill (λi=>some (i*m,m)) c ps=some c' /\ c'.size=n*m/\(∀i,i<n->(OB F ((ps.map (·.1)).zip (xs.map Ca)) i).length=m) /\
  ∀i j,i<n->j<m->Sd w Pi (c'.getD (i*m+j) undef) ((OB F ((ps.map (·.1)).zip (xs.map Ca)) i).getD j default)/\(c'.getD (i*m+j) undef).oneCell' = true
 |[],xs,c,F,hl,f,hr,hs,hF,hc=>⟨c,rfl,hs,by simpa[OB]using hF,by simpa[OB]using hc⟩
 |(i0,v)::ps,[],c,F,hl,f,hr,hs,hF,hc=>by simp at hl
 |(i0,v)::ps,x::xs,c,F,hl,f,hr,hs,hF,hc=>by
  simp only[BA3,GR,By5,decide_eq_true_eq,beq_iff_eq,BA7]at f;obtain⟨⟨hi0,hst,hpl⟩,r,f⟩:=f;obtain⟨s,t⟩:=ZA hst;have hv:Sd w Pi v x:=by simpa using hr 0 (i0,v) rfl
  obtain⟨u,y⟩:=Jy (live:=λ_=>False) (rho:=λ_=>undef) (.p _ _ hv) s;rw[t]at u y;simp only[BD2]at u;have hle:i0*m+m<=n*m:=by rw[<- BL3];exact BA6 m hi0
  have o:=WX (i0*m) v.cells c (by omega);obtain⟨c1,a0⟩:∃c1,c1=v.cells.zipIdx.foldl (λcs (p:Value×Nat)=>cs.setIfInBounds (i0*m+p.2) p.1) c:=⟨_,rfl⟩;rw[<- a0]at o;have hs1:c1.size=n*m:=by rw[<- BC6,o,I1 _ _ _ (by simp;omega)];simpa using hs
  obtain⟨c',h1,h2,h3,h4⟩:=KQ ps xs c1 (λi=>if i=i0 then Ca x else F i) (by simpa using hl) f (λi z hz=>by simpa using hr (i+1) z (by simpa using hz)) hs1
   (λi q=>by
    by_cases e:i=i0
    .simp only[e,Lc];exact hpl
    .simp only[e,Ld];exact hF i q) (λi j q hj=>by
    rw[D0,o,X2 _ _ _ _ _ (by simp;omega)];by_cases d:i0*m<=i*m+j/\i*m+j<i0*m+v.cells.toList.length
    .rw[Gy d];simp only[BC6]at d;obtain⟨rfl,hjj⟩:=AA5 (l:=i) (i:=i0) (k:=m) (a:=j) (b:=i*m+j-i0*m) (by omega) hj (by omega);simp only[Lc]
     have:=y j (by simp;omega)
     rw[show i*m+j-i*m=j by omega,<- D0];refine⟨?_,this.2⟩;have h5:=this.1;simp only[By3,Bz1,By7 (show j<(Ca x).length by omega),Bz7,Bz4]at h5⊢;exact h5.toP
    rw[Hj d];have hne:i≠i0:=by rintro rfl;apply d;simp only[BC6];omega
    simp only[hne,Ld];rw[<- D0];exact hc i j q hj)
  have g:∀p∈(ps.map (·.1)).zip (xs.map Ca),p.1≠i0:=by
   intro p hp e
   have:=(List.of_mem_zip hp).1
   rw[e]at this;simp only[BC2,decide_eq_false_iff_not]at r;exact r this
  refine⟨c', ?_,h2,λi q=>?_,λi j q hj=>?_⟩
  .simp only[Instr.fill];rw[Hj (by simp;omega)];rw[<- a0];exact h1
  .have:=h3 i q
   rw[Pw _ g]at this;simpa[OB]using this
  have:=h4 i j q hj
  rw[Pw _ g]at this;simpa[OB]using this
def Ka (h:Sat C st a w rho){t:TypeId}{n:Nat}{parts:Array (Nat×Operand)}(hf:JW st.Qw n (parts.toList.map λq=>(q.1,aev st.env q.2))=none)(a7:LE n (parts.toList.map λq=>(q.1,aev st.env q.2))=none)(ho:o.op=.buildSlice t n parts)(s:aop P st.env st.Qw d o.op=some out)(hc:C6 out.cond):OpOk P C o st a w rho out:=by
 rw[ho]at s;simp only[aop,hf,a7]at s;split at s
 .rename_i e hk a1;split at s
  .rename_i l R' m z hv a8 hz;split at s
   .rename_i a9;cases s;have b0:GR n m (parts.toList.map (·.1)) l=true:=hc;obtain⟨⟨hmax,b1⟩,r,a2⟩:=a9;have b2 : Gk st.Qw ((parts.toList.map (·.2)).map (aev st.env))=some (l,R'):=by simpa[BH7,BE6]using hv
    obtain⟨h1,h2,h3,h4,h5⟩:=GU (parts.toList.map (·.2)) st l R' h b2;obtain⟨i,v,hi,b3,rfl⟩:=Y9 hz;have b4:v.cells.size=m:=by simpa using r
    obtain⟨arr,c⟩:∃arr:Array Value,arr=(Array.range (n*m)).map ((if n*m=0 then #[]else v.cells)[· % (if n*m=0 then #[]else v.cells).size]!):=⟨_,rfl⟩;have a3:∀i' j,i' < n->j<m->arr.getD (i' * m+j) undef=v.cells.getD j undef:=by
     intro i' j f y;have b5:=H3 f y;have g:¬(n*m=0):=by omega
     rw[c];simp only[g,Ld]
     have:(i' * m+j) % v.cells.size=j:=by rw[b4,BG9,BK0,BG3 y]
     simp[By2,b5,this,show j<v.cells.size by omega]
    have b6:=Uy (w:=w) (Pi:=Prv C.X (A1 R') rho) (live:=λ_=>False) (rho:=rho) (t:=t) (i:=i) a2;obtain⟨c',a4,b7,a5,a0⟩:=KQ (w:=w) (Pi:=Prv C.X (A1 R') rho) (m:=m) (n:=n) (parts.toList.map λq=>(q.1,a.eval q.2)) l arr (λ_=>v.cells.toList.map MR) (by simpa using h3.symm)
     (by simpa[BH7,BE6]using b0) (λi x hx=>by
      rw[Bz1,BB6]at hx;obtain⟨q,hq,rfl⟩:=hx;exact h4 i q.2 (by rw[Bz1,hq];rfl)) (by rw[c];simp) (λi hi=>r) (λi' j f y=>by
      rw[a3 i' j f y]
      have:=b6 j (by simp;omega)
      refine⟨?_,this.2⟩;have h6:=this.1;simp only[By3,Bz1,BC9,BA8 (show j<v.cells.size by omega),Bz7,Bz4]at h6⊢;exact h6.toP)
    have b8:(parts.toList.map λq=>(q.1,a.eval q.2)).map (·.1)=parts.toList.map (·.1):=by simp[BH7,BE6]
    rw[b8]at a5 a0;have a6:(Instr.buildSlice t n (parts.map λq=>(q.1,a.eval q.2))).run P w=.ok (.slice (some ⟨w.heap.size,0,none⟩) n n) (w.alloc (.cells c' e)):=by
     have u:(parts.map λq=>(q.1,a.eval q.2)).toList=parts.toList.map λq=>(q.1,a.eval q.2):=by simp
     have hb:¬(n*m>2 ^ 24):=by omega
     simp only[Instr.buildSlice,BB2,Ag w (I0 hk),Bz9,Jx w a8,Hj hb,u];by_cases g:n*m=0
     .simp only[Gy g]at c;rw[Gy g];simp only[BB2,BC7,Bz9];rw[<- c,a4];simp[newRow]
     simp only[Hj g]at c;rw[Hj g];simp only[BB2,BC7,Bz9,AA0 w hi b3];rw[<- c,a4];simp[newRow]
    obtain⟨g1,g2,g3⟩:=h1.fresh (Bp d 0) (h5 _ a1) (.vec e m n (H0 (v.cells.toList.map MR) ((parts.toList.map (·.1)).zip (l.map Ca))) false) (.slice (some ⟨w.heap.size,0,none⟩) n n) (w':=w.alloc (.cells c' e)) (by simp)
     (λb hb=>heap_alloc_old w _ b hb) (λb hb=>by simp[E5,N1]at hb;omega) (λb9=>by
      refine .inr ⟨w.heap.size,n,c',rfl,heap_alloc_new w _,Bz5 _,b7,?_,λi' f=>?_,λi' j f y=>?_⟩
      .simp only[maxLen];omega
      .rw[<- Uz];exact a5 i' f
      rw[<- Uz];exact⟨(a0 i' j f y).1.keeps b9,(a0 i' j f y).2⟩)
    exact⟨_,_,_,_,by simp[execOp,ho,a6],.inl rfl,g1,h2.trans ⟨g2,g3⟩,.vec _ (some ⟨w.heap.size,0,none⟩) n n (by simp[Lv,A3]) (by simp)⟩
   cases s
  cases s
 cases s
def ZB {n:Nat}{L:List (Nat×AV)}{cs:List AV}(h:LE n L=some cs):∃j o i q,L=[(0,.reg j o),(1,.reg i q)]/\n=2/\cs=[.reg j o,.reg i q]:=by
 unfold LE at h;split at h
 .split at h
  .rename_i hn;cases h;exact⟨_,_,_,_,rfl,hn,rfl⟩
  cases h
 cases h
def RN (h:Sat C st a w rho){t:TypeId}{n:Nat}{parts:Array (Nat×Operand)}(hf:JW st.Qw n (parts.toList.map λq=>(q.1,aev st.env q.2))=none){cs:List AV}(a0:LE n (parts.toList.map λq=>(q.1,aev st.env q.2))=some cs)(ho:o.op=.buildSlice t n parts)(c:aop P st.env st.Qw d o.op=some out)(hc:C6 out.cond):OpOk P C o st a w rho out:=by
 rw[ho]at c;simp only[aop,hf,a0]at c;split at c
 .rename_i e hk m;split at c
  .rename_i z hsz hz;split at c
   .rename_i hzl;cases c;obtain⟨j,o1,i,q,hL,rfl,rfl⟩:=ZB a0;obtain⟨iz,v,hi,hiz,rfl⟩:=Y9 hz;have hvz:v.cells.size=1:=by simpa using hzl
    obtain⟨p1,p2,hp,s,u,hx2,hy2⟩:∃p1 p2,parts.toList=[p1,p2]/\p1.1=0/\p2.1=1/\aev st.env p1.2=.reg j o1/\aev st.env p2.2=.reg i q:=by
     cases f:parts.toList with
     |nil=>rw[f]at hL;cases hL
     |cons p1 r=>cases r with
      |nil=>rw[f]at hL;simp at hL
      |cons p2 r=>cases r with
       |cons p3 r=>rw[f]at hL;simp at hL
       |nil=>rw[f]at hL;simp only[BA3,BE9,BD6,Bz3,and_true]at hL;exact⟨p1,p2,rfl,hL.1.1,hL.2.1,hL.1.2,hL.2.2⟩
    have hX:=h.aev p1.2;have hY:=h.aev p2.2;rw[hx2]at hX;rw[hy2]at hY;obtain⟨x1,s⟩:∃b,a.eval p1.2=.pointer (some b):=by generalize a.eval p1.2=v at hX;cases hX;exact⟨_,rfl⟩
    obtain⟨y1,u⟩:∃b,a.eval p2.2=.pointer (some b):=by generalize a.eval p2.2=v at hY;cases hY;exact⟨_,rfl⟩
    have a1:(Instr.buildSlice t 2 (parts.map λq=>(q.1,a.eval q.2))).run P w=.ok (.slice (some ⟨w.heap.size,0,none⟩) 2 2) (w.alloc (.cells #[a.eval p1.2,a.eval p2.2] e)):=by
     have g:(parts.map λq=>(q.1,a.eval q.2)).toList=parts.toList.map λq=>(q.1,a.eval q.2):=by simp
     have hb:¬(2*1>2 ^ 24):=by omega
     have hr2:(Array.range (2*1)).map (v.cells[· % v.cells.size]!) = #[v.cells[0]!,v.cells[0]!]:=by
      rw[hvz]
      have:(λx=>v.cells[x % 1]!)=λ_=>v.cells[0]!:=by funext x;rw[Nat.mod_one]
      rw[this];apply Array.toList_inj.1;rw[Array.toList_map,Array.toList_range];rfl
     have y:Instr.fill (λi=>some (i*1,1)) #[v.cells[0]!,v.cells[0]!] [(0,a.eval p1.2),(1,a.eval p2.2)]=some #[a.eval p1.2,a.eval p2.2]:=by rw[s,u];rfl
     simp only[Instr.buildSlice,BB2,Ag w (I0 hk),Bz9,Jx w hsz,Hj hb,g,hp,BA3,BE9];rw[Hj (by decide)];simp only[BB2,BC7,Bz9,AA0 w hi hiz,hr2];rw[show p1.1=0 from by assumption,show p2.1=1 from by assumption,y];simp[newRow]
    obtain⟨g1,g2,g3⟩:=h.fresh (Bp d 0) m (.cells [.reg j o1,.reg i q]) (.pointer (some ⟨w.heap.size,0,none⟩)) (w':=w.alloc (.cells #[a.eval p1.2,a.eval p2.2] e)) (by simp)
     (λb hb=>heap_alloc_old w _ b hb) (λb hb=>by simp[E5,N1]at hb;omega) (λa2=>by
      have a3:∀l,Lv (A1 st.Qw) l->Lv (A1 (ins (nid d 0) (.cells [.reg j o1,.reg i q]) st.Qw)) l/\(if l=nid d 0 then (.pointer (some ⟨w.heap.size,0,none⟩))else rho l)=rho l:=by
       intro l hi;by_cases e:l=nid d 0
       .subst e;simp[Lv,m]at hi
       simp only[e,Ld,Lv,A3,Hj (BC5 e)];exact⟨hi,trivial⟩
      refine⟨w.heap.size,_,e,rfl,heap_alloc_new w _,rfl,λl hl=>?_⟩
      match l,hl with
      |0,_=>exact⟨hX.keeps a2 a3,by show (a.eval p1.2).oneCell' = true;rw[s];rfl⟩
      |1,_=>exact⟨hY.keeps a2 a3,by show (a.eval p2.2).oneCell' = true;rw[u];rfl⟩
      |l+2,hl=>exact Ij hl (by simp))
    exact⟨_,_,_,_,by simp[execOp,ho,a1],.inl rfl,g1,⟨g2,g3⟩,.rsl _ 2 w.heap.size (by simp[Lv,A3]) (by simp)⟩
   cases c
  cases c
 cases c
def Px {Qw:C5}:∀{l:List AV}{xs:List PV},Az1 l=some xs->Gk Qw l=some (xs,Qw)
 |[],_,h=>by cases h;rfl
 |a::r,xs,h=>by
  cases a with
  |p x=>
   simp only[Az1]at h;split at h
   .rename_i l hl;cases h;simp only[Gk,DO,Px hl]
   cases h
  |_=>simp[Az1]at h
def RO (h:Sat C st a w rho){t:TypeId}{n:Nat}{parts:Array (Nat×Operand)}(ho:o.op=.buildSlice t n parts){cc:List Prop}{x:PV}(r:RK P st.env o.op=some (cc,x))(hc:C6 cc):OpOk P C o st a w rho ⟨cc,.p x,st.Qw⟩:=by
 rw[ho]at r;simp only[RK]at r;split at r
 .rename_i e hk;split at r
  .rename_i l m z a7 a8 hz;have hv:=Px (Qw:=st.Qw) a7;split at r
   .rename_i a9;cases r;have b0:GR n m (parts.toList.map (·.1)) l=true:=hc;obtain⟨⟨hmax,b1⟩,g,a1⟩:=a9;have b2 : Gk st.Qw ((parts.toList.map (·.2)).map (aev st.env))=some (l,st.Qw):=by simpa[BH7,BE6]using hv
    obtain⟨h1,h2,h3,h4,h5⟩:=GU (parts.toList.map (·.2)) st l st.Qw h b2;obtain⟨i,v,hi,b3,rfl⟩:=Y9 hz;have b4:v.cells.size=m:=by simpa using g
    obtain⟨arr,d⟩:∃arr:Array Value,arr=(Array.range (n*m)).map ((if n*m=0 then #[]else v.cells)[· % (if n*m=0 then #[]else v.cells).size]!):=⟨_,rfl⟩;have a2:∀i' j,i' < n->j<m->arr.getD (i' * m+j) undef=v.cells.getD j undef:=by
     intro i' j c s;have y:=H3 c s;have f:¬(n*m=0):=by omega
     rw[d];simp only[f,Ld]
     have:(i' * m+j) % v.cells.size=j:=by rw[b4,BG9,BK0,BG3 s]
     simp[By2,y,this,show j<v.cells.size by omega]
    have b5:=Uy (w:=w) (Pi:=Prv C.X (A1 st.Qw) rho) (live:=λ_=>False) (rho:=rho) (t:=t) (i:=i) a1;obtain⟨c',a3,b6,a4,a0⟩:=KQ (w:=w) (Pi:=Prv C.X (A1 st.Qw) rho) (m:=m) (n:=n) (parts.toList.map λq=>(q.1,a.eval q.2)) l arr (λ_=>v.cells.toList.map MR) (by simpa using h3.symm)
     (by simpa[BH7,BE6]using b0) (λi x hx=>by
      rw[Bz1,BB6]at hx;obtain⟨q,hq,rfl⟩:=hx;exact h4 i q.2 (by rw[Bz1,hq];rfl)) (by rw[d];simp) (λi hi=>g) (λi' j c s=>by
      rw[a2 i' j c s]
      have:=b5 j (by simp;omega)
      refine⟨?_,this.2⟩;have h6:=this.1;simp only[By3,Bz1,BC9,BA8 (show j<v.cells.size by omega),Bz7,Bz4]at h6⊢;exact h6.toP)
    have b7:(parts.toList.map λq=>(q.1,a.eval q.2)).map (·.1)=parts.toList.map (·.1):=by simp[BH7,BE6]
    rw[b7]at a4 a0;have a5:(Instr.buildSlice t n (parts.map λq=>(q.1,a.eval q.2))).run P w=.ok (.slice (some ⟨w.heap.size,0,none⟩) n n) (w.alloc (.cells c' e)):=by
     have u:(parts.map λq=>(q.1,a.eval q.2)).toList=parts.toList.map λq=>(q.1,a.eval q.2):=by simp
     have hb:¬(n*m>2 ^ 24):=by omega
     simp only[Instr.buildSlice,BB2,Ag w (I0 hk),Bz9,Jx w a8,Hj hb,u];by_cases f:n*m=0
     .simp only[Gy f]at d;rw[Gy f];simp only[BB2,BC7,Bz9];rw[<- d,a3];simp[newRow]
     simp only[Hj f]at d;rw[Hj f];simp only[BB2,BC7,Bz9,AA0 w hi b3];rw[<- d,a3];simp[newRow]
    obtain⟨g1,g2⟩:=h.grow (w':=w.alloc (.cells c' e)) (by simp) (λb hb=>heap_alloc_old w _ b hb);have a6:∀off,¬Prv C.X (A1 st.Qw) rho w.heap.size off:=by
     rintro off (hX|⟨j',o',b8,b9,_⟩)
     .have:=h.hp.bound _ _ hX;omega
     have:=h.hp.lt ⟨j',o',b8,b9⟩;omega
    refine⟨_,_,w.alloc (.cells c' e),rho,by simp[execOp,ho,a5],.inl rfl,g1,g2,.p _ _ (.sl true w.heap.size 0 n m n _ (λi' j=>c'.getD (i' * m+j) undef) (Bz5 _) (λi' c=>by rw[<- Uz];exact a4 i' c) (λi' j c s=>?_) (λi' j c s=>?_) none λ_=>rfl)⟩
    .refine⟨?_,a6 _,?_⟩
     .have y:=H3 c s
      have:=cell_of_heap (heap_alloc_new w (.cells c' e)) (o:=i' * m+j) (by rw[b6];exact y)
      rw[BE1];exact this
     have:=(a0 i' j c s).2;exact this
    rw[<- Uz];exact (a0 i' j c s).1.keeps λb o v hp hc=>⟨by rw[<- hc];exact BC8 (heap_alloc_old w _ b (BF4 w ⟨b,o,none⟩ hc)),hp⟩
   cases r
  cases r
 cases r
def UA (h:Sat C st a w rho){t:TypeId}{l c:Operand}(ho:o.op=.makeSlice t l c){cc:List Prop}{x:PV}(q:RK P st.env o.op=some (cc,x))(hc:C6 cc):OpOk P C o st a w rho ⟨cc,.p x,st.Qw⟩:=by
 rw[ho]at q;simp only[RK]at q;split at q
 .rename_i e n m hk hn hm;split at q
  .rename_i k z y hz;split at q
   .rename_i hzl;cases q;obtain⟨h1,h2,h3,h4⟩:0<=n/\n<=m/\m*DZ P e<=140737488355328/\m<=140737488355328:=hc;obtain⟨kn,hkn⟩:=Cb (h.aev l) hn;obtain⟨km,hkm⟩:=Cb (h.aev c) hm;obtain⟨i,v,hi,hiz,rfl⟩:=Y9 hz;have hk' : i.size=k:=by obtain⟨i',d,hs'⟩:=OY y;rw[hi]at d;cases d;exact hs'
    have hvz:v.cells.size=k:=by simpa using hzl.1
    have hby:DZ P e=i.bytes:=by simp[DZ,Program.bytesOf,hi]
    rw[hby]at h3;have w64:∀x:Int,0<=x->x<=140737488355328->IntKind.i64.wrap x=x:=by intro x hx hx';have e1:x % (2 ^ 64:Int)=x:=BI9 hx (by omega);unfold IntKind.wrap;simp only[IntKind.bits,IntKind.signed,e1];rw[Hj];simp;omega
    have hrange:(i.bytes:Int)*m<=140737488355328:=by have e:m*(i.bytes:Int)=(i.bytes:Int)*m:=Int.mul_comm _ _;omega
    obtain⟨arr,g⟩:∃arr:Array Value,arr=(Array.range (m.toNat*k)).map ((if m.toNat*k=0 then #[]else v.cells)[· % (if m.toNat*k=0 then #[]else v.cells).size]!):=⟨_,rfl⟩;have hrun:(Instr.makeSlice t (a.eval l) (a.eval c)).run P w=.ok (.slice (some ⟨w.heap.size,0,none⟩) n.toNat m.toNat) (w.alloc (.cells arr e)):=by
     have b1:¬(m<0):=by omega
     have b2:¬(281474976710656<(i.bytes:Int)*m):=by omega
     have b3:¬(n<0):=by omega
     have b4:¬(m<n):=by omega
     rw[g];by_cases r:m.toNat*k=0
     .simp[Instr.makeSlice,Ag w (I0 hk),hkn,hkm,_root_.Go.asInt,asIntOf,Be0 w hi,w64 n h1 (by omega),w64 m (by omega) h4,b1,b2,b3,b4,Jx w y,r,newRow]
     simp[Instr.makeSlice,Ag w (I0 hk),hkn,hkm,_root_.Go.asInt,asIntOf,Be0 w hi,w64 n h1 (by omega),w64 m (by omega) h4,b1,b2,b3,b4,Jx w y,r,newRow,AA0 w hi hiz]
    have s:∀i' j,i' < n.toNat->j<k->arr.getD (i' * k+j) undef=v.cells.getD j undef:=by
     intro i' j d hj;have hlt:=H3 (show i' < m.toNat by omega) hj;have r:¬(m.toNat*k=0):=by omega
     rw[g];simp only[r,Ld]
     have:(i' * k+j) % v.cells.size=j:=by rw[hvz,BG9,BK0,BG3 hj]
     simp[By2,hlt,this,show j<v.cells.size by omega]
    obtain⟨g1,g2⟩:=h.grow (w':=w.alloc (.cells arr e)) (by simp) (λb hb=>heap_alloc_old w _ b hb);have hnew:∀off,¬Prv C.X (A1 st.Qw) rho w.heap.size off:=by
     rintro off (hX|⟨j',o',f,hbo,_⟩)
     .have:=h.hp.bound _ _ hX;omega
     have:=h.hp.lt ⟨j',o',f,hbo⟩;omega
    refine⟨_,_,w.alloc (.cells arr e),rho,by simp[execOp,ho,hrun],.inl rfl,g1,g2,.p _ _ (.sl true w.heap.size 0 m.toNat k n.toNat _ (λi' j=>arr.getD (i' * k+j) undef) (by omega) (λi' d=>by simpa using hvz) (λi' j d hj=>?_) (λi' j d hj=>?_) none λ_=>rfl)⟩
    .refine⟨?_,hnew _,?_⟩
     .have hlt:=H3 (show i' < m.toNat by omega) hj
      have:=cell_of_heap (heap_alloc_new w (.cells arr e)) (o:=i' * k+j) (by rw[g];simpa using hlt)
      rw[BE1];exact this
     rw[s i' j d hj];have f : j<v.cells.size:=by omega
     rw[show (v.cells.getD j undef)=v.cells[j] by simp[By2,f]];have u:=hzl.2;simp only[BI2,Bz2,Function.comp]at u;exact (K5 w (λ_ _=>False) _).cell (u _ (by simp))
    rw[s i' j d hj];have f : j<v.cells.size:=by omega
    rw[show (v.cells.getD j undef)=v.cells[j] by simp[By2,f]];simp only[By3,Bz1,BC9,BA8 f,Bz7,Bz4];exact K5 _ _ _
   cases q
  cases q
 cases q
def Ap4 (h:Sat C st a w rho){cc:List Prop}{x:PV}(b:RK P st.env o.op=some (cc,x))(hc:C6 cc):OpOk P C o st a w rho ⟨cc,.p x,st.Qw⟩:=by
 cases d:o.op with
 |buildSlice t n parts=>exact RO h d b hc
 |makeSlice t l c=>exact UA h d b hc
 |_=>rw[d]at b;simp[RK]at b
end
section
variable {P:Program}{C:Ctx}{st:St}{a:Act}{w:World}{rho:Nat->Value}{o:Oper}{out:Out}{d:Nat}
def UB {b:Bool}:∀(n:Nat) (t:TypeId) (ks:List TK),lay P n t=some ks->∀(vs:Array Value) (off D:Nat),n<=D->off+ks.length<=vs.size ->
 ∃x,(part t vs off).run P w=.ok x w/\(Instr.checkKey b D t x).run P w=.ok () w:=by
 intro n
 induction n with
 |zero=>intro t ks h;simp[lay]at h
 |succ n ih=>
  intro t ks hl vs off D z ha;obtain⟨D,rfl⟩:∃D',D=D' + 1:=⟨D-1,by omega⟩;cases hk:tk P t with
  |none=>
   have:P.underlying t=none:=by unfold tk at hk;cases j:P.underlying t<;>simp[j]at hk⊢
   simp[lay,this]at hl
  |some k=>
   by_cases hs:∀fs,k ≠ .struct fs
   .obtain⟨rfl,m⟩:=WV hk hl hs;simp only[BC3]at ha;refine⟨vs.getD off undef,?_,?_⟩
    .simp[part,H6 w hk,m,By2,show off<vs.size by omega]
    obtain⟨dd,j,rfl⟩:=AY hk;simp only[lay,j]at hl;cases dd<;>simp at hl<;>first
     |(simp[Instr.checkKey,Ag w j];done)
     |exact Ij rfl (hs _)
   obtain⟨fs,rfl⟩:∃fs,k=.struct fs:=BA5 λhn=>hs λfs e=>hn ⟨fs,e⟩;obtain⟨fa,d,_⟩:=Gq hk;simp only[lay,d]at hl;split at hl
   .rename_i l q;split at hl
    .rename_i r;cases hl;refine⟨.agg (vs.extract off (off+ks.length)),by simp[part,H6 w hk,Zh,Jx w r],?_⟩;generalize g : vs.extract off (off+ks.length)=vs';have i : vs'.size=0+ks.length:=by rw[<- g];simp;omega
     simp only[Instr.checkKey,BB2,Ag w d,Bz9];rw[<- Array.forIn_toList];have s:∀(fl:List Field) (o:Nat) (l:List TK),Bc5 (lay P n) fl o=some l->vs'.size=o+l.length ->
      (forIn fl PUnit.unit (λf _=>(do
       if f.name ≠ "_" then do
        Instr.checkKey b D f.type (<- part f.type vs' f.offset)
        pure (ForInStep.yield PUnit.unit)
       else pure (ForInStep.yield PUnit.unit):Sem (ForInStep PUnit)))).run P w=.ok PUnit.unit w:=by
      intro fl
      induction fl with
      |nil=>intro o l _ _;simp
      |cons f fl ihf=>
       intro o l h1 y;simp only[Bc5]at h1;split at h1
       .cases h1
       rename_i a;have a:f.offset=o:=BA5 a;split at h1
       .rename_i ka u;split at h1
        .rename_i kb v;cases h1;simp only[Bz6]at y;obtain⟨x,hx,hc⟩:=ih f.type ka u vs' o D (by omega) (by omega);have c:=ihf (o+ka.length) kb v (by omega);rw[List.forIn_cons];by_cases hn:f.name ≠ "_"
         .simp only[BB2,Gy hn,a,hx,hc,Bz9,BC7];exact c
         simp only[BB2,Hj hn,Bz9,BC7];exact c
        cases h1
       cases h1
     have:=s fa.toList 0 ks q i
     simp only[ne_eq]at this⊢
     first
      |exact this
      |(simp only[this];done)
      |(rw[this];rfl)
    cases hl
   cases hl
def Kb {b:Bool}{e:TypeId}{k:TK}(hk:tk P e=some k)(hb:Bn2 k=true)(hm:tsz P e=some 1){vs:Array Value}(D:Nat) :∀(m j:Nat),j+m<=vs.size->(forIn (List.range' j m) PUnit.unit (λi _=>(do
  Instr.checkKey b (D+1) e (<- part e vs (i*(<- sizeOf e)))
  pure (ForInStep.yield PUnit.unit):Sem (ForInStep PUnit)))).run P w=.ok PUnit.unit w
 |0,j,h=>by simp
 |m+1,j,h=>by
  have c:Zh k=false:=by cases k<;>first|rfl|cases hb
  have hx:(part e vs (j*1)).run P w=.ok (vs.getD j undef) w:=by simp[part,H6 w hk,c,By2,show j<vs.size by omega]
  have hc:(Instr.checkKey b (D+1) e (vs.getD j undef)).run P w=.ok () w:=by obtain⟨dd,d,rfl⟩:=AY hk;generalize D=D;cases dd<;>simp[WC,Bn2]at hb<;>simp[Instr.checkKey,Ag w d]
  have a:=Kb (vs:=vs) (b:=b) hk hb hm D m (j+1) (by omega);rw[List.range'_succ,List.forIn_cons];simp only[BB2,Jx w hm,hx,hc,Bz9,BC7];exact a
def KR {Pi:Nat->Nat->Prop}{b:Bool}{t:TypeId}{v:Value}{x:PV}(hk:Gn P t x=true)(f:Sd w Pi v x):(Instr.checkKey b 10000 t v).run P w=.ok () w:=by
 unfold Gn at hk;split at hk
 .rename_i fs ht;split at hk
  .rename_i ks cs hl;simp only[beq_iff_eq]at hk;cases f with
   |agg vs _ hs _ _=>
    obtain⟨y,hy,hc⟩:=UB (P:=P) (w:=w) (b:=b) 10 t ks hl vs 0 10000 (by omega) (by omega);have a:=hl;obtain⟨fa,c,_⟩:=Gq ht;simp only[lay,c]at a;split at a
    .split at a
     .rename_i d;cases a
      have:vs.extract 0 ks.length=vs:=by rw[<- hk,<- hs];simp
      have e1:(part t vs 0).run P w=.ok (.agg vs) w:=by simp[part,H6 w ht,Zh,Jx w d,this]
      rw[e1]at hy;cases hy;exact hc
     cases a
    cases a
  cases hk
 .rename_i n e ht;split at hk
  .rename_i ek cs g;simp only[By5,beq_iff_eq]at hk;obtain⟨⟨h1,i⟩,j⟩:=hk;cases f with
   |agg vs _ hs _ _=>
    have key:∀D,(Instr.checkKey b (D+1+1) t (.agg vs)).run P w=.ok () w:=by
     intro D
     have:=Kb (P:=P) (w:=w) (b:=b) g i j (vs:=vs) D n 0 (by omega)
     rw[Instr.checkKey];simp only[BB2,Ag w (LL ht),Bz9,Std.Legacy.Range.forIn_eq_forIn_range',Std.Legacy.Range.size,BR7,Nat.add_one_sub_one,Nat.div_one];rw[this];rfl
    exact key 9998
  cases hk
 .rename_i k l m ht;obtain⟨dd,o,rfl⟩:=AY ht;show (Instr.checkKey b (9999+1) t v).run P w=.ok () w;generalize 9999=D;cases dd<;>simp[WC,Bn2]at hk<;>simp[Instr.checkKey,Ag w o]
 cases hk
def EntL (w:World)(Pi:Nat->Nat->Prop)(Sg:List MapEntry)(es:List (PV×PV)):Prop:= Sg.length=es.length/\∀i,i<es.length->Sd w Pi (Sg.getD i default).key (es.getD i default).1/\Sd w Pi (Sg.getD i default).val (es.getD i default).2
def EntL.cons {Pi:Nat->Nat->Prop}{e:MapEntry}{Sg:List MapEntry}{p:PV×PV}{es:List (PV×PV)}(h:EntL w Pi (e::Sg) (p::es)):Sd w Pi e.key p.1/\Sd w Pi e.val p.2/\EntL w Pi Sg es:=
 ⟨by simpa using (h.2 0 (by simp)).1,by simpa using (h.2 0 (by simp)).2,by simpa using h.1,λi a=>by simpa using h.2 (i+1) (by simpa using a)⟩
def Tj {cmp:PV->PV->Option Bool}{k:PV}:∀{es:List (PV×PV)}{r:Option PV},find cmp k es=some r->∃q,Ft cmp k es=some q/\r=q.map λj=>(es.getD j default).2
 |[],r,h=>by simp only[find,By4]at h;subst h;exact⟨none,rfl,rfl⟩
 |(a,x)::es,r,h=>by
  simp only[find]at h;split at h
  .rename_i hc;cases h;exact⟨some 0,by simp[Ft,hc],by simp⟩
  .rename_i hc;obtain⟨q,h1,b⟩:=Tj h;refine⟨q.map (· + 1),by simp[Ft,hc,h1],?_⟩;rw[b];cases q<;>simp
  cases h
def WY {cmp:PV->PV->Option Bool}{k x:PV}:∀{es es' : List (PV×PV)},upd cmp k x es=some es' -> ∃q,Ft cmp k es=some q/\(q=none->es' = es++[(k,x)])/\∀j,q=some j->es' = es.set j (k,x)
 |[],es',h=>by simp only[upd,By4]at h;subst h;exact⟨none,rfl,λ_=>rfl,λj h=>by cases h⟩
 |(a,y)::es,es',h=>by
  simp only[upd]at h;split at h
  .rename_i hc;cases h;exact⟨some 0,by simp[Ft,hc],λh=>(by cases h),λj b=>by cases b;simp⟩
  .rename_i hc;rw[BB6]at h;obtain⟨e1,c,rfl⟩:=h;obtain⟨q,h1,d,f⟩:=WY c;refine⟨q.map (· + 1),by simp[Ft,hc,h1],λg=>?_,λj b=>?_⟩
   .cases q with
    |none=>rw[d rfl];rfl
    |some j=>simp at g
   cases q with
   |none=>simp at b
   |some j'=>simp at b;subst b;rw[f j' rfl];rfl
  cases h
def JA {cmp:PV->PV->Option Bool}{k:PV}:∀{es:List (PV×PV)}{j:Nat},Ft cmp k es=some (some j)->j<es.length/\cmp k (es.getD j default).1=some true
 |[],j,h=>by simp[Ft]at h
 |(a,y)::es,j,h=>by
  simp only[Ft]at h;split at h
  .rename_i hc;cases h;exact⟨by simp,by simpa using hc⟩
  .rename_i hc;rw[BB6]at h;obtain⟨q,h1,b⟩:=h;cases q with
   |none=>simp at b
   |some j'=>simp at b;subst b;obtain⟨c,d⟩:=JA h1;exact⟨by simpa using c,by simpa using d⟩
  cases h
def HL {Pi:Nat->Nat->Prop}{kt:TypeId}{k:Value}{x:PV}(hk:Sd w Pi k x)(hc:C6 (HI P kt)):∀(es:List (PV×PV)) (Sg:List MapEntry) (i:Nat) (r:Option Nat),EntL w Pi Sg es->Ft (Ic P kt) x es=some r ->
 (Instr.findAsking kt k Sg i).run P w=.ok (r.map λj=>(i+j,(Sg.getD j default).val)) w
 |[],Sg,i,r,he,hf=>by obtain rfl:Sg=[]:=BD5 (by simpa using he.1);simp only[Ft,By4]at hf;subst hf;simp[Instr.findAsking]
 |(a,b)::es,[],i,r,he,hf=>by simp[EntL]at he
 |(a,b)::es,e::Sg,i,r,he,hf=>by
  obtain⟨h1,l,d⟩:=he.cons;simp only[Ft]at hf;split at hf
  .rename_i c;cases hf
   have:=(MX hk h1 c hc).1
   simp[Instr.findAsking,this]
  .rename_i c
   have:=(MX hk h1 c hc).1
   rw[BB6]at hf;obtain⟨q,f,rfl⟩:=hf;have g:=HL hk hc es Sg (i+1) q d f;simp only[Instr.findAsking,BB2,this,Bz9,By9,Ld,g];cases q with
   |none=>rfl
   |some j=>simp;omega
  cases hf
def Py {Pi:Nat->Nat->Prop}{kt:TypeId}{dd:TypeDesc}(f:P.underlying kt=some dd){k e:Value}{x a:PV}(hk:Sd w Pi k x)(b:Sd w Pi e a){r q:Bool}(hc:Ic P kt x a=some r)(hs:Instr.sameNow dd k e=some q):q=r:=by
 have c:tk P kt=some (WC dd):=by simp[tk,f]
 unfold Ic at hc;rw[c]at hc;unfold Instr.sameNow at hs;split at hs
 .simp only[WC]at hc;cases hk;cases b;simp only[Zm]at hc;split at hs
  .rename_i d;rw[Gy d]at hc;cases hs;cases hc;rfl
  cases hs
 .simp only[WC]at hc;cases hk with
  |v=>simp[Zm]at hc
  |str l=>
   cases b with
   |v=>simp[Zm]at hc
   |str m=>simp only[Zm,By4]at hc;simp only[By4]at hs;rw[<- hs,<- hc,beq_toListBytes];simp
 .simp only[WC]at hc;cases hk<;>cases b<;>simp only[Zm,WD,By4]at hc hs<;>exact hs.symm.trans hc
 cases hs
def LP {Pi:Nat->Nat->Prop}{kt:TypeId}{dd:TypeDesc}(d:P.underlying kt=some dd){k:Value}{x:PV}(hk:Sd w Pi k x):∀(es:List (PV×PV)) (Sg:List MapEntry) (i:Nat) (r:Option Nat) (q:Option (Nat×Value)),EntL w Pi Sg es->Ft (Ic P kt) x es=some r ->
 Instr.findNow dd k Sg i=some q->q=r.map λj=>(i+j,(Sg.getD j default).val)
 |[],Sg,i,r,q,he,hf,hn=>by obtain rfl:Sg=[]:=BD5 (by simpa using he.1);simp only[Ft,By4]at hf;simp only[Instr.findNow,By4]at hn;subst hf;subst hn;rfl
 |(a,b)::es,[],i,r,q,he,hf,hn=>by simp[EntL]at he
 |(a,b)::es,e::Sg,i,r,q,he,hf,hn=>by
  obtain⟨h1,l,g⟩:=he.cons;simp only[Ft]at hf;simp only[Instr.findNow]at hn;split at hn
  .rename_i hs;cases hn;split at hf
   .cases hf;simp
   .rename_i c
    have:=Py d hk h1 c hs;cases this
   cases hf
  .rename_i hs;split at hf
   .rename_i c
    have:=Py d hk h1 c hs;cases this
   .rw[BB6]at hf;obtain⟨r',f,rfl⟩:=hf
    have:=LP d hk es Sg (i+1) r' q g f hn
    rw[this];cases r' with
    |none=>rfl
    |some j=>simp;omega
   cases hf
  cases hn
def GV {Pi:Nat->Nat->Prop}{kt:TypeId}{k:Value}{x:PV}(hk:Sd w Pi k x)(b:Gn P kt x=true)(hc:C6 (HI P kt)){es:List (PV×PV)}{Sg:List MapEntry}{r:Option Nat}(c:EntL w Pi Sg es)(d:Ft (Ic P kt) x es=some r) :(Instr.findKey kt k Sg).run P w=.ok (r.map λj=>(j,(Sg.getD j default).val)) w:=by
 have a:∃dd,P.underlying kt=some dd:=by
  unfold Gn at b;split at b
  .rename_i ht;obtain⟨dd,a,_⟩:=AY ht;exact⟨dd,a⟩
  .rename_i ht;obtain⟨dd,a,_⟩:=AY ht;exact⟨dd,a⟩
  .rename_i ht;obtain⟨dd,a,_⟩:=AY ht;exact⟨dd,a⟩
  cases b
 obtain⟨dd,a⟩:=a;cases hn:Instr.findNow dd k Sg 0 with
 |some q=>
  have:=LP a hk es Sg 0 r q c d hn
  rw[this]at hn;simp[Instr.findKey,Ag w a,hn]
 |none=>
  have:=HL hk hc es Sg 0 r c d
  simp[Instr.findKey,Ag w a,hn,this]
def WZ {Pi:Nat->Nat->Prop}{v:Value}{x:PV}{b:Bool}(h:Sd w Pi v x)(hb:WD x=some b):v=.bool b:=by
 unfold WD at hb;split at hb
 .cases hb;cases h;rfl
 .cases hb;cases h;rfl
 cases hb
def ZC {Pi:Nat->Nat->Prop}{k:TK}{v u:Value}{x y:PV}(d:Sd w Pi v x)(f:Sd w Pi u y)(c:Zm k x y=some true):v=u/\∀n,Instr.sameBits n v u=true:=by
 unfold Zm at c;split at c
 .split at c
  .rename_i g;subst g;cases d;cases f;simp only[By4,beq_iff_eq]at c;subst c;exact⟨rfl,λn=>by cases n<;>simp[Instr.sameBits]⟩
  cases c
 .split at c
  .rename_i a b h1 i;simp only[By4,beq_iff_eq]at c;subst c;have e1:=WZ d h1;have e2:=WZ f i;subst e1;subst e2;exact⟨rfl,λn=>by cases n<;>simp[Instr.sameBits]⟩
  cases c
 .cases d with
  |str l=>
   cases f with
   |str m=>simp only[By4,beq_iff_eq]at c;subst c;exact⟨rfl,λn=>by cases n<;>(simp only[Instr.sameBits];rw[beq_toListBytes];simp)⟩
 cases c
def Ai5 {Pi:Nat->Nat->Prop}:∀{ks:List TK}{xs ys:List PV}(f g:Nat->Value),(∀i,i<xs.length->Sd w Pi (f i) (xs.getD i default))->(∀i,i<ys.length->Sd w Pi (g i) (ys.getD i default))->Ab ks xs ys=some true ->
 xs.length=ys.length/\∀i,i<xs.length->f i=g i/\∀n,Instr.sameBits n (f i) (g i)=true
 |ks,[],ys,f,g,hf,hg,he=>by cases ks<;>cases ys<;>simp[Ab]at he⊢
 |[],x::xs,ys,f,g,hf,hg,he=>by simp[Ab]at he
 |k::ks,x::xs,[],f,g,hf,hg,he=>by simp[Ab]at he
 |k::ks,x::xs,y::ys,f,g,hf,hg,he=>by
  have hx:Sd w Pi (f 0) x:=by simpa using hf 0 (by simp)
  have hy:Sd w Pi (g 0) y:=by simpa using hg 0 (by simp)
  simp only[Ab]at he;split at he
  .split at he
   .obtain⟨h1,b⟩:=ZC hx hy he;refine⟨rfl,λi a=>?_⟩;simp only[BC3]at a;obtain rfl:i=0:=by omega
    exact⟨h1,b⟩
   cases he
  split at he
  .rename_i p q hp c;simp only[By4,By5]at he;obtain⟨rfl,rfl⟩:=he;obtain⟨h1,b⟩:=ZC hx hy hp;obtain⟨d,j⟩:=Ai5 (λi=>f (i+1)) (λi=>g (i+1)) (λi a=>by simpa using hf (i+1) (by simpa using a)) (λi a=>by simpa using hg (i+1) (by simpa using a)) c;refine⟨by simpa using d,λi a=>?_⟩;cases i with
   |zero=>exact⟨h1,b⟩
   |succ i=>exact j i (by simpa using a)
  cases he
def AY7 {Pi:Nat->Nat->Prop}{vs us:Array Value}{xs ys:List PV}{ks:List TK}(hs:vs.size=xs.length)(f:∀i,i<xs.length->Sd w Pi (vs.getD i undef) (xs.getD i default))(g : us.size=ys.length)(b : ∀i,i<ys.length->Sd w Pi (us.getD i undef) (ys.getD i default))(j:Ab ks xs ys=some true) :Value.agg vs=.agg us/\Instr.sameBits 10000 (.agg vs) (.agg us)=true:=by
 obtain⟨h1,d⟩:=Ai5 (λi=>vs.getD i undef) (λi=>us.getD i undef) f b j;have e:vs=us:=by
  refine Array.ext (by omega) λi c a=>?_
  have:=(d i (by omega)).1
  simpa[By2,c,a]using this
 subst e;refine⟨rfl,?_⟩
 have:∀n,Instr.sameBits (n+1) (.agg vs) (.agg vs)=true:=by
  intro n;simp only[Instr.sameBits,BEq.rfl,BK5,Bz2];intro p hp;obtain⟨i,c,rfl⟩:=BI6.1 hp;have a : i<vs.size:=by simpa using c
  have:=(d i (by omega)).2 n
  simpa[By2,a]using this
 exact this 9999
def AB1 {Pi:Nat->Nat->Prop}{t:TypeId}{v u:Value}{x y:PV}(b:Sd w Pi v x)(c:Sd w Pi u y)(a:Ic P t x y=some true):v=u/\Instr.sameBits 10000 v u=true:=by
 unfold Ic at a;split at a
 .split at a
  .rename_i ks xs ys hl;cases b with
   |agg vs _ hs _ hr=>
    cases c with
    |agg us _ hs' _ hr'=>exact AY7 hs hr hs' hr' a
  cases a
 .unfold WF at a;split at a
  .split at a
   .split at a
    .cases b with
     |agg vs _ hs _ hr=>
      cases c with
      |agg us _ hs' _ hr'=>exact AY7 hs hr hs' hr' a
    cases a
   cases a
  cases a
 .obtain⟨h1,d⟩:=ZC b c a;exact⟨h1,d _⟩
 cases a
end
section
variable {P:Program}{C:Ctx}{st:St}{a:Act}{w:World}{rho:Nat->Value}{o:Oper}{out:Out}{d:Nat}
def NH {Pi:Nat->Nat->Prop}{e:TypeId}{z:PV}(b:HJ P e=some z):∃v,(zeroValue e).run P w=.ok v w/\Sd w Pi v z:=by
 unfold HJ at b;split at b
 .rename_i v g;rw[BJ4]at g;obtain⟨i,d,f⟩:=g;refine⟨v,AA0 w d f,?_⟩;split at b
  .rename_i cs;split at b
   .rename_i c;cases b;simp only[BI2,Bz2,Function.comp]at c;refine .agg cs _ (by simp) (λi d=>?_) λi d=>?_
    .have a : i<cs.size:=by simpa using d
     have:cs.getD i undef=cs[i]:=by simp[By2,a]
     rw[this];exact (K5 w Pi _).cell (c _ (by simp))
    have a : i<cs.size:=by simpa using d
    have:cs.getD i undef=cs[i]:=by simp[By2,a]
    rw[this];have e:(cs.toList.map MR).getD i default=MR cs[i]:=by simp[a]
    rw[e];exact K5 w Pi _
   cases b
  cases b;exact K5 w Pi _
 cases b
def Xa {Sg:Array MapEntry}{clock:Nat}{e:MapEntry}(hc:clock=Sg.size)(hb:∀i,i<Sg.size->(Sg.getD i default).born=i)(a:e.born=clock) :clock+1=(Sg.push e).size/\∀i,i<(Sg.push e).size->((Sg.push e).getD i default).born=i:=by
 refine⟨by simp[hc],λi b=>?_⟩;simp only[Array.size_push]at b;by_cases h:i<Sg.size
 .have:=hb i h
  simpa[By2,BJ5,show i≠Sg.size by omega]using this
 obtain rfl:i=Sg.size:=by omega
 simp[By2,a,hc]
def KS {Sg:Array MapEntry}{clock j:Nat}{f:MapEntry->MapEntry}(hc:clock=Sg.size)(hb:∀i,i<Sg.size->(Sg.getD i default).born=i)(b:∀e,(f e).born=e.born) :clock=(Sg.modify j f).size/\∀i,i<(Sg.modify j f).size->((Sg.modify j f).getD i default).born=i:=by
 refine⟨by simp[hc],λi a=>?_⟩;simp only[Array.size_modify]at a
 have:=hb i a
 by_cases h:j=i
 .subst h;simp[By2,a,BK6,b]at this⊢;exact this
 simpa[By2,BF0,h]using this
def AB2 (h:Sat C st a w rho){t:TypeId}{m k:Operand}{ok:Bool}(ho:o.op=.lookup t m k ok)(he:aop P st.env st.Qw d o.op=some out)(hc:C6 out.cond):OpOk P C o st a w rho out:=by
 rw[ho]at he;simp only[aop]at he;split at he
 .rename_i x R' hv;split at he
  .rename_i c y hl;cases he;obtain⟨h1,h2,h3⟩:=Ez h (h.aev k) hv;have hm:=h3.av (h.aev m);unfold EG at hl;split at hl
   .rename_i kt e ht;have fin:∀(Sg:Array MapEntry) (es:List (PV×PV)) (r:Option PV),((a.eval m=.map none/\Sg = #[]) \/ ∃r clock,a.eval m=.map (some r)/\w.heap[r]? = some (.map Sg clock))->EntL w (Prv C.X (A1 R') rho) Sg.toList es->Gn P kt x=true->find (Ic P kt) x es=some r ->
     (match (some r:Option (Option PV))with
      |some (some x)=>some (HI P kt,if ok then AV.tup [.p x,.bool true]else .p x)
      |some none=>match HJ P e with
       |some z=>some (HI P kt,if ok then AV.tup [.p z,.bool false]else .p z)
       |none=>none
      |none=>none)=some (c,y)->OpOk P C o st a w rho ⟨c,y,R'⟩:=by
     intro Sg es r hget a0 a1 hf hres;have hcc:C6 (HI P kt):=by
      cases r with
      |some x=>simp only[By4,Bz3]at hres;rw[hres.1];exact hc
      |none=>
       simp only at hres;split at hres
       .simp only[By4,Bz3]at hres;rw[hres.1];exact hc
       cases hres
     obtain⟨q,hq,u⟩:=Tj hf;have hfk:=GV h2 a1 hcc a0 hq;have hck:=KR (b:=Sg.isEmpty) a1 h2;have last:∀(v:Value) (b:Bool) (z:PV),Sd w (Prv C.X (A1 R') rho) v z->(Instr.lookup t (a.eval m) (a.eval k) ok).run P w=.ok (if ok then .tuple #[v,.bool b]else v) w->y=(if ok then AV.tup [.p z,.bool b]else .p z)->OpOk P C o st a w rho ⟨c,y,R'⟩:=by
      intro v b z hv hr hy;refine⟨_,_,w,rho,by simp[execOp,ho,hr];rfl,.inl rfl,h1,h3,?_⟩;rw[hy];cases ok
      .exact .p _ _ hv
      refine .tup _ _ rfl λi hi=>?_;simp only[BA2,BE4]at hi
      match i,hi with
      |0,_=>exact .p _ _ hv
      |1,_=>exact .p _ _ (.bb b)
     have hrun:∀(v:Value) (b:Bool),(q.map λj=>(j,(Sg.toList.getD j default).val))=(if b then some (q.getD 0,v)else none)->(b=false->(zeroValue e).run P w=.ok v w)->(Instr.lookup t (a.eval m) (a.eval k) ok).run P w=.ok (if ok then .tuple #[v,.bool b]else v) w:=by
      intro v b hqb hz;unfold Instr.lookup;rcases hget with⟨hm',rfl⟩ | ⟨r,clock,hm',hheap⟩
      .simp only[BB2,Ag w (LK ht),Bz9,hm',BC7,hck,hfk,hqb];cases b
       .simp[hz rfl]
       simp
      have hg:(getObj r).run P w=.ok (.map Sg clock) w:=by simp[getObj,Sem.run,hheap]
      simp only[BB2,Ag w (LK ht),Bz9,hm',hg,BC7,hck,hfk,hqb];cases b
      .simp[hz rfl]
      simp
     cases q with
     |none=>
      simp only[BL5]at u;subst u;simp only at hres;split at hres
      .rename_i z hz;simp only[By4,Bz3]at hres;obtain⟨v,hv1,hv2⟩:=NH (w:=w) (Pi:=Prv C.X (A1 R') rho) hz;exact last v false z hv2 (hrun v false rfl λ_=>hv1) hres.2.symm
      cases hres
     |some j=>simp only[Bz7]at u;subst u;simp only[By4,Bz3]at hres;obtain⟨hj,_⟩:=JA hq;exact last _ true _ (a0.2 j hj).2 (hrun _ true rfl (λh=>by cases h)) hres.2.symm
    split at hl
    .rename_i x' f;split at f
     .cases f
     .rename_i j l n;split at f
      .rename_i es hj;rw[n]at hm;have hh:=h1.hp.holds j _ hj;obtain⟨b,Sg,clock,hr,hb,hs,s,hclk,hborn⟩:=hh;have hmv:a.eval m=.map (some b):=by
        generalize a.eval m=mv at hm;cases hm with
        |Se _ r hl' hr'=>rw[hr]at hr';cases hr';rfl
       exact fin Sg es (some x') (.inr ⟨b,clock,hmv,hb⟩) ⟨by simpa using hs,λi hi=>by simpa using s i hi⟩ l f hl
      cases f
     cases f
    .rename_i g;split at g
     .rename_i l n;rw[n]at hm;exact fin #[] [] none (.inl ⟨hm.toP.toV,rfl⟩) ⟨rfl,λi hi=>Ij hi (by simp)⟩ l rfl hl
     .rename_i j l n;split at g
      .rename_i es hj;rw[n]at hm;have hh:=h1.hp.holds j _ hj;obtain⟨b,Sg,clock,hr,hb,hs,s,hclk,hborn⟩:=hh;have hmv:a.eval m=.map (some b):=by
        generalize a.eval m=mv at hm;cases hm with
        |Se _ r hl' hr'=>rw[hr]at hr';cases hr';rfl
       exact fin Sg es none (.inr ⟨b,clock,hmv,hb⟩) ⟨by simpa using hs,λi hi=>by simpa using s i hi⟩ l g hl
      cases g
     cases g
    cases hl
   cases hl
  cases he
 cases he
def NI (h:Sat C st a w rho){t:TypeId}{m k x:Operand}(ho:o.op=.mapUpdate t m k x)(g:aop P st.env st.Qw d o.op=some out)(hc:C6 out.cond):OpOk P C o st a w rho out:=by
 rw[ho]at g;simp only[aop]at g;split at g
 .rename_i kt e j kp ht hm0 hk0;split at g
  .rename_i y R' hv;split at g
   .rename_i es hj;split at g
    .rename_i es' a3 a4;cases g;have a5:=h.aev k;rw[hk0]at a5;obtain⟨h1,h2,h3⟩:=Ez h (h.aev x) hv;have hm:=h3.av (h.aev m);rw[hm0]at hm;have c:=(h3.p a5.toP).nP;obtain⟨b,Sg,clock,hr,hb,hs,f,a0,l⟩:=h1.hp.holds j _ hj;have a6:a.eval m=.map (some b):=by
      generalize a.eval m=mv at hm;cases hm with
      |Se _ r hl' hr'=>rw[hr]at hr';cases hr';rfl
     obtain⟨q,hq,hqn,hqs⟩:=WY a4;have a7:EntL w (Prv C.X (A1 R') rho) Sg.toList es:=⟨by simpa using hs,λi u=>by simpa using f i u⟩;have a8:=GV c a3 hc a7 hq;have a9:=KR (b:=false) a3 c;have hg:(getObj b).run P w=.ok (.map Sg clock) w:=by simp[getObj,Sem.run,hb]
     have hlt:b<w.heap.size:=(Bz0.1 hb).1;have a1:∀ob:Go.Obj,(setObj b ob).run P w=.ok () { w with heap:=w.heap.setIfInBounds b ob }:=λob=>by simp[setObj,Sem.run,hb]
     obtain⟨ents',clock',b0,b1,b2,n⟩:∃(ents' : Array MapEntry) (clock' : Nat),(Instr.mapUpdate t (a.eval m) (a.eval k) (a.eval x)).run P w=.ok () { w with heap:=w.heap.setIfInBounds b (.map ents' clock') }/\(clock' = ents'.size/\∀i,i<ents'.size->(ents'.getD i default).born=i)/\ents'.size=es'.length /\
      ∀i,i<es'.length->Sd w (Prv C.X (A1 R') rho) (ents'.getD i default).key (es'.getD i default).1/\Sd w (Prv C.X (A1 R') rho) (ents'.getD i default).val (es'.getD i default).2:=by
      cases q with
      |none=>
       have e:=hqn rfl;subst e;refine⟨Sg.push { key:=a.eval k,val:=a.eval x,born:=clock },clock+1,?_,Xa a0 l rfl,by simp[hs],λi u=>?_⟩
       .unfold Instr.mapUpdate;simp only[BB2,Ag w (LK ht),Bz9,a6,hg,a9,a8,BL5,a1]
       simp only[Bz6,BC3]at u;by_cases b3 : i<es.length
       .have:=f i b3
        simpa[By2,BJ5,show i≠Sg.size by omega,BD8 b3]using this
       obtain rfl:i=es.length:=by omega
       have h4:(Sg.push { key:=a.eval k,val:=a.eval x,born:=clock }).getD es.length default={ key:=a.eval k,val:=a.eval x,born:=clock }:=by simp[By2,<- hs]
       rw[h4];simp only[By3,BM9,Bz4];exact⟨c,h2⟩
      |some j'=>
       have e:=hqs j' rfl;subst e;obtain⟨hj',hcmp⟩:=JA hq;have hjs:j' < Sg.size:=by omega
       obtain⟨heq,s⟩:=AB1 c (f j' hj').1 hcmp;have hold:(((Sg[j']?).map (·.key)).getD (a.eval k))=(Sg.getD j' default).key:=by simp[By2,hjs]
       refine⟨Sg.modify j' λe=>{ e with key:=a.eval k,val:=a.eval x },clock,?_,KS a0 l λ_=>rfl,by simp[hs],λi u=>?_⟩
       .unfold Instr.mapUpdate;have hks:Instr.keyThatStays (((Sg[j']?).map (·.key)).getD (a.eval k)) (a.eval k)=(pure (a.eval k):Sem Value):=by rw[hold,<- heq];unfold Instr.keyThatStays;rw[<- heq]at s;rw[Gy s]
        simp only[BB2,Ag w (LK ht),Bz9,a6,hg,a9,a8,Bz7,hks,BC7,a1]
       simp only[BP6]at u;by_cases a2:i=j'
       .subst a2;have h4:((Sg.modify i λe=>{ e with key:=a.eval k,val:=a.eval x }).getD i default)={ (Sg[i])with key:=a.eval k,val:=a.eval x }:=by simp[By2,hjs,BK6]
        rw[h4];simp only[By3,BM0 u,Bz4];exact⟨c,h2⟩
       have h4:((Sg.modify j' λe=>{ e with key:=a.eval k,val:=a.eval x }).getD i default)=Sg.getD i default:=by simp[By2,BF0,BC5 a2]
       rw[h4]
       have:=f i u
       simpa[BM6 (BC5 a2)]using this
     obtain⟨g1,g2,g3⟩:=h1.modify (o:=.map es) (ob:=.map es') hj (b:=b) (by simp[E5,N1,hr]) (λ_=>trivial) (λb' z=>by simp[E5,N1,hr]at z;exact z.symm)
      (w':={ w with heap:=w.heap.setIfInBounds b (.map ents' clock') }) (by simp) (λb' z=>by simp[BG7 (BC5 z)])
      (λhk'=>⟨b,ents',clock',hr,by simp[hlt],b2,λi u=>⟨(n i u).1.keeps hk',(n i u).2.keeps hk'⟩,b1⟩)
     exact⟨_,undef,_,_,by simp[execOp,ho,b0],.inr ⟨rfl,rfl⟩,g1,h3.trans ⟨g2,g3⟩,.p _ _ (.v _)⟩
    cases g
   cases g
  cases g
 cases g
def Ap5 {Sg:Array MapEntry}(hb:∀i,i<Sg.size->(Sg.getD i default).born=i){n:Nat}(hn:n<Sg.size):Sg.findIdx? (λe=>(e.born:Int)==(n:Int))=some n:=by
 rw[Array.findIdx?_eq_some_iff_getElem];refine⟨hn,?_,λj a=>?_⟩
 .have:=hb n hn
  simp[By2,hn]at this;simp[this]
 have:=hb j (by omega)
 simp[By2,show j<Sg.size by omega]at this;simp[this];omega
def ZD (h:Sat C st a w rho){t:TypeId}{m k:Operand}(ho:o.op=.mapEntry t m k)(he:aop P st.env st.Qw d o.op=some out)(hc:C6 out.cond):OpOk P C o st a w rho out:=by
 rw[ho]at he;simp only[aop]at he;split at he
 .rename_i kt e j kp ht hm0 hk0;split at he
  .rename_i es z hj hz;split at he
   .rename_i q hko hq;cases he;have hkr:=h.aev k;rw[hk0]at hkr;have hm:=h.aev m;rw[hm0]at hm;have f:=hkr.toP.nP;obtain⟨b,Sg,clock,hr,hb,hs,c,s,g⟩:=h.hp.holds j _ hj;have hmv:a.eval m=.map (some b):=by
     generalize a.eval m=mv at hm;cases hm with
     |Se _ r hl' hr'=>rw[hr]at hr';cases hr';rfl
    have hent:EntL w (Prv C.X (A1 st.Qw) rho) Sg.toList es:=⟨by simpa using hs,λi l=>by simpa using c i l⟩;have hfk:=GV f hko hc hent hq;have hck:=KR (b:=false) hko f;have hg:(getObj b).run P w=.ok (.map Sg clock) w:=by simp[getObj,Sem.run,hb]
    have hlt:b<w.heap.size:=(Bz0.1 hb).1;have hset:∀ob:Go.Obj,(setObj b ob).run P w=.ok () { w with heap:=w.heap.setIfInBounds b ob }:=λob=>by simp[setObj,Sem.run,hb]
    obtain⟨zv,hzr,hzp⟩:=NH (w:=w) (Pi:=Prv C.X (A1 st.Qw) rho) hz;obtain⟨ents',clock',old,hrun,hcb',hold',hsz',u⟩:∃(ents' : Array MapEntry) (clock' : Nat) (old:Value),(Instr.mapEntry t (a.eval m) (a.eval k)).run P w=.ok (.tuple #[old,.int .i64 ((ent (nP kp) z es q).1:Nat)]) { w with heap:=w.heap.setIfInBounds b (.map ents' clock') }/\(clock' = ents'.size/\∀i,i<ents'.size->(ents'.getD i default).born=i) /\
     Sd w (Prv C.X (A1 st.Qw) rho) old (ent (nP kp) z es q).2.1/\ents'.size=(ent (nP kp) z es q).2.2.length /\
     ∀i,i<(ent (nP kp) z es q).2.2.length->Sd w (Prv C.X (A1 st.Qw) rho) (ents'.getD i default).key ((ent (nP kp) z es q).2.2.getD i default).1/\Sd w (Prv C.X (A1 st.Qw) rho) (ents'.getD i default).val ((ent (nP kp) z es q).2.2.getD i default).2:=by
     cases q with
     |none=>
      refine⟨Sg.push { key:=a.eval k,val:=zv,born:=clock },clock+1,zv,?_,Xa s g rfl,hzp,by simp[ent,hs],λi l=>?_⟩
      .unfold Instr.mapEntry;simp only[BB2,Ag w (LK ht),Bz9,hmv,hg,hck,hfk,BL5,hset,hzr,BC7,goInt,ent,s,hs]
      simp only[ent,Bz6,BC3]at l;by_cases hi' : i<es.length
      .have:=c i hi'
       simpa[ent,By2,BJ5,show i≠Sg.size by omega,BD8 hi']using this
      obtain rfl:i=es.length:=by omega
      have h4:(Sg.push { key:=a.eval k,val:=zv,born:=clock }).getD es.length default={ key:=a.eval k,val:=zv,born:=clock }:=by simp[By2,<- hs]
      rw[h4];simp only[ent,By3,BM9,Bz4];exact⟨f,hzp⟩
     |some j'=>
      obtain⟨hj',hcmp⟩:=JA hq;have n:j' < Sg.size:=by omega
      obtain⟨heq,y⟩:=AB1 f (c j' hj').1 hcmp;have hold:(((Sg[j']?).map (·.key)).getD (a.eval k))=(Sg.getD j' default).key:=by simp[By2,n]
      have hbj:((Sg[j']?).map λx=>((x.born:Nat):Int)).getD 0=(j' : Int):=by
       have:=g j' n
       simp[By2,n]at this;simp[n,this]
      have hval:Sg.toList.getD j' default=Sg.getD j' default:=by simp[By2,By3]
      refine⟨Sg.modify j' λe=>{ e with key:=a.eval k },clock,(Sg.getD j' default).val,?_,KS s g λ_=>rfl,(c j' hj').2,by simp[ent,hs],λi l=>?_⟩
      .unfold Instr.mapEntry;have hks:Instr.keyThatStays (((Sg[j']?).map (·.key)).getD (a.eval k)) (a.eval k)=(pure (a.eval k):Sem Value):=by rw[hold,<- heq];unfold Instr.keyThatStays;rw[<- heq]at y;rw[Gy y]
       simp only[BB2,Ag w (LK ht),Bz9,hmv,hg,hck,hfk,Bz7,hks,BC7,hset,goInt,ent,hbj,hval]
      simp only[ent,BP6]at l;by_cases hij:i=j'
      .subst hij;have h4:((Sg.modify i λe=>{ e with key:=a.eval k }).getD i default)={ (Sg[i])with key:=a.eval k }:=by simp[By2,n,BK6]
       have h5:(Sg[i]).val=(Sg.getD i default).val:=by simp[By2,n]
       rw[h4];simp only[ent,By3,BM0 l,Bz4];refine⟨f, ?_⟩;rw[h5];simpa using (c i l).2
      have h4:((Sg.modify j' λe=>{ e with key:=a.eval k }).getD i default)=Sg.getD i default:=by simp[By2,BF0,BC5 hij]
      rw[h4]
      have:=c i l
      simpa[ent,BM6 (BC5 hij)]using this
    obtain⟨g1,g2,g3⟩:=h.modify (o:=.map es) (ob:=.map (ent (nP kp) z es q).2.2) hj (b:=b) (by simp[E5,N1,hr]) (λ_=>trivial) (λb' hb'=>by simp[E5,N1,hr]at hb';exact hb'.symm)
     (w':={ w with heap:=w.heap.setIfInBounds b (.map ents' clock') }) (by simp) (λb' hb'=>by simp[BG7 (BC5 hb')])
     (λhk'=>⟨b,ents',clock',hr,by simp[hlt],hsz',λi l=>⟨(u i l).1.keeps hk',(u i l).2.keeps hk'⟩,hcb'⟩)
    refine⟨_,_,_,_,by simp[execOp,ho,hrun];rfl,.inl rfl,g1,⟨g2,g3⟩,.tup _ _ rfl λi l=>?_⟩;simp only[BA2,BE4]at l
    match i,l with
    |0,_=>exact .p _ _ (hold'.keeps g2)
    |1,_=>exact .p _ _ (.v _)
   cases he
  cases he
 cases he
def UC (h:Sat C st a w rho){t:TypeId}{m s x:Operand}(ho:o.op=.entryStore t m s x)(q:aop P st.env st.Qw d o.op=some out)(hc:C6 out.cond):OpOk P C o st a w rho out:=by
 rw[ho]at q;simp only[aop]at q;split at q
 .rename_i j sv y R' hm0 hs0 hv;split at q
  .rename_i es hj;cases q;have hsr:=h.aev s;obtain⟨h1,h2,h3⟩:=Ez h (h.aev x) hv;have hm:=h3.av (h.aev m);rw[hm0]at hm;obtain⟨b,Sg,clock,hr,hb,hs,l,a1,c⟩:=h1.hp.holds j _ hj;have hmv:a.eval m=.map (some b):=by
    generalize a.eval m=mv at hm;cases hm with
    |Se _ r hl' hr'=>rw[hr]at hr';cases hr';rfl
   have hg:(getObj b).run P w=.ok (.map Sg clock) w:=by simp[getObj,Sem.run,hb]
   have hlt:b<w.heap.size:=(Bz0.1 hb).1;have a2:∀ob:Go.Obj,(setObj b ob).run P w=.ok () { w with heap:=w.heap.setIfInBounds b ob }:=λob=>by simp[setObj,Sem.run,hb]
   have hc:0<=sv/\sv<(es.length:Int):=hc;obtain⟨c1,c2⟩:=hc;obtain⟨n,rfl⟩:∃n:Nat,sv=(n:Int):=⟨sv.toNat,by omega⟩;have hn:n<es.length:=by omega
   have u : n<Sg.size:=by omega
   have hjx:=Ap5 c u;have a3:(Instr.entryStore t (a.eval m) (a.eval s) (a.eval x)).run P w=.ok () { w with heap:=w.heap.setIfInBounds b (.map (Sg.modify n λe=>{ e with val:=a.eval x }) clock) }:=by obtain⟨kk,hkk⟩:=Cb hsr hs0;unfold Instr.entryStore;simp only[BB2,Bz9,hmv,hg,hkk,Go.asInt,asIntOf,BC7,hjx,a2]
   have hst:(Bc7 es (n:Int).toNat y)=es.set n ((es.getD n default).1,y):=by simp[Bc7]
   rw[hst];have f : ∀i,i<(es.set n ((es.getD n default).1,y)).length->Sd w (Prv C.X (A1 R') rho) ((Sg.modify n λe=>{ e with val:=a.eval x }).getD i default).key ((es.set n ((es.getD n default).1,y)).getD i default).1/\Sd w (Prv C.X (A1 R') rho) ((Sg.modify n λe=>{ e with val:=a.eval x }).getD i default).val ((es.set n ((es.getD n default).1,y)).getD i default).2:=by
    intro i z;simp only[BP6]at z;by_cases a0:i=n
    .subst a0;have h4:((Sg.modify i λe=>{ e with val:=a.eval x }).getD i default)={ (Sg[i])with val:=a.eval x }:=by simp[By2,u,BK6]
     have h5:(Sg[i]).key=(Sg.getD i default).key:=by simp[By2,u]
     rw[h4];simp only[By3,BM0 z,Bz4];refine⟨?_,h2⟩;rw[h5];simpa using (l i z).1
    have h4:((Sg.modify n λe=>{ e with val:=a.eval x }).getD i default)=Sg.getD i default:=by simp[By2,BF0,BC5 a0]
    rw[h4]
    have:=l i z
    simpa[BM6 (BC5 a0)]using this
   obtain⟨g1,g2,g3⟩:=h1.modify (o:=.map es) (ob:=.map (es.set n ((es.getD n default).1,y))) hj (b:=b) (by simp[E5,N1,hr]) (λ_=>trivial) (λb' g=>by simp[E5,N1,hr]at g;exact g.symm)
    (w':={ w with heap:=w.heap.setIfInBounds b (.map (Sg.modify n λe=>{ e with val:=a.eval x }) clock) }) (by simp) (λb' g=>by simp[BG7 (BC5 g)])
    (λa4=>⟨b,_,clock,hr,by simp[hlt],by simp[hs],λi z=>⟨(f i z).1.keeps a4,(f i z).2.keeps a4⟩,KS a1 c λ_=>rfl⟩)
   exact⟨_,undef,_,_,by simp[execOp,ho,a3],.inr ⟨rfl,rfl⟩,g1,h3.trans ⟨g2,g3⟩,.p _ _ (.v _)⟩
  cases q
 cases q
end
section
variable {C:Ctx}{st:St}{a:Act}{w:World}{rho:Nat->Value}
def Sat.re (hs:Sat C st a w rho)(D:Nat->Prop){R' : C5}{rho' : Nat->Value}
 (c:∀j,¬D j->A1 R' j=A1 st.Qw j) (d:∀j,Lv (A1 st.Qw) j->Lv (A1 R') j/\rho' j=rho j) (q:∀j,¬Lv (A1 st.Qw) j->Lv (A1 R') j->1000<=j)
 (t:∀j r b,D j->A1 R' j≠some (.yld r b))
 (f:∀j o b,D j->A1 R' j=some o->E5 (rho' j) o b->∃i oi,D i/\A1 st.Qw i=some oi/\E5 (rho i) oi b)
 (l:∀i j oi oj b,D i->D j->A1 R' i=some oi->A1 R' j=some oj->E5 (rho' i) oi b->E5 (rho' j) oj b->i=j)
 (g:∀i oi,D i->A1 st.Qw i=some oi->∀off,JY oi off)
 (y:(∀b off,Prv C.X (A1 R') rho' b off->Prv C.X (A1 st.Qw) rho b off)->Sc w (Prv C.X (A1 st.Qw) rho) w (Prv C.X (A1 R') rho')->∀j o,D j->A1 R' j=some o->Sr w (Prv C.X (A1 R') rho') (Lv (A1 R')) rho' (rho' j) o) :
 Sat C ⟨st.env,R'⟩ a w rho' /\ ∀b off,Prv C.X (A1 R') rho' b off->Prv C.X (A1 st.Qw) rho b off:=by
 have s:∀b off,Prv C.X (A1 R') rho' b off->Prv C.X (A1 st.Qw) rho b off:=by
  rintro b off (z|⟨j,o,m,hb,hp⟩)
  .exact .inl z
  by_cases n:D j
  .obtain⟨i,oi,h1,u,h3⟩:=f j o b n m hb;exact .inr ⟨i,oi,u,h3,g i oi h1 u off⟩
  rw[c j n]at m;rw[(d j (by simp[Lv,m])).2]at hb;exact .inr ⟨j,o,m,hb,hp⟩
 exact⟨(hs.step D c d (Bz5 _) q t (λ_ _ _=>rfl) (λj o b n m hb=>.inl (f j o b n m hb)) l
  (λi oi b off v n x hb hp hc=>Ij (.inr ⟨i,oi,x,hb,g i oi n x off⟩) hp) (y s)).1,s⟩
end
section
variable {P:Program}{C:Ctx}{st:St}{a:Act}{w:World}{rho:Nat->Value}{o:Oper}{out:Out}{d:Nat}
def EL {Qw:C5}{j q:Nat}{o:Obj}(h:Lv (A1 Qw) q):Lv (A1 (ins j o Qw)) q:=by
 unfold Lv;rw[A3];split
 .rfl
 exact h
def EM {Qw:C5}{j q:Nat}{o:Obj}(h:Lv (A1 (ins j o Qw)) q):j=q \/ Lv (A1 Qw) q:=by
 unfold Lv at h;rw[A3]at h;split at h
 .exact .inl ‹_›
 exact .inr h
def Pz {Qw:C5}{q:Nat}{o:Obj}(h:A1 Qw q=some o):Lv (A1 Qw) q:=by unfold Lv;rw[h];rfl
def GW {w:World}{p q:Nat->Nat->Prop}(h:∀b o,q b o->p b o):Sc w p w q:=λb o v hp hc=>⟨hc,λa=>hp (h b o a)⟩
def AB3 {e:TypeId}{n jr:Nat}{x:Option (Nat×AV)}{Pi Pi' : Nat->Nat->Prop}{live live' : Nat->Prop}{rho' : Nat->Value}{v:Value}(h:HoldsC w Pi live rho v (.fam e n jr x)) :∃c:Array Value,HoldsC w Pi' live' rho' v (.vec e 1 n (λi=>[.v (c.getD i undef)]) false)/\(∃rv,live jr/\rho jr=.agg rv/\∀i,i<n->(x.map (·.1)≠some i->c.getD i undef=rv.getD i undef)) /\
  ∀i y,x=some (i,y)->0<n->Sq w Pi live rho (c.getD i undef) y:=by
 obtain⟨rv,l1,l2,h⟩:=h;rcases h with⟨h,d⟩ | ⟨b,cap,c,g1,g2,g3,g4,g5,g6,g7⟩
 .exact⟨#[],.inl ⟨h,d⟩,⟨rv,l1,l2,λi a=>by omega⟩,λi y _ h=>by omega⟩
 refine⟨c,.inr ⟨b,cap,c,g1,g2,g3,by omega,g5,λ_ _=>rfl,λi l a hl=>?_⟩,⟨rv,l1,l2,λi a=>(g6 i a).2⟩,λi y hx _=>?_⟩
 .obtain rfl:l=0:=by omega
  rw[BH5,BG2];exact⟨.v _,(g6 i a).1⟩
 subst hx;exact g7
def AB4 (h:Sat C st a w rho){c:Call}(hc:c.callee=.builtin .append)(g:o.op=.call c)(he:aop P st.env st.Qw d o.op=some out)(a5:C6 out.cond):OpOk P C o st a w rho out:=by
 by_cases hF:∀s x e m b,c.args.toList=[s,x]->LD st.Qw e m d b (aev st.env s) (aev st.env x)=none
 .exact Tg h hF hc g he a5
 simp only[Classical.not_forall,not_imp]at hF;obtain⟨s,x,e0,m0,b0,a6,hF⟩:=hF;have hJ:∃j l n jr jz y e1 e2,aev st.env s=.vec j/\aev st.env x=.vec l/\A1 st.Qw (nid d 0)=none/\A1 st.Qw j=some (.fam e1 n jr none)/\A1 st.Qw l=some (.fam e2 1 jz (some (0,y))):=by
  unfold LD at hF;split at hF
  .rename_i j l hs hx;split at hF
   .rename_i e1 n jr e2 jz y h1 h2 h3;exact⟨j,l,n,jr,jz,y,e1,e2,hs,hx,h1,h2,h3⟩
   exact Ij rfl hF
  exact Ij rfl hF
 obtain⟨j,l,n,jr,jz,y,e1,e2,hsv,hxv,hd,hj,hl⟩:=hJ;obtain⟨callee,args,types⟩:=c;simp only at hc;subst hc;rw[g]at he;simp only at a6;simp only[aop,a6]at he;split at he
 .rename_i s' x' t t2 hs' htypes;cases hs';split at he
  .rename_i e k2 ht ht2;split at he
   .rename_i m z hk2 hm hz;have hel:elems st.Qw m (.vec l)=none:=by simp only[elems,hl]
    simp only[hsv,hxv,hd,hel]at he;by_cases hzm:z.length=m
    case neg=>rw[show famB P e z m=0 by unfold famB;rw[show (z.length==m)=false by simpa using hzm]]at he;simp[LD,hd,hj,hl]at he
    rw[show famB P e z m=DZ P e by unfold famB;rw[show (z.length==m)=true by simpa using hzm]]at he;simp only[LD,hd,hj,hl]at he;split at he
    .rename_i c1 v1 R1 hif;split at hif
     .rename_i hif';obtain⟨⟨⟨he1,he2⟩,hm1,hby⟩,hne⟩:=hif';subst hm1;rw[he1]at hj;rw[he2]at hl;cases hif;cases he;have hzl:z.length=1:=hzm;have a5:C6 [(n+1)*DZ P e<=140737488355328/\n+1<=140737488355328]:=a5;have hnj:nid d 0≠j:=by rintro h;rw[h,hj]at hd;cases hd
      have hnl:nid d 0≠l:=by rintro h;rw[h,hl]at hd;cases hd
      obtain⟨cj,f1,⟨rv,l1,l2,f3⟩,_⟩:=AB3 (Pi:=Prv C.X (A1 st.Qw) rho) (live:=Lv (A1 st.Qw)) (Pi':=λ_ _=>False) (live':=λ_=>False) (rho':=rho) (h.hp.holds j _ hj);obtain⟨cl,k1,_,k3⟩:=AB3 (Pi:=Prv C.X (A1 st.Qw) rho) (live:=Lv (A1 st.Qw)) (Pi':=λ_ _=>False) (live':=λ_=>False) (rho':=rho) (h.hp.holds l _ hl);have k3:=k3 0 y rfl (by omega);obtain⟨R',hR'⟩:∃R' : C5,R' = ins l (.vec e 1 1 (λi=>[.v (cl.getD i undef)]) false) (ins j (.vec e 1 n (λi=>[.v (cj.getD i undef)]) false) st.Qw):=⟨_,rfl⟩;have a0:∀q,A1 R' q=if l=q then some (.vec e 1 1 (λi=>[.v (cl.getD i undef)]) false)else if j=q then some (.vec e 1 n (λi=>[.v (cj.getD i undef)]) false)else A1 st.Qw q:=λq=>by rw[hR',A3,A3]
      have hwas:∀q o b,(q=j \/ q=l)->A1 R' q=some o->E5 (rho q) o b->∃oi,A1 st.Qw q=some oi/\E5 (rho q) oi b:=by
       intro q o b f g hb;rw[a0]at g;split at g
       .rename_i h1;subst h1;cases g;exact⟨_,hl,hb⟩
       rename_i h1;obtain rfl:q=j:=f.resolve_right λh=>h1 h.symm;rw[Gy rfl]at g;cases g;exact⟨_,hj,hb⟩
      obtain⟨h2,h3⟩:=h.re (λq=>q=j \/ q=l) (R':=R') (rho':=rho)
       (λq f=>by rw[a0,Hj (λh=>f (.inr h.symm)),Hj (λh=>f (.inl h.symm))]) (λq f=>⟨by rw[hR'];exact EL (EL f),rfl⟩)
       (λq f a4=>by
        rw[hR']at a4;rcases EM a4 with rfl|a4
        .exact Ij (Pz hl) f
        rcases EM a4 with rfl|a4
        .exact Ij (Pz hj) f
        exact Ij a4 f)
       (λq r b f=>by rw[a0];rcases f with rfl|rfl<;>simp[hne,BC5 hne])
       (λq o b f g hb=>by obtain⟨oi,h,h'⟩:=hwas q o b f g hb;exact⟨q,oi,f,h,h'⟩)
       (λq q' o o' b f a4 g ho' hb hb'=>by obtain⟨o1,g1,g2⟩:=hwas q o b f g hb;obtain⟨o2,g3,g4⟩:=hwas q' o' b a4 ho' hb';exact h.hp.sep q q' o1 o2 b g1 g3 g2 g4)
       (λq o f g off=>by
        rcases f with rfl|rfl
        .rw[hj]at g;cases g;trivial
        rw[hl]at g;cases g;trivial)
       (λ_ hk q o f g=>by
        rw[a0]at g;split at g
        .rename_i h1;subst h1;cases g;rcases k1 with h|⟨b,cap,c,g1,g2,g3,g4,g5,g6,g7⟩
         .exact .inl h
         exact .inr ⟨b,cap,c,g1,g2,g3,g4,g5,g6,λi l hi hl=>by
          have:=g7 i l hi hl
          obtain rfl:l=0:=by omega
          exact⟨this.1.toV ▸ .v _,this.2⟩⟩
        rename_i h1;obtain rfl:q=j:=f.resolve_right λh=>h1 h.symm;rw[Gy rfl]at g;cases g;rcases f1 with h|⟨b,cap,c,g1,g2,g3,g4,g5,g6,g7⟩
        .exact .inl h
        exact .inr ⟨b,cap,c,g1,g2,g3,g4,g5,g6,λi l hi hl=>by
         have:=g7 i l hi hl
         obtain rfl:l=0:=by omega
         exact⟨this.1.toV ▸ .v _,this.2⟩⟩)
      have hd' : A1 R' (nid d 0)=none:=by rw[a0,Hj (BC5 hnl),Hj (BC5 hnj)];exact hd
      have hj' : A1 R' j=some (.vec e 1 n (λi=>[.v (cj.getD i undef)]) false):=by rw[a0,Hj (BC5 hne),Gy rfl]
      have hl' : A1 R' l=some (.vec e 1 1 (λi=>[.v (cl.getD i undef)]) false):=by rw[a0,Gy rfl]
      have hop:=Tg (P:=P) (o:=o) (d:=d) (out:=⟨[(n+1)*DZ P e<=140737488355328/\n+1<=140737488355328],.vec (nid d 0),ins (nid d 0) (.vec e 1 (n+1) (Ey n (λi=>[.v (cj.getD i undef)]) λi=>[.v (cl.getD i undef)]) false) (ins j .dead R')⟩) h2
       (c:=⟨.builtin .append,args,types⟩) (λs1 x1 e3 m3 b3 hx1=>by rw[a6]at hx1;cases hx1;simp only[hsv,hxv,LD,hd',hj']) rfl g
       (by rw[g];simp only[aop,a6,htypes,ht,ht2,hk2,hm,hz,hsv,hxv,hd',elems,Up,hj',hl',Lc,and_self,hzl,hby]) a5
      obtain⟨nx,v,w',rho1,p1,p2,p3,p4,p5⟩:=hop;have u:∀q,Lv (A1 st.Qw) q->Lv (A1 R') q:=λq f=>by rw[hR'];exact EL (EL f)
      have hrj:rho1 jr=.agg rv:=(p4.live jr (u jr l1)).2.trans l2;have hx:∃Rz:C5,Rz=ins (nid d 0) (.fam e (n+1) jr (some (n,y))) (ins l .dead (ins j .dead st.Qw)):=⟨_,rfl⟩;obtain⟨Rz,hRz⟩:=hx;have hgz:∀q,A1 Rz q=if nid d 0=q then some (.fam e (n+1) jr (some (n,y)))else if l=q then some .dead else if j=q then some .dead else A1 st.Qw q:=λq=>by rw[hRz,A3,A3,A3]
      obtain⟨Ry,hRy⟩:∃Ry:C5,Ry=ins (nid d 0) (.vec e 1 (n+1) (Ey n (λi=>[.v (cj.getD i undef)]) λi=>[.v (cl.getD i undef)]) false) (ins j .dead R'):=⟨_,rfl⟩;have hgy:∀q,A1 Ry q=if nid d 0=q then some (.vec e 1 (n+1) (Ey n (λi=>[.v (cj.getD i undef)]) λi=>[.v (cl.getD i undef)]) false)else if j=q then some .dead else if l=q then some (.vec e 1 1 (λi=>[.v (cl.getD i undef)]) false)else A1 st.Qw q:=λq=>by
       rw[hRy,A3,A3,a0];by_cases h1:nid d 0=q
       .rw[Gy h1,Gy h1]
       rw[Hj h1,Hj h1];by_cases h2:j=q
       .rw[Gy h2,Gy h2]
       rw[Hj h2,Hj h2,Hj h2]
      simp only[<- hRy]at p3 p4 p5;simp only[<- hRz];have hlz:∀q,Lv (A1 Ry) q->Lv (A1 Rz) q:=λq f=>by
       unfold Lv at f⊢;rw[hgz];rw[hgy]at f;by_cases h1:nid d 0=q
       .rw[Gy h1];rfl
       rw[Hj h1]at f⊢;by_cases h2:l=q
       .rw[Gy h2];rfl
       rw[Hj h2];by_cases h3:j=q
       .rw[Gy h3];rfl
       rw[Hj h3,Hj h2]at f;rw[Hj h3];exact f
      have hlz' : ∀q,Lv (A1 Rz) q->Lv (A1 Ry) q:=λq f=>by
       unfold Lv at f⊢;rw[hgy];rw[hgz]at f;by_cases h1:nid d 0=q
       .rw[Gy h1];rfl
       rw[Hj h1]at f⊢;by_cases h3:j=q
       .rw[Gy h3];rfl
       rw[Hj h3];by_cases h2:l=q
       .rw[Gy h2];rfl
       rw[Hj h2,Hj h3]at f;rw[Hj h2];exact f
      obtain⟨q2,q3⟩:=p3.re (λq=>q=nid d 0 \/ q=l) (R':=Rz) (rho':=rho1)
       (λq f=>by
        show A1 Rz q=A1 Ry q;have a1:¬nid d 0=q:=λh=>f (.inl h.symm);have a2:¬l=q:=λh=>f (.inr h.symm);rw[hgz,hgy,Hj a1,Hj a1,Hj a2];by_cases a3:j=q
        .rw[Gy a3,Gy a3]
        rw[Hj a3,Hj a3,Hj a2]) (λq f=>⟨hlz q f,rfl⟩)
       (λq f a4=>Ij (hlz' q a4) f)
       (λq r b f=>by rw[hgz];rcases f with rfl|rfl<;>simp[hnl])
       (λq o b f g hb=>by
        rw[hgz]at g;split at g
        .rename_i h1;subst h1;cases g;exact⟨_,_,.inl rfl,(hgy (nid d 0)).trans (Gy rfl),hb⟩
        rename_i h1;obtain rfl:q=l:=f.resolve_left λh=>h1 h.symm;rw[Gy rfl]at g;cases g;cases hb)
       (λq q' o o' b f a4 g ho' hb hb'=>by
        have key:∀q o,(q=nid d 0 \/ q=l)->A1 Rz q=some o->E5 (rho1 q) o b->q=nid d 0:=by
         intro q o f g hb;rcases f with h1|h1
         .exact h1
         rw[h1,hgz,Hj hnl,Gy rfl]at g;have g:=BE7 g;subst g;exact Ij hb (by simp[E5,N1])
        rw[key q o f g hb,key q' o' a4 ho' hb'])
       (λq o f g off=>by
        replace g:A1 Ry q=some o:=g;rw[hgy]at g;rcases f with h1|h1
        .rw[Gy h1.symm]at g;have g:=BE7 g;subst g;trivial
        rw[h1,Hj hnl,Hj hne,Gy rfl]at g;have g:=BE7 g;subst g;trivial)
       (λhpi hk q o f g=>by
        rw[hgz]at g;split at g
        .rename_i h1;subst h1;cases g;refine⟨rv,hlz jr (p4.live jr (u jr l1)).1,hrj,?_⟩;have hh:=p3.hp.holds (nid d 0) _ (by show A1 Ry _=_;rw[hgy,Gy rfl]);rcases hh with⟨_,h0⟩ | ⟨b,cap,c,g1,g2,g3,g4,g5,g6,g7⟩
         .omega
         have hc:∀i,i<n+1->c.getD i undef=(if i<n then cj.getD i undef else cl.getD (i-n) undef)/\(c.getD i undef).oneCell' = true:=by
          intro i hi
          have:=g7 i 0 hi (by omega)
          rw[BH5,BG2]at this;refine⟨?_,this.2⟩;have h5:=this.1;unfold Ey at h5;split at h5
          .rename_i h6;rw[Gy h6];exact h5.toV
          rename_i h6;rw[Hj h6];exact h5.toV
         refine .inr ⟨b,cap,c,g1,g2,g3,by omega,g5,λi hi=>⟨(hc i hi).2,λhx=>?_⟩,?_⟩
         .have hin:i<n:=by
           have:i≠n:=λh=>hx (by rw[h];rfl)
           omega
          rw[(hc i hi).1,Gy hin];exact f3 i hin (by simp)
         show Sq w' _ _ rho1 (c.getD n undef) y;rw[(hc n (by omega)).1,Hj (by omega),Nat.sub_self];exact k3.keeps ((GW h3).trans (p4.keeps.trans hk)) λq f=>⟨hlz q (p4.live q (u q f)).1,(p4.live q (u q f)).2⟩
        rename_i h1;obtain rfl:q=l:=f.resolve_left λh=>h1 h.symm;rw[Gy rfl]at g;cases g;trivial)
      refine⟨nx,v,w',rho1,p1,p2,q2,⟨(GW h3).trans (p4.keeps.trans (GW q3)),λq f=>⟨hlz q (p4.live q (u q f)).1,(p4.live q (u q f)).2⟩⟩,?_⟩;exact p5.keeps (GW q3) λq f=>⟨hlz q f,rfl⟩
     cases hif
    cases he
   cases he
  cases he
 cases he
def UD (h:Sat C st a w rho){t:TypeId}{n:Nat}{parts:Array (Nat×Operand)}(s:o.op=.buildSlice t n parts)(he:aop P st.env st.Qw d o.op=some out)(hc:C6 out.cond):OpOk P C o st a w rho out:=by
 cases u:JW st.Qw n (parts.toList.map λq=>(q.1,aev st.env q.2))with
 |none=>cases hrf:LE n (parts.toList.map λq=>(q.1,aev st.env q.2))with
  |none=>exact Ka h u hrf s he hc
  |some cs=>exact RN h u hrf s he hc
 |some p=>
  obtain⟨jz,j⟩:=p;have hJ:∃x e1 k m f r g,parts.toList=[(0,x)]/\aev st.env x=.vec j/\n=1/\A1 st.Qw j=some (.vec e1 k m f false)/\A1 st.Qw jz=some (.rows r g):=by
   cases hp:parts.toList with
   |nil=>rw[hp]at u;simp[JW]at u
   |cons p1 ps=>
    obtain⟨i,x⟩:=p1;rw[hp]at u;cases ps with
    |cons p2 ps=>simp[JW]at u
    |nil=>
     simp only[BA3,BE9]at u;unfold JW at u;split at u
     .rename_i hx;rename_i j1;simp only[BD6,Bz3,and_true]at hx;obtain⟨rfl,hx⟩:=hx;split at u
      .rename_i h1 h2;split at u
       .rename_i h3;split at u
        .rename_i h4;simp only[By4,Bz3]at u;obtain⟨rfl,rfl⟩:=u;exact⟨x,_,_,_,_,_,_,rfl,hx,h4,h1,h3⟩
        cases u
       cases u
      cases u
     cases u
  obtain⟨x,e1,k,m,f,r,g,y,hx,rfl,hj,hjz⟩:=hJ;rw[s]at he;simp only[aop,u]at he;split at he
  .rename_i e hk hd;split at he
   .rename_i z hsz hz;split at he
    .rename_i hzl;cases he;obtain⟨rv,l2,_⟩:=h.hp.holds jz _ hjz;have hv:=h.aev x;rw[hx]at hv;obtain⟨b0,nn,cap,hV⟩:∃b0 nn cap,a.eval x=.slice b0 nn cap:=by
      generalize a.eval x=V at hv;cases hv with
      |vec j base nn cap hl hr=>exact⟨_,_,_,rfl⟩
     cases x with
     |const c=>cases hx
     |func q=>cases hx
     |global q=>cases hx
     |tmp t0=>
     obtain⟨env',henv⟩:∃env' : Env,env' = ins t0 (.p (.v (.slice b0 nn cap))) st.env:=⟨_,rfl⟩;have h2:Sat C ⟨env',st.Qw⟩ a w rho:=⟨h.toSatE,λq=>by
      show Sq _ _ _ _ _ (get env' q);rw[henv,MT];split
      .rename_i h1;subst h1;rw[show a.tmps.getD t0 undef=.slice b0 nn cap from hV];exact .p _ _ (.v _)
      exact h.env q,h.pin,h.marks⟩
     have hx' : aev env' (.tmp t0)=.p (.v (.slice b0 nn cap)):=by show get env' t0=_;rw[henv,MT,Gy rfl]
     obtain⟨Ry,hRy⟩:∃Ry:C5,Ry=ins (nid d 0) (.vec e 1 1 (H0 z [(0,[.v (.slice b0 nn cap)])]) false) st.Qw:=⟨_,rfl⟩;have hop:=Ka (P:=P) (o:=o) (d:=d) (st:=⟨env',st.Qw⟩) (out:=⟨[GR 1 1 [0] [.v (.slice b0 nn cap)]=true],.vec (nid d 0),Ry⟩) h2
      (by rw[y];simp only[BA3,BE9,hx'];rfl) (by rw[y];simp only[BA3,BE9,hx'];rfl) s
      (by
       rw[s];have h3:JW st.Qw 1 ([(0,Operand.tmp t0)].map λq=>(q.1,aev env' q.2))=none:=by simp only[BA3,BE9,hx'];rfl
       have h4:Gk st.Qw ([(0,Operand.tmp t0)].map λ(q:Nat×Operand)=>aev env' q.2)=some ([.v (.slice b0 nn cap)],st.Qw):=by simp only[BA3,BE9,hx'];rfl
       have h5:LE 1 ([(0,Operand.tmp t0)].map λ(q:Nat×Operand)=>(q.1,aev env' q.2))=none:=by simp only[BA3,BE9,hx'];rfl
       simp only[aop,y,h3,h5,hk,hd,h4,hsz,hz];rw[Gy ⟨⟨by omega,by omega⟩,hzl⟩,hRy];rfl)
      (show GR 1 1 [0] [.v (.slice b0 nn cap)]=true from rfl)
     obtain⟨nx,v,w',rho1,p1,p2,p3,p4,p5⟩:=hop;have hgy:∀q,A1 Ry q=if nid d 0=q then some (.vec e 1 1 (H0 z [(0,[.v (.slice b0 nn cap)])]) false)else A1 st.Qw q:=λq=>by rw[hRy,A3]
     obtain⟨Rz,hRz⟩:∃Rz:C5,Rz=ins (nid d 0) (.fam e 1 jz (some (0,.vec j))) st.Qw:=⟨_,rfl⟩;have hgz:∀q,A1 Rz q=if nid d 0=q then some (.fam e 1 jz (some (0,.vec j)))else A1 st.Qw q:=λq=>by rw[hRz,A3]
     simp only[<- hRz];have a0:∀q,Lv (A1 Ry) q↔Lv (A1 Rz) q:=λq=>by
      unfold Lv;rw[hgy,hgz];split
      .exact⟨λ_=>rfl,λ_=>rfl⟩
      exact BL1
     have hrz:rho1 jz=.agg rv:=(p4.live jz (Pz hjz)).2.trans l2;obtain⟨q2,q3⟩:=p3.re (λq=>q=nid d 0) (R':=Rz) (rho':=rho1)
      (λq l=>by show A1 Rz q=A1 Ry q;rw[hgz,hgy,Hj (λh=>l h.symm),Hj (λh=>l h.symm)]) (λq l=>⟨(a0 q).1 l,rfl⟩)
      (λq l hq'=>Ij ((a0 q).2 hq') l)
      (λq r b l=>by rw[hgz,l,Gy rfl];simp)
      (λq o b l s hb=>by subst l;rw[hgz,Gy rfl]at s;have s:=BE7 s;subst s;exact⟨_,_,rfl,(hgy (nid d 0)).trans (Gy rfl),hb⟩)
      (λq q' o o' b l hq' _ _ _ _=>l.trans hq'.symm)
      (λq o l s off=>by replace s:A1 Ry q=some o:=s;rw[hgy,Gy l.symm]at s;have s:=BE7 s;subst s;trivial)
      (λhpi hk q o l s=>by
       subst l;rw[hgz,Gy rfl]at s;have s:=BE7 s;subst s;refine⟨rv,(a0 jz).1 (p4.live jz (Pz hjz)).1,hrz,?_⟩;have hh:=p3.hp.holds (nid d 0) _ (by show A1 Ry _=_;rw[hgy,Gy rfl]);rcases hh with⟨_,h0⟩ | ⟨b,cap',c,g1,g2,g3,g4,g5,g6,g7⟩
       .omega
       have h0:=g7 0 0 (by omega) (by omega);refine .inr ⟨b,cap',c,g1,g2,g3,by omega,g5,λi hi=>?_,?_⟩
       .obtain rfl:i=0:=by omega
        exact⟨h0.2,λhx=>Ij rfl hx⟩
       show Sq w' _ _ rho1 (c.getD 0 undef) (.vec j);have h1:c.getD 0 undef=.slice b0 nn cap:=Sd.toV h0.1;rw[h1,<- hV];exact hv.keeps (p4.keeps.trans hk) λq l=>⟨(a0 q).1 (p4.live q l).1,(p4.live q l).2⟩)
     refine⟨nx,v,w',rho1,p1,p2,⟨q2.toSatE,λq=>?_,q2.pin,q2.marks⟩,⟨p4.keeps.trans (GW q3),λq l=>⟨(a0 q).1 (p4.live q l).1,(p4.live q l).2⟩⟩,?_⟩
     .exact (h.env q).keeps (p4.keeps.trans (GW q3)) λq l=>⟨(a0 q).1 (p4.live q l).1,(p4.live q l).2⟩
     exact p5.keeps (GW q3) λq l=>⟨(a0 q).1 l,rfl⟩
    cases he
   cases he
  cases he
end
end Go.AM
