/- Part 3. -/
import Derived.Test.YtppapmfonjmfbaaGreatDoorRB
set_option linter.defProp false
set_option linter.unusedSimpArgs false
set_option linter.unusedVariables false
set_option linter.unusedSectionVars false
namespace Go.AM
def AQ6:=@Option.bind_some
def AS0:=@List.mem_append_right
def AS6:=@Bool.or_eq_true
def AT2:=@List.mem_cons_of_mem
def AT3:=@List.mem_append_left
def AV1:=@Go.World.putObj_size
def AV8:=@Go.World.putObj_heap_other
def Bb2:=@Nat.le_of_not_lt
def Bb3:=@List.getElem_mem
def Bd6:=@List.mem_filter
def Bd8:=@List.length_eq_one_iff
def Bg9:=@Go.World.putObj_heap_same
def Bj1:=@Array.all_eq_true'
def Bj2:=@List.zip_cons_cons
section
variable {P:Program}{C:Ctx}{st t:St}{a:Act}{w:World}{rho:Nat->Value}
theorem semUp.refl {st:St}{K:St->Prop}(h:K st):semUp st K:=fun C a w rho hs=>⟨st,rho,h,fun _ _ h=>h,hs⟩
theorem semUp.trans {st:St}{K:St->Prop}(h:semUp st fun t=>semUp t K):semUp st K:=fun C a w rho hs=>
 let ⟨st',rho',h1,hp,h2⟩:=h C a w rho hs
 let ⟨st2,rho2,h3,hp',h4⟩:=h1 C a w rho' h2
 ⟨st2,rho2,h3,fun b o hx=>hp b o (hp' b o hx),h4⟩
theorem semUp.mono {st:St}{K K' : St->Prop}(hk:∀t,K t->K' t)(h:semUp st K):semUp st K':=fun C a w rho hs=>
 let ⟨st',rho',h1,h2⟩:=h C a w rho hs
 ⟨st',rho',hk _ h1,h2⟩
theorem Sat.slot (h:Sat C st a w rho){t:Nat}{x:AV}(hx:RS C st w rho (a.tmps.getD t undef) x):Sat C ⟨ins t x st.env,st.regs⟩ a w rho:=by
 refine⟨h.toSatE,fun i=>?_,h.pin,h.marks⟩;show RepA w _ _ rho _ (get (ins t x st.env) i);rw[JC];split
 .rename_i e;subst e;exact hx
 exact h.env i
theorem semUp.bool {st:St}{t:Nat}{b:Bool}{K:St->Prop}(hg:get st.env t=.p (.bb b))(h:K ⟨ins t (.p (.v (.bool b))) st.env,st.regs⟩):semUp st K:=fun C a w rho hs=>by
 refine⟨_,rho,h,fun _ _ h=>h,hs.slot ?_⟩
 have:=hs.env t
 rw[hg]at this;rw[this.toP.toBool];exact .p _ _ (.v _)
theorem semUp.pq {st:St}{t:Nat}{x y:PV}{K:St->Prop}(hg:get st.env t=.p x)(b:leQ x y)(h:K ⟨ins t (.p y) st.env,st.regs⟩):semUp st K:=fun C a w rho hs=>by
 refine⟨_,rho,h,fun _ _ h=>h,hs.slot ?_⟩
 have:=hs.env t
 rw[hg]at this;exact .p _ _ (this.toP.leQ b)
theorem semUp.nil {st:St}{t k n:Nat}{f:Nat->List PV}{K:St->Prop}(hg:get st.env t=.p (.sl false k n f))
 (h1:n=0->K ⟨ins t (.p (.v (.slice none 0 0))) st.env,st.regs⟩) (g:K ⟨ins t (.p (.sl true k n f)) st.env,st.regs⟩):semUp st K:=fun C a w rho hs=>by
 have:=hs.env t
 rw[hg]at this
 have:=this.toP
 generalize d:a.tmps.getD t undef=v at this;cases this with
 |slnil=>exact⟨_,rho,h1 rfl,fun _ _ h=>h,hs.slot (by rw[d];exact .p _ _ (.v _))⟩
 |sl _ b off cap _ _ _ c hn hk hc h sp hsp=>exact⟨_,rho,g,fun _ _ h=>h,hs.slot (by rw[d];exact .p _ _ (.sl true b off cap k n f c hn hk hc h sp hsp))⟩
theorem Wa (n:Nat)(f:Nat->PV){i:Nat}(a:i<n):(Ag2 n f).getD i .top=.p (f i):=by simp[Ag2,AQ1,a]
theorem Qh (n:Nat)(f:Nat->PV):(Ag2 n f).length=n:=by simp[Ag2]
theorem semUp.swap {st:St}{j:Nat}{o o' : Obj}{K:St->Prop}(hj:A1 st.regs j=some o)(hb:∀v,D6 v o' = D6 v o)(hp:∀off,Hr o' off↔Hr o off)(hy:∀r b,o' ≠ .yld r b)
 (z:∀{w:World}{Pi:Nat->Nat->Prop}{live:Nat->Prop}{rho:Nat->Value}{v:Value},HoldsO w Pi live rho v o->HoldsO w Pi live rho v o') (hK:K ⟨st.env,ins j o' st.regs⟩):semUp st K:=fun C a w rho hs=>by
 have d:∀i,A1 (ins j o' st.regs) i=if j=i then some o' else A1 st.regs i:=fun i=>A2 _ _ _ _
 have n:∀i,Lv (A1 (ins j o' st.regs)) i↔Lv (A1 st.regs) i:=fun i=>by
  unfold Lv;rw[d];split
  .rename_i e;subst e;rw[hj];simp
  rfl
 have q:∀b off,Prv C.X (A1 (ins j o' st.regs)) rho b off↔Prv C.X (A1 st.regs) rho b off:=fun b off=>by
  unfold Prv;refine or_congr AZ7 ⟨?_,?_⟩
  .rintro⟨i,oi,h1,l,m⟩;rw[d]at h1;split at h1
   .rename_i e;subst e;cases h1;exact⟨j,o,hj,by rw[<- hb];exact l,(hp off).1 m⟩
   exact⟨i,oi,h1,l,m⟩
  rintro⟨i,oi,h1,l,m⟩;by_cases e:j=i
  .subst e;rw[hj]at h1;cases h1;exact⟨j,o',by rw[d,Ll rfl],by rw[hb];exact l,(hp off).2 m⟩
  exact⟨i,oi,by rw[d,Lm e];exact h1,l,m⟩
 have hk:Keeps w (Prv C.X (A1 st.regs) rho) w (Prv C.X (A1 (ins j o' st.regs)) rho):=fun b off v h1 l=>⟨l,fun h=>h1 ((q b off).1 h)⟩;have hl:∀i,Lv (A1 st.regs) i->Lv (A1 (ins j o' st.regs)) i/\rho i=rho i:=fun i c=>⟨(n i).2 c,rfl⟩;refine⟨_,rho,hK,fun b off h=>(q b off).1 h,⟨⟨⟨fun i oi f=>?_,fun i i' oi oi' b c u g s=>?_,fun i oi b off f g=>?_,hs.hp.bound⟩,hs.ext,hs.size,hs.same,hs.keep.trans hk,fun b x=>?_,fun i r b f=>?_⟩,fun t=>(hs.env t).keeps hk hl,fun i c y=>hs.pin i c ((n i).1 y),hs.marks⟩⟩
 .have c:A1 (ins j o' st.regs) i=some oi:=f;clear f;rw[d]at c;split at c
  .rename_i e;subst e;cases c;exact z ((hs.hp.holds j o hj).keeps hk hl fun _ _=>rfl)
  exact (hs.hp.holds i oi c).keeps hk hl fun _ _=>rfl
 .have own:∀{i:Nat}{oi:Obj}{b:Nat},A1 (ins j o' st.regs) i=some oi->D6 (rho i) oi b->∃o2,A1 st.regs i=some o2/\D6 (rho i) o2 b:=by
   intro i oi b c g;rw[d]at c;split at c
   .rename_i e;subst e;cases c;exact⟨o,hj,by rw[<- hb];exact g⟩
   exact⟨oi,c,g⟩
  obtain⟨o2,h1,l⟩:=own c g;obtain⟨o3,m,h4⟩:=own u s;exact hs.hp.sep i i' o2 o3 b h1 m l h4
 .have c:A1 (ins j o' st.regs) i=some oi:=f;clear f;rw[d]at c;split at c
  .rename_i e;subst e;cases c;exact hs.hp.out j o b off hj (by rw[<- hb];exact g)
  exact hs.hp.out i oi b off c g
 .obtain⟨i,oi,f,g⟩:=x;have c:A1 (ins j o' st.regs) i=some oi:=f;clear f;rw[d]at c;split at c
  .rename_i e;subst e;cases c;exact hs.own b ⟨j,o,hj,by rw[<- hb];exact g⟩
  exact hs.own b ⟨i,oi,c,g⟩
 have c:A1 (ins j o' st.regs) i=some (.yld r b):=f;clear f;rw[d]at c;split at c
 .cases c;exact Ln rfl (hy r b)
 exact hs.yld i r b c
theorem semUp.toArr {st:St}{j n:Nat}{f:Nat->PV}{K:St->Prop}(hj:A1 st.regs j=some (.cells (Ag2 n f)))(l:K ⟨st.env,ins j (.arr n f) st.regs⟩):semUp st K:=
 semUp.swap (o':=.arr n f) hj (fun _=>rfl) (fun _=>AZ7) (fun _ _ h=>by cases h) (fun m=>by obtain⟨b,c,T,h1,o,g,a⟩:=m;rw[Qh]at g a;exact⟨b,c,T,h1,o,g,fun i d=>⟨by have:=(a i d).1;rw[Wa n f d]at this;exact this.toP,(a i d).2⟩⟩) l
theorem semUp.ofArr {st:St}{j n:Nat}{f:Nat->PV}{K:St->Prop}(hj:A1 st.regs j=some (.arr n f))(g:K ⟨st.env,ins j (.cells (Ag2 n f)) st.regs⟩):semUp st K:=
 semUp.swap (o':=.cells (Ag2 n f)) hj (fun _=>rfl) (fun _=>AZ7) (fun _ _ h=>by cases h) (fun l=>by obtain⟨b,c,T,h1,m,o,d⟩:=l;exact⟨b,c,T,h1,m,by rw[Qh];exact o,fun i a=>by rw[Qh]at a;rw[Wa n f a];exact⟨.p _ _ (d i a).1,(d i a).2⟩⟩) g
theorem semUp.vecq {st:St}{j n k:Nat}{e:TypeId}{f g:Nat->List PV}{vw:Bool}{K:St->Prop}(hj:A1 st.regs j=some (.vec e k n f vw))(m:∀i,i<n->leC (f i) (g i))(r:K ⟨st.env,ins j (.vec e k n g vw) st.regs⟩):semUp st K:=
 semUp.swap (o':=.vec e k n g vw) hj (fun _=>rfl) (fun _=>by cases vw<;>exact AZ7) (fun _ _ h=>by cases h) (fun s=>by
  rcases s with⟨h1,l⟩ | ⟨b,cap,c,h1,l,t,u,v,w,o⟩
  .exact .inl ⟨h1,l⟩
  exact .inr ⟨b,cap,c,h1,l,t,u,v,fun i a=>by rw[<- (m i a).1];exact w i a,fun i q a d=>⟨(o i q a d).1.leQ ((m i a).2 q),(o i q a d).2⟩⟩) r
theorem Ai7 (j:Nat)(ps:List PV)(env:Env)(t:Nat):get (Ag1 j ps env) t=frzA j ps (get env t):=by
 induction env with
 |nil=>rfl
 |cons p r ih=>
  obtain⟨i,a⟩:=p;simp only[Ag1,get];split
  .rfl
  exact ih
theorem semUp.frz {st:St}{j:Nat}{ps:List PV}{K:St->Prop}(hj:A1 st.regs j=some (.cells (ps.map .p)))(hK:K ⟨Ag1 j ps st.env,ins j .dead st.regs⟩):semUp st K:=fun C a w rho hs=>by
 have d:∀i,A1 (ins j .dead st.regs) i=if j=i then some .dead else A1 st.regs i:=fun i=>A2 _ _ _ _
 obtain⟨h1,hk⟩:=hs.step (D:=(· = j)) (R':=ins j .dead st.regs) (rho':=rho) (w':=w)
  (fun i f=>by rw[d,Lm (fun e=>f e.symm)])
  (fun i f=>⟨by
   unfold Lv at f⊢;rw[d];split
   .rfl
   exact f,rfl⟩) (AQ8 _)
  (fun i f hl=>by
   unfold Lv at f hl;rw[d]at hl;split at hl
   .rename_i e;subst e;rw[hj]at f;exact Ln rfl f
   exact Ln hl f)
  (fun i r b f=>by subst f;rw[d,Ll rfl];simp)
  (fun _ _ _=>rfl)
  (fun i o b f l hb=>by subst f;rw[d,Ll rfl]at l;cases l;cases hb)
  (fun i i' oi oj b f g _ _ _ _=>f.trans g.symm)
  (fun i oi b off v f l hb hp hc=>⟨hc,fun i' o g s m=>by subst g;rw[d,Ll rfl]at s;cases s;cases m⟩)
  (fun _ i o f l=>by subst f;rw[d,Ll rfl]at l;cases l;trivial)
 have u:∀b off,Prv C.X (A1 (ins j .dead st.regs)) rho b off->Prv C.X (A1 st.regs) rho b off:=by
  rintro b off (z|⟨i,o,f,hb,hp⟩)
  .exact .inl z
  rw[d]at f;split at f
  .cases f;cases hb
  exact .inr ⟨i,o,f,hb,hp⟩
 refine⟨_,rho,hK,u,⟨h1.toSatE,fun t=>?_,h1.pin,h1.marks⟩⟩;show RepA w _ _ rho (a.tmps.getD t undef) (get (Ag1 j ps st.env) t);rw[Ai7];have y:=h1.env t;have y:RepA w (Prv C.X (A1 (ins j .dead st.regs)) rho) (Lv (A1 (ins j .dead st.regs))) rho (a.tmps.getD t undef) (get st.env t):=y;have l:=hs.env t;generalize get st.env t=x at y l⊢;cases x with
 |reg i o=>
  simp only[frzA];split
  .rename_i e;subst e;generalize a.tmps.getD t undef=v at l⊢;cases l with
   |reg _ _ b hl hr=>
    obtain⟨b',c,T,e1,e2,e3,e4⟩:=hs.hp.holds i _ hj;rw[hr]at e1;cases e1;have hsz:c.size=ps.length:=by simpa using e3
    refine .p _ _ (.ptr b o (ps.drop o) (fun q=>c.getD (o+q) undef) (fun q hq=>?_) fun q hq=>?_)
    .have n:o+q<ps.length:=by simp only[AS9]at hq;omega
     refine⟨E2 e2 (by omega),?_,(e4 (o+q) (by simpa using n)).2⟩;rintro (z|⟨i',o',g,m,hp'⟩)
     .exact hs.hp.out i _ b _ hj (by simp[D6,K9,hr]) z
     rw[d]at g;split at g
     .cases g;cases m
     rename_i hne;exact hne (hs.hp.sep i i' _ o' b hj g (by simp[D6,K9,hr]) m)
    have n:o+q<ps.length:=by simp only[AS9]at hq;omega
    have h4:=(e4 (o+q) (by simpa using n)).1;have e5:(ps.map AV.p).getD (o+q) .top=.p (ps.getD (o+q) default):=by simp[AQ1,n]
    rw[e5]at h4;have e6:(ps.drop o).getD q default=ps.getD (o+q) default:=by simp[AQ1,AX1]
    rw[e6];exact h4.toP.keeps hk
  exact y
 |_=>exact y
theorem Sat.congr {s t:St}(h:Sat C s a w rho)(h1:∀x,get s.env x=get t.env x)(b:∀j,A1 s.regs j=A1 t.regs j):Sat C t a w rho:=by have e1:get s.env=get t.env:=funext h1;have e2:A1 s.regs=A1 t.regs:=funext b;obtain⟨⟨g1,g0,g2,g3,g4,g5,g6⟩,g7,g8,g9⟩:=h;rw[e2]at g1 g4 g5 g6 g7 g8;rw[e1]at g7;exact⟨⟨g1,g0,g2,g3,g4,g5,g6⟩,g7,g8,g9⟩
theorem semUp.eqv {s t:St}{K:St->Prop}(h1:∀x,get s.env x=get t.env x)(c:∀j,A1 s.regs j=A1 t.regs j)(h:K t):semUp s K:=fun C a w rho hs=>
 ⟨t,rho,h,fun b o hp=>by rw[funext c];exact hp,hs.congr h1 c⟩
theorem semUp.less {s t:St}{K:St->Prop}(h1:∀x,PW (get t.env x) (get s.env x))(d:∀j,A1 s.regs j=A1 t.regs j)(h:K t):semUp s K:=fun C a w rho hs=>by
 have c:Sat C ⟨s.env,t.regs⟩ a w rho:=hs.congr (fun _=>rfl) d;refine⟨t,rho,h,fun b o hp=>by rw[funext d];exact hp,c.toSatE,fun x=>?_,c.pin,c.marks⟩
 have:=c.env x
 rcases h1 x with e|e|⟨y,e1,e2⟩
 .rw[e];exact .top _
 .rw[e];exact this
 rw[e1];rw[show get (St.mk s.env t.regs).env x=_ from e2]at this;exact .p _ _ (this.toP.leP (.inr (.inr (.inr (.inl ⟨y,rfl,rfl⟩)))))
theorem At2 {ids:List (Nat×Nat)}{j i:Nat}(h:lk ids j=some i):(j,i)∈ids:=by
 induction ids with
 |nil=>simp[lk]at h
 |cons p r ih=>
  obtain⟨x,y⟩:=p;simp only[lk]at h;split at h
  .rename_i e;cases h;subst e;simp
  exact AT2 _ (ih h)
theorem AI7 {ids:List (Nat×Nat)}(hn:G0 (ids.map (·.2))=true){j j' i:Nat}(h:lk ids j=some i)(h' : lk ids j' = some i):j=j':=by
 have b:=Ce hn;obtain⟨p,hp⟩:=AW7.1 (At2 h);obtain⟨q,a⟩:=AW7.1 (At2 h')
 have:p=q:=EF (j:=i) b (by rw[AQ9,hp];rfl) (by rw[AQ9,a];rfl)
 subst this;rw[hp]at a;cases a;rfl
theorem AI8 {ids:List (Nat×Nat)}(hp:Xr ids=true){j i:Nat}(h:lk ids j=some i)(hj:j<1000):i=j:=by
 induction ids with
 |nil=>simp[lk]at h
 |cons p r ih=>
  obtain⟨x,y⟩:=p;simp only[Xr,AQ7,AS6,beq_iff_eq,decide_eq_true_eq]at hp;simp only[lk]at h;split at h
  .rename_i e;cases h;omega
  exact ih hp.2 h
theorem LC {regs:B5}{j:Nat}{o:Obj}(h:A1 regs j=some o):(j,o)∈regs:=by
 induction regs with
 |nil=>simp[A1]at h
 |cons p r ih=>
  obtain⟨x,y⟩:=p;simp only[A1]at h;split at h
  .rename_i e;cases h;subst e;simp
  exact AT2 _ (ih h)
theorem Ai8 {regs:B5}{j:Nat}(h:j∈regs.map (·.1)):(A1 regs j).isSome=true:=by
 induction regs with
 |nil=>simp at h
 |cons p r ih=>
  obtain⟨x,y⟩:=p;simp only[A1];split
  .rfl
  rename_i e;simp only[AR9,AT9]at h;rcases h with h|h
  .exact Ln h.symm e
  exact ih h
theorem EH {regs:B5}{ids:List (Nat×Nat)}:∀{r:B5},RU regs ids r->∀{j:Nat}{p:Obj},A1 r j=some p ->
 (∃i o,lk ids j=some i/\A1 regs i=some o/\leO regs ids o p) \/ (lk ids j=none/\∃e k f vw,p=.vec e k 0 f vw)
 |[],_,j,p,h=>by simp[A1]at h
 |(x,y)::r,hl,j,p,h=>by
  simp only[A1]at h;split at h
  .rename_i e;cases h;subst e;exact hl.1
  exact EH hl.2 h
theorem Sq {regs:B5}{ids:List (Nat×Nat)}{env:Env}:∀{r:Env},LR regs ids env r->∀(t:Nat),(∃b,(t,b)∈r/\get r t=b/\leA regs ids (get env t) b/\∀i∈Iu (get env t) b,i∈Ah0 env r) \/ get r t=.top
 |[],_,t=>.inr rfl
 |(x,y)::r,hl,t=>by
  simp only[get];split
  .rename_i e;subst e;exact .inl ⟨y,by simp,rfl,hl.1,fun i a=>by simp only[Ah0];exact AT3 _ a⟩
  rcases Sq hl.2 t with⟨b,h1,c,d,f⟩ | h
  .exact .inl ⟨b,AT2 _ h1,c,d,fun i a=>by simp only[Ah0];exact AS0 _ (f i a)⟩
  exact .inr h
theorem OT {ids:List (Nat×Nat)}{js:List Nat}:∀{r:B5},KC ids js r=true->∀{j e k n f i},(j,Obj.vec e k n f false)∈r->lk ids j=some i->i ∉ js
 |[],_,j,e,k,n,f,i,h,_=>by simp at h
 |p::r,hs,j,e,k,n,f,i,h,hi=>by
  rcases AT9.1 h with h|h
  .subst h;simp only[KC,hi,AQ7,AS7,AU6,decide_eq_false_iff_not]at hs;exact hs.1
  refine OT (r:=r) ?_ h hi;obtain⟨x,o⟩:=p;cases o with
  |vec _ _ _ _ b=>cases b<;>simp only[KC,AQ7]at hs<;>first|exact hs.2|exact hs
  |_=>exact hs
theorem HQ {regs:B5}{ids:List (Nat×Nat)}:∀{l m:List AV},leL regs ids l m->l.length=m.length/\∀i,i<l.length->leA regs ids (l.getD i .top) (m.getD i .top)/\∀x∈Iu (l.getD i .top) (m.getD i .top),x∈LT l m
 |l,[],h=>by unfold leL at h;subst h;exact⟨rfl,fun i a=>Ln a (by simp)⟩
 |l,y::m,h=>by
  unfold leL at h;obtain⟨x,r,rfl,h1,c⟩:=h;obtain⟨d,f⟩:=HQ c;refine⟨by simp[d],fun i a=>?_⟩;cases i with
  |zero=>exact⟨by simpa using h1,fun z b=>by unfold LT;exact AT3 _ (by simpa using b)⟩
  |succ i=>obtain⟨g,j⟩:=f i (by simpa using a);exact⟨by simpa using g,fun z b=>by unfold LT;exact AS0 _ (j z (by simpa using b))⟩
theorem Cf {js:List Nat}:∀{m:List AV},inL js m=true->∀i,i<m.length->inA js (m.getD i .top)=true
 |[],_,i,hi=>Ln hi (by simp)
 |y::m,h,i,hi=>by
  unfold inL at h;rw[AQ7]at h;cases i with
  |zero=>simpa using h.1
  |succ i=>simpa using Cf h.2 i (by simpa using hi)
section
variable {Pi Pi' : Nat->Nat->Prop}{live live' : Nat->Prop}{rho' : Nat->Value}{regs:B5}{ids:List (Nat×Nat)}{js:List Nat}
theorem RepA.viewP (hk:Keeps w Pi w Pi'){seenP:Nat->Prop}
 (g:∀i,seenP i->∀e k n f vw base n' cap,A1 regs i=some (.vec e k n f vw)->rho i=.slice base n' cap->n' = n/\∀m,m<=n->RepP w Pi' (.slice base m cap) (.sl false k m f))
 {v:Value}{a:AV}(h:RepA w Pi live rho v a) {x y:PV}(hx:AM.viewP regs a=some x) (hs:∀i∈Iu a (.p y),seenP i):RepP w Pi' v x:=by
 cases h with
 |p _ z hz=>simp only[AM.viewP,AQ2]at hx;subst hx;exact hz.keeps hk
 |vec j base n' cap hl hr=>
  simp only[AM.viewP]at hx;split at hx
  .rename_i e k n f vw hj;cases hx;obtain⟨rfl,c⟩:=g j (hs j (by simp[Iu])) _ _ _ _ _ _ _ _ hj hr;exact c _ (AQ8 _)
  cases hx
 |vecp j m base n' cap hl hr hm=>
  simp only[AM.viewP]at hx;split at hx
  .rename_i e k n f vw hj;cases hx;obtain⟨rfl,c⟩:=g j (hs j (by simp[Iu])) _ _ _ _ _ _ _ _ hj hr;rw[AY1 hm];exact c _ hm
  cases hx
 |clo f x' y' l r hx' hy' hl hr=>
  have gen:(match RJ l,RJ r with
   |some a,some b=>some (PV.fn f a b)
   |_,_=>none)=some x->RepP w Pi' (.func (.func f) x' y') x:=by
   intro d;split at d
   .rename_i a' b' ha hb;cases d;exact (RepA.clo_fn ha hb (.clo f x' y' l r hx' hy' hl hr)).keeps hk
   cases d
  cases l with
  |cons _ _=>exact gen hx
  |nil=>
   cases r with
   |cons _ _=>exact gen hx
   |nil=>simp only[AM.viewP,AQ2]at hx;subst hx;have e1:x' = #[]:=AX9.1 (by simpa using hx');have e2:y' = #[]:=AX9.1 (by simpa using hy');subst e1;subst e2;exact .v _
 |_=>simp[AM.viewP]at hx
theorem RepA.le (hk:Keeps w Pi w Pi')(t:∀j i,lk ids j=some i->rho' j=rho i)(hnil:∀j,lk ids j=none->rho' j=.slice none 0 0)(s:∀j,js.contains j=true->live' j){seenP:Nat->Prop}
 (u:∀i,seenP i->∀e k n f vw base n' cap,A1 regs i=some (.vec e k n f vw)->rho i=.slice base n' cap->n' = n/\∀m,m<=n->RepP w Pi' (.slice base m cap) (.sl false k m f))
 {v:Value}{a:AV}(h:RepA w Pi live rho v a):∀{b:AV},leA regs ids a b->inA js b=true->(∀i∈Iu a b,seenP i)->RepA w Pi' live' rho' v b:=by
 induction h with
 |p v x h=>
  intro b' hle c hs;cases b' with
  |top=>exact .top _
  |p y'=>unfold leA at hle;obtain⟨x',d,g⟩:=hle;exact .p _ _ (((RepA.p (live:=live) v x h).viewP hk u d hs).leP g)
  |vec j'=>
   unfold leA at hle;rcases hle with⟨i',_,q⟩ | ⟨hn,q⟩
   .cases q
   cases q;rw[h.toV];exact .vec j' none 0 0 (s j' (by unfold inA at c;exact c)) (hnil j' hn)
  |_=>simp[leA]at hle
 |reg j off b hl h=>
  intro b' hle c hs;cases b' with
  |top=>exact .top _
  |p y'=>unfold leA at hle;obtain⟨x',d,g⟩:=hle;exact .p _ _ (((RepA.reg j off b hl h).viewP hk u d hs).leP g)
  |reg j' off'=>unfold leA at hle;obtain⟨i',o,q⟩:=hle;cases q;exact .reg j' off b (s j' (by unfold inA at c;exact c)) ((t _ _ o).trans h)
  |_=>simp[leA]at hle
 |vec j base n cap hl h=>
  intro b' hle c hs;cases b' with
  |top=>exact .top _
  |p y'=>unfold leA at hle;obtain⟨x',d,g⟩:=hle;exact .p _ _ (((RepA.vec j base n cap hl h).viewP hk u d hs).leP g)
  |vec j'=>
   unfold leA at hle;rcases hle with⟨i',o,q⟩ | ⟨hn,q⟩
   .cases q;exact .vec j' base n cap (s j' (by unfold inA at c;exact c)) ((t _ _ o).trans h)
   cases q
  |_=>simp[leA]at hle
 |vecp j m base n cap hl h hm=>
  intro b' hle c hs;cases b' with
  |top=>exact .top _
  |p y'=>unfold leA at hle;obtain⟨x',d,g⟩:=hle;exact .p _ _ (((RepA.vecp j m base n cap hl h hm).viewP hk u d hs).leP g)
  |vecp j' m'=>unfold leA at hle;obtain⟨i',o,q⟩:=hle;cases q;exact .vecp j' m base n cap (s j' (by unfold inA at c;exact c)) ((t _ _ o).trans h) hm
  |_=>simp[leA]at hle
 |elt j k i off b n cap hl h=>
  intro b' hle c hs;cases b' with
  |top=>exact .top _
  |p y'=>unfold leA at hle;obtain⟨x',d,g⟩:=hle;exact .p _ _ (((RepA.elt j k i off b n cap hl h).viewP hk u d hs).leP g)
  |elt j' k' i2 off'=>unfold leA at hle;obtain⟨i',o,q⟩:=hle;cases q;exact .elt j' k i off b n cap (s j' (by unfold inA at c;exact c)) ((t _ _ o).trans h)
  |_=>simp[leA]at hle
 |mref j r hl h=>
  intro b' hle c hs;cases b' with
  |top=>exact .top _
  |p y'=>unfold leA at hle;obtain⟨x',d,g⟩:=hle;exact .p _ _ (((RepA.mref j r hl h).viewP hk u d hs).leP g)
  |mref j'=>unfold leA at hle;obtain⟨i',o,q⟩:=hle;cases q;exact .mref j' r (s j' (by unfold inA at c;exact c)) ((t _ _ o).trans h)
  |_=>simp[leA]at hle
 |clo f x y a b hx hy ha hb iha ihb=>
  intro b' hle c hs;cases b' with
  |top=>exact .top _
  |p y'=>unfold leA at hle;obtain⟨x',d,g⟩:=hle;exact .p _ _ (((RepA.clo f x y a b hx hy ha hb).viewP hk u d hs).leP g)
  |clo f' x2 y2=>
   unfold leA at hle;obtain⟨x3,y3,q,h1,h2⟩:=hle;cases q;unfold inA at c;rw[AQ7]at c;obtain⟨l1,g1⟩:=HQ h1;obtain⟨l2,g2⟩:=HQ h2;exact .clo f x y x2 y2 (hx.trans l1) (hy.trans l2)
    (fun i hi=>iha i (by omega) (g1 i (by omega)).1 (Cf c.1 i hi) fun z hz=>hs z (by unfold Iu;exact AT3 _ ((g1 i (by omega)).2 z hz)))
    fun i hi=>ihb i (by omega) (g2 i (by omega)).1 (Cf c.2 i hi) fun z hz=>hs z (by unfold Iu;exact AS0 _ ((g2 i (by omega)).2 z hz))
  |_=>simp[leA]at hle
 |tup x a hx ha ih=>
  intro b' hle c hs;cases b' with
  |top=>exact .top _
  |p y'=>unfold leA at hle;obtain⟨x',d,g⟩:=hle;exact .p _ _ (((RepA.tup x a hx ha).viewP hk u d hs).leP g)
  |tup l2=>unfold leA at hle;obtain⟨l3,q,h1'⟩:=hle;cases q;unfold inA at c;obtain⟨l1,g1⟩:=HQ h1';exact .tup x l2 (hx.trans l1) fun i hi=>ih i (by omega) (g1 i (by omega)).1 (Cf c i hi) fun z hz=>hs z (by unfold Iu;exact (g1 i (by omega)).2 z hz)
  |_=>simp[leA]at hle
 |agr x a hx h1 ha ih=>
  intro b' hle c hs;cases b' with
  |top=>exact .top _
  |p y'=>unfold leA at hle;obtain⟨x',d,g⟩:=hle;exact .p _ _ (((RepA.agr x a hx h1 ha).viewP hk u d hs).leP g)
  |agr l2=>unfold leA at hle;obtain⟨l3,q,h1'⟩:=hle;cases q;unfold inA at c;obtain⟨l1,g1⟩:=HQ h1';exact .agr x l2 (hx.trans l1) (fun i hi=>h1 i (by omega)) fun i hi=>ih i (by omega) (g1 i (by omega)).1 (Cf c i hi) fun z hz=>hs z (by unfold Iu;exact (g1 i (by omega)).2 z hz)
  |_=>simp[leA]at hle
 |rsl j n b hl h=>
  intro b' hle c hs;cases b' with
  |top=>exact .top _
  |p y'=>unfold leA at hle;obtain⟨x',d,g⟩:=hle;exact .p _ _ (((RepA.rsl j n b hl h).viewP hk u d hs).leP g)
  |rsl j' m'=>unfold leA at hle;obtain⟨i',o,q⟩:=hle;cases q;exact .rsl j' n b (s j' (by unfold inA at c;exact c)) ((t _ _ o).trans h)
  |_=>simp[leA]at hle
 |yf j l hl h=>
  intro b' hle c hs;cases b' with
  |top=>exact .top _
  |p y'=>unfold leA at hle;obtain⟨x',d,g⟩:=hle;exact .p _ _ (((RepA.yf j l hl h).viewP hk u d hs).leP g)
  |yf j'=>unfold leA at hle;obtain⟨i',o,q⟩:=hle;cases q;exact .yf j' l (s j' (by unfold inA at c;exact c)) ((t _ _ o).trans h)
  |_=>simp[leA]at hle
 |top v=>
  intro b' hle c hs;cases b' with
  |top=>exact .top _
  |p y'=>unfold leA at hle;obtain⟨x',d,g⟩:=hle;exact .p _ _ (((RepA.top (live:=live) v).viewP hk u d hs).leP g)
  |_=>simp[leA]at hle
end
def YH (ids:List (Nat×Nat))(rho:Nat->Value)(j:Nat):Value:=match lk ids j with
 |some i=>rho i
 |none=>.slice none 0 0
theorem Ay8 {regs:B5}{ids:List (Nat×Nat)}{o p:Obj}(h:leO regs ids o p){v:Value}{b:Nat}(hb:D6 v p b):D6 v o b/\∀off,Hr p off->Hr o off:=by
 cases p with
 |cells cs=>obtain⟨cs',rfl,_⟩:=h;exact⟨hb,fun _ h=>h⟩
 |vec e k n f vw=>
  obtain⟨g,vw',rfl,h1,c⟩:=h;refine⟨hb,fun off hp=>?_⟩;cases vw'
  .trivial
  rw[c rfl]at hp;exact hp
 |map es=>subst h;exact⟨hb,fun _ h=>h⟩
 |arr n f=>obtain⟨g,rfl,_⟩:=h;exact⟨hb,fun _ h=>h⟩
 |fam e n jr x=>obtain⟨_,_,rfl,_⟩:=h;exact⟨hb,fun _ h=>h⟩
 |rows n g=>obtain⟨g',rfl,h1⟩:=h;obtain⟨rv,d,i,a,hb⟩:=hb;exact⟨⟨rv,d,i,a,by rw[h1 i a];exact hb⟩,fun _ _=>trivial⟩
 |_=>simp[D6,K9]at hb
theorem Sat.le (h:Sat C st a w rho){ids:List (Nat×Nat)}(hle:Le ids st t):Sat C t a w (YH ids rho)/\∀b off,Prv C.X (A1 t.regs) (YH ids rho) b off->Prv C.X (A1 st.regs) rho b off:=by
 obtain⟨⟨hwf,hnd,hpin,hpn,hseen⟩,hE,hR⟩:=hle;have hlk:∀j i,lk ids j=some i->YH ids rho j=rho i:=fun j i hj=>by simp[YH,hj]
 have hnil:∀j,lk ids j=none->YH ids rho j=.slice none 0 0:=fun j hj=>by simp[YH,hj]
 simp only[wf,AQ7,AR4]at hwf;obtain⟨⟨⟨_,_⟩,hwe⟩,hwr⟩:=hwf;have hjs:∀j,(t.regs.map (·.1)).contains j=true->Lv (A1 t.regs) j:=fun j hj=>Ai8 (by simpa using hj);have hown:∀j p b,A1 t.regs j=some p->D6 (YH ids rho j) p b->∃i o,lk ids j=some i/\A1 st.regs i=some o/\D6 (rho i) o b/\leO st.regs ids o p/\∀off,Hr p off->Hr o off:=by
  intro j p b hj hb;rcases EH hR hj with⟨i,o,h1,h2,d⟩ | ⟨h1,e,k,f,vw,rfl⟩
  .rw[hlk j i h1]at hb;obtain⟨h4,u⟩:=Ay8 d hb;exact⟨i,o,h1,h2,h4,d,u⟩
  rw[hnil j h1]at hb;simp[D6,K9]at hb
 have hpi:∀b off,Prv C.X (A1 t.regs) (YH ids rho) b off->Prv C.X (A1 st.regs) rho b off:=by
  rintro b off (hX|⟨j,p,hj,hb,hp⟩)
  .exact .inl hX
  obtain⟨i,o,_,h2,d,_,u⟩:=hown j p b hj hb;exact .inr ⟨i,o,h2,d,u off hp⟩
 have hk:Keeps w (Prv C.X (A1 st.regs) rho) w (Prv C.X (A1 t.regs) (YH ids rho)):=fun b o v hp hc=>⟨hc,fun hp'=>hp (hpi b o hp')⟩;have hv:∀i,i∈Ah0 st.env t.env++Iv ids st.regs t.regs->∀e k n f vw base n' cap,A1 st.regs i=some (.vec e k n f vw)->rho i=.slice base n' cap->n' = n/\∀m,m<=n->RepP w (Prv C.X (A1 t.regs) (YH ids rho)) (.slice base m cap) (.sl false k m f):=by
  intro i hi e k n f vw base n' cap hri hrho;have hh:=h.hp.holds i _ hri;rw[hrho]at hh;rcases hh with⟨he,rfl⟩ | ⟨b,cap',c,he,h1,h2,d,h4,u,h6⟩
  .cases he;refine⟨rfl,fun m hm=>?_⟩;obtain rfl:m=0:=by omega
   exact .slnil k f
  cases he;refine⟨rfl,fun m hm=>?_⟩;refine .sl false b 0 cap k m f (fun i j=>c.getD (i*k+j) undef) (by omega) (fun i hi=>u i (by omega)) (fun x y hx hy=>?_) (fun x y hx hy=>((h6 x y (by omega) hy).1).keeps hk) none (fun _=>rfl);have hlt:=G3 (show x<n by omega) hy;have hle' : n*k<=c.size:=by rw[d];exact AS1 k h2
  rw[AT6];refine⟨E2 h1 (by omega),?_,(h6 x y (by omega) hy).2⟩;rintro (hX|⟨j,p,hj,hb,hp⟩)
  .exact h.hp.out i _ b _ hri (by simp[D6,K9,hrho]) hX
  obtain⟨i',o,h7,h8,h9,h10,h11⟩:=hown j p b hj hb
  have:=h.hp.sep i' i o _ b h8 hri h9 (by simp[D6,K9,hrho])
  subst this;rw[hri]at h8;cases h8;cases p with
  |vec e2 k2 n2 f2 vw2=>
   obtain⟨g,vw',he,h12,h13⟩:=h10;cases he;cases vw2
   .exact OT hseen (LC hj) h7 hi
   simp only[Hr]at hp;omega
  |cells cs=>obtain⟨cs',he,_⟩:=h10;cases he
  |map es=>cases h10
  |arr n f=>obtain⟨g,he,_⟩:=h10;cases he
  |ghost cs=>obtain⟨cs',he,_⟩:=h10;cases he
  |yld r b=>cases h10
  |fam e n jr x=>obtain⟨_,_,he,_⟩:=h10;cases he
  |rows n g=>obtain⟨_,he,_⟩:=h10;cases he
  |dead=>simp[D6,K9]at hb
 have hA:∀{v:Value}{x:AV},RS C st w rho v x->∀{y:AV},leA st.regs ids x y->inA (t.regs.map (·.1)) y=true->(∀i∈Iu x y,i∈Ah0 st.env t.env++Iv ids st.regs t.regs)->RepA w (Prv C.X (A1 t.regs) (YH ids rho)) (Lv (A1 t.regs)) (YH ids rho) v y:=
  fun hx y hle hin hs=>hx.le (live':=Lv (A1 t.regs)) hk hlk hnil hjs hv hle hin hs
 have hseenR:∀{r:B5}{j i:Nat}{cs cs' : List AV},(∀(q:Nat) (p:Obj),(q,p)∈r->(q,p)∈t.regs)->lk ids j=some i->((j,Obj.cells cs)∈r/\A1 st.regs i=some (.cells cs') \/ (j,Obj.ghost cs)∈r/\A1 st.regs i=some (.ghost cs'))->∀x∈LT cs' cs,x∈Iv ids st.regs r:=by
  intro r
  induction r with
  |nil=>intro j i cs cs' _ _ h;simp at h
  |cons p r ih=>
   intro j i cs cs' hsub hi hm x hx;obtain⟨q,p⟩:=p;have hrec:((j,Obj.cells cs)∈r/\A1 st.regs i=some (.cells cs') \/ (j,Obj.ghost cs)∈r/\A1 st.regs i=some (.ghost cs'))->x∈Iv ids st.regs r:=fun hm'=>ih (fun q p hqp=>hsub q p (AT2 _ hqp)) hi hm' x hx;rcases hm with⟨hm,hr⟩ | ⟨hm,hr⟩
   .rcases AT9.1 hm with he|hm
    .cases he;simp only[Iv,hi,hr];exact AT3 _ hx
    have:=hrec (.inl ⟨hm,hr⟩)
    cases p<;>simp only[Iv]<;>first|exact AS0 _ this|exact this
   rcases AT9.1 hm with he|hm
   .cases he;simp only[Iv,hi,hr];exact AT3 _ hx
   have:=hrec (.inr ⟨hm,hr⟩)
   cases p<;>simp only[Iv]<;>first|exact AS0 _ this|exact this
 refine⟨⟨⟨⟨?_,?_,?_,fun b off hX=>h.hp.bound b off hX⟩,h.ext,h.size,h.same,h.keep.trans hk,?_,?_⟩,?_,?_,h.marks⟩,hpi⟩
 .intro j p hj;rcases EH hR hj with⟨i,o,h1,h2,d⟩ | ⟨h1,e,k,f,vw,rfl⟩
  .rw[hlk j i h1];have hh:=h.hp.holds i o h2;have hmem:=LC hj;have hin:=hwr _ hmem;cases p with
   |cells cs=>obtain⟨cs',rfl,hl⟩:=d;obtain⟨l1,g1⟩:=HQ hl;obtain⟨b,c,T,hb,h4,u,h6⟩:=hh;refine⟨b,c,T,hb,h4,u.trans l1,fun q s=>⟨?_,(h6 q (by omega)).2⟩⟩;refine hA (h6 q (by omega)).1 (g1 q (by omega)).1 (Cf hin q s) fun z hz=>AS0 _ ?_;exact hseenR (fun _ _ h=>h) h1 (.inl ⟨hmem,h2⟩) z ((g1 q (by omega)).2 z hz)
   |vec e k n f vw=>
    obtain⟨g,vw',rfl,h4,u⟩:=d;rcases hh with hn|⟨b,cap,c,hb,h6,h7,h8,h9,h10,h11⟩
    .exact .inl hn
    exact .inr ⟨b,cap,c,hb,h6,h7,h8,h9,fun q s=>by rw[<- h4 q s];exact h10 q s,fun q r s hr=>by rw[<- h4 q s];exact⟨(h11 q r s hr).1.keeps hk,(h11 q r s hr).2⟩⟩
   |map es=>have d:o=.map es:=d;subst d;obtain⟨b,ents,clock,hb,h4,u,h6,h9⟩:=hh;exact⟨b,ents,clock,hb,h4,u,fun q s=>⟨(h6 q s).1.keeps hk,(h6 q s).2.keeps hk⟩,h9⟩
   |arr n f=>obtain⟨g,rfl,h7⟩:=d;obtain⟨b,c,T,hb,h4,u,h6⟩:=hh;exact⟨b,c,T,hb,h4,u,fun q s=>by rw[<- h7 q s];exact⟨(h6 q s).1.keeps hk,(h6 q s).2⟩⟩
   |ghost cs=>obtain⟨cs',rfl,hl⟩:=d;obtain⟨l1,g1⟩:=HQ hl;obtain⟨vs,hb,u,h6⟩:=hh;refine⟨vs,hb,u.trans l1,fun q s=>?_⟩;refine hA (h6 q (by omega)) (g1 q (by omega)).1 (Cf hin q s) fun z hz=>AS0 _ ?_;exact hseenR (fun _ _ h=>h) h1 (.inr ⟨hmem,h2⟩) z ((g1 q (by omega)).2 z hz)
   |yld r b=>have d:o=.yld r b:=d;subst d;exact hh
   |fam e n jr x=>
    obtain⟨jr',x',rfl,h4,u⟩:=d;obtain⟨rv,g1,g2,hv2⟩:=hh;simp only[inO,AQ7]at hin;refine⟨rv,hjs jr hin.1,(hlk _ _ h4).trans g2,?_⟩;rcases hv2 with hv2|⟨b,cap,c,hb,k1,k2,k3,k4,k5,k6⟩
    .exact .inl hv2
    refine .inr ⟨b,cap,c,hb,k1,k2,k3,k4,?_,?_⟩
    .intro q s;refine⟨(k5 q s).1,fun hx=>(k5 q s).2 ?_⟩;cases x with
     |none=>subst u;exact hx
     |some y=>obtain⟨a',rfl,_⟩:=u;exact hx
    cases x with
    |none=>trivial
    |some q=>obtain⟨i,a⟩:=q;obtain⟨a',rfl,h6,h7⟩:=u;refine hA k6 h7 hin.2 fun z hz=>?_;cases a<;>cases a'<;>first|(simp[nov]at h6;done)|(unfold Iu at hz;simp at hz)
   |rows n g=>obtain⟨g',rfl,h4⟩:=d;obtain⟨rv,hb,k1,k2⟩:=hh;refine⟨rv,hb,fun q s=>by rw[<- h4 q s];exact (k1 q s).keeps' hk fun _ _=>rfl,fun q l b s hl h8 h9=>?_⟩;rw[<- h4 q s]at h8;rw[<- h4 l hl]at h9;exact k2 q l b s hl h8 h9
   |dead=>trivial
  rw[hnil j h1];exact .inl ⟨rfl,rfl⟩
 .intro i j oi oj b hi hj hbi hbj;obtain⟨i',o1,h1,h2,d,_⟩:=hown i oi b hi hbi;obtain⟨j',o2,h4,u,h6,_⟩:=hown j oj b hj hbj
  have:=h.hp.sep i' j' o1 o2 b h2 u d h6
  subst this;exact AI7 hnd h1 h4
 .intro j p b off hj hb;obtain⟨i,o,_,h2,d,_⟩:=hown j p b hj hb;exact h.hp.out i o b off h2 d
 .rintro b ⟨j,p,hj,hb⟩;obtain⟨i,o,_,h2,d,_⟩:=hown j p b hj hb;exact h.own b ⟨i,o,h2,d⟩
 .intro j r b hj;rcases EH hR hj with⟨i,o,h1,h2,d⟩ | ⟨h1,e,k,f,vw,he⟩
  .have d:o=.yld r b:=d;subst d;rw[hlk j i h1];exact h.yld i r b h2
  cases he
 .intro x;rcases Sq hE x with⟨b,h1,h2,d,h4⟩ | h1
  .rw[h2];exact hA (h.env x) d (hwe _ h1) fun z hz=>AT3 _ (h4 z hz)
  rw[h1];exact .top _
 intro j hj hl;obtain⟨p,hp⟩:=AR8.1 hl;rcases EH hR hp with⟨i,o,h1,h2,d⟩ | ⟨h1,_⟩
 .have:=AI8 hpin h1 hj
  subst this;rw[hlk _ _ h1];exact h.pin _ hj (by simp[Lv,h2])
 exfalso
 have:∀{r:B5},OF ids r=true->(j,p)∈r->False:=by
  intro r
  induction r with
  |nil=>intro _ hm;simp at hm
  |cons q r ih=>
   intro s hm;obtain⟨x,y⟩:=q;simp only[OF,AQ7,AS6,decide_eq_true_eq]at s;rcases AT9.1 hm with he|hm
   .cases he;rcases s.1 with u|u
    .rw[h1]at u;cases u
    omega
   exact ih s.2 hm
 exact this hpn (LC hp)
theorem semUp.le {ids:List (Nat×Nat)}{K:St->Prop}(hle:Le ids st t)(b:K t):semUp st K:=fun C a w rho hs=>⟨t,_,b,(hs.le hle).2,(hs.le hle).1⟩
end
end Go.AM
namespace Go.AM
def Ai9 (j n j' : Nat)(env:Env)(t:Nat):get (As4 j n j' env) t=Ah1 j n j' (get env t):=by
 induction env with
 |nil=>rfl
 |cons p r ih=>
  obtain⟨i,b⟩:=p;simp only[As4,get];split
  .rfl
  exact ih
def Zu (j n j' : Nat)(regs:B5)(t:Nat):A1 (VQ j n j' regs) t=(A1 regs t).map (AF9 j n j'):=by
 induction regs with
 |nil=>rfl
 |cons p r ih=>
  obtain⟨i,b⟩:=p;simp only[VQ,A1];split
  .rfl
  exact ih
def Qi (j n j' : Nat):∀l:List AV,(As5 j n j' l).length=l.length
 |[]=>rfl
 |_::r=>congrArg (· + 1) (Qi j n j' r)
def Wb (j n j' : Nat):∀(l:List AV) (i:Nat),(As5 j n j' l).getD i .top=Ah1 j n j' (l.getD i .top)
 |[],i=>by simp[As5,Ah1]
 |a::r,0=>rfl
 |a::r,i+1=>by simpa[As5]using Wb j n j' r i
def Wc {w:World}{Pi Pi' : Nat->Nat->Prop}{live live' : Nat->Prop}{rho rho' : Nat->Value}{j n j' : Nat}(hk:Keeps w Pi w Pi')(hl:∀i,live i->live' i/\rho' i=rho i)(hj:live' j')
 (b:∀base N cap,rho j=.slice base N cap->rho' j' = .slice base n cap) {v:Value}{x:AV}(h:RepA w Pi live rho v x):RepA w Pi' live' rho' v (Ah1 j n j' x):=by
 have a:=h.keeps hk hl;cases h with
 |vecp i m base N cap hl' hr hm=>
  simp only[Ah1];split
  .rename_i e;obtain⟨rfl,rfl⟩:=e;exact .vec j' base _ cap hj (b _ _ _ hr)
  exact a
 |_=>exact a
def semUp.trunc {st:St}{j j' n N k:Nat}{e:TypeId}{f:Nat->List PV}{K:St->Prop}(hj:A1 st.regs j=some (.vec e k N f false))(hn:n<=N)(hf:A1 st.regs j' = none)(h1:1000<=j')
 (hK:K ⟨As4 j n j' st.env,ins j' (.vec e k n f false) (ins j .dead (VQ j n j' st.regs))⟩):semUp st K:=fun C a w rho hs=>by
 have hne:j≠j':=by rintro rfl;rw[hj]at hf;cases hf
 obtain⟨rho',y,x⟩:∃rho' : Nat->Value,(∀i,i≠j' -> rho' i=rho i)/\∀base M cap,rho j=.slice base M cap->rho' j' = .slice base n cap:=
  ⟨fun i=>if i=j' then (match rho j with | .slice b _ c=>.slice b n c|v=>v)else rho i,fun i d=>Lm d,fun base M cap h=>by simp only[Lo,h]⟩
 have m:∀i,A1 (ins j' (.vec e k n f false) (ins j .dead (VQ j n j' st.regs))) i=if j' = i then some (.vec e k n f false)else if j=i then some .dead else (A1 st.regs i).map (AF9 j n j'):=fun i=>by rw[A2,A2,Zu]
 have s:=hs.hp.holds j _ hj;have a2:D6 (rho' j') (.vec e k n f false)=D6 (rho j) (.vec e k N f false):=by rcases s with⟨h,_⟩ | ⟨b,cap,c,h,_⟩<;>rw[x _ _ _ h,h]<;>rfl
 have z:∀i oi b off,(i=j \/ i=j' \/ ∃cs,A1 st.regs i=some (.cells cs))->A1 st.regs i=some oi->D6 (rho i) oi b->Prv C.X (A1 st.regs) rho b off:=by
  rintro i oi b off (rfl|rfl|⟨cs,hc⟩) g hb
  .rw[hj]at g;cases g;exact .inr ⟨_,_,hj,hb,trivial⟩
  .rw[hf]at g;cases g
  rw[hc]at g;cases g;exact .inr ⟨_,_,hc,hb,trivial⟩
 have u:∀i o b,A1 (ins j' (.vec e k n f false) (ins j .dead (VQ j n j' st.regs))) i=some o->D6 (rho' i) o b ->
  ∃i0 o0,A1 st.regs i0=some o0/\D6 (rho i0) o0 b/\(i=j' /\ i0=j \/ i≠j' /\ i0=i)/\(∀off,Hr o off->Hr o0 off):=by
  intro i o b g hb;rw[m]at g;split at g
  .rename_i e1;subst e1;cases g;rw[a2]at hb;exact⟨j,_,hj,hb,.inl ⟨rfl,rfl⟩,fun _ h=>h⟩
  rename_i e1;split at g
  .cases g;cases hb
  obtain⟨o0,a0,rfl⟩:=AS2.1 g;rw[y i (fun h=>e1 h.symm)]at hb;refine⟨i,o0,a0,?_,.inr ⟨fun h=>e1 h.symm,rfl⟩,?_⟩
  .cases o0<;>exact hb
  cases o0<;>exact fun _ h=>h
 have q:∀i,Lv (A1 st.regs) i->Lv (A1 (ins j' (.vec e k n f false) (ins j .dead (VQ j n j' st.regs)))) i/\rho' i=rho i:=by
  intro i d;have a3:i≠j':=by rintro rfl;unfold Lv at d;rw[hf]at d;cases d
  refine⟨?_,y i a3⟩;unfold Lv at d⊢;rw[m,Lm (fun h=>a3 h.symm)];split
  .rfl
  simpa using d
 have a4:Lv (A1 (ins j' (.vec e k n f false) (ins j .dead (VQ j n j' st.regs)))) j':=by unfold Lv;rw[m,Ll rfl];rfl
 obtain⟨h2,hk⟩:=hs.step (D:=fun i=>i=j \/ i=j' \/ ∃cs,A1 st.regs i=some (.cells cs)) (R':=ins j' (.vec e k n f false) (ins j .dead (VQ j n j' st.regs))) (rho':=rho') (w':=w)
  (fun i d=>by
   rw[m,Lm (fun h=>d (.inr (.inl h.symm))),Lm (fun h=>d (.inl h.symm))];cases g:A1 st.regs i with
   |none=>rfl
   |some o=>cases o<;>first|rfl|exact Ln (.inr (.inr ⟨_,g⟩)) d)
  q (AQ8 _)
  (fun i d hl=>by
   unfold Lv at d hl;rw[m]at hl;split at hl
   .rename_i e1;omega
   split at hl
   .rename_i e1 e2;subst e2;rw[hj]at d;exact Ln rfl d
   exact Ln (by simpa using hl) d)
  (fun i r b d=>by
   rw[m];split
   .simp
   rename_i e1;split
   .simp
   rename_i e2;rcases d with rfl|rfl|⟨cs,hc⟩
   .exact Ln rfl e2
   .exact Ln rfl e1
   rw[hc];simp[AF9])
  (fun _ _ _=>rfl)
  (fun i o b d g hb=>by
   obtain⟨i0,o0,g1,g2,g3,_⟩:=u i o b g hb;refine .inl ⟨i0,o0,?_,g1,g2⟩;rcases g3 with⟨rfl,rfl⟩ | ⟨g3,rfl⟩
   .exact .inl rfl
   exact d)
  (fun i i' oi oj b d hi' g a5 hb a6=>by
   obtain⟨i0,o0,g1,g2,g3,_⟩:=u i oi b g hb;obtain⟨i1,o1,g1',g2',g3',_⟩:=u i' oj b a5 a6;have a1:=hs.hp.sep i0 i1 o0 o1 b g1 g1' g2 g2';have hd:∀i o,A1 (ins j' (.vec e k n f false) (ins j .dead (VQ j n j' st.regs))) i=some o->D6 (rho' i) o b->i≠j:=by rintro i o g hb rfl;rw[m,Lm (fun h=>hne h.symm),Ll rfl]at g;cases g;cases hb
   have d1:=hd i oi g hb;have d2:=hd i' oj a5 a6;rcases g3 with⟨rfl,rfl⟩ | ⟨g3,rfl⟩<;>rcases g3' with⟨rfl,rfl⟩ | ⟨g3',rfl⟩
   .rfl
   .exact Ln a1.symm d2
   .exact Ln a1 d1
   exact a1)
  (fun i oi b off v d g hb hp hc=>Ln (z i oi b off d g hb) hp)
  (fun hk i o d g=>by
   rw[m]at g;split at g
   .rename_i e1;subst e1;cases g;have s:=s.keeps (w':=w) hk (fun i d=>q i d) (fun _ _=>rfl);rcases s with⟨h,h0⟩ | ⟨b,cap,c,h,g1,g2,g3,g4,g5,g6⟩
    .refine .inl ⟨?_,by omega⟩
     have:=x _ _ _ h
     rw[this]
     have:n=0:=by omega
     rw[this]
    exact .inr ⟨b,cap,c,x _ _ _ h,g1,by omega,g3,g4,fun i d=>g5 i (by omega),fun i l d hl=>g6 i l (by omega) hl⟩
   rename_i e1;split at g
   .cases g;trivial
   rename_i e2;obtain⟨o0,a0,rfl⟩:=AS2.1 g;rw[y i (fun h=>e1 h.symm)];have hh:=hs.hp.holds i _ a0;cases o0 with
   |cells cs=>obtain⟨b,c,T,g0,g1,g2,g3⟩:=hh;refine⟨b,c,T,g0,g1,by rw[Qi];exact g2,fun l hl=>?_⟩;rw[Qi]at hl;rw[Wb];exact⟨Wc hk q a4 x (g3 l hl).1,(g3 l hl).2⟩
   |_=>exact hh.keeps hk (fun i d=>q i d) (fun _ _=>rfl))
 refine⟨_,rho',hK,?_,⟨h2.toSatE,fun t=>?_,h2.pin,h2.marks⟩⟩
 .rintro b off (hX|⟨i,o,d,hb,hp⟩)
  .exact .inl hX
  obtain⟨i0,o0,g1,g2,_,g4⟩:=u i o b d hb;exact .inr ⟨i0,o0,g1,g2,g4 off hp⟩
 show RepA w _ _ rho' (a.tmps.getD t undef) (get (As4 j n j' st.env) t);rw[Ai9];exact Wc hk q a4 x (hs.env t)
end Go.AM
namespace Go.AM
theorem Wd {w:World}{Pi Pi' : Nat->Nat->Prop}{live:Nat->Prop}{rho:Nat->Value}{v:Value}{o:Obj}{x:PV}(h:rowV w Pi live rho v o)(hp:VO o=some x)(hk:Keeps w Pi w Pi')
 (hb:∀b,K9 v o=some b->∀off,¬Pi' b off):RepP w Pi' v x:=by
 unfold VO at hp;split at hp
 .rename_i e k n f;cases hp;rcases h with⟨rfl,rfl⟩ | ⟨b,cap,c,rfl,h1,d,m,s,q,g⟩
  .exact .slnil _ _
  refine .sl false b 0 cap k n f (fun i j=>c.getD (i*k+j) undef) d q (fun i l a hl=>?_) (fun i l a hl=>(g i l a hl).1.keeps hk) none (fun _=>rfl);have r:=G3 a hl;have hle:n*k<=c.size:=by rw[m];exact AS1 k d
  rw[AT6];exact⟨E2 h1 (by omega),hb b rfl _,(g i l a hl).2⟩
 .cases hp;exact h.keeps hk
 cases hp
section
variable {st t:St}{j jr j' i:Nat}{g:Nat->Obj}{c:List Prop}{K:St->Prop}
theorem semUp.famF (he:Y2 (.fam j jr g) st=some (c,t))(hc:D0 c)(hK:K t):semUp st K:=fun C a w rho hs=>by
 simp only[Y2]at he;split at he
 .rename_i e n f hj hf;cases he;obtain⟨h1,hrow⟩:=hc;have a1:j≠jr:=by rintro rfl;rw[hj]at hf;cases hf
  obtain⟨rv,hrv⟩:∃rv:Array Value,(rho j=.slice none 0 0/\n=0) \/ ∃b cap,rho j=.slice (some ⟨b,0,none⟩) n cap/\w.heap[b]? = some (.cells rv e (0,0))/\n<=cap/\rv.size=cap/\cap<=maxLen /\
   ∀i,i<n->(∃x,f i=[x]/\RepP w (PiS C st rho) (rv.getD i undef) x)/\(rv.getD i undef).oneCell' = true:=by
   rcases hs.hp.holds j _ hj with⟨h,h0⟩ | ⟨b,cap,c,h,g1,g2,g3,g4,g5,g6⟩
   .exact⟨#[],.inl ⟨h,h0⟩⟩
   refine⟨c,.inr ⟨b,cap,h,g1,g2,by simpa using g3,g4,fun i v=>?_⟩⟩;obtain⟨x,hx⟩:=Bd8.1 (g5 i v)
   have:=g6 i 0 v (by omega)
   rw[hx,AV9,AX6]at this;exact⟨⟨x,hx,this.1⟩,this.2⟩
  have z:∀i,i<n->K9 (rv.getD i undef) (g i)=none/\∀{Pi' live' rho'},Keeps w (PiS C st rho) w Pi' -> rowV w Pi' live' rho' (rv.getD i undef) (g i):=by
   intro i v;have hr:=hrow i v;rcases hrv with⟨_,h0⟩ | ⟨b,cap,_,_,_,_,_,hx⟩
   .omega
   obtain⟨⟨x,hfx,hx⟩,_⟩:=hx i v;rw[hfx]at hr;unfold YX at hr;split at hr
   .rename_i hgi;cases hr;rw[hx.toV,hgi];exact⟨rfl,fun _=>.inl ⟨rfl,rfl⟩⟩
   .rename_i y hgi;obtain⟨hr,_⟩:=hr;cases hr;rw[hgi];exact⟨rfl,fun hk=>hx.keeps hk⟩
   exact hr.elim
  have s:∀q,A1 (ins jr (.rows n g) (ins j (.fam e n jr none) st.regs)) q=if jr=q then some (.rows n g)else if j=q then some (.fam e n jr none)else A1 st.regs q:=fun q=>by rw[A2,A2]
  obtain⟨rho',hr'⟩:∃rho' : Nat->Value,rho' = fun q=>if q=jr then .agg rv else rho q:=⟨_,rfl⟩
  have hr1:rho' jr=.agg rv:=by rw[hr'];exact Ll rfl
  have hr2:∀q,q≠jr->rho' q=rho q:=fun q d=>by rw[hr'];exact Lm d
  have hlive:∀q,Lv (A1 st.regs) q->Lv (A1 (ins jr (.rows n g) (ins j (.fam e n jr none) st.regs))) q/\rho' q=rho q:=fun q d=>
   ⟨Dt (Dt d),hr2 q (by rintro rfl;unfold Lv at d;rw[hf]at d;cases d)⟩
  have a0:∀q o b,(q=j \/ q=jr)->A1 (ins jr (.rows n g) (ins j (.fam e n jr none) st.regs)) q=some o->D6 (rho' q) o b->q=j/\D6 (rho j) (.vec e 1 n f false) b:=by
   intro q o b d m hb;rw[s]at m;split at m
   .rename_i e1;subst e1;cases m;rw[hr1]at hb;obtain⟨rv',he,i,v,hb⟩:=hb;cases he;rw[(z i v).1]at hb;cases hb
   rename_i e1;obtain rfl:q=j:=d.resolve_right fun e=>e1 e.symm;rw[Ll rfl]at m;cases m;rw[hr2 q a1]at hb;exact⟨rfl,hb⟩
  obtain⟨h2,h3⟩:=hs.re (fun q=>q=j \/ q=jr) (R':=ins jr (.rows n g) (ins j (.fam e n jr none) st.regs)) (rho':=rho')
   (fun q d=>by rw[s,Lm (fun e=>d (.inr e.symm)),Lm (fun e=>d (.inl e.symm))]) hlive
   (fun q d u=>by
    rcases Du u with rfl|u
    .exact h1
    rcases Du u with rfl|u
    .exact Ln (Me hj) d
    exact Ln u d)
   (fun q r b d=>by rw[s];rcases d with rfl|rfl<;>simp[a1,AV5 a1])
   (fun q o b d m hb=>by obtain⟨rfl,h⟩:=a0 q o b d m hb;exact⟨q,_,.inl rfl,hj,h⟩)
   (fun q q' o o' b d u m ho' hb hb'=>by rw[(a0 q o b d m hb).1,(a0 q' o' b u ho' hb').1])
   (fun q o d m off=>by
    rcases d with rfl|rfl
    .rw[hj]at m;cases m;trivial
    rw[hf]at m;cases m)
   (fun _ hk q o d m=>by
    rw[s]at m;split at m
    .rename_i e1;subst e1;cases m;rw[hr1];exact⟨rv,rfl,fun i v=>(z i v).2 hk,fun i l b v hl hb _=>by rw[(z i v).1]at hb;cases hb⟩
    rename_i e1;obtain rfl:q=j:=d.resolve_right fun e=>e1 e.symm;rw[Ll rfl]at m;cases m;rw[hr2 q a1];refine⟨rv,by unfold Lv;rw[s,Ll rfl];rfl,hr1,?_⟩;rcases hrv with h|⟨b,cap,g1,g2,g3,g4,g5,g6⟩
    .exact .inl h
    exact .inr ⟨b,cap,rv,g1,g2,g3,g4,g5,fun i v=>⟨(g6 i v).2,fun _=>rfl⟩,trivial⟩)
  exact⟨_,rho',hK,h3,h2⟩
 cases he
theorem semUp.famO (z:Y2 (.over j i) st=some (c,t))(hc:D0 c)(hK:K t):semUp st K:=fun C a w rho hs=>by
 simp only[Y2]at z;split at z
 .rename_i e n jr hj;split at z
  .rename_i m g x;cases z;obtain⟨rfl,hi0⟩:=hc;have a1:j≠jr:=by rintro rfl;rw[hj]at x;cases x
   obtain⟨rv,l1,l2,a2⟩:=hs.hp.holds j _ hj;obtain⟨rv',e1,a3,a4⟩:=hs.hp.holds jr _ x;rw[l2]at e1;cases e1;have v:∀q,A1 (ins jr (.rows m fun l=>if l=i then .dead else g l) (ins j (.fam e m jr (some (i,.top))) st.regs)) q=if jr=q then some (.rows m fun l=>if l=i then .dead else g l)else if j=q then some (.fam e m jr (some (i,.top)))else A1 st.regs q:=fun q=>by rw[A2,A2]
   have s:∀l b,K9 (rv.getD l undef) (if l=i then .dead else g l)=some b->K9 (rv.getD l undef) (g l)=some b:=by
    intro l b h;split at h
    .cases h
    exact h
   have y:∀q o b,(q=j \/ q=jr)->A1 (ins jr (.rows m fun l=>if l=i then .dead else g l) (ins j (.fam e m jr (some (i,.top))) st.regs)) q=some o->D6 (rho q) o b->∃oi,A1 st.regs q=some oi/\D6 (rho q) oi b:=by
    intro q o b d f hb;rw[v]at f;split at f
    .rename_i e1;subst e1;cases f;obtain⟨rv',z,l,hl,hb⟩:=hb;exact⟨_,x,rv',z,l,hl,by rw[l2]at z;cases z;exact s l b hb⟩
    rename_i e1;obtain rfl:q=j:=d.resolve_right fun e=>e1 e.symm;rw[Ll rfl]at f;cases f;exact⟨_,hj,hb⟩
   obtain⟨h2,h3⟩:=hs.re (fun q=>q=j \/ q=jr) (R':=ins jr (.rows m fun l=>if l=i then .dead else g l) (ins j (.fam e m jr (some (i,.top))) st.regs)) (rho':=rho)
    (fun q d=>by rw[v,Lm (fun e=>d (.inr e.symm)),Lm (fun e=>d (.inl e.symm))]) (fun q d=>⟨Dt (Dt d),rfl⟩)
    (fun q d u=>by
     rcases Du u with rfl|u
     .exact Ln (Me x) d
     rcases Du u with rfl|u
     .exact Ln (Me hj) d
     exact Ln u d)
    (fun q r b d=>by rw[v];rcases d with rfl|rfl<;>simp[a1,AV5 a1])
    (fun q o b d f hb=>by obtain⟨oi,h,h'⟩:=y q o b d f hb;exact⟨q,oi,d,h,h'⟩)
    (fun q q' o o' b d u f a5 hb a0=>by obtain⟨o1,g1,g2⟩:=y q o b d f hb;obtain⟨o2,g3,g4⟩:=y q' o' b u a5 a0;exact hs.hp.sep q q' o1 o2 b g1 g3 g2 g4)
    (fun q o d f off=>by
     rcases d with rfl|rfl
     .rw[hj]at f;cases f;trivial
     rw[x]at f;cases f;trivial)
    (fun _ hk q o d f=>by
     rw[v]at f;split at f
     .rename_i e1;subst e1;cases f;refine⟨rv,l2,fun l hl=>?_,fun l l' b hl a6 hb a0=>a4 l l' b hl a6 (s l b hb) (s l' b a0)⟩;by_cases e:l=i
      .simp only[Ll e];trivial
      simp only[Lm e];exact (a3 l hl).keeps' hk fun _ _=>rfl
     rename_i e1;obtain rfl:q=j:=d.resolve_right fun e=>e1 e.symm;rw[Ll rfl]at f;cases f;refine⟨rv,Dt (Dt l1),l2,?_⟩;rcases a2 with h|⟨b,cap,c,g1,g2,g3,g4,g5,g6,g7⟩
     .exact .inl h
     exact .inr ⟨b,cap,c,g1,g2,g3,g4,g5,fun l hl=>⟨(g6 l hl).1,fun _=>(g6 l hl).2 (by simp)⟩,.top _⟩)
   exact⟨_,rho,hK,h3,h2⟩
  cases z
 cases z
theorem semUp.famP (he:Y2 (.pub j) st=some (c,t))(hc:D0 c)(hK:K t):semUp st K:=fun C a w rho hs=>by
 simp only[Y2]at he;split at he
 .rename_i e n jr hj;split at he
  .rename_i m g s;cases he;obtain⟨rfl,hpr⟩:=hc;have hne:j≠jr:=by rintro rfl;rw[hj]at s;cases s
   obtain⟨rv,l1,l2,hfam⟩:=hs.hp.holds j _ hj;obtain⟨rv',e1,hrow,hdis⟩:=hs.hp.holds jr _ s;rw[l2]at e1;cases e1;have u:∀q,A1 (ins jr .dead (ins j (.vec e 1 m (fun i=>[(VO (g i)).getD default]) false) st.regs)) q=if jr=q then some .dead else if j=q then some (.vec e 1 m (fun i=>[(VO (g i)).getD default]) false)else A1 st.regs q:=fun q=>by rw[A2,A2]
   have v:∀q o b,A1 (ins jr .dead (ins j (.vec e 1 m (fun i=>[(VO (g i)).getD default]) false) st.regs)) q=some o->D6 (rho q) o b->q≠jr/\∃oi,A1 st.regs q=some oi/\D6 (rho q) oi b:=by
    intro q o b d hb;rw[u]at d;split at d
    .cases d;cases hb
    rename_i e1;refine⟨fun e=>e1 e.symm,?_⟩;split at d
    .rename_i e2;subst e2;cases d;exact⟨_,hj,hb⟩
    exact⟨_,d,hb⟩
   obtain⟨h2,h3⟩:=hs.re (fun q=>q=j \/ q=jr) (R':=ins jr .dead (ins j (.vec e 1 m (fun i=>[(VO (g i)).getD default]) false) st.regs)) (rho':=rho)
    (fun q f=>by rw[u,Lm (fun e=>f (.inr e.symm)),Lm (fun e=>f (.inl e.symm))]) (fun q f=>⟨Dt (Dt f),rfl⟩)
    (fun q f y=>by
     rcases Du y with rfl|y
     .exact Ln (Me s) f
     rcases Du y with rfl|y
     .exact Ln (Me hj) f
     exact Ln y f)
    (fun q r b f=>by rw[u];rcases f with rfl|rfl<;>simp[hne,AV5 hne])
    (fun q o b f d hb=>by obtain⟨_,oi,h,h'⟩:=v q o b d hb;exact⟨q,oi,f,h,h'⟩)
    (fun q q' o o' b f y d ho' hb z=>by obtain⟨_,o1,g1,g2⟩:=v q o b d hb;obtain⟨_,o2,g3,g4⟩:=v q' o' b ho' z;exact hs.hp.sep q q' o1 o2 b g1 g3 g2 g4)
    (fun q o f d off=>by
     rcases f with rfl|rfl
     .rw[hj]at d;cases d;trivial
     rw[s]at d;cases d;trivial)
    (fun _ hk q o f d=>by
     rw[u]at d;split at d
     .cases d;trivial
     rename_i e1;obtain rfl:q=j:=f.resolve_right fun e=>e1 e.symm;rw[Ll rfl]at d;cases d;rcases hfam with h|⟨b,cap,c,g1,g2,g3,g4,g5,g6,g7⟩
     .exact .inl h
     refine .inr ⟨b,cap,c,g1,g2,g3,by omega,g5,fun _ _=>rfl,fun i l hi hl=>?_⟩;obtain rfl:l=0:=by omega
     rw[AV9,AX6];refine⟨?_,(g6 i hi).1⟩;rw[(g6 i hi).2 (by simp)];obtain⟨x,hx⟩:=AR8.1 (hpr i hi);show RepP w _ _ ((VO (g i)).getD default);rw[hx];refine Wd (hrow i hi) hx hk fun b' z off hp=>?_;have hbr:D6 (rho jr) (.rows m g) b':=⟨rv,l2,i,hi,z⟩;rcases hp with hX|⟨q',o',h5,h6,_⟩
     .exact hs.hp.out jr _ b' off s hbr hX
     obtain⟨h7,oi,h8,h9⟩:=v q' o' b' h5 h6;exact h7 (hs.hp.sep q' jr oi _ b' h8 s h9 hbr))
   exact⟨_,rho,hK,h3,h2⟩
  cases he
 cases he
theorem Zv {o o' : Obj}{a:AV}(h:rowA j' o=some (a,o')):(∀v b,K9 v o' = some b->K9 v o=some b)/\(∀off,Hr o' off)/\(∀r b,o' ≠ .yld r b)/\(∀n g,o' ≠ .rows n g) /\
 ∀{w Pi Pi' live live' rho rho' v},Keeps w Pi w Pi' -> rowV w Pi live rho v o->live' j' -> rho' j' = v->HoldsO w Pi' live' rho' v o' /\ RepA w Pi' live' rho' v a:=by
 unfold rowA at h;split at h
 .rename_i e k n f;cases h;refine⟨fun _ _ h=>h,fun _=>trivial,fun _ _ h=>(nomatch h),fun _ _ h=>(nomatch h),fun hk c hl d=>?_⟩;refine⟨c.keeps' hk fun _ _=>rfl,?_⟩;obtain⟨base,cap,hs⟩:=Iw (vw:=false) (e:=e) (k:=k) (n:=n) (f:=f) c;rw[hs]at d⊢;exact .vec j' _ _ _ hl d
 .rename_i es;cases h;refine⟨fun _ _ h=>h,fun _=>trivial,fun _ _ h=>(nomatch h),fun _ _ h=>(nomatch h),fun hk c hl d=>?_⟩;refine⟨c.keeps' hk fun _ _=>rfl,?_⟩;obtain⟨b,ents,clock,hs,_⟩:=c;rw[hs]at d⊢;exact .mref j' b hl d
 .cases h;exact⟨fun _ _ h=>(nomatch h),fun _=>trivial,fun _ _ h=>(nomatch h),fun _ _ h=>(nomatch h),fun hk c hl d=>⟨trivial,.p _ _ (c.keeps hk)⟩⟩
 cases h
theorem Aj0 {v:Value}{o:Obj}(h:∀n g,o ≠ .rows n g){b:Nat}(hb:D6 v o b):K9 v o=some b:=by
 cases o with
 |rows n g=>exact Ln rfl (h n g)
 |_=>exact hb
theorem semUp.famT (he:Y2 (.take j i j') st=some (c,t))(hc:D0 c)(hK:K t):semUp st K:=fun C a w rho hs=>by
 simp only[Y2]at he;split at he
 .rename_i e n jr hj hf;split at he
  .rename_i m g s;split at he
   .rename_i av o' hra;cases he;obtain⟨⟨h1,rfl⟩,v⟩:=hc;obtain⟨s1,s2,s3,s4,s5⟩:=Zv hra;have hne:j≠jr:=by rintro rfl;rw[hj]at s;cases s
    have hn1:j≠j':=by rintro rfl;rw[hj]at hf;cases hf
    have hn2:jr≠j':=by rintro rfl;rw[s]at hf;cases hf
    obtain⟨rv,l1,l2,hfam⟩:=hs.hp.holds j _ hj;obtain⟨rv',e1,hrow,hdis⟩:=hs.hp.holds jr _ s;rw[l2]at e1;cases e1;obtain⟨R',hR'⟩:∃R' : B5,R' = ins j' o' (ins jr (.rows m fun l=>if l=i then .dead else g l) (ins j (.fam e m jr (some (i,av))) st.regs)):=⟨_,rfl⟩;have x:∀q,A1 R' q=if j' = q then some o' else if jr=q then some (.rows m fun l=>if l=i then .dead else g l)else if j=q then some (.fam e m jr (some (i,av)))else A1 st.regs q:=fun q=>by rw[hR',A2,A2,A2]
    obtain⟨rho',hr'⟩:∃rho' : Nat->Value,rho' = fun q=>if q=j' then rv.getD i undef else rho q:=⟨_,rfl⟩
    have hr1:rho' j' = rv.getD i undef:=by rw[hr'];exact Ll rfl
    have hr2:∀q,q≠j' -> rho' q=rho q:=fun q d=>by rw[hr'];exact Lm d
    have y:∀q,Lv (A1 st.regs) q->Lv (A1 R') q/\rho' q=rho q:=fun q d=>
     ⟨by rw[hR'];exact Dt (Dt (Dt d)),hr2 q (by rintro rfl;unfold Lv at d;rw[hf]at d;cases d)⟩
    have z:∀l b,K9 (rv.getD l undef) (if l=i then .dead else g l)=some b->l≠i/\K9 (rv.getD l undef) (g l)=some b:=by
     intro l b h;split at h
     .cases h
     rename_i e;exact⟨e,h⟩
    have hlj:Lv (A1 R') j':=by unfold Lv;rw[x,Ll rfl];rfl
    have hwas:∀q o b,(q=j \/ q=jr \/ q=j')->A1 R' q=some o->D6 (rho' q) o b ->
     (q=j' /\ K9 (rv.getD i undef) (g i)=some b) \/ (q=jr/\∃l,l<m/\l≠i/\K9 (rv.getD l undef) (g l)=some b) \/ (q=j/\D6 (rho j) (.fam e m jr none) b):=by
     intro q o b d f hb;rw[x]at f;split at f
     .rename_i e1;subst e1;cases f;rw[hr1]at hb;exact .inl ⟨rfl,s1 _ _ (Aj0 s4 hb)⟩
     rename_i e1;rw[hr2 q (fun e=>e1 e.symm)]at hb;split at f
     .rename_i e2;subst e2;cases f;obtain⟨rv',he,l,hl,hb⟩:=hb;rw[l2]at he;cases he;obtain⟨h5,h6⟩:=z l b hb;exact .inr (.inl ⟨rfl,l,hl,h5,h6⟩)
     rename_i e2;obtain rfl:q=j:=d.resolve_right fun e=>e.elim (fun e=>e2 e.symm) fun e=>e1 e.symm;rw[Ll rfl]at f;cases f;exact .inr (.inr ⟨rfl,hb⟩)
    have a0:∀l b,l<m->K9 (rv.getD l undef) (g l)=some b->D6 (rho jr) (.rows m g) b:=fun l b hl hb=>⟨rv,l2,l,hl,hb⟩;obtain⟨h2,h3⟩:=hs.re (fun q=>q=j \/ q=jr \/ q=j') (R':=R') (rho':=rho')
     (fun q d=>by rw[x,Lm (fun e=>d (.inr (.inr e.symm))),Lm (fun e=>d (.inr (.inl e.symm))),Lm (fun e=>d (.inl e.symm))]) y
     (fun q d u=>by
      rw[hR']at u;rcases Du u with rfl|u
      .exact h1
      rcases Du u with rfl|u
      .exact Ln (Me s) d
      rcases Du u with rfl|u
      .exact Ln (Me hj) d
      exact Ln u d)
     (fun q r b d=>by
      rw[x];split
      .simp only[ne_eq,AQ2];exact s3 r b
      split
      .simp
      split
      .simp
      rename_i x1 x2 x3;rcases d with rfl|rfl|rfl<;>simp at x1 x2 x3)
     (fun q o b d f hb=>by
      rcases hwas q o b d f hb with⟨rfl,h⟩ | ⟨rfl,l,hl,_,h⟩ | ⟨rfl,h⟩
      .exact⟨jr,_,.inr (.inl rfl),s,a0 i b v h⟩
      .exact⟨_,_,.inr (.inl rfl),s,a0 l b hl h⟩
      exact⟨_,_,.inl rfl,hj,h⟩)
     (fun q q' o o2 b d u f ho' hb hb'=>by
      rcases hwas q o b d f hb with⟨rfl,h⟩ | ⟨rfl,l,hl,hli,h⟩ | ⟨rfl,h⟩<;>rcases hwas q' o2 b u ho' hb' with⟨rfl,h'⟩ | ⟨rfl,l',hl',hli',h'⟩ | ⟨rfl,h'⟩
      .rfl
      .exact Ln (hdis l' i b hl' v h' h) hli'
      .exact Ln (hs.hp.sep _ _ _ _ b hj s h' (a0 i b v h)) hne
      .exact Ln (hdis l i b hl v h h') hli
      .rfl
      .exact Ln (hs.hp.sep _ _ _ _ b hj s h' (a0 l b hl h)) hne
      .exact Ln (hs.hp.sep _ _ _ _ b hj s h (a0 i b v h')) hne
      .exact Ln (hs.hp.sep _ _ _ _ b hj s h (a0 l' b hl' h')) hne
      rfl)
     (fun q o d f off=>by
      rcases d with rfl|rfl|rfl
      .rw[hj]at f;cases f;trivial
      .rw[s]at f;cases f;trivial
      rw[hf]at f;cases f)
     (fun _ hk q o d f=>by
      rw[x]at f;split at f
      .rename_i e1;subst e1;cases f;rw[hr1];exact (s5 hk (hrow i v) hlj hr1).1
      rename_i e1;rw[hr2 q (fun e=>e1 e.symm)];split at f
      .rename_i e2;subst e2;cases f;refine⟨rv,l2,fun l hl=>?_,fun l l' b hl hl' hb hb'=>hdis l l' b hl hl' (z l b hb).2 (z l' b hb').2⟩;by_cases e:l=i
       .simp only[Ll e];trivial
       simp only[Lm e];exact (hrow l hl).keeps' hk fun _ _=>rfl
      rename_i e2;obtain rfl:q=j:=d.resolve_right fun e=>e.elim (fun e=>e2 e.symm) fun e=>e1 e.symm;rw[Ll rfl]at f;cases f;refine⟨rv,(y jr l1).1,(y jr l1).2.trans l2,?_⟩;rcases hfam with h|⟨b,cap,c,g1,g2,g3,g4,g5,g6,g7⟩
      .exact .inl h
      refine .inr ⟨b,cap,c,g1,g2,g3,g4,g5,fun l hl=>⟨(g6 l hl).1,fun _=>(g6 l hl).2 (by simp)⟩,?_⟩;show RepA w _ _ rho' (c.getD i undef) av;rw[(g6 i v).2 (by simp)];exact (s5 hk (hrow i v) hlj hr1).2)
    subst hR';exact⟨_,rho',hK,h3,h2⟩
   cases he
  cases he
 cases he
theorem OU (jo:Option Nat)(regs:B5)(q:Nat):A1 (Ui jo regs) q=if jo=some q then some .dead else A1 regs q:=by
 cases jo with
 |none=>simp[Ui]
 |some j=>simp[Ui,A2]
theorem We {C:Ctx}{a:Act}{w:World}{rho:Nat->Value}(hs:Sat C st a w rho){x:AV}{jo:Option Nat}{o:Obj}(h:ofA st.regs x=some (jo,o)){v:Value}(j:RS C st w rho v x) :(∀j',jo=some j' -> A1 st.regs j' = some o/\rho j' = v/\(∀off,Hr o off)/\(∀e n r y,o ≠ .fam e n r y)/\∀n g,o ≠ .rows n g)/\(∀b,K9 v o=some b->∃j',jo=some j' /\ D6 (rho j') o b) /\
 ∀{Pi' live' rho'},Keeps w (PiS C st rho) w Pi' -> rowV w Pi' live' rho' v o:=by
 unfold ofA at h;split at h
 .rename_i j';split at h
  .rename_i e k l f hj;cases h;have d:=hs.hp.holds j' _ hj;have c:rho j' = v:=by cases j;assumption
   rw[c]at d;exact⟨fun q i=>by cases i;exact⟨hj,c,fun _=>trivial,fun _ _ _ _ h=>(nomatch h),fun _ _ h=>(nomatch h)⟩,fun b hb=>⟨j',rfl,by rw[c];exact hb⟩,fun hk=>rowV.keeps' (o:=.vec e k l f false) hk d fun _ _=>rfl⟩
  cases h
 .rename_i j';split at h
  .rename_i es hj;cases h;have d:=hs.hp.holds j' _ hj;have c:rho j' = v:=by cases j;assumption
   rw[c]at d;exact⟨fun q i=>by cases i;exact⟨hj,c,fun _=>trivial,fun _ _ _ _ h=>(nomatch h),fun _ _ h=>(nomatch h)⟩,fun b hb=>⟨j',rfl,by rw[c];exact hb⟩,fun hk=>rowV.keeps' (o:=.map es) hk d fun _ _=>rfl⟩
  cases h
 .cases h;exact⟨fun _ i=>(nomatch i),fun _ hb=>(nomatch hb),fun hk=>j.toP.keeps hk⟩
 cases h
theorem semUp.famB (he:Y2 (.put j j') st=some (c,t))(hc:D0 c)(hK:K t):semUp st K:=fun C a w rho hs=>by
 simp only[Y2]at he;split at he
 .rename_i e n jr i x hj hf;split at he
  .rename_i m g jo o s ho;cases he;obtain⟨⟨h1,rfl⟩,hi0⟩:=hc;obtain⟨rv,l1,l2,hfam⟩:=hs.hp.holds j _ hj;obtain⟨rv',e1,hrow,hdis⟩:=hs.hp.holds jr _ s;rw[l2]at e1;cases e1;obtain⟨b0,cap,c,g1,g2,g3,g4,g5,g6,g7⟩:=hfam.resolve_left (fun h=>by omega);obtain⟨s1,s2,s3⟩:=We hs ho g7;have hne:j≠jr:=by rintro rfl;rw[hj]at s;cases s
   have hn1:j≠j':=by rintro rfl;rw[hj]at hf;cases hf
   have hn2:jr≠j':=by rintro rfl;rw[s]at hf;cases hf
   have hn3:∀q,jo=some q->q≠j/\q≠jr/\q≠j':=by intro q f;obtain⟨k1,_,_,k4,k5⟩:=s1 q f;exact⟨by rintro rfl;rw[hj]at k1;cases k1;exact k4 _ _ _ _ rfl,by rintro rfl;rw[s]at k1;cases k1;exact k5 _ _ rfl,by rintro rfl;rw[hf]at k1;cases k1⟩
   obtain⟨rn,z⟩:∃rn:Array Value,∀q,q<m->rn.getD q undef=if q=i then c.getD i undef else rv.getD q undef:=
    ⟨Array.ofFn (n:=m) fun q=>if q.1=i then c.getD i undef else rv.getD q.1 undef,fun q f=>by simp[AQ0,f]⟩
   obtain⟨R',hR'⟩:∃R' : B5,R' = ins j' (.rows m fun q=>if q=i then o else g q) (Ui jo (ins jr .dead (ins j (.fam e m j' none) st.regs))):=⟨_,rfl⟩;have v:∀q,A1 R' q=if j' = q then some (.rows m fun q=>if q=i then o else g q)else if jo=some q then some .dead else if jr=q then some .dead else if j=q then some (.fam e m j' none)else A1 st.regs q:=fun q=>by rw[hR',A2,OU,A2,A2]
   obtain⟨rho',hr'⟩:∃rho' : Nat->Value,rho' = fun q=>if q=j' then .agg rn else rho q:=⟨_,rfl⟩
   have hr1:rho' j' = .agg rn:=by rw[hr'];exact Ll rfl
   have hr2:∀q,q≠j' -> rho' q=rho q:=fun q f=>by rw[hr'];exact Lm f
   have hlv:∀q,Lv (A1 R') q↔q=j' \/ Lv (A1 st.regs) q:=by
    intro q;unfold Lv;rw[v];constructor
    .intro h;split at h
     .exact .inl (Eq.symm ‹_›)
     split at h
     .rename_i k;obtain⟨k1,_⟩:=s1 q k;right;rw[k1];rfl
     split at h
     .rename_i k;subst k;right;rw[s];rfl
     split at h
     .rename_i k;subst k;right;rw[hj];rfl
     exact .inr h
    rintro (rfl|h)
    .rw[Ll rfl];rfl
    split;rfl;split;rfl;split;rfl;split;rfl;exact h
   have hlive:∀q,Lv (A1 st.regs) q->Lv (A1 R') q/\rho' q=rho q:=fun q f=>
    ⟨(hlv q).2 (.inr f),hr2 q (by rintro rfl;unfold Lv at f;rw[hf]at f;cases f)⟩
   have a0:∀q o2 b,(q=j \/ q=jr \/ q=j' \/ jo=some q)->A1 R' q=some o2->D6 (rho' q) o2 b ->
    (q=j' /\ ((∃q',jo=some q' /\ D6 (rho q') o b) \/ ∃l,l<m/\K9 (rv.getD l undef) (g l)=some b)) \/ (q=j/\D6 (rho j) (.fam e m jr (some (i,x))) b):=by
    intro q o2 b f d hb;rw[v]at d;split at d
    .rename_i e1;subst e1;cases d;rw[hr1]at hb;obtain⟨rv',he,l,hl,hb⟩:=hb;cases he;rw[z l hl]at hb;refine .inl ⟨rfl,?_⟩;by_cases e:l=i
     .simp only[Ll e]at hb;exact .inl (s2 b hb)
     simp only[Lm e]at hb;exact .inr ⟨l,hl,hb⟩
    rename_i e1;split at d
    .cases d;cases hb
    rename_i e2;split at d
    .cases d;cases hb
    rename_i e3;obtain rfl:q=j:=f.resolve_right fun e=>e.elim (fun e=>e3 e.symm) fun e=>e.elim (fun e=>e1 e.symm) e2;rw[Ll rfl]at d;cases d;rw[hr2 q hn1]at hb;exact .inr ⟨rfl,hb⟩
   have a1:∀l b,l<m->K9 (rv.getD l undef) (g l)=some b->D6 (rho jr) (.rows m g) b:=fun l b hl hb=>⟨rv,l2,l,hl,hb⟩;have y:∀b,((∃q',jo=some q' /\ D6 (rho q') o b) \/ ∃l,l<m/\K9 (rv.getD l undef) (g l)=some b)->¬D6 (rho j) (.fam e m jr (some (i,x))) b:=by
    rintro b (⟨q',k1,k2⟩ | ⟨l,hl,k2⟩) hb
    .exact (hn3 q' k1).1 (hs.hp.sep _ _ _ _ b (s1 q' k1).1 hj k2 hb)
    exact hne (hs.hp.sep _ _ _ _ b hj s hb (a1 l b hl k2))
   obtain⟨h2,h3⟩:=hs.re (fun q=>q=j \/ q=jr \/ q=j' \/ jo=some q) (R':=R') (rho':=rho')
    (fun q f=>by rw[v,Lm (fun e=>f (.inr (.inr (.inl e.symm)))),Lm (fun e=>f (.inr (.inr (.inr e)))),Lm (fun e=>f (.inr (.inl e.symm))),Lm (fun e=>f (.inl e.symm))]) hlive
    (fun q f hq'=>by
     rcases (hlv q).1 hq' with rfl|h
     .exact h1
     exact Ln h f)
    (fun q r b f=>by
     rw[v];split
     .simp
     split
     .simp
     split
     .simp
     split
     .simp
     rename_i x1 x2 x3 x4;exact Ln f (by simp[AV5 x1,x2,AV5 x3,AV5 x4]))
    (fun q o2 b f d hb=>by
     rcases a0 q o2 b f d hb with⟨rfl,⟨q',k1,k2⟩ | ⟨l,hl,k2⟩⟩ | ⟨rfl,h⟩
     .exact⟨q',o,.inr (.inr (.inr k1)),(s1 q' k1).1,k2⟩
     .exact⟨jr,_,.inr (.inl rfl),s,a1 l b hl k2⟩
     exact⟨_,_,.inl rfl,hj,h⟩)
    (fun q q' o2 o3 b f hq' d ho3 hb u=>by
     rcases a0 q o2 b f d hb with⟨rfl,h⟩ | ⟨rfl,h⟩<;>rcases a0 q' o3 b hq' ho3 u with⟨rfl,h'⟩ | ⟨rfl,h'⟩
     .rfl
     .exact Ln h' (y b h)
     .exact Ln h (y b h')
     rfl)
    (fun q o2 f d off=>by
     rcases f with rfl|rfl|rfl|f
     .rw[hj]at d;cases d;trivial
     .rw[s]at d;cases d;trivial
     .rw[hf]at d;cases d
     obtain⟨k1,_,k3,_⟩:=s1 q f;rw[k1]at d;cases d;exact k3 off)
    (fun _ hk q o2 f d=>by
     rw[v]at d;split at d
     .rename_i e1;subst e1;cases d;rw[hr1];refine⟨rn,rfl,fun l hl=>?_,fun l l' b hl hl' hb u=>?_⟩
      .rw[z l hl];by_cases e:l=i
       .simp only[Ll e];exact s3 hk
       simp only[Lm e];exact (hrow l hl).keeps' hk fun _ _=>rfl
      rw[z l hl]at hb;rw[z l' hl']at u;by_cases e:l=i<;>by_cases e' : l' = i
      .rw[e,e']
      .simp only[Ll e]at hb;simp only[Lm e']at u;obtain⟨q',k1,k2⟩:=s2 b hb;exact Ln (hs.hp.sep _ _ _ _ b (s1 q' k1).1 s k2 (a1 l' b hl' u)) (hn3 q' k1).2.1
      .simp only[Lm e]at hb;simp only[Ll e']at u;obtain⟨q',k1,k2⟩:=s2 b u;exact Ln (hs.hp.sep _ _ _ _ b (s1 q' k1).1 s k2 (a1 l b hl hb)) (hn3 q' k1).2.1
      simp only[Lm e]at hb;simp only[Lm e']at u;exact hdis l l' b hl hl' hb u
     rename_i e1;split at d
     .cases d;trivial
     rename_i e2;split at d
     .cases d;trivial
     rename_i e3;obtain rfl:q=j:=f.resolve_right fun e=>e.elim (fun e=>e3 e.symm) fun e=>e.elim (fun e=>e1 e.symm) e2;rw[Ll rfl]at d;cases d;rw[hr2 q hn1];refine⟨rn,(hlv j').2 (.inl rfl),hr1,.inr ⟨b0,cap,c,g1,g2,g3,g4,g5,fun l hl=>⟨(g6 l hl).1,fun _=>?_⟩,trivial⟩⟩;rw[z l hl];by_cases e:l=i
     .rw[Ll e,e]
     rw[Lm e];exact (g6 l hl).2 (by simp;exact fun x=>e x.symm))
   subst hR';exact⟨_,rho',hK,h3,h2⟩
  cases he
 cases he
theorem semUp.famH (he:Y2 (.psh j j') st=some (c,t))(hc:D0 c)(hK:K t):semUp st K:=fun C a w rho hs=>by
 simp only[Y2]at he;split at he
 .rename_i e n jr m x hj hf;split at he
  .rename_i m1 g jo o i ho;cases he;obtain⟨h1,rfl,rfl⟩:=hc;obtain⟨rv,l1,l2,hfam⟩:=hs.hp.holds j _ hj;obtain⟨rv',e1,hrow,hdis⟩:=hs.hp.holds jr _ i;rw[l2]at e1;cases e1;obtain⟨b0,cap,c,g1,g2,g3,g4,g5,g6,g7⟩:=hfam.resolve_left (fun h=>by omega);obtain⟨s1,s2,s3⟩:=We hs ho g7;have hne:j≠jr:=by rintro rfl;rw[hj]at i;cases i
   have hn1:j≠j':=by rintro rfl;rw[hj]at hf;cases hf
   have hn2:jr≠j':=by rintro rfl;rw[i]at hf;cases hf
   have hn3:∀q,jo=some q->q≠j/\q≠jr/\q≠j':=by intro q f;obtain⟨k1,_,_,k4,k5⟩:=s1 q f;exact⟨by rintro rfl;rw[hj]at k1;cases k1;exact k4 _ _ _ _ rfl,by rintro rfl;rw[i]at k1;cases k1;exact k5 _ _ rfl,by rintro rfl;rw[hf]at k1;cases k1⟩
   obtain⟨rn,y⟩:∃rn:Array Value,∀q,q<m+1->rn.getD q undef=if q=m then c.getD m undef else rv.getD q undef:=
    ⟨Array.ofFn (n:=m+1) fun q=>if q.1=m then c.getD m undef else rv.getD q.1 undef,fun q f=>by simp[AQ0,f]⟩
   obtain⟨R',hR'⟩:∃R' : B5,R' = ins j' (.rows (m+1) fun q=>if q=m then o else g q) (Ui jo (ins jr .dead (ins j (.fam e (m+1) j' none) st.regs))):=⟨_,rfl⟩;have u:∀q,A1 R' q=if j' = q then some (.rows (m+1) fun q=>if q=m then o else g q)else if jo=some q then some .dead else if jr=q then some .dead else if j=q then some (.fam e (m+1) j' none)else A1 st.regs q:=fun q=>by rw[hR',A2,OU,A2,A2]
   obtain⟨rho',hr'⟩:∃rho' : Nat->Value,rho' = fun q=>if q=j' then .agg rn else rho q:=⟨_,rfl⟩
   have hr1:rho' j' = .agg rn:=by rw[hr'];exact Ll rfl
   have hr2:∀q,q≠j' -> rho' q=rho q:=fun q f=>by rw[hr'];exact Lm f
   have hlv:∀q,Lv (A1 R') q↔q=j' \/ Lv (A1 st.regs) q:=by
    intro q;unfold Lv;rw[u];constructor
    .intro h;split at h
     .exact .inl (Eq.symm ‹_›)
     split at h
     .rename_i k;obtain⟨k1,_⟩:=s1 q k;right;rw[k1];rfl
     split at h
     .rename_i k;subst k;right;rw[i];rfl
     split at h
     .rename_i k;subst k;right;rw[hj];rfl
     exact .inr h
    rintro (rfl|h)
    .rw[Ll rfl];rfl
    split;rfl;split;rfl;split;rfl;split;rfl;exact h
   have hlive:∀q,Lv (A1 st.regs) q->Lv (A1 R') q/\rho' q=rho q:=fun q f=>
    ⟨(hlv q).2 (.inr f),hr2 q (by rintro rfl;unfold Lv at f;rw[hf]at f;cases f)⟩
   have z:∀q o2 b,(q=j \/ q=jr \/ q=j' \/ jo=some q)->A1 R' q=some o2->D6 (rho' q) o2 b ->
    (q=j' /\ ((∃q',jo=some q' /\ D6 (rho q') o b) \/ ∃l,l<m/\K9 (rv.getD l undef) (g l)=some b)) \/ (q=j/\D6 (rho j) (.fam e (m+1) jr (some (m,x))) b):=by
    intro q o2 b f d hb;rw[u]at d;split at d
    .rename_i e1;subst e1;cases d;rw[hr1]at hb;obtain⟨rv',he,l,hl,hb⟩:=hb;cases he;rw[y l hl]at hb;refine .inl ⟨rfl,?_⟩;by_cases e:l=m
     .simp only[Ll e]at hb;exact .inl (s2 b hb)
     simp only[Lm e]at hb;exact .inr ⟨l,by omega,hb⟩
    rename_i e1;split at d
    .cases d;cases hb
    rename_i e2;split at d
    .cases d;cases hb
    rename_i e3;obtain rfl:q=j:=f.resolve_right fun e=>e.elim (fun e=>e3 e.symm) fun e=>e.elim (fun e=>e1 e.symm) e2;rw[Ll rfl]at d;cases d;rw[hr2 q hn1]at hb;exact .inr ⟨rfl,hb⟩
   have a0:∀l b,l<m->K9 (rv.getD l undef) (g l)=some b->D6 (rho jr) (.rows m g) b:=fun l b hl hb=>⟨rv,l2,l,hl,hb⟩;have v:∀b,((∃q',jo=some q' /\ D6 (rho q') o b) \/ ∃l,l<m/\K9 (rv.getD l undef) (g l)=some b)->¬D6 (rho j) (.fam e (m+1) jr (some (m,x))) b:=by
    rintro b (⟨q',k1,k2⟩ | ⟨l,hl,k2⟩) hb
    .exact (hn3 q' k1).1 (hs.hp.sep _ _ _ _ b (s1 q' k1).1 hj k2 hb)
    exact hne (hs.hp.sep _ _ _ _ b hj i hb (a0 l b hl k2))
   obtain⟨h2,h3⟩:=hs.re (fun q=>q=j \/ q=jr \/ q=j' \/ jo=some q) (R':=R') (rho':=rho')
    (fun q f=>by rw[u,Lm (fun e=>f (.inr (.inr (.inl e.symm)))),Lm (fun e=>f (.inr (.inr (.inr e)))),Lm (fun e=>f (.inr (.inl e.symm))),Lm (fun e=>f (.inl e.symm))]) hlive
    (fun q f hq'=>by
     rcases (hlv q).1 hq' with rfl|h
     .exact h1
     exact Ln h f)
    (fun q r b f=>by
     rw[u];split
     .simp
     split
     .simp
     split
     .simp
     split
     .simp
     rename_i x1 x2 x3 x4;exact Ln f (by simp[AV5 x1,x2,AV5 x3,AV5 x4]))
    (fun q o2 b f d hb=>by
     rcases z q o2 b f d hb with⟨rfl,⟨q',k1,k2⟩ | ⟨l,hl,k2⟩⟩ | ⟨rfl,h⟩
     .exact⟨q',o,.inr (.inr (.inr k1)),(s1 q' k1).1,k2⟩
     .exact⟨jr,_,.inr (.inl rfl),i,a0 l b hl k2⟩
     exact⟨_,_,.inl rfl,hj,h⟩)
    (fun q q' o2 o3 b f hq' d ho3 hb s=>by
     rcases z q o2 b f d hb with⟨rfl,h⟩ | ⟨rfl,h⟩<;>rcases z q' o3 b hq' ho3 s with⟨rfl,h'⟩ | ⟨rfl,h'⟩
     .rfl
     .exact Ln h' (v b h)
     .exact Ln h (v b h')
     rfl)
    (fun q o2 f d off=>by
     rcases f with rfl|rfl|rfl|f
     .rw[hj]at d;cases d;trivial
     .rw[i]at d;cases d;trivial
     .rw[hf]at d;cases d
     obtain⟨k1,_,k3,_⟩:=s1 q f;rw[k1]at d;cases d;exact k3 off)
    (fun _ hk q o2 f d=>by
     rw[u]at d;split at d
     .rename_i e1;subst e1;cases d;rw[hr1];refine⟨rn,rfl,fun l hl=>?_,fun l l' b hl hl' hb s=>?_⟩
      .rw[y l hl];by_cases e:l=m
       .simp only[Ll e];exact s3 hk
       simp only[Lm e];exact (hrow l (by omega)).keeps' hk fun _ _=>rfl
      rw[y l hl]at hb;rw[y l' hl']at s;by_cases e:l=m<;>by_cases e' : l' = m
      .rw[e,e']
      .simp only[Ll e]at hb;simp only[Lm e']at s;obtain⟨q',k1,k2⟩:=s2 b hb;exact Ln (hs.hp.sep _ _ _ _ b (s1 q' k1).1 i k2 (a0 l' b (by omega) s)) (hn3 q' k1).2.1
      .simp only[Lm e]at hb;simp only[Ll e']at s;obtain⟨q',k1,k2⟩:=s2 b s;exact Ln (hs.hp.sep _ _ _ _ b (s1 q' k1).1 i k2 (a0 l b (by omega) hb)) (hn3 q' k1).2.1
      simp only[Lm e]at hb;simp only[Lm e']at s;exact hdis l l' b (by omega) (by omega) hb s
     rename_i e1;split at d
     .cases d;trivial
     rename_i e2;split at d
     .cases d;trivial
     rename_i e3;obtain rfl:q=j:=f.resolve_right fun e=>e.elim (fun e=>e3 e.symm) fun e=>e.elim (fun e=>e1 e.symm) e2;rw[Ll rfl]at d;cases d;rw[hr2 q hn1];refine⟨rn,(hlv j').2 (.inl rfl),hr1,.inr ⟨b0,cap,c,g1,g2,g3,g4,g5,fun l hl=>⟨(g6 l hl).1,fun _=>?_⟩,trivial⟩⟩;rw[y l hl];by_cases e:l=m
     .rw[Ll e,e]
     rw[Lm e];exact (g6 l hl).2 (by simp;exact fun x=>e x.symm))
   subst hR';exact⟨_,rho',hK,h3,h2⟩
  cases he
 cases he
theorem semUp.famAll {op:Xs}(a:Y2 op st=some (c,t))(hc:D0 c)(b:K t):semUp st K:=match op with
 |.fam _ _ _=>semUp.famF a hc b
 |.take _ _ _=>semUp.famT a hc b
 |.over _ _=>semUp.famO a hc b
 |.put _ _=>semUp.famB a hc b
 |.psh _ _=>semUp.famH a hc b
 |.pub _=>semUp.famP a hc b
end
end Go.AM
namespace Go.AM
def FW (ro:Option Nat):Fence:={ Fence.wide with round:=ro }
theorem OV {ro:Option Nat}{m n:Nat}{P:Program}{f:FuncId}{vs:Array Value}{w:World}{R:Ending->World->Prop}(h:CallsIn Fence.wide m P f vs w R):CallsIn (FW ro) n P f vs w R:=
 ⟨trivial,fun cs _=>h.2 cs (room_wide _)⟩
theorem Zw {ro:Option Nat}{m n:Nat}{P:Program}{f:String}{vs:Array Value}{w:World}{R:Value->World->Prop}(h:RowsIn Fence.wide m P f vs w R):RowsIn (FW ro) n P f vs w R:=
 fun c cs _=>h c cs (room_wide _)
theorem OW {ro:Option Nat}{m n:Nat}{P:Program}{l:Nat}{f:FuncId}{tmps:Array Value}{as body:Code}{w:World}{R:Ending->World->Prop}(h:RoundIn Fence.wide m P l f tmps as body w R):RoundIn (FW ro) n P l f tmps as body w R:=
 ⟨trivial,fun c cs _=>h.2 c cs (room_wide _)⟩
section
variable {P:Program}{C:Ctx}{st:St}{a:Act}{w:World}{rho:Nat->Value}{𝒢 : Prot P}{n:Nat}
def NextOk (𝒢 : Prot P)(n:Nat)(k:St->Prop)(a:Act)(w:World):Prop:=∃C st rho,𝒢.G C/\Sat C st a w rho/\a.tmps.size=n/\k st
def PanicOk (𝒢 : Prot P)(n:Nat)(Q:I8)(chain:List PanicEntry)(a:Act)(w:World):Prop:=∃C st rho v x,chain=[{ v,recovered:=false }] /\ 𝒢.G C/\Sat C st a w rho/\a.tmps.size=n/\RepP w (PiS C st rho) v x/\Q (.panic x) st
def WP (𝒢 : Prot P)(n:Nat)(Q:I8):Exit->Act->World->Prop
 |.normal,a,w=>NextOk 𝒢 n (Q .normal) a w
 |.exit id,a,w=>NextOk 𝒢 n (Q (.exit id)) a w
 |.goto l,a,w=>NextOk 𝒢 n (Q (.goto l)) a w
 |.ret,a,w=>NextOk 𝒢 n (Q .ret) a w
 |.panic chain,a,w=>PanicOk 𝒢 n Q chain a w
 |.outgrown,_,_=>False
theorem JJ:∀(xs:List Operand) (st:St) (l:List AV) (R' : B5),Sat C st a w rho->Hg st.regs (xs.map (aev st.env))=some (l,R') ->
 Sat C { st with regs:=R' } a w rho/\Kp C st.regs R' w w rho rho/\l.length=xs.length/\∀i x,xs[i]? = some x->RS C { st with regs:=R' } w rho (a.eval x) (l.getD i .top)
 |[],st,l,R',h,he=>by simp only[AY3,Hg,AQ2,AR3]at he;obtain⟨rfl,rfl⟩:=he;exact⟨h,Kp.refl _ _ _ _,rfl,fun i x hx=>by simp at hx⟩
 |x::xs,st,l,R',h,he=>by
  simp only[AR9,Hg]at he;split at he
  .rename_i y R1 b;have step:Sat C { st with regs:=R1 } a w rho/\Kp C st.regs R1 w w rho rho/\RS C { st with regs:=R1 } w rho (a.eval x) y:=by
    have gen:(match Eo st.regs (aev st.env x)with|some (x,regs)=>some (AV.p x,regs)|none=>none)=some (y,R1)->Sat C { st with regs:=R1 } a w rho/\Kp C st.regs R1 w w rho rho/\RS C { st with regs:=R1 } w rho (a.eval x) y:=by
     intro b;split at b
     .rename_i z R2 c;simp only[AQ2,AR3]at b;obtain⟨rfl,rfl⟩:=b;obtain⟨h1,d,f⟩:=Dk h (h.aev x) c;exact⟨h1,f,.p _ _ d⟩
     cases b
    split at b
    .exact gen b
    .exact gen b
    simp only[AQ2,AR3]at b;obtain⟨rfl,rfl⟩:=b;exact⟨h,Kp.refl _ _ _ _,h.aev x⟩
   obtain⟨h1,d,f⟩:=step;split at he
   .rename_i l' R2 g;cases he;obtain⟨m,j,n,o⟩:=JJ xs { st with regs:=R1 } l' R' h1 g;refine⟨m,d.trans j,by simp[n],fun i z c=>?_⟩;cases i with
    |zero=>simp only[AW9,AQ2]at c;subst c;exact j.av f
    |succ i=>exact o i z (by simpa using c)
   cases he
  cases he
theorem Uu {xs:List Operand}{st:St}{l:List AV}{R' : B5}(h:Sat C st a w rho)(b:AH4 st.regs (xs.map (aev st.env)) l R') :Sat C { st with regs:=R' } a w rho/\Kp C st.regs R' w w rho rho/\l.length=xs.length/\∀i x,xs[i]? = some x->RS C { st with regs:=R' } w rho (a.eval x) (l.getD i .top):=by
 rcases b with b|⟨rfl,rfl⟩
 .exact JJ xs st l R' h b
 refine⟨h,Kp.refl _ _ _ _,by simp,fun i x hx=>?_⟩
 have:(xs.map (aev st.env)).getD i .top=aev st.env x:=by simp[AQ1,hx]
 rw[this];exact h.aev x
theorem Mg (u : 𝒢.G C)(h:Sat C st a w rho)(y:a.tmps.size=n){d:Nat}{ids:List Nat}{f:FuncId}{as:List AV}{K:Lz->St->Prop}(hc:YS (Ga P) d ids f as st K)
 {vs:Array Value}(c:vs.size=as.length) (g:∀i,i<as.length->RS C st w rho (vs.getD i undef) (as.getD i .top)) :
 CallF P f vs w fun e w'=>∃st' rho' r,Sat C st' a w' rho' /\ K r st' /\ At0 w' (PiS C st' rho') (Lv (A1 st'.regs)) rho' e r:=by
 obtain⟨args,objs,s,t,j,l,z⟩:=hc;have hs:=KF h s j l trivial t c g;refine (z (Prot.triv P (C.callee st.regs w rho ids) (fun _ _ h=>h) ((𝒢.tab C u).keeps h.keep)) _ w vs _ rfl hs (by rw[c];exact (Cw t).1)).mono ?_;rintro e w' ⟨C',r,objs',ks,rho',m,⟨hf,hK⟩,hE,b,o⟩;obtain rfl:C' = C.callee st.regs w rho ids:=m;obtain⟨g1,g2,g3,g4⟩:=XB h s j hE o hf;refine⟨_,_,_,g1,hK,?_⟩;cases r with
 |ret x=>obtain⟨v,q,g⟩:=b;exact⟨v,q,g.un g3 g4⟩
 |panic x=>obtain⟨v,q,g⟩:=b;exact⟨v,q,g.keeps g3⟩
theorem Mh {ro:Option Nat}{o:Oper}(l:∀t,o.dst=some t->t<n){next:Act->World->Prop}{Q' : Exit->Act->World->Prop}{k:St->Prop}{Q:I8}
 (hk:∀a' w,a'.defers=a.defers->NextOk 𝒢 n k a' w->next a' w) (m:∀chain a w,PanicOk 𝒢 n Q chain a w->Q' (.panic chain) a w) (j : 𝒢.G C) (c:a.tmps.size=n) {f:FuncId}{vs:Array Value}
 (g:(o.semAt ro a.eval).run P w=(callFunc f vs).run P w)
 (h:CallF P f vs w fun e w'=>∃st' rho' r,Sat C st' a w' rho' /\ Iq o.dst k Q r st' /\ At0 w' (PiS C st' rho') (Lv (A1 st'.regs)) rho' e r) :
 o.uponIn (FW ro) 0 P a next Q' ((o.semAt ro a.eval).run P w):=by
 obtain⟨nx,w1,h1,i⟩:=h;rw[g,h1];have fin:∀v w',(∃st' rho' r,Sat C st' a w' rho' /\ Iq o.dst k Q r st' /\ At0 w' (PiS C st' rho') (Lv (A1 st'.regs)) rho' (.returned v) r)->next (a.put o.dst v) w':=by
  rintro v w' ⟨st',rho',r,g1,g2,g3⟩;cases r with
  |ret x=>obtain⟨v',b,d⟩:=g3;cases b;refine hk _ _ (by cases o.dst<;>rfl) ⟨C,_,rho',j,g1.put d (fun t ht=>by rw[c];exact l t ht),?_,g2⟩;rw[<- c];cases o.dst<;>simp[Act.put]
  |panic x=>obtain⟨v',b,_⟩:=g3;cases b
 cases nx with
 |enter f' as=>
  rw[Oper.uponIn_enter];refine⟨fun h=>by simp[FW,Fence.wide]at h,(OV i).mono ?_⟩;intro e w' b;cases e with
  |returned v=>exact fin v w' b
  |panicked chain=>
   obtain⟨st',rho',r,g1,g2,g3⟩:=b;cases r with
   |ret x=>obtain⟨v',b,_⟩:=g3;cases b
   |panic x=>obtain⟨v',b,d⟩:=g3;cases b;exact m _ _ _ ⟨C,st',rho',v',x,rfl,j,g1,c,d,g2⟩
  |outgrown=>obtain⟨st',rho',r,g1,g2,g3⟩:=b;cases r<;>(obtain⟨v',b,_⟩:=g3;cases b)
 |value v=>rw[Oper.uponIn_value];exact fin v w1 i
 |row row as=>rw[Oper.uponIn_row];exact⟨fun h=>by simp[FW,Fence.wide]at h,(Zw i).mono fun v w'=>fin v w'⟩
 |_=>exact i.elim
def RepV (w:World)(Pi:Nat->Nat->Prop)(live:Nat->Prop)(rho:Nat->Value)(vs:Array Value)(l:List AV):Prop:= vs.size=l.length/\∀i,i<l.length->RepA w Pi live rho (vs.getD i undef) (l.getD i .top)
theorem RepV.append {Pi:Nat->Nat->Prop}{live:Nat->Prop}{vs us:Array Value}{l m:List AV}(h:RepV w Pi live rho vs l)(h' : RepV w Pi live rho us m):RepV w Pi live rho (vs++us) (l++m):=by
 refine⟨by simp[h.1,h'.1],fun i b=>?_⟩;simp only[AU4]at b;by_cases hl:i<l.length
 .have:=h.2 i hl
  have a:i<vs.size:=by rw[h.1];exact hl
  simpa[AQ0,AY5,a,AW4 hl]using this
 have:=h'.2 (i-l.length) (by omega)
 have a:¬i<vs.size:=by rw[h.1];exact hl
 simpa[AQ0,AY5,a,hl,Bc1 (show l.length<=i by omega),h.1]using this
theorem RepV.ofP {Pi:Nat->Nat->Prop}{live:Nat->Prop}{vs:Array Value}{l:List PV}(hs:vs.size=l.length)(h:∀i,i<l.length->RepP w Pi (vs.getD i undef) (l.getD i default)):RepV w Pi live rho vs (l.map .p):=by
 refine⟨by simpa using hs,fun i b=>?_⟩;have a : i<l.length:=by simpa using b
 have:=h i a
 simp only[AQ1,AQ9,AQ5 a,AR5,AR2]at this⊢;exact .p _ _ this
theorem OX (h:Sat C st a w rho){f:Operand}{f' : FuncId}{as as' : List AV}(hw:NG st.env f as=some (f',as')){R' : B5}(c:Kp C st.regs R' w w rho rho){vals:Array Value}(d:RepV w (Prv C.X (A1 R') rho) (Lv (A1 R')) rho vals as) :∃x y,a.eval f=.func (.func f') x y/\RepV w (Prv C.X (A1 R') rho) (Lv (A1 R')) rho (x++vals++y) as':=by
 unfold NG at hw;have b:=c.av (h.aev f);split at hw
 .rename_i g first caps hg
  cases hw;rw[hg]at b;generalize a.eval f=v at b;cases b with
  |clo _ x y _ _ hx hy ha hb=>exact⟨x,y,rfl,RepV.append (RepV.append ⟨hx,ha⟩ d) ⟨hy,hb⟩⟩
 .rename_i g x y hg;split at hw
  .rename_i hx hy;cases hw;rw[hg]at b;have e1:x = #[]:=by simpa using hx
   have e2:y = #[]:=by simpa using hy
   subst e1;subst e2;exact⟨#[],#[],b.toP.toV,by simpa using d⟩
  cases hw
 .rename_i g first caps hg
  cases hw;rw[hg]at b;have b:=b.toP;generalize a.eval f=v at b;cases b with
  |fn _ x y _ _ hx hy ha hb=>exact⟨x,y,rfl,RepV.append (RepV.append (RepV.ofP hx ha) d) (RepV.ofP hy hb)⟩
 cases hw
theorem Uv (h:Sat C st a w rho){f:Operand}{f' : FuncId}{first caps:List AV}(hw:Er st.env f=some (f',first,caps)) :∃x y,a.eval f=.func (.func f') x y/\RepV w (PiS C st rho) (Lv (A1 st.regs)) rho x first/\RepV w (PiS C st rho) (Lv (A1 st.regs)) rho y caps:=by
 unfold Er at hw;have b:=h.aev f;split at hw
 .rename_i g first caps hg
  cases hw;rw[hg]at b;generalize a.eval f=v at b;cases b with
  |clo _ x y _ _ hx hy ha hb=>exact⟨x,y,rfl,⟨hx,ha⟩,⟨hy,hb⟩⟩
 .rename_i g x y hg;split at hw
  .rename_i hx hy;cases hw;rw[hg]at b;have e1:x = #[]:=by simpa using hx
   have e2:y = #[]:=by simpa using hy
   subst e1;subst e2;exact⟨#[],#[],b.toP.toV,⟨rfl,fun i c=>Ln c (by simp)⟩,⟨rfl,fun i c=>Ln c (by simp)⟩⟩
  cases hw
 .rename_i g first caps hg
  cases hw;rw[hg]at b;have b:=b.toP;generalize a.eval f=v at b;cases b with
  |fn _ x y _ _ hx hy ha hb=>exact⟨x,y,rfl,RepV.ofP hx ha,RepV.ofP hy hb⟩
 cases hw
theorem Mi {args:Array Operand}{i:Nat}(b:i<args.toList.length):(args.map a.eval).getD i undef=a.eval (args.toList[i]):=by
 have:i<args.size:=by simpa using b
 simp[AQ0,this]
theorem Wf {Pi:Nat->Nat->Prop}:∀{xs ys:List PV},Aw9 xs ys->xs.length=ys.length/\∀i,i<xs.length->∀v,RepP w Pi v (xs.getD i default)->RepP w Pi v (ys.getD i default)
 |[],[],_=>⟨rfl,fun i b=>Ln b (by simp)⟩
 |[],y::ys,h=>by simp[Aw9]at h
 |x::xs,[],h=>by simp[Aw9]at h
 |x::xs,y::ys,h=>by
  obtain⟨h1,c⟩:=h;obtain⟨d,j⟩:=Wf (Pi:=Pi) c;refine⟨by simp[d],fun i b v a=>?_⟩;cases i with
  |zero=>
   have a:RepP w Pi v x:=by simpa using a
   have:RepP w Pi v y:=by
    rcases h1 with rfl|⟨nn,k,n,f,g,rfl,rfl,l⟩ | ⟨k,f,rfl,rfl⟩
    .exact a
    .exact a.leP (.inr (.inl ⟨nn,k,n,f,g,rfl,rfl,l⟩))
    exact a.leP (.inr (.inr (.inl ⟨k,f,rfl,rfl⟩)))
   simpa using this
  |succ i=>simpa using j i (by simpa using b) v (by simpa using a)
theorem Sat.rel (h:Sat C st a w rho):Rel C w (RK st.regs rho a.defers) (PvR st.regs rho):=by
 refine⟨h.ext,h.size,h.same,h.keep,?_,?_,?_,fun b off d=>h.hp.bound b off d,fun b off ⟨j,o,hj,hb,_⟩=>.inl ⟨j,o,hj,hb⟩⟩
 .rintro b (hb|hb)
  .exact h.own b hb
  obtain⟨r,h1,c,_⟩:=h.marks.2 _ hb;cases h1;exact c
 .rintro b off (⟨j,o,hj,hb⟩ | hb)
  .exact h.hp.out j o b off hj hb
  obtain⟨r,h1,_,_,c⟩:=h.marks.2 _ hb;cases h1;exact c off
 rintro b (hb|hb)
 .exact h.hp.lt hb
 obtain⟨r,h1,_,c,_⟩:=h.marks.2 _ hb;cases h1;exact (AR1.1 c).1
theorem Keeps.of_imp' {w:World}{p q:Nat->Nat->Prop}(h:∀b o,q b o->p b o):Keeps w p w q:=fun b o v hp hc=>⟨hc,fun a=>hp (h b o a)⟩
theorem Sat.yielded (h:Sat C st a w rho){C' : Ctx}{w' : World}{j:Nat}{r0 rest:List (List PV)}{l0 live:Bool}(hj:A1 st.regs j=some (.yld r0 l0))(hY:C'.Y rest live)(hyv:C'.yv=C.yv)(a0:C'.rho0=C.rho0)(hw:C'.w0=w')(hE:C'.E0=RK st.regs rho a.defers)
 (hPi:C'.Pi0=fun b o=>C'.X b o \/ PvR st.regs rho b o) (hR:Rel C' w' (RK st.regs rho a.defers) (PvR st.regs rho)) {H:Nat->Prop}(l:∀b,RK st.regs rho a.defers b->¬H b->w'.heap[b]? = w.heap[b]?)
 (hk:Keeps w (fun b o=>C.X b o \/ PvR st.regs rho b o) w' (fun b o=>C'.X b o \/ PvR st.regs rho b o)) (x:∀i r b,A1 st.regs i=some (.yld r b)->i=j)
 (hH:∀b,H b->∃jw e m n g,A1 st.regs jw=some (.vec e m n g false)/\K9 (rho jw) (.vec e m n g false)=some b/\HoldsC w' (fun b o=>C'.X b o \/ PvR st.regs rho b o) (fun _=>False) (fun _=>undef) (rho jw) (.vec e m n g false)) :
 Sat C' { st with regs:=ins j (.yld rest live) st.regs } a w' rho:=by
 have q:∀i,Lv (A1 st.regs) i->Lv (A1 (ins j (.yld rest live) st.regs)) i/\rho i=rho i:=by
  intro i c;refine⟨?_,rfl⟩;simp only[Lv,A2];split
  .rfl
  exact c
 have hpv:∀b off,PvR (ins j (.yld rest live) st.regs) rho b off↔PvR st.regs rho b off:=by
  intro b off;constructor
  .rintro⟨i,o,c,hb,hp⟩;rw[A2]at c;split at c
   .cases c;simp[D6,K9]at hb
   exact⟨i,o,c,hb,hp⟩
  rintro⟨i,o,c,hb,hp⟩;refine⟨i,o,?_,hb,hp⟩;rw[A2,Lm]
  .exact c
  rintro rfl;rw[hj]at c;cases c;simp[D6,K9]at hb
 have u:∀b,Own (A1 (ins j (.yld rest live) st.regs)) rho b↔Own (A1 st.regs) rho b:=by
  intro b;constructor
  .rintro⟨i,o,c,hb⟩;rw[A2]at c;split at c
   .cases c;simp[D6,K9]at hb
   exact⟨i,o,c,hb⟩
  rintro⟨i,o,c,hb⟩;refine⟨i,o,?_,hb⟩;rw[A2,Lm]
  .exact c
  rintro rfl;rw[hj]at c;cases c;simp[D6,K9]at hb
 have s:∀b off,Prv C'.X (A1 (ins j (.yld rest live) st.regs)) rho b off↔(C'.X b off \/ PvR st.regs rho b off):=fun b off=>or_congr AZ7 (hpv b off);have a1:Keeps w (Prv C.X (A1 st.regs) rho) w' (Prv C'.X (A1 (ins j (.yld rest live) st.regs)) rho):=fun b o v hp hc=>
  let ⟨h1,h2⟩:=hk b o v hp hc
  ⟨h1,fun y=>h2 ((s b o).1 y)⟩
 have f:∀i o,A1 (ins j (.yld rest live) st.regs) i=some o->(i=j/\o=.yld rest live) \/ (i≠j/\A1 st.regs i=some o):=by
  intro i o c;rw[A2]at c;split at c
  .rename_i e;cases c;exact .inl ⟨e.symm,rfl⟩
  rename_i e;exact .inr ⟨fun e'=>e e'.symm,c⟩
 refine⟨⟨⟨?_,?_,?_,fun b off hX=>hR.bnd b off hX⟩,hR.ext,hR.size,hR.same,?_,?_,?_⟩,fun t=>(h.env t).keeps a1 q,?_,h.marks.1,?_⟩
 .intro i o c;rcases f i o c with⟨rfl,rfl⟩ | ⟨_,c⟩
  .exact h.hp.holds i _ hj
  by_cases a2:∃b,H b/\D6 (rho i) o b
  .obtain⟨b,hb,hbo⟩:=a2;obtain⟨jw,e,m,n,g,q1,q2,q3⟩:=hH b hb;obtain rfl:=h.hp.sep i jw o (.vec e m n g false) b c q1 hbo q2;rw[c]at q1;cases q1;exact q3.vec (Keeps.of_imp' fun b o hp=>(s b o).1 hp) fun _ _=>rfl
  exact (h.hp.holds i o c).keeps a1 q fun b hb=>l b (.inl ⟨i,o,c,hb⟩) fun hh=>a2 ⟨b,hh,hb⟩
 .intro i i' oi oj b c z hb a3;rcases f i oi c with⟨rfl,rfl⟩ | ⟨_,c⟩
  .simp[D6,K9]at hb
  rcases f i' oj z with⟨rfl,rfl⟩ | ⟨_,z⟩
  .simp[D6,K9]at a3
  exact h.hp.sep i i' oi oj b c z hb a3
 .intro i o b off c hb;exact hR.out b off (.inl ((u b).1 ⟨i,o,c,hb⟩))
 .intro b o v hp hc;obtain⟨h1,h2⟩:=hR.keep b o v hp hc;exact⟨h1,fun y=>h2 ((s b o).1 y)⟩
 .intro b hb;exact hR.own b (.inl ((u b).1 hb))
 .intro i r b c;rcases f i _ c with⟨rfl,he⟩ | ⟨hne,c⟩
  .cases he;exact⟨hY,by rw[hyv];exact (h.yld i _ _ hj).2⟩
  exact Ln (x i r b c) hne
 .intro i c hl;rw[a0];refine h.pin i c ?_;simp only[Lv,A2]at hl;split at hl
  .rename_i e;subst e;simp[Lv,hj]
  exact hl
 intro d hd;obtain⟨r,h1,h2,h3,h4⟩:=h.marks.2 d hd;have hm:Qe a.defers r:=by unfold Qe;rw[<- h1];exact hd
 refine⟨r,h1,hR.own r (.inr hm),?_,fun off=>hR.out r off (.inr hm)⟩;rw[l r (.inr hm) fun hh=>?_]
 .exact h3
 obtain⟨jw,e,m,n,g,q1,q2,_⟩:=hH r hh;exact (h.hp.holds jw _ q1).nd q2 h3
theorem Gf {j:Nat}:∀{regs:B5},Dn j regs=true->∀i r b,A1 regs i=some (.yld r b)->i=j
 |[],_,i,r,b,h=>by simp[A1]at h
 |(x,o)::regs,hy,i,r,b,h=>by
  have a:Dn j regs=true:=by cases o<;>simp only[Dn,AQ7]at hy<;>first|exact hy.2|exact hy
  simp only[A1]at h;split at h
  .rename_i e;cases h;subst e;simp only[Dn,AQ7,beq_iff_eq]at hy;exact hy.1
  exact Gf a i r b h
end
end Go.AM
namespace Go.AM
section
variable {P:Program}{C:Ctx}{st:St}{a:Act}{w:World}{rho:Nat->Value}{𝒢 : Prot P}
theorem Mj {w' : World}{Pi Pi' : Nat->Nat->Prop}{v:Value}{x:PV}(h:RepP w Pi v x)(a:RR x=true):RepP w' Pi' v x:=by cases h<;>first|exact .v _|exact .bb _|exact .str _|simp[RR]at a
theorem Zx:∀{l:List AV},YT l=true->∀i,i<l.length->∃x,l.getD i .top=.p x/\RR x=true
 |[],_,i,hi=>Ln hi (by simp)
 |.p x::r,h,0,_=>by simp only[YT,AQ7]at h;exact⟨x,rfl,h.1⟩
 |.p x::r,h,i+1,hi=>by simp only[YT,AQ7]at h;obtain⟨y,h1,a⟩:=Zx h.2 i (by simpa using hi);exact⟨y,by simpa using h1,a⟩
theorem Zy {w' : World}{Pi Pi' : Nat->Nat->Prop}{live live' : Nat->Prop}{rho rho' : Nat->Value}{v:Value}{x:AV}(h:RepA w Pi live rho v x)(a:Ag7 x=true):RepA w' Pi' live' rho' v x:=by
 cases h with
 |p v x h=>exact .p v x (Mj h a)
 |tup vs l hs h=>
  refine .tup vs l hs fun i b=>?_;obtain⟨x,h1,c⟩:=Zx (l:=l) a i b
  have:=h i b
  rw[h1]at this⊢;exact .p _ _ (Mj this.toP c)
 |_=>simp[Ag7]at a
theorem ID {f:AV->Option (List Prop×PV)}:∀{l:List AV}{c:List Prop}{xs:List PV},Ir f l=some (c,xs)->D0 c->xs.length=l.length/\∀i,i<l.length->∃d,f (l.getD i .top)=some (d,xs.getD i default)/\D0 d
 |[],c,xs,h,_=>by simp only[Ir,AQ2,AR3]at h;obtain⟨_,rfl⟩:=h;exact⟨rfl,fun i b=>Ln b (by simp)⟩
 |a::r,c,xs,h,hc=>by
  simp only[Ir]at h;split at h
  .rename_i c1 x d l h1 g;simp only[AQ2,AR3]at h;obtain⟨rfl,rfl⟩:=h;rw[Cd]at hc;obtain⟨j,m⟩:=ID g hc.1;refine⟨by simp[j],fun i b=>?_⟩;cases i with
   |zero=>exact⟨c1,h1,hc.2⟩
   |succ i=>exact m i (by simpa using b)
  cases h
theorem Sat.pubX (h:Sat C st a w rho):Keeps w (PiS C st rho) w C.X:=fun b o v hp hc=>⟨hc,fun c=>hp (.inl c)⟩
theorem HR (h:Sat C st a w rho):∀(n:Nat) {v:Value}{x:AV}{c:List Prop}{y:PV},RS C st w rho v x->HK st.regs n x=some (c,y)->D0 c->RepP w C.X v y
 |0,v,x,c,y,hv,hl,hc=>by
  simp only[HK]at hl;split at hl
  .cases hl;exact hv.toP.keeps h.pubX
  cases hl
 |n+1,v,x,c,y,hv,hl,hc=>by
  simp only[HK]at hl;split at hl
  .cases hl;exact hv.toP.keeps h.pubX
  .rename_i j;split at hl
   .rename_i e k m f vw hj;simp only[AQ2,AR3]at hl;obtain⟨rfl,rfl⟩:=hl;have q:=h.hp.holds j _ hj;cases hv with
    |vec _ base n' cap hlv s=>
     rw[s]at q;rcases q with⟨hn,rfl⟩ | ⟨b,cap',cc,q,h1,z,h3,h4,h5,h6⟩
     .cases hn;exact .slnil _ _
     cases q;refine .sl false b 0 _ k _ f (fun i l=>cc.getD (i*k+l) undef) z h5 (fun i l o hl=>?_) (fun i l o hl=>(h6 i l o hl).1.keeps h.pubX) none (fun _=>rfl);have hlt:=G3 o hl;have hle:=AS1 k z;rw[AT6];exact⟨E2 h1 (by omega),h.hp.out j _ b _ hj (by simp[D6,K9,s]),(h6 i l o hl).2⟩
   .rename_i e m jr hj;split at hl
    .rename_i l g a0;simp only[AQ2,AR3]at hl;obtain⟨rfl,rfl⟩:=hl;obtain⟨rfl,a1⟩:=hc;have q:=h.hp.holds j _ hj;obtain⟨rv,r,t,_⟩:=h.hp.holds jr _ a0;cases hv with
     |vec _ base n' cap hlv s=>
      rw[s]at q;obtain⟨rv',_,a2,q⟩:=q;rw[r]at a2;cases a2;rcases q with⟨hn,rfl⟩ | ⟨b,cap',cc,q,h1,z,h3,h4,h5,_⟩
      .cases hn;exact .slnil _ _
      cases q;refine .sl false b 0 _ 1 _ _ (fun i _=>cc.getD i undef) z (fun _ _=>rfl) (fun i l o hl=>?_) (fun i l o hl=>?_) none (fun _=>rfl)
      .obtain rfl:l=0:=by omega
       rw[AT6,AV9,AX6];exact⟨E2 h1 (by omega),h.hp.out j _ b _ hj (by simp[D6,K9,s]),(h5 i o).1⟩
      obtain rfl:l=0:=by omega
      obtain⟨x,hx⟩:=AR8.1 (a1 i o);show RepP w _ _ ((VO (g i)).getD default);rw[hx,(h5 i o).2 (by simp)];exact Wd (t i o) hx h.pubX fun b' hb' off hX=>h.hp.out jr _ b' off a0 ⟨rv,r,i,o,hb'⟩ hX
    cases hl
   cases hl
  .rename_i j off;split at hl
   .rename_i cs hj;split at hl
    .rename_i c' l u;simp only[AQ2,AR3]at hl;obtain⟨rfl,rfl⟩:=hl;obtain⟨b,cc,T,s,h1,z,h3⟩:=h.hp.holds j _ hj;obtain⟨g1,g2⟩:=ID u hc;rw[AS9]at g1 g2;cases hv with
     |reg _ _ b' hlv hr'=>
      have e:b' = b:=by have r:rho j=.pointer (some ⟨b',0,none⟩):=hr';rw[s]at r;cases r;rfl
      subst e;refine .ptr b' off l (fun i=>cc.getD (off+i) undef) (fun i o=>?_) (fun i o=>?_)
      .exact⟨E2 h1 (by omega),h.hp.out j _ b' _ hj (by simp[D6,K9,s]),(h3 (off+i) (by omega)).2⟩
      obtain⟨d,g3,g4⟩:=g2 i (by omega);have e1:(cs.drop off).getD i .top=cs.getD (off+i) .top:=by simp[AQ1,AX1]
      rw[e1]at g3;exact HR h n (h3 (off+i) (by omega)).1 g3 g4
    cases hl
   cases hl
  .rename_i cs;split at hl
   .rename_i c' l u;simp only[AQ2,AR3]at hl;obtain⟨rfl,rfl⟩:=hl;obtain⟨g1,g2⟩:=ID u hc;cases hv with
    |agr x _ hx h1 ha=>refine .agg x l (hx.trans g1.symm) (fun i o=>h1 i (by omega)) fun i o=>?_;obtain⟨d,g3,g4⟩:=g2 i (by omega);exact HR h n (ha i (by omega)) g3 g4
   cases hl
  cases hl
theorem XC (hG : 𝒢.G C)(h:Sat C st a w rho){vs:Array Value}{as:List AV}(z:RepV w (Prv C.X (A1 st.regs) rho) (Lv (A1 st.regs)) rho vs as){c:List Prop}{xs:List PV}(hl:Ir (HK st.regs 9) as=some (c,xs))(hc:D0 c)
 {f:FuncId}{o:Oper}{k:St->Prop}{Q:I8}(hF:SemF P f (xs.map .p) [] fun r objs _=>VP (nid (o.dst.getD 0) 0) o.dst k st r objs) :
 CallF P f vs w fun e w'=>∃st' rho' r,Sat C st' a w' rho' /\ Iq o.dst k Q r st' /\ At0 w' (PiS C st' rho') (Lv (A1 st'.regs)) rho' e r:=by
 obtain⟨g1,g2⟩:=ID hl hc;have hT:TabOk P w C.X:=((𝒢.tab C hG).keeps h.keep).keeps h.pubX;have hS:Sat { X:=C.X,w0:=w,E0:=fun _=>False,Pi0:=C.X,rho0:=fun _=>undef,Y:=fun _ _=>False,yv:=undef } ⟨argEnv (xs.map .p),objRegs []⟩ ⟨vs,[]⟩ w fun _=>undef:=by
  refine⟨⟨⟨fun j o hj=>(nomatch hj),fun i j oi oj b u=>(nomatch u),fun j o b off hj=>(nomatch hj),h.hp.bound⟩,Ext.refl _,AQ8 _,fun b _ _=>rfl,fun b o v hp hc=>⟨hc,?_⟩,?_,fun j r b hj=>(nomatch hj)⟩,fun t=>?_,fun j _ hj=>(nomatch hj),AX5,fun d hd=>by simp at hd⟩
  .rintro (y|⟨j,o,hj,_⟩)
   .exact hp y
   cases hj
  .rintro b ⟨j,o,hj,_⟩;cases hj
  show RepA w _ _ _ (vs.getD t undef) (get (argEnv (xs.map .p)) t);rw[Ak];by_cases ht:t<as.length
  .obtain⟨d,g3,g4⟩:=g2 t ht;have e:(xs.map AV.p).getD t .top=.p (xs.getD t default):=by
    have:t<xs.length:=by omega
    simp[AQ1,this]
   rw[e];refine .p _ _ ((HR h 9 (z.2 t ht) g3 g4).keeps fun b o v hp hc=>⟨hc,?_⟩);rintro (y|⟨j,o,hj,_⟩)
   .exact hp y
   cases hj
  rw[AQ1,AU8 (by simp;omega)];exact .top _
 refine (hF (Prot.triv P _ (fun r b hb=>hb) hT) _ w vs _ rfl hS (by simp[z.1,g1])).mono ?_;rintro e w' ⟨C',r,objs',ks,rho',rfl,⟨b,rfl,s,hk⟩ | ⟨e1,m,n,g,rfl,rfl,s,x,hk⟩,q,⟨v,rfl,hr⟩,_⟩
 .obtain⟨hs,_⟩:=h.grow q.size (fun b hb=>q.same b hb (fun h=>h)) q.ext;exact⟨st,rho,.ret b,hs,hk,v,rfl,Zy hr s⟩
 cases hr with
 |vec _ base nn cap hl hrr=>
  have hh:HoldsO w' _ _ _ (rho' 0) (.vec e1 m n g false):=q.hp.holds 0 _ rfl;rw[hrr]at hh;obtain⟨g1',g2',g3'⟩:=h.fresh (Cc (o.dst.getD 0) 0) x (.vec e1 m n g false) (.slice base nn cap) (w':=w') q.size (fun b hb=>q.same b hb (fun h=>h))
   (fun b hb=>(q.own b ⟨0,_,rfl,by rw[hrr];exact hb⟩).resolve_left fun h=>h) (fun _=>by
    rcases hh with hn|⟨b,cap',cc,h0,h1,h2,h3,h4,h5,h6⟩
    .exact .inl hn
    exact .inr ⟨b,cap',cc,h0,h1,h2,h3,h4,h5,fun i l u hl=>⟨Mj (h6 i l u hl).1 (s i l u hl),(h6 i l u hl).2⟩⟩) (fun _ _ h=>by cases h) q.ext
  exact⟨_,_,.ret (.vec (nid (o.dst.getD 0) 0)),g1',hk,_,rfl,.vec _ base nn cap (by simp[Lv,A2]) (by simp)⟩
end
end Go.AM
namespace Go.AM
section
variable {P:Program}{C:Ctx}{st:St}{a:Act}{w:World}{rho:Nat->Value}{𝒢 : Prot P}{n:Nat}
theorem XD {t:TypeId}{m:String}{f:FuncId}(hm:RQ P t m=some f)(x:Value):(method (P.types.size+Made.depth) t x m).run P w=.ok (f,x) w:=by
 unfold RQ at hm;split at hm
 .rename_i i d b c;split at hm
  .cases hm
  rename_i a;split at hm
  .rename_i q g;split at hm
   .rename_i f' hp j;cases hm;show (method (P.types.size+99+1) t x m).run P w=_;generalize P.types.size+99=fuel;have l : q.path = #[]:=by simpa using hp
    cases d<;>first
     |exact Ln rfl (a _)
     |simp[method,Ax9 w b,g,hp,j,follow,receiverAt,AE w c,Place.get]
   cases hm
  cases hm
 cases hm
theorem Qj (a:Act)(d:Option Nat)(v:Value):(a.put d v).tmps.size=a.tmps.size:=by cases d<;>simp[Act.put]
theorem Wg {o:Oper}{k:St->Prop}{Q:I8}(hG : 𝒢.G C)(h:Sat C st a w rho)(q:a.tmps.size=n)(hd:∀t,o.dst=some t->t<n)(hw:wOp (Ga P) P o k Q st){ro:Option Nat}{next:Act->World->Prop}{Q' : Exit->Act->World->Prop}
 (hk:∀a' w,a'.defers=a.defers->NextOk 𝒢 n k a' w->next a' w) (hq:∀chain a w,PanicOk 𝒢 n Q chain a w->Q' (.panic chain) a w):o.wpIn (FW ro) 0 P a w next Q':=by
 refine⟨fun f _=>trivial,?_⟩;have hdef:∀c,o.op ≠ .defer c:=by intro c he;simp[wOp,he,aop,OE]at hw
 have d:o.semAt ro a.eval=execOp a.eval o:=Oper.semAt_eq _ _ _ hdef;have a8:∀t,o.dst=some t->t<a.tmps.size:=fun t ht=>by rw[q];exact hd t ht
 show o.uponIn (FW ro) 0 P a next Q' ((o.semAt ro a.eval).run P w)
 unfold wOp at hw;split at hw
 .rename_i f args types he;rcases hw with⟨as,regs,f',as',ha,hwh,ids,hc⟩ | ⟨j,xs,regs,ys,rest,hf,hvs,hj,a1,hle,s⟩ | ⟨f',as',c,xs,hwh,hl,hc,hF⟩ | ⟨j,jw,e,m,n2,g,rest,⟨hf,ha,hjw⟩,hj,a1,s⟩
  .obtain⟨g1,g2,g3,g4⟩:=Uu h ha;have hv:RepV w (Prv C.X (A1 regs) rho) (Lv (A1 regs)) rho (args.map a.eval) as:=
    ⟨by simp[g3],fun i hi=>by rw[Mi (by omega)];exact g4 i _ (AQ5 (by omega))⟩
   obtain⟨x,y,hx,a2⟩:=OX h hwh g2 hv;have a9:=Mg hG g1 q hc a2.1 a2.2;refine Mh hd hk hq hG q ?_ a9;rw[d];simp[execOp,he,resolve,Deferred.ofValue,hx,invoke]
  .obtain⟨g1,g2,g3,g4,_⟩:=Ff args.toList st xs regs h hvs;have a3:=g2.av (h.aev f);rw[hf]at a3;obtain⟨hY,hyv⟩:=g1.yld j _ _ hj;obtain⟨hl,hrep⟩:=Wf (w:=w) (Pi:=Prv C.X (A1 regs) rho) hle;have a4:=𝒢.call C w _ _ ys rest (args.map a.eval) (fun _=>False) hG g1.rel hY (fun _ h=>h.elim) (.inl ⟨fun _ h=>h,by simp;rw[<- hl,g3];simp,fun i hi=>by rw[Mi (by omega)];exact hrep i (by omega) _ (g4 i _ (AQ5 (by omega)))⟩)
   obtain⟨l,fn,tmps,assign,body,h1,h2,h3⟩:=a4;have hfv:a.eval f=.func (.yield l) #[] #[]:=by
    generalize a.eval f=v at a3;cases a3 with
    |yf _ l' hlv hr=>have b0 : rho j=.func (.yield l') #[] #[]:=hr;rw[hyv,h1]at b0;cases b0;rfl
   have u:(o.semAt ro a.eval).run P w=.ok (.round l fn tmps assign body) w:=by rw[d];simp[execOp,he,resolve,Deferred.ofValue,hfv,invoke,h2]
   rw[u,Oper.uponIn_round];refine⟨fun h=>by simp[FW,Fence.wide]at h,(OW h3).mono ?_⟩;rintro e w' ⟨b,rfl,C',hG',b1,a5,hY',hw0,hE,hPi,hR,a6,a7,_⟩;have hs:=g1.yielded hj hY' b1 a5 hw0 hE hPi hR a6 a7 (Gf a1) (fun _ h=>h.elim);exact hk _ _ (by cases o.dst<;>rfl) ⟨C',_,rho,hG',hs.put (x:=.p (.bb b)) (.p _ _ (.bb b)) a8,by rw[Qj,q],s b⟩
  .have hv:RepV w (Prv C.X (A1 st.regs) rho) (Lv (A1 st.regs)) rho (args.map a.eval) (args.toList.map (aev st.env)):=
    ⟨by simp,fun i hi=>by
     have hi' : i<args.size:=by simpa using hi
     have:=h.aev args[i]
     simpa[AQ0,AQ1,hi']using this⟩
   obtain⟨x,y,hx,a2⟩:=OX h hwh (Kp.refl _ _ _ _) hv;have a9:=XC hG h a2 hl hc (o:=o) (Q:=Q) hF;refine Mh hd hk hq hG q ?_ a9;rw[d];simp[execOp,he,resolve,Deferred.ofValue,hx,invoke]
  have a3:=h.aev f;rw[hf]at a3;obtain⟨hY,hyv⟩:=h.yld j _ _ hj;obtain⟨x,rfl⟩:∃x,args = #[x]:=by
   obtain⟨l⟩:=args;cases l with
   |nil=>simp at ha
   |cons x r=>cases r with
    |nil=>exact⟨x,rfl⟩
    |cons y r=>simp at ha
  have hx:=h.aev x;rw[show aev st.env x=.vec jw by simpa using ha]at hx;obtain⟨hv,hlv⟩:a.eval x=rho jw/\Lv (A1 st.regs) jw:=by
   generalize a.eval x=v at hx;cases hx with
   |vec _ base n cap hl hr=>exact⟨hr.symm,hl⟩
  have hh:=h.hp.holds jw _ hjw;have hpr:∀b off,K9 (rho jw) (.vec e m n2 g false)=some b->PvR st.regs rho b off:=fun b off hb=>⟨jw,_,hjw,hb,trivial⟩;have a4:=𝒢.call C w _ _ _ rest #[rho jw] (fun b=>K9 (rho jw) (.vec e m n2 g false)=some b) hG h.rel hY (fun b hb=>⟨.inl ⟨jw,_,hjw,hb⟩,fun o=>hpr b o hb⟩) (.inr ⟨_,_,_,_,_,rfl,rfl,fun _=>AZ7,hh⟩);obtain⟨l,fn,tmps,assign,body,h1,h2,h3⟩:=a4;have hfv:a.eval f=.func (.yield l) #[] #[]:=by
   generalize a.eval f=v at a3;cases a3 with
   |yf _ l' hlv hr=>have b0 : rho j=.func (.yield l') #[] #[]:=hr;rw[hyv,h1]at b0;cases b0;rfl
  have u:(o.semAt ro a.eval).run P w=.ok (.round l fn tmps assign body) w:=by rw[d];simp[execOp,he,resolve,Deferred.ofValue,hfv,invoke,hv,h2]
  rw[u,Oper.uponIn_round];refine⟨fun h=>by simp[FW,Fence.wide]at h,(OW h3).mono ?_⟩;rintro e' w' ⟨b,rfl,C',hG',b1,a5,hY',hw0,hE,hPi,hR,a6,a7,_,_,hya⟩;have hs:=h.yielded hj hY' b1 a5 hw0 hE hPi hR a6 a7 (Gf a1) (fun b hb=>by
   rcases hya with⟨hn,_⟩ | ⟨v,e',m',n',g',q1,q2,_,q4⟩
   .exact Ln hb (hn b)
   simp only[Dp,AV7,PV.agg.injEq,PV.iface.injEq,PV.sl.injEq,and_true,true_and]at q2;obtain⟨rfl,rfl,rfl,rfl⟩:=q2;obtain rfl:rho jw=v:=by simpa using q1
   exact⟨jw,e,m,n2,g,hjw,hb,q4⟩)
  exact hk _ _ (by cases o.dst<;>rfl) ⟨C',_,rho,hG',hs.put (x:=.p (.bb b)) (.p _ _ (.bb b)) a8,by rw[Qj,q],s b⟩
 .rename_i r m args types he;obtain⟨as,regs,t,y,f',ha,hr,hm,ids,hc⟩:=hw;obtain⟨g1,g2,g3,g4⟩:=JJ args.toList st as regs h ha;have hv:RepV w (Prv C.X (A1 regs) rho) (Lv (A1 regs)) rho (args.map a.eval) as:=
   ⟨by simp[g3],fun i hi=>by rw[Mi (by omega)];exact g4 i _ (AQ5 (by omega))⟩
  have b2:=g2.av (h.aev r);rw[hr]at b2;have b2:=b2.toP;obtain⟨x,hx,a0⟩:∃x,a.eval r=.iface t x/\RepP w (Prv C.X (A1 regs) rho) x y:=by
   generalize a.eval r=v at b2;cases b2 with
   |iface _ x _ hx=>exact⟨x,rfl,hx⟩
  have a2:RepV w (Prv C.X (A1 regs) rho) (Lv (A1 regs)) rho (#[x]++args.map a.eval) (.p y::as):=
   RepV.append (vs:=#[x]) (l:=[.p y]) ⟨rfl,fun i hi=>by
    simp only[AW2]at hi;obtain rfl:i=0:=by omega
    exact .p _ _ a0⟩ hv
  have a9:=Mg hG g1 q hc a2.1 a2.2;refine Mh hd hk hq hG q ?_ a9;rw[d];have e0:(#[Value.iface t x]++args.map a.eval)[0]? = some (.iface t x):=by simp[AY5]
  have e1:(args.map a.eval).extract 0 args.size=args.map a.eval:=by
   have:=Array.extract_size (xs:=args.map a.eval)
   rwa [Array.size_map]at this
  simp[execOp,he,resolve,invoke,hx,callMethod,e0,e1,XD hm]
 .rename_i x he;obtain⟨t,y,hx,hQ⟩:=hw;have a0:=h.aev x;rw[hx]at a0;have a0:=a0.toP;obtain⟨v,hv⟩:∃v,a.eval x=.iface t v:=by
   generalize a.eval x=z at a0;cases a0 with
   |iface _ v _ _=>exact⟨v,rfl⟩
  have u:(o.semAt ro a.eval).run P w=.halt (.panic (.iface t v)) w:=by rw[d];simp[execOp,he,Instr.panic,hv,goPanic,Result.andThen]
  rw[u,Oper.uponIn_panic];exact hq _ _ _ ⟨C,st,rho,_,_,rfl,hG,h,q,by rw[<- hv];exact a0,hQ⟩
 have hw2:∃out,OpOk P C o st a w rho out/\k (AM.put { st with regs:=out.regs } o.dst out.val):=by
  rcases hw with⟨out,ha,hc,s⟩ | ⟨c,x,ha,hc,s⟩
  .exact⟨out,Zs h ha hc,s⟩
  exact⟨⟨c,.p x,st.regs⟩,Xy h ha hc,s⟩
 obtain⟨out,⟨nx,v,w',rho',h1,h2,h3,_,h5⟩,s⟩:=hw2;have hfin:next (a.put o.dst v) w':=hk _ _ (by cases o.dst<;>rfl) ⟨C,_,rho',hG,h3.put h5 a8,by rw[Qj,q],s⟩
 rw[d,h1];rcases h2 with rfl|⟨rfl,rfl⟩
 .rw[Oper.uponIn_value];exact hfin
 rw[Oper.uponIn_skip];exact hfin
theorem NextOk.up {K:St->Prop}{a:Act}{w:World}(c : 𝒢.G C)(h:Sat C st a w rho)(b:a.tmps.size=n)(d:semUp st K):NextOk 𝒢 n K a w:=
 let ⟨st',rho',hK,_,hs⟩:=d C a w rho h
 ⟨C,st',rho',c,hs,b,hK⟩
theorem NextOk.mono {K K' : St->Prop}{a:Act}{w:World}(h:NextOk 𝒢 n K a w)(hk:∀s,K s->K' s):NextOk 𝒢 n K' a w:=
 let ⟨C,st,rho,h1,h2,h3,h4⟩:=h
 ⟨C,st,rho,h1,h2,h3,hk _ h4⟩
theorem XE (h:Sat C st a w rho)(i:a.tmps.size=n){ops:Array Oper}{j:Nat}{o' : Oper}{d:Nat}(g:ops[j]? = some o')(c:o'.dst=some d)(l:d<n){b:Option Bool}(hy:yv (get st.env (FV ops.toList j))=some b):yielded ops a.tmps j=b:=by
 have hj:FV ops.toList j=d:=by simp[FV,g,c]
 rw[hj]at hy;have f:=h.env d;have ht:a.tmps[d]? = some (a.tmps.getD d undef):=by
  have:d<a.tmps.size:=by omega
  simp[AQ0,this]
 unfold yielded;simp only[g,c,AQ6,ht];unfold yv at hy;split at hy
 .rename_i x hx;cases hy;rw[hx]at f;rw[f.toP.toV]
 .rename_i x hx;cases hy;rw[hx]at f;rw[f.toP.toBool]
 .rename_i x hx;cases hy;rw[hx]at f;rw[f.toP.toV]
 cases hy
theorem OY {ops:Array Oper}{o:Oper}(s:Hq n ops.toList o=true)(m:∀(j:Nat) (o' : Oper) d,ops[j]? = some o' -> o'.dst=some d->d<n){K:St->Prop}{Q:I8}(z : 𝒢.G C)(h:Sat C st a w rho)(c:a.tmps.size=n)(hw:NJ (Ga P) P ops.toList o K Q st){ro:Option Nat}{next:Act->World->Prop}{Q' : Exit->Act->World->Prop}
 (hk:∀a' w,a'.defers=a.defers->NextOk 𝒢 n K a' w->next a' w) (hq:∀chain a w,PanicOk 𝒢 n Q chain a w->Q' (.panic chain) a w) :
 if Region.wanted o (yielded ops a.tmps)then o.wpIn (FW ro) 0 P a w next Q' else (∀f,o.about P w a.eval=some f->(FW ro).fn f)/\next (a.put o.dst undef) w:=by
 simp only[Hq,AQ7]at s;obtain⟨u,i⟩:=s;have r:∀t,o.dst=some t->t<n:=fun t ht=>by rw[ht]at u;simpa using u
 obtain⟨st1,rho1,hw,_,h⟩:=hw C a w rho h;cases hg:o.guard with
 |none=>
  simp only[hg]at hw
  have:Region.wanted o (yielded ops a.tmps)=true:=by simp[Region.wanted,hg]
  rw[Ll this];exact Wg z h c r hw hk hq
 |some q=>
  obtain⟨j,want⟩:=q;simp only[hg]at hw i;obtain⟨b,hy,hw⟩:=hw;split at i
  .rename_i o' l;have l : ops[j]? = some o':=by simpa using l
   obtain⟨d,y⟩:=AR8.1 i;have a0:=XE h c l y (m j o' d l y) hy;have g:Region.wanted o (yielded ops a.tmps)=(b==some want):=by simp[Region.wanted,hg,a0]
   by_cases hb:b=some want
   .rw[Ll hb]at hw;rw[Ll (by rw[g];simp[hb])];exact Wg z h c r hw hk hq
   rw[Lm hb]at hw;rw[Lm (by rw[g];simpa using hb)];refine⟨fun f _=>trivial,hk _ _ (by cases o.dst<;>rfl) ⟨C,_,rho1,z,h.put (x:=By) (.p _ _ (.v _)) (fun t ht=>by rw[c];exact r t ht),by rw[Qj,c],hw⟩⟩
  cases i
end
end Go.AM
namespace Go.AM
section
variable {P:Program}{C:Ctx}{st:St}{a:Act}{w:World}{rho:Nat->Value}{𝒢 : Prot P}{n:Nat}{ro:Option Nat}{ops:Array Oper}{Q:I8}
theorem Sr (a:ops.toList.all (Hq n ops.toList)=true)(j:Nat)(o' : Oper)(d:Nat)(b:ops[j]? = some o')(c:o'.dst=some d):d<n:=by
 rw[AR4]at a
 have:=a o' (by
  have:ops.toList[j]? = some o':=by simpa using b
  exact AT1 this)
 simp only[Hq,c,AQ7]at this;simpa using this.1
theorem Mk (c:ops.toList.all (Hq n ops.toList)=true):∀(l:List Oper) (i:Nat),ops.toList.drop i=l->i+l.length=ops.size->∀{C st a w rho},𝒢.G C->Sat C st a w rho->a.tmps.size=n->JA (Ga P) P ops.toList l Q st ->
 wpOpsIn (FW ro) 0 P ops (WP 𝒢 n Q) ((List.range ops.size).drop i) a w
 |[],i,hl,hi,C,st,a,w,rho,g,h,b,hw=>by rw[AY0 (by simp at hi⊢;omega)];exact⟨C,st,rho,g,h,b,hw⟩
 |o::l,i,hl,hi,C,st,a,w,rho,g,h,b,hw=>by
  have m:i<ops.size:=by simp at hi;omega
  have f:(List.range ops.size).drop i=i::(List.range ops.size).drop (i+1):=by rw[AZ9 (by simpa using m)];simp
  rw[f];have d:ops.toList[i]? = some o:=by
   have:(ops.toList.drop i)[0]? = some o:=by rw[hl];rfl
   simpa using this
  have r:ops[i]? = some o:=by simpa using d
  have q : ops.toList.drop (i+1)=l:=by
   have:(ops.toList.drop i).drop 1=l:=by rw[hl];rfl
   rwa [Bc3]at this
  have j:Hq n ops.toList o=true:=by rw[AR4]at c;exact c o (AT1 d)
  simp only[wpOpsIn,r]
  have:=OY (ro:=ro) (Q':=WP 𝒢 n Q) (next:=wpOpsIn (FW ro) 0 P ops (WP 𝒢 n Q) ((List.range ops.size).drop (i+1))) j (Sr c) g h b hw
   (fun a w _ ⟨C,st,rho,g,h,b,hw⟩=>Mk c l (i+1) q (by simp at hi⊢;omega) g h b hw) (fun chain a w h=>h)
  exact this
def cnt:List Bool->Nat
 |[]=>0
 |true::r=>cnt r+1
 |false::r=>cnt r
theorem Zz:∀{l:List Bool}{i:Nat},l[i]? = some false->cnt (l.set i true)=cnt l+1
 |[],i,h=>by simp at h
 |b::r,0,h=>by simp at h;subst h;simp[cnt]
 |b::r,i+1,h=>by
  have:=Zz (l:=r) (i:=i) (by simpa using h)
  cases b<;>simp[cnt,this]
theorem ZA:∀(l:List Bool),cnt l<=l.length
 |[]=>by simp[cnt]
 |true::r=>by simp[cnt,ZA r]
 |false::r=>by have:=ZA r;simp[cnt];omega
theorem Wh:∀{l:List Bool},l.length<=cnt l->∀i,i<l.length->l[i]? = some true
 |[],_,i,hi=>by simp at hi
 |true::r,h,i,hi=>by
  cases i with
  |zero=>simp
  |succ i=>simpa using Wh (l:=r) (by simpa[cnt]using h) i (by simpa using hi)
 |false::r,h,i,hi=>by have:=ZA r;simp[cnt]at h;omega
theorem ZB (m:Region.Mode)(ops:Array Oper):∀(fuel t:Nat) (listed:Array Bool) (acc:List Nat),Region.linearise.go m ops fuel t listed acc=acc.reverse++Region.linearise.go m ops fuel t listed []
 |0,t,listed,acc=>by simp[Region.linearise.go]
 |fuel+1,t,listed,acc=>by
  simp only[Region.linearise.go];split
  .rename_i i a;rw[ZB m ops fuel _ _ (i::acc),ZB m ops fuel _ _ [i]];simp
  simp
theorem XF (q:ops.toList.all (Hq n ops.toList)=true)(c:KA ops.toList=true){Inv:(Nat->Bool)->St->Prop}
 (u:∀D i s o,Inv D s->ops.toList[i]? = some o->D i=false->(∀e∈o.after.toList,Es e=true->D e.on=true)->NJ (Ga P) P ops.toList o (Inv fun j=>if j=i then true else D j) Q s)
 (z:∀D s,Inv D s->(∀i,i<ops.toList.length->D i=true)->semUp s (Q .normal)):∀(fuel t:Nat) (listed:Array Bool),listed.size=ops.size->ops.size<=cnt listed.toList+fuel->∀{a w},NextOk 𝒢 n (Inv fun j=>listed.getD j false) a w ->
 wpOpsIn (FW ro) 0 P ops (WP 𝒢 n Q) (Region.linearise.go .any ops fuel t listed []) a w:=by
 have d:∀(listed:Array Bool) {a w},NextOk 𝒢 n (Inv fun j=>listed.getD j false) a w->(∀i,i<ops.size->listed.getD i false=true)->wpOpsIn (FW ro) 0 P ops (WP 𝒢 n Q) [] a w:=by intro listed a w h a0;obtain⟨C,st,rho,hG,hs,f,hI⟩:=h;exact NextOk.up hG hs f (z _ st hI fun i m=>a0 i (by simpa using m))
 intro fuel
 induction fuel with
 |zero=>
  intro t listed f a1 a w h;simp only[Region.linearise.go,List.reverse_nil];refine d listed h fun i m=>?_
  have:=Wh (l:=listed.toList) (by simp;omega) i (by simp;omega)
  simp only[AU7]at this;simp[AQ0,this]
 |succ fuel ih=>
  intro t listed f a1 a w h;simp only[Region.linearise.go];generalize a2:(List.range ops.size).filter (fun i=>!listed.getD i true&&((ops[i]?).map (·.after.all fun e=>!Region.binds .any e||listed.getD e.on false)).getD false)=rs;split
  .rename_i i m;rw[ZB];have b:i∈rs:=AT1 m;rw[<- a2,Bd6]at b;obtain⟨hr,hc⟩:=b;simp only[AU9]at hr;simp only[AQ7,AS7]at hc;obtain⟨hl,ha⟩:=hc;have ho:ops[i]? = some ops[i]:=AT8 hr;have hof:listed[i]? = some false:=by
    have:i<listed.size:=by omega
    simp only[AQ0,AT8 this,AR2]at hl;rw[AT8 this,hl]
   simp only[ho,AR5,AR2,Bj1,AS6,AS7]at ha;have v:Hq n ops.toList ops[i]=true:=by rw[AR4]at q;exact q _ (by simp)
   show wpOpsIn (FW ro) 0 P ops (WP 𝒢 n Q) (i::Region.linearise.go .any ops fuel (t / rs.length) (listed.setIfInBounds i true) []) a w;simp only[wpOpsIn,ho];obtain⟨C,st,rho,hG,hs,hsz',hI⟩:=h;have hw:=u _ i st ops[i] hI (by simp[hr]) (by simp[AQ0,hof]) (fun e he hb=>by
    rcases ha e (by simpa using he)with h1|h1
    .unfold Es at hb;rw[hb]at h1;cases h1
    exact h1)
   have hset:(fun j=>if j=i then true else listed.getD j false)=fun j=>(listed.setIfInBounds i true).getD j false:=by
    funext j;by_cases e:j=i
    .subst e;simp[AQ0,show j<listed.size by omega]
    simp[AQ0,e,AV5 e]
   rw[hset]at hw;exact OY (ro:=ro) (Q':=WP 𝒢 n Q) v (Sr q) hG hs hsz' hw
    (fun a w _ h=>ih _ _ (by simp[f]) (by rw[Bf4,Zz (by simpa using hof)];omega) h) (fun chain a w h=>h)
  rename_i y;have g:rs=[]:=by
   cases rs with
   |nil=>rfl
   |cons x r=>
    rw[List.getElem?_eq_none_iff]at y
    have:=Bj9 t (show 0<(x::r).length by simp)
    omega
  subst g;refine d listed h fun i m=>?_
  induction i using Nat.strongRecOn with
  |_ i ihi=>
   cases hv:listed.getD i false with
   |true=>rfl
   |false=>
    exfalso;have b:i∈(List.range ops.size).filter (fun i=>!listed.getD i true&&((ops[i]?).map (·.after.all fun e=>!Region.binds .any e||listed.getD e.on false)).getD false):=by
     rw[Bd6];refine⟨by simpa using m,?_⟩;have ho:ops[i]? = some ops[i]:=AT8 m;have hlt:i<listed.size:=by omega
     simp only[ho,AR5,AR2,AQ7,AS7,Bj1,AS6];refine⟨by simpa[AQ0,hlt]using hv,fun e he=>?_⟩;unfold KA at c;rw[AR4]at c
     have:=c i (by simpa using m)
     simp only[AU7,ho,AR4,AS6,AS7,decide_eq_true_eq]at this;rcases this e (by simpa using he)with h1|h1
     .exact .inl h1
     exact .inr (ihi e.on h1 (by omega))
    rw[a2]at b;simp at b
end
end Go.AM
namespace Go.AM
section
variable {P:Program}{C:Ctx}{st:St}{a:Act}{w:World}{rho:Nat->Value}{𝒢 : Prot P}{n:Nat}{ro:Option Nat}{Q:I8}
def AG1 (𝒢 : Prot P)(ro:Option Nat):Prop:=∀l,ro=some l->∀C,𝒢.G C->∃r,C.w0.heap[l]? = some (.loop r)/\¬C.E0 l
def FX (P:Program)(n:Nat)(c:Code):Prop:=∀(𝒢 : Prot P) (ro:Option Nat),AG1 𝒢 ro->∀(Q:I8) (C:Ctx) (st:St) (a:Act) (w:World) (rho:Nat->Value),𝒢.G C->Sat C st a w rho->a.tmps.size=n->awp (Ga P) P c Q st->c.wpIn (FW ro) 0 P (WP 𝒢 n Q) a w
theorem Cg {b:Frame}{c:Code}{k:List Item}{cs:List Frame}:step P (lone (b.atR a (.code (.scope c)::k)) cs w)=.next (lone (b.atR a (.code c :: .inScope c::k)) cs w):=
 step_lone_go (by simp[stepG,stepG.exec,Frame.atR])
theorem Qk {b:Frame}{c:Code}{k:List Item}{cs:List Frame}:step P (lone (b.atR a (.inScope c::k)) cs w)=.next (lone (b.atR a k) cs w):=
 step_lone_go (by simp[stepG,stepG.exec,Frame.atR])
theorem XG {F:Fence}{m:Nat}{c:Code}{Q:Exit->Act->World->Prop}(h:c.wpIn F m P (fun e a w=>(∀l,e ≠ .goto l)/\Q e a w) a w):(Code.scope c).wpIn F m P Q a w:=by
 intro b k cs i hb j;have f:(lone (b.atR a (.code (.scope c)::k)) cs w).fenced P F:=fenced_calm hb j rfl;obtain⟨e,a₁,w₁,⟨hg,g⟩,d⟩:=h b (.inScope c::k) cs i hb j;cases e with
 |normal=>exact⟨.normal,a₁,w₁,g,.head f Cg (StepsIn.trans d (.one (fenced_calm hb j rfl) Qk))⟩
 |exit id=>
  have hx:exitTo id (.inScope c::k)=exitTo id k:=by simp[exitTo]
  exact⟨_,a₁,w₁,g,fun k' hk=>.head f Cg (d.1 k' (by rw[hx];exact hk)),
   fun n hk=>let ⟨k₁,h1,h2⟩:=d.2 n (by rw[hx];exact hk);⟨k₁,h1,.head f Cg h2⟩⟩
 |goto l=>exact Ln rfl (hg l)
 |ret=>exact⟨_,a₁,w₁,g,.of_steps (.one f Cg) d⟩
 |panic ch=>exact⟨_,a₁,w₁,g,.of_steps (.one f Cg) d⟩
 |outgrown=>exact⟨_,a₁,w₁,g,.of_steps (b:=b) (k:=k) (cs:=cs) (e:=.outgrown) (.one f Cg) d⟩
theorem PanicOk.mono {Q Q' : I8}{ch:List PanicEntry}{a:Act}{w:World}(h:PanicOk 𝒢 n Q ch a w)(b:∀x s,Q (.panic x) s->Q' (.panic x) s):PanicOk 𝒢 n Q' ch a w:=
 let ⟨C,st,rho,v,x,h1,h2,h3,h4,h5,h6⟩:=h
 ⟨C,st,rho,v,x,h1,h2,h3,h4,h5,b _ _ h6⟩
theorem Ay9 (h:Sat C st a w rho){c:Operand}{b:Bool}(hb:LP (aev st.env c)=some b):a.eval c=.bool b:=by
 have d:=h.aev c;unfold LP at hb;split at hb
 .rename_i x hx;cases hb;rw[hx]at d;exact d.toP.toV
 .rename_i x hx;cases hb;rw[hx]at d;exact d.toP.toBool
 cases hb
open Classical in
theorem XH {b:Code}(ih:FX P n b)(u:AG1 𝒢 ro)(hG : 𝒢.G C)(h:Sat C st a w rho)(v:a.tmps.size=n)(hw:awp (Ga P) P (.loop b) Q st):(Code.loop b).wpIn (FW ro) 0 P (WP 𝒢 n Q) a w:=by
 obtain⟨X,s,J,m,hu,g⟩:=hw
 let at' : Act->World->X->Prop:=fun a w x=>J x/\∃C rho,𝒢.G C/\Sat C (s x) a w rho/\a.tmps.size=n
 let I:Act->World->Prop:=fun a w=>∃x,at' a w x
 let le:Act->World->Nat->Prop:=fun a w k=>∃x,at' a w x/\m x=k
 have d:∀(p:Nat->Prop),(∃k,p k)->∃k,p k/\∀j,p j->k<=j:=by
  intro p ⟨k,hk⟩
  induction k using Nat.strongRecOn with
  |_ k ih=>
   by_cases c:∃j,j<k/\p j
   .obtain⟨j,hj,hp⟩:=c;exact ih j hj hp
   exact⟨k,hk,fun j hj=>Bb2 fun a0=>c ⟨j,a0,hj⟩⟩
 let μ : Act->World->Nat:=fun a w=>if hx:∃k,le a w k then (d _ hx).choose else 0
 have hμ : ∀a w x,at' a w x->∃y,at' a w y/\m y = μ a w /\ μ a w<=m x:=by
  intro a w x hx;have c:∃k,le a w k:=⟨m x,x,hx,rfl⟩;have h1:=(d _ c).choose_spec;have h2 : μ a w=(d _ c).choose:=by simp only[μ,dif_pos c]
  obtain⟨⟨y,hy,hm⟩,hle⟩:=h1;exact⟨y,hy,by rw[h2];exact hm,by rw[h2];exact hle _ ⟨x,hx,rfl⟩⟩
 refine wpIn_loop I μ ?_ ?_
 .obtain⟨C',st',rho',i,o,f,⟨x,rfl,hJ⟩⟩:=NextOk.up hG h v hu;exact⟨x,hJ,C',rho',i,o,f⟩
 rintro a w ⟨x,hx⟩;obtain⟨y,⟨hJ,C',rho',i,o,f⟩,hm,_⟩:=hμ a w x hx;refine wpIn_mono (ih 𝒢 ro u _ C' (s y) a w rho' i o f (g y hJ)) ?_;intro e a' w' q;cases e with
 |normal=>obtain⟨C2,st2,rho2,hG2,hs2,r,hu2⟩:=q;obtain⟨C3,st3,rho3,hG3,hs3,t,⟨z,rfl,hJz,hmz⟩⟩:=NextOk.up hG2 hs2 r hu2;have hz:at' a' w' z:=⟨hJz,C3,rho3,hG3,hs3,t⟩;obtain⟨_,_,_,hle⟩:=hμ a' w' z hz;exact⟨⟨z,hz⟩,by omega⟩
 |exit id=>exact q
 |goto l=>exact q
 |ret=>exact q
 |panic ch=>exact q.mono fun x s h=>h
 |outgrown=>exact q
theorem Uw (z:∀g ps asg body,(ps.toList.all fun t=>Nat.blt t n)=true->FX P n asg->FX P n body->FX P n (.rangeFunc g ps asg body)):∀(c:Code),AT n c=true->FX P n c:=by
 intro c
 induction c with
 |skip=>exact fun _ 𝒢 ro m Q C st a w rho o h d hw=>wpIn_skip ⟨C,st,rho,o,h,d,hw⟩
 |label l=>exact fun _ 𝒢 ro m Q C st a w rho o h d hw=>wpIn_label ⟨C,st,rho,o,h,d,hw⟩
 |exit id=>exact fun _ 𝒢 ro m Q C st a w rho o h d hw=>wpIn_exit ⟨C,st,rho,o,h,d,hw⟩
 |goto l=>exact fun _ 𝒢 ro m Q C st a w rho o h d hw=>wpIn_goto ⟨C,st,rho,o,h,d,hw⟩
 |ret=>exact fun _ 𝒢 ro m Q C st a w rho o h d hw=>wpIn_ret ⟨C,st,rho,o,h,d,hw⟩
 |refuse y=>exact fun _ 𝒢 ro m Q C st a w rho o h d hw=>hw.elim
 |region id ops draw=>
  intro f 𝒢 ro m Q C st a w rho o h d hw;simp only[AT]at f;simp only[awp]at hw;cases draw with
  |false=>
   simp only[AR0,Lp]at hw
   have:=Mk (ro:=ro) f ops.toList 0 (by simp) (by simp) o h d hw
   exact wpIn_region (by simpa using this)
  |true=>
   simp only[Lo]at hw;obtain⟨hmix,hdep,Inv,h0,a0,hfin⟩:=hw;refine wpIn_region_draw fun t=>?_;have hsch:Region.schedule (P.follows .mixedOrders) ops t=Region.linearise.go .any ops ops.size t (Array.replicate ops.size false) []:=by simp[Region.schedule,hmix,Region.linearise]
   rw[hsch];obtain⟨h1,_⟩:=h.grow (w':={ w with drawn:=w.drawn+1 }) (AQ8 _) (fun _ _=>rfl);refine XF f hdep a0 hfin _ _ _ (by simp) (by simp) ⟨C,st,rho,o,h1,d,?_⟩
   have:(fun j=>(Array.replicate ops.size false).getD j false)=fun _=>false:=by funext j;simp only[AQ0,Array.getElem?_replicate];split<;>rfl
   rw[this];exact h0
 |seq x y ihx ihy=>
  intro f 𝒢 ro m Q C st a w rho o h d hw;simp only[AT,AQ7]at f;refine wpIn_seq (wpIn_mono (ihx f.1 𝒢 ro m _ C st a w rho o h d hw) ?_);intro e a' w' q;cases e with
  |normal=>obtain⟨C2,st2,rho2,u,v,r,hu2⟩:=q;obtain⟨C3,st3,rho3,hG3,hs3,hsz3,hw3⟩:=NextOk.up u v r hu2;exact ihy f.2 𝒢 ro m _ C3 st3 a' w' rho3 hG3 hs3 hsz3 hw3
  |exit id=>exact q
  |goto l=>exact q
  |ret=>exact q
  |panic ch=>exact q.mono fun x s h=>h
  |outgrown=>exact q
 |cond c x y ihx ihy=>
  intro f 𝒢 ro m Q C st a w rho o h d hw;simp only[AT,AQ7]at f;obtain⟨b,hb,hw⟩:=hw;refine wpIn_cond (Ay9 h hb) ?_;cases b
  .exact ihy f.2 𝒢 ro m _ C st a w rho o h d hw
  exact ihx f.1 𝒢 ro m _ C st a w rho o h d hw
 |block id b ih=>
  intro f 𝒢 ro m Q C st a w rho o h d hw;refine wpIn_block (wpIn_mono (ih f 𝒢 ro m _ C st a w rho o h d hw) ?_);intro e a' w' q;cases e with
  |normal=>exact q
  |exit i=>
   simp only[Exit.inBlock];obtain⟨C2,st2,rho2,u,v,r,hq⟩:=q;by_cases hi:i=id
   .simp only[blk,hi,Lo]at hq;rw[Ll hi];exact⟨C2,st2,rho2,u,v,r,hq⟩
   simp only[blk,hi,Lp]at hq;rw[Lm hi];exact⟨C2,st2,rho2,u,v,r,hq⟩
  |goto l=>exact q
  |ret=>exact q
  |panic ch=>exact q.mono fun x s h=>h
  |outgrown=>exact q
 |loop b ih=>exact fun f 𝒢 ro m Q C st a w rho o h d hw=>XH (ih f) m o h d hw
 |scope b ih=>
  intro f 𝒢 ro m Q C st a w rho o h d hw;refine XG (wpIn_mono (ih f 𝒢 ro m _ C st a w rho o h d hw) ?_);intro e a' w' q;cases e with
  |normal=>exact⟨fun l h=>(by cases h),q⟩
  |exit id=>exact⟨fun l h=>(by cases h),q⟩
  |goto l=>obtain⟨C2,st2,rho2,u,v,r,hq⟩:=q;exact hq.elim
  |ret=>exact⟨fun l h=>(by cases h),q⟩
  |panic ch=>exact⟨fun l h=>(by cases h),q.mono fun x s h=>h⟩
  |outgrown=>exact q.elim
 |rangeFunc g ps asg body iha ihb=>intro f;simp only[AT,AQ7]at f;exact z g ps asg body f.1.1 (iha f.1.2) (ihb f.2)
end
end Go.AM
namespace Go.AM
section
variable {P:Program}{C:Ctx}{st:St}{a:Act}{w:World}{rho:Nat->Value}{𝒢 : Prot P}{n:Nat}{Q:I8}
def Prot.fix (𝒢 : Prot P)(r0:Nat->Value):Prot P where
 G:=fun C=>𝒢.G C/\C.rho0=r0
 tab:=fun C h=>𝒢.tab C h.1
 call:=by intro C w O V ys rest vs H a hR c hs d;obtain⟨l,fn,tmps,as,body,h1,f,g⟩:=𝒢.call C w O V ys rest vs H a.1 hR c hs d;refine⟨l,fn,tmps,as,body,h1,f,g.mono ?_⟩;rintro e w' ⟨b,i,C',g1,g2,g3,g4⟩;exact⟨b,i,C',⟨g1,g3.trans a.2⟩,g2,g3,g4⟩
theorem Sat.unmark (h:Sat C st a w rho){d:Deferred}{ds:List Deferred}(m:a.defers=d::ds):∃r w',d.target=.collected r/\(Instr.takeDeferred r).run P w=.ok [] w' /\ Sat C st { a with defers:=ds } w' rho:=by
 obtain⟨r,rfl,i,f,n⟩:=h.marks.2 d (by rw[m];simp);have s:r<w.heap.size:=(AR1.1 f).1;refine⟨r,w.putObj r (.deferred none),rfl,run_takeDeferred f,?_⟩;have c:∀b,b≠r->(w.putObj r (.deferred none)).heap[b]? = w.heap[b]?:=fun b hb=>AV8 hb;have g:∀b off v,w.cell? ⟨b,off,none⟩=some v->b≠r:=by rintro b off v hc rfl;simp[World.cell?,f]at hc
 have hk:Keeps w (Prv C.X (A1 st.regs) rho) (w.putObj r (.deferred none)) (Prv C.X (A1 st.regs) rho):=fun b o v hp hc=>
  ⟨by rw[<- hc];exact AV4 (c b (g b o v hc)),hp⟩
 refine⟨⟨⟨?_,h.hp.sep,h.hp.out,fun b off n=>by rw[AV1];exact h.hp.bound b off n⟩,h.ext.trans ⟨rfl,rfl⟩,by rw[AV1];exact h.size,?_,h.keep.trans hk,h.own,h.yld⟩,fun t=>(h.env t).keeps hk fun j hj=>⟨hj,rfl⟩,h.pin,?_,?_⟩
 .intro j o hj;exact (h.hp.holds j o hj).keeps hk (fun j hj=>⟨hj,rfl⟩) fun b hb=>c b fun e=>(h.hp.holds j o hj).nd hb (by rw[e];exact f)
 .intro b hb q;rw[c b (fun e=>by subst e;rcases i with h1|h1;exact q h1;omega)];exact h.same b hb q
 .have:=h.marks.1;rw[m]at this;exact (AW0.1 this).2
 intro d' l;obtain⟨r',h1,u,x,y⟩:=h.marks.2 d' (by rw[m];exact AT2 _ l);refine⟨r',h1,u,?_,y⟩;rw[c r' ?_]
 .exact x
 rintro rfl
 have:=h.marks.1;rw[m]at this
 exact (AW0.1 this).1 (by rw[<- h1];exact l)
theorem KI {fn:Func}{R:Ending->World->Prop}{u:FrameMode}(c:u ≠ .run){tmps:Array Value}(b:∀a w,Sat C st a w rho->a.tmps=tmps->a.defers=[]->LeavesIn Fence.wide 0 P fn tmps R [] u w):∀(ds:List Deferred) (a:Act) (w:World),a.defers=ds->a.tmps=tmps->Sat C st a w rho ->
 LeavesInM Fence.wide 0 P fn tmps R ds u w
 |[],a,w,hd,ht,h=>b a w h ht hd
 |d::ds,a,w,hd,ht,h=>by obtain⟨r,w',h1,f,g⟩:=h.unmark hd;exact⟨c,.inl ⟨r,w',h1,f,KI c b ds { a with defers:=ds } w' rfl ht g⟩⟩
theorem Aj1 {Pi:Nat->Nat->Prop}{live:Nat->Prop}{regs:B5}{t:TypeId}{v:Value}{x:AV}{r:List Prop×AV}(b:RepA w Pi live rho v x)(a:load P regs t x=some r):∃ad,v=.pointer (some ad):=by
 cases b with
 |reg=>exact⟨_,rfl⟩
 |elt=>exact⟨_,rfl⟩
 |p _ y hy=>cases hy<;>first|exact⟨_,rfl⟩ | simp[load]at a
 |_=>simp[load]at a
def AP2 (tmps:Array Value):ResultVar->Sem Value
 |.tmp t=>pure (tmps.getD t undef)
 |.cell a t=>do loadVar t (<- asAddr (tmps.getD a undef))
theorem XJ (fn:Func)(tmps:Array Value):results fn tmps=(do
 let vs <- fn.results.mapM (AP2 tmps)
 pure (if h:vs.size=1 then vs[0]else .tuple vs):Sem Value):=by
 unfold results;refine congrArg (fun f=>((fn.results.mapM f >>= fun vs=>pure (if h:vs.size=1 then vs[0]else .tuple vs)):Sem Value)) ?_;funext r;cases r<;>rfl
theorem IE (h:Sat C st a w rho):∀(rs:List ResultVar) (l:List AV),Gc P st rs=some l ->
 ∃vs:List Value,(rs.mapM (AP2 a.tmps)).run P w=.ok vs w/\vs.length=l.length/\∀i,i<l.length->RS C st w rho (vs.getD i undef) (l.getD i .top)
 |[],l,he=>by simp only[Gc,AQ2]at he;subst he;exact⟨[],by simp,rfl,fun i d=>Ln d (by simp)⟩
 |r::rs,l,he=>by
  simp only[Gc]at he;split at he
  .rename_i x l' hx hl;cases he;obtain⟨vs,h1,m,n⟩:=IE h rs l' hl;have b:∃v,(AP2 a.tmps r).run P w=.ok v w/\RS C st w rho v x:=by
    cases r with
    |tmp t=>simp only[YW,AQ2]at hx;subst hx;exact⟨_,rfl,h.env t⟩
    |cell y t=>
     simp only[YW]at hx;split at hx
     .rename_i z g;cases hx;obtain⟨u,j,f⟩:=OI h (h.env y) g trivial;obtain⟨ad,c⟩:=Aj1 (h.env y) g;rw[c]at j;refine⟨u,?_,f⟩;simp only[AP2,c];simpa[Instr.loadAt,Instr.sureAddr,asAddr]using j
     cases hx
   obtain⟨v,o,f⟩:=b;refine⟨v::vs,?_,by simp[m],fun i d=>?_⟩
   .rw[List.mapM_cons];simp only[AT7,o,AR6,h1,AV3]
   cases i with
   |zero=>simpa using f
   |succ i=>simpa using n i (by simpa using d)
  cases he
theorem Ql (h:Sat C st a w rho){fn:Func}{l:List AV}(d:Gc P st fn.results.toList=some l):∃v,(results fn a.tmps).run P w=.ok v w/\RS C st w rho v (one l):=by
 obtain⟨vs,h1,b,c⟩:=IE h _ l d;refine⟨if h:vs.toArray.size=1 then vs.toArray[0]else .tuple vs.toArray,?_,?_⟩
 .rw[XJ,Array.mapM_eq_mapM_toList];simp only[AT7,map_eq_pure_bind,h1,AR6,AV3]
 by_cases hl:l.length=1
 .obtain⟨x,rfl⟩:=Bd8.1 hl;obtain⟨v,rfl⟩:=Bd8.1 (b.trans hl);simpa[one]using c 0 (by simp)
 rw[dif_neg (by simpa using (b ▸ hl:¬vs.length=1))]
 have:one l=.tup l:=by
  cases l with
  |nil=>rfl
  |cons x r=>
   cases r with
   |nil=>exact Ln rfl hl
   |cons _ _=>rfl
 rw[this];refine .tup _ l (by simpa using b) fun i f=>?_
 have:=c i f
 simpa[AQ1,AQ0]using this
theorem Ml (h:Sat C st a w rho){outs:List Nat}{objs:List Obj}(hd:G0 outs=true)(u:J6 outs st.regs outs=some objs) :SatE C (objRegs objs) w (fun p=>rho (outs.getD p 0))/\Keeps w (PiS C st rho) w (Prv C.X (A1 (objRegs objs)) (fun p=>rho (outs.getD p 0))) /\
  ∀p j:Nat,outs[p]? = some j->Lv (A1 st.regs) j->Lv (A1 (objRegs objs)) p/\rho (outs.getD p 0)=rho j:=by
 obtain⟨hl,hg⟩:=Al u;have m:=Ce hd;have c:∀p o',A1 (objRegs objs) p=some o' -> ∃j o,outs[p]? = some j/\A1 st.regs j=some o/\PU outs o=some o' /\ rho (outs.getD p 0)=rho j:=by
  intro p o' hp;rw[D3]at hp;have l:p<outs.length:=by rw[<- hl];exact (AR7.1 hp).1
  obtain⟨o,o2,h1,f,d⟩:=hg p _ (AQ5 l);rw[hp]at d;cases d;exact⟨_,o,AQ5 l,h1,f,by rw[CT (AQ5 l)]⟩
 have x:∀b off,Prv C.X (A1 (objRegs objs)) (fun p=>rho (outs.getD p 0)) b off->Prv C.X (A1 st.regs) rho b off:=by
  rintro b off (n|⟨p,o',hp,hb,y⟩)
  .exact .inl n
  obtain⟨j,o,h1,f,d,g⟩:=c p o' hp;simp only[g,Aj d]at hb;exact .inr ⟨j,o,f,hb,(IC d off).1 y⟩
 have hk:Keeps w (PiS C st rho) w (Prv C.X (A1 (objRegs objs)) (fun p=>rho (outs.getD p 0))):=fun b o v hp hc=>⟨hc,fun z=>hp (x b o z)⟩;have i:∀p j:Nat,outs[p]? = some j->Lv (A1 st.regs) j->Lv (A1 (objRegs objs)) p/\rho (outs.getD p 0)=rho j:=by intro p j hp _;obtain⟨o,o2,h1,f,d⟩:=hg p j hp;exact⟨by simp[Lv,D3,d],by rw[CT hp]⟩
 refine⟨⟨⟨?_,?_,?_,fun b off n=>h.hp.bound b off n⟩,h.ext,h.size,h.same,h.keep.trans hk,?_,?_⟩,hk,i⟩
 .intro p o' hp;obtain⟨j,o,h1,f,d,g⟩:=c p o' hp;show HoldsO w _ _ _ (rho (outs.getD p 0)) o';rw[g];exact (h.hp.holds j o f).ren hk i (fun b _=>rfl) d
 .intro p q op oq b hp hq s t;obtain⟨j,o,h1,f,d,g⟩:=c p op hp;obtain⟨j',o',a0,a1,a2,a3⟩:=c q oq hq;simp only[g,a3,Aj d,Aj a2]at s t
  have:=h.hp.sep j j' o o' b f a1 s t
  subst this;exact EF m h1 a0
 .intro p o' b off hp hb n;obtain⟨j,o,h1,f,d,g⟩:=c p o' hp;simp only[g,Aj d]at hb;exact h.hp.out j o b off f hb n
 .rintro b ⟨p,o',hp,hb⟩;obtain⟨j,o,h1,f,d,g⟩:=c p o' hp;simp only[g,Aj d]at hb;exact h.own b ⟨j,o,f,hb⟩
 intro p r b hp;obtain⟨j,o,h1,f,d,g⟩:=c p _ hp
 have:o=.yld r b:=by
  cases o<;>simp only[PU]at d
  case cells=>split at d<;>cases d
  case ghost=>split at d<;>cases d
  case fam=>split at d<;>cases d
  case yld=>cases d;rfl
  all_goals cases d
 subst this;simp only[g];exact h.yld j r b f
theorem XK {m:Nat}{outs:List Nat}(hm:m<1000){i:Nat}(hk:(FI m outs)[i]? = some true):i<m/\outs[i]? = some i:=by
 unfold FI at hk;rw[AQ9,AS2]at hk;obtain⟨q,c,a⟩:=hk;have b:i<m:=by simpa using (AR7.1 c).1
 rw[Mf b]at c;cases c;refine⟨b,?_⟩;simp only[beq_iff_eq,AQ1]at a;cases d:outs[i]? with
 |none=>rw[d]at a;simp at a;omega
 |some j=>rw[d]at a;simp at a;rw[a]
theorem XL (s:∀c,AT n c=true->FX P n c){f:FuncId}{fn:Func}{code:Code}{args:List AV}{objs:List Obj}{Q:Lz->List Obj->List Bool->Prop}(hf:P.funcs[f]? = some fn)(hb:fn.body=some code)(y:(fn.name == "runtime.NumGoroutine")=false)(hn:fn.ntmps=n)
 (hok:AT n code=true) (hargs:args.length<=n) (z:objs.length<1000)
 (hw:semUp ⟨argEnv args,objRegs objs⟩ (awp (Ga P) P code (Cz (Ga P) P objs.length fn.results.toList Q))):SemF P f args objs Q:=by
 intro 𝒢 C w vs rho hG hS hvs;have hn' : ¬fn.name = "runtime.NumGoroutine" := by simpa using y
 refine⟨.enter f vs,w,by simp[callFunc,hf,hn',hb],?_⟩;refine callsIn_of_wp_marks hf hb trivial ?_;have hS' : Sat C ⟨argEnv args,objRegs objs⟩ { tmps:=vs++Array.replicate (fn.ntmps-vs.size) undef,defers:=[] } w rho:=by
  refine⟨hS.toSatE,fun t=>?_,hS.pin,hS.marks⟩
  have:=hS.env t
  by_cases ht:t<vs.size
  .simpa[AQ0,AY5,ht]using this
  show RepA w _ _ _ _ (get (argEnv args) t);rw[Ak,AQ1,AU8 (by omega)];exact .top _
 obtain⟨st1,rho1,hw1,_,hS1⟩:=hw C _ w rho hS';have hsz:(vs++Array.replicate (fn.ntmps-vs.size) undef).size=n:=by simp;omega
 have hro:AG1 (𝒢.fix C.rho0) none:=fun l h=>by cases h
 refine wpIn_mono (s code hok (𝒢.fix C.rho0) none hro _ C st1 _ w rho1 ⟨hG,rfl⟩ hS1 hsz hw1) ?_;have j:∀{C' : Ctx}{st' : St}{a' : Act}{w' : World}{rho' : Nat->Value}{outs:List Nat}{objs' : List Obj},C'.rho0=C.rho0->Sat C' st' a' w' rho' -> J6 outs st'.regs outs=some objs' -> ∀i:Nat,(FI objs.length outs)[i]? = some true->i<objs'.length/\rho' (outs.getD i 0)=rho i:=by intro C' st' a' w' rho' outs objs' hr hs hob i hi;obtain⟨h1,h2⟩:=XK z hi;obtain⟨hl,hg⟩:=Al hob;obtain⟨o,_,ho,_⟩:=hg i i h2;refine⟨by rw[hl];exact (AR7.1 h2).1,?_⟩;rw[CT h2,hs.pin i (by omega) (by simp[Lv,ho]),hr];exact (hS.pin i (by omega) (by simp[Lv,D3,h1])).symm
 have q:∀(a' : Act) (w' : World),NextOk (𝒢.fix C.rho0) n (fun st=>semUp st fun st1=>∃l outs a objs',Gc P st1 fn.results.toList=some l/\G0 outs=true/\PT outs (one l)=some a/\J6 outs st1.regs outs=some objs' /\ Q (.ret a) objs' (FI objs.length outs)) a' w' ->
  LeavesInM Fence.wide 0 P fn a'.tmps (fun e w'=>∃C' r objs' ks rho', 𝒢.G C' /\ Q r objs' ks/\SatE C' (objRegs objs') w' rho' /\
   At0 w' (Prv C'.X (A1 (objRegs objs')) rho') (Lv (A1 (objRegs objs'))) rho' e r/\∀i:Nat,ks[i]? = some true->i<objs'.length/\rho' i=rho i) a'.defers .returning w':=by
  rintro a' w' ⟨C',st',rho',m,hs',hsz',hu⟩;obtain⟨st2,rho2,⟨l,outs,x,objs',h1,h2,h3,h4,h5⟩,_,g⟩:=hu C' a' w' rho' hs';refine KI (C:=C') (st:=st2) (rho:=rho2) (by simp) ?_ a'.defers a' w' rfl rfl g;intro a3 w3 hs3 ht hd;obtain⟨v,hv,hrep⟩:=Ql hs3 h1;obtain⟨g1,g2,g3⟩:=Ml hs3 h2 h4;rw[ht]at hv;exact⟨v,hv,C', .ret x,objs',_,_,m.1,h5,g1,⟨v,rfl,hrep.ren g2 g3 h3⟩,j m.2 hs3 h4⟩
 intro e a' w' he;cases e with
 |normal=>exact q a' w' he
 |ret=>exact q a' w' he
 |exit id=>obtain⟨_,_,_,_,_,_,h⟩:=he;exact h.elim
 |goto l=>obtain⟨_,_,_,_,_,_,h⟩:=he;exact h.elim
 |outgrown=>exact he.elim
 |panic ch=>
  obtain⟨C',st',rho',v,x,rfl,m,hs',hsz',hv,outs,objs',h2,h4,h5⟩:=he
  have:∀(ds:List Deferred) (a2:Act) (w2:World),a2.defers=ds->a2.tmps=a'.tmps->Sat C' st' a2 w2 rho' -> RepP w2 (PiS C' st' rho') v x ->
   LeavesInM Fence.wide 0 P fn a'.tmps (fun e w'=>∃C' r objs' ks rho', 𝒢.G C' /\ Q r objs' ks/\SatE C' (objRegs objs') w' rho' /\
    At0 w' (Prv C'.X (A1 (objRegs objs')) rho') (Lv (A1 (objRegs objs'))) rho' e r/\∀i:Nat,ks[i]? = some true->i<objs'.length/\rho' i=rho i) ds (.panicking [{ v,recovered:=false }]) w2:=by
   intro ds
   induction ds with
   |nil=>intro a2 w2 hd ht g hv2;obtain⟨g1,g2,g3⟩:=Ml g h2 h4;exact⟨C', .panic x,objs',_,_,m.1,h5,g1,⟨v,rfl,hv2.keeps g2⟩,j m.2 g h4⟩
   |cons d ds ih=>
    intro a2 w2 hd ht g hv2;obtain⟨r,w3,h6,h7,h8⟩:=g.unmark (P:=P) hd;refine⟨by simp,.inl ⟨r,w3,h6,h7,ih { a2 with defers:=ds } w3 rfl ht h8 ?_⟩⟩;obtain⟨r',h9,_,h10,_⟩:=g.marks.2 d (by rw[hd];simp);have e6:r=r':=by rw[h9]at h6;cases h6;rfl
    subst e6;have hw3:w3=w2.putObj r (.deferred none):=by rw[run_takeDeferred h10]at h7;cases h7;rfl
    subst hw3;refine hv2.keeps fun b o u hp hc=>⟨?_,hp⟩;rw[<- hc];refine AV4 (AV8 ?_);rintro rfl;simp[World.cell?,h10]at hc
  exact this a'.defers a' w' rfl rfl hs' hv
end
end Go.AM
namespace Go.AM
section
variable {P:Program}{C:Ctx}{st:St}{a:Act}{w:World}{rho:Nat->Value}{𝒢 : Prot P}{n:Nat}{Q:I8}
theorem Sat.poke (h:Sat C st a w rho){r:Nat}{lo:Loop}(f:w.heap[r]? = some (.loop lo))(o' : Go.Obj)(l:C.E0 r \/ C.w0.heap.size<=r):Sat C st a (w.putObj r o') rho/\∀Pi,Keeps w Pi (w.putObj r o') Pi:=by
 have c:∀b,b≠r->(w.putObj r o').heap[b]? = w.heap[b]?:=fun b hb=>AV8 hb;have g:∀b off v,w.cell? ⟨b,off,none⟩=some v->b≠r:=by rintro b off v hc rfl;simp[World.cell?,f]at hc
 have hk:∀Pi,Keeps w Pi (w.putObj r o') Pi:=fun Pi b o v hp hc=>⟨by rw[<- hc];exact AV4 (c b (g b o v hc)),hp⟩;have i:∀{Pi live rho' v ob b},HoldsO w Pi live rho' v ob->D6 v ob b->b≠r:=by
  rintro Pi live rho' v ob b q hb rfl
  have:=q.kind hb
  rw[f]at this;cases this
 refine⟨⟨⟨⟨?_,h.hp.sep,h.hp.out,fun b off s=>by rw[AV1];exact h.hp.bound b off s⟩,h.ext.trans ⟨rfl,rfl⟩,by rw[AV1];exact h.size,?_,h.keep.trans (hk _),h.own,h.yld⟩,fun t=>(h.env t).keeps (hk _) fun j hj=>⟨hj,rfl⟩,h.pin,h.marks.1,?_⟩,hk⟩
 .intro j o hj;exact (h.hp.holds j o hj).keeps (hk _) (fun j hj=>⟨hj,rfl⟩) fun b hb=>c b (i (h.hp.holds j o hj) hb)
 .intro b hb n;rw[c b (fun e=>by subst e;rcases l with h1|h1;exact n h1;omega)];exact h.same b hb n
 intro d u;obtain⟨r',h1,x,m,y⟩:=h.marks.2 d u;refine⟨r',h1,x,?_,y⟩;rw[c r' ?_]
 .exact m
 rintro rfl;rw[f]at m;cases m
def Ctx.plus (C:Ctx)(V:Nat->Nat->Prop):Ctx:={ C with X:=fun b o=>C.X b o \/ V b o }
theorem SatE.add {R R' : B5}(h:SatE C R w rho){j:Nat}(hj:A1 R j=none){o:Obj}{v:Value}(hb:∀u b,¬D6 u o b)(f : ∀i,A1 R' i=if i=j then some o else A1 R i)
 (y:Keeps w (Prv C.X (A1 R) rho) w (Prv C.X (A1 R') (fun i=>if i=j then v else rho i))->(∀i,Lv (A1 R) i->Lv (A1 R') i/\(if i=j then v else rho i)=rho i)->HoldsO w (Prv C.X (A1 R') (fun i=>if i=j then v else rho i)) (Lv (A1 R')) (fun i=>if i=j then v else rho i) v o) (hy:∀r b,o=.yld r b->C.Y r b/\v=C.yv) :
 SatE C R' w (fun i=>if i=j then v else rho i)/\(∀b off,Prv C.X (A1 R') (fun i=>if i=j then v else rho i) b off↔Prv C.X (A1 R) rho b off) /\
  (∀i,Lv (A1 R) i->Lv (A1 R') i/\(if i=j then v else rho i)=rho i):=by
 have g:∀i,Lv (A1 R) i->Lv (A1 R') i/\(if i=j then v else rho i)=rho i:=by
  intro i a;have e:i≠j:=by rintro rfl;simp[Lv,hj]at a
  simp only[Lv,f,Lm e];exact⟨a,trivial⟩
 have d:∀i oi b,A1 R' i=some oi->D6 (if i=j then v else rho i) oi b->i≠j/\A1 R i=some oi/\D6 (rho i) oi b:=by
  intro i oi b a c;rw[f]at a;by_cases e:i=j
  .rw[Ll e]at a;cases a;exact Ln c (hb _ _)
  rw[Lm e]at a c;exact⟨e,a,c⟩
 have n:∀i oi,A1 R i=some oi->A1 R' i=some oi/\(if i=j then v else rho i)=rho i:=by
  intro i oi a;have e:i≠j:=by rintro rfl;rw[hj]at a;cases a
  rw[f,Lm e,Lm e];exact⟨a,rfl⟩
 have q:∀b off,Prv C.X (A1 R') (fun i=>if i=j then v else rho i) b off↔Prv C.X (A1 R) rho b off:=by
  intro b off;constructor
  .rintro (t|⟨i,oi,a,c,hp⟩)
   .exact .inl t
   obtain⟨_,h1,l⟩:=d i oi b a c;exact .inr ⟨i,oi,h1,l,hp⟩
  rintro (t|⟨i,oi,a,c,hp⟩)
  .exact .inl t
  obtain⟨h1,l⟩:=n i oi a;exact .inr ⟨i,oi,h1,by simp only[l];exact c,hp⟩
 have hk:Keeps w (Prv C.X (A1 R) rho) w (Prv C.X (A1 R') (fun i=>if i=j then v else rho i)):=fun b o v hp hc=>⟨hc,fun x=>hp ((q b o).1 x)⟩;refine⟨⟨⟨?_,?_,?_,h.hp.bound⟩,h.ext,h.size,h.same,h.keep.trans hk,?_,?_⟩,q,g⟩
 .intro i oi a;by_cases e:i=j
  .subst e;rw[f,Ll rfl]at a;cases a;simp only[Lo];exact y hk g
  have m:=a;rw[f,Lm e]at m;simp only[e,Lp];exact (h.hp.holds i oi m).keeps hk g fun b _=>rfl
 .intro i i' oi oj b a m c s;obtain⟨_,h1,l⟩:=d i oi b a c;obtain⟨_,z,h4⟩:=d i' oj b m s;exact h.hp.sep i i' oi oj b h1 z l h4
 .intro i oi b off a c;obtain⟨_,h1,l⟩:=d i oi b a c;exact h.hp.out i oi b off h1 l
 .rintro b ⟨i,oi,a,c⟩;obtain⟨_,h1,l⟩:=d i oi b a c;exact h.own b ⟨i,oi,h1,l⟩
 intro i r b a;by_cases e:i=j
 .subst e;rw[f,Ll rfl]at a;cases a;simp only[Lo];exact hy r b rfl
 rw[f,Lm e]at a;simp only[e,Lp];exact h.yld i r b a
theorem Sat.suspend (h:Sat C st a w rho){ids:List Nat}(hd:G0 ids=true){E:Env}(hE:∀t,get E t=get st.env t \/ get E t=.top){V:Nat->Nat->Prop}(q:∀b off,V b off ↔ ∃j o,j∈ids/\A1 st.regs j=some o/\D6 (rho j) o b/\Hr o off)(z:∀j∈ids,Lv (A1 st.regs) j) :Sat (C.plus V) ⟨E,M0 ids (ids.map fun _=>false) st.regs⟩ a w rho/\∀b off,Prv (C.plus V).X (A1 (M0 ids (ids.map fun _=>false) st.regs)) rho b off↔Prv C.X (A1 st.regs) rho b off:=by
 have s:=Ce hd;have n:∀j,A1 (M0 ids (ids.map fun _=>false) st.regs) j=if j∈ids then some .dead else A1 st.regs j:=by
  intro j;rw[EG j ids _ _ s];by_cases hm:j∈ids
  .obtain⟨p,hp⟩:=Qg hm
   have:(ids.map fun _=>false)[p]? = some false:=by rw[AQ9,L0 hp];rfl
   simp only[hp,this];simp[hm]
  have:idx ids j=none:=by
   cases hx:idx ids j with
   |none=>rfl
   |some p=>exact Ln (AT1 (L0 hx)) hm
  simp[this,hm]
 have f:∀i oi b,A1 (M0 ids (ids.map fun _=>false) st.regs) i=some oi->D6 (rho i) oi b->i ∉ ids/\A1 st.regs i=some oi:=by
  intro i oi b c hb;rw[n]at c;by_cases hm:i∈ids
  .rw[Ll hm]at c;cases c;simp[D6,K9]at hb
  rw[Lm hm]at c;exact⟨hm,c⟩
 have u:∀b off,Prv (C.plus V).X (A1 (M0 ids (ids.map fun _=>false) st.regs)) rho b off↔Prv C.X (A1 st.regs) rho b off:=by
  intro b off;constructor
  .rintro ((g|g)|⟨i,oi,c,hb,hp⟩)
   .exact .inl g
   .obtain⟨j,o,_,h1,m,y⟩:=(q b off).1 g;exact .inr ⟨j,o,h1,m,y⟩
   obtain⟨_,h1⟩:=f i oi b c hb;exact .inr ⟨i,oi,h1,hb,hp⟩
  rintro (g|⟨i,oi,c,hb,hp⟩)
  .exact .inl (.inl g)
  by_cases hm:i∈ids
  .exact .inl (.inr ((q b off).2 ⟨i,oi,hm,c,hb,hp⟩))
  exact .inr ⟨i,oi,by rw[n,Lm hm];exact c,hb,hp⟩
 have hk:Keeps w (Prv C.X (A1 st.regs) rho) w (Prv (C.plus V).X (A1 (M0 ids (ids.map fun _=>false) st.regs)) rho):=fun b o v hp hc=>⟨hc,fun a0=>hp ((u b o).1 a0)⟩;have l:∀i,Lv (A1 st.regs) i->Lv (A1 (M0 ids (ids.map fun _=>false) st.regs)) i/\rho i=rho i:=by
  intro i c;refine⟨?_,rfl⟩;simp only[Lv,n];split
  .rfl
  exact c
 refine⟨⟨⟨⟨?_,?_,?_,?_⟩,h.ext,h.size,h.same,h.keep.trans hk,?_,?_⟩,?_,?_,h.marks.1,?_⟩,u⟩
 .intro i oi c;rw[n]at c;by_cases hm:i∈ids
  .rw[Ll hm]at c;cases c;trivial
  rw[Lm hm]at c;exact (h.hp.holds i oi c).keeps hk l fun b _=>rfl
 .intro i i' oi oj b c a1 hb x;exact h.hp.sep i i' oi oj b (f i oi b c hb).2 (f i' oj b a1 x).2 hb x
 .rintro i oi b off c hb (g|g)
  .exact h.hp.out i oi b off (f i oi b c hb).2 hb g
  obtain⟨j,o,hm,h1,m,_⟩:=(q b off).1 g
  have:=h.hp.sep i j oi o b (f i oi b c hb).2 h1 hb m
  subst this;exact (f i oi b c hb).1 hm
 .rintro b off (g|g)
  .exact h.hp.bound b off g
  obtain⟨j,o,hm,h1,m,_⟩:=(q b off).1 g;exact (h.hp.holds j o h1).lt m
 .rintro b ⟨i,oi,c,hb⟩;exact h.own b ⟨i,oi,(f i oi b c hb).2,hb⟩
 .intro i r b c;rw[n]at c;by_cases hm:i∈ids
  .rw[Ll hm]at c;cases c
  rw[Lm hm]at c;exact h.yld i r b c
 .intro t;rcases hE t with he|he
  .show RepA w _ _ rho _ (get E t);rw[he];exact (h.env t).keeps hk l
  show RepA w _ _ rho _ (get E t);rw[he];exact .top _
 .intro i c hl;refine h.pin i c ?_;simp only[Lv,n]at hl;by_cases hm:i∈ids
  .exact z i hm
  rw[Lm hm]at hl;exact hl
 intro d hd';obtain⟨r,h1,m,y,h4⟩:=h.marks.2 d hd';refine⟨r,h1,m,y,?_⟩;rintro off (g|g)
 .exact h4 off g
 obtain⟨j,o,_,h5,h6,_⟩:=(q r off).1 g;exact (h.hp.holds j o h5).nd h6 y
theorem Sat.moves {C C' : Ctx}{V:Nat->Nat->Prop}{V' : Nat->Nat->Prop}{w' : World}{O' : Nat->Prop}(h:Sat (C.plus V) st a w rho)(hw:C'.w0=w)(y:C'.X=fun b o=>C.X b o \/ PvR st.regs rho b o)(q:C'.Pi0=fun b o=>C'.X b o \/ V b o)
 (hR:Rel C' w' O' V') (f:∀b,C'.E0 b->¬RK st.regs rho a.defers b) (s:∀b,C'.E0 b->C.E0 b \/ C.w0.heap.size<=b) :
 Sat (C.plus V') st a w' rho/\Keeps w (Prv (C.plus V).X (A1 st.regs) rho) w' (Prv (C.plus V').X (A1 st.regs) rho)/\∀b,b<w.heap.size->¬C'.E0 b->w'.heap[b]? = w.heap[b]?:=by
 subst hw;have c:=hR.same;have e1:∀b o,Prv (C.plus V).X (A1 st.regs) rho b o↔C'.Pi0 b o:=by
  intro b o;rw[q,y];show ((C.X b o \/ V b o) \/ PvR st.regs rho b o)↔((C.X b o \/ PvR st.regs rho b o) \/ V b o);constructor
  .rintro ((h|h)|h)
   .exact .inl (.inl h)
   .exact .inr h
   exact .inl (.inr h)
  rintro ((h|h)|h)
  .exact .inl (.inl h)
  .exact .inr h
  exact .inl (.inr h)
 have e2:∀b o,Prv (C.plus V').X (A1 st.regs) rho b o->(C'.X b o \/ V' b o):=by
  intro b o;rw[y];rintro ((h|h)|h)
  .exact .inl (.inl h)
  .exact .inr h
  exact .inl (.inr h)
 have hk:Keeps C'.w0 (Prv (C.plus V).X (A1 st.regs) rho) w' (Prv (C.plus V').X (A1 st.regs) rho):=fun b o v hp hc=>
  let ⟨h1,u⟩:=hR.keep b o v (fun i=>hp ((e1 b o).2 i)) hc
  ⟨h1,fun i=>u (e2 b o i)⟩
 have l:∀b,RK st.regs rho a.defers b->b<C'.w0.heap.size:=h.rel.lt;have g:∀b,RK st.regs rho a.defers b->w'.heap[b]? = C'.w0.heap[b]?:=fun b hb=>c b (l b hb) (fun n=>f b n hb);have m:∀b off,RK st.regs rho a.defers b->¬V' b off:=by
  intro b off hb hv;rcases hR.own b (hR.vo b off hv)with h1|h1
  .exact f b h1 hb
  have:=l b hb;omega
 refine⟨⟨⟨⟨?_,h.hp.sep,?_,?_⟩,h.ext.trans hR.ext,AW5 h.size hR.size,?_,h.keep.trans hk,h.own,h.yld⟩,fun t=>(h.env t).keeps hk fun j hj=>⟨hj,rfl⟩,h.pin,h.marks.1,?_⟩,hk,c⟩
 .intro j o hj;exact (h.hp.holds j o hj).keeps hk (fun j hj=>⟨hj,rfl⟩) fun b hb=>g b (.inl ⟨j,o,hj,hb⟩)
 .rintro j o b off hj hb (hx|hx)
  .exact h.hp.out j o b off hj hb (.inl hx)
  exact m b off (.inl ⟨j,o,hj,hb⟩) hx
 .rintro b off (hx|hx)
  .exact AT0 (h.hp.bound b off (.inl hx)) hR.size
  exact hR.lt b (hR.vo b off hx)
 .intro b hb n;have x:b<C'.w0.heap.size:=AT0 hb h.size;have hn:¬C'.E0 b:=by
   intro he;rcases s b he with h1|h1
   .exact n h1
   have:b<C.w0.heap.size:=hb;omega
  rw[c b x hn];exact h.same b hb n
 intro d z;obtain⟨r,h1,u,h3,h4⟩:=h.marks.2 d z;have hm:RK st.regs rho a.defers r:=.inr (by unfold Qe;rw[<- h1];exact z);refine⟨r,h1,u,(g r hm).trans h3,?_⟩;rintro off (hx|hx)
 .exact h4 off (.inl hx)
 exact m r off hm hx
theorem Sat.minus {V:Nat->Nat->Prop}(h:Sat (C.plus V) st a w rho):Sat C st a w rho/\∀b off,Prv C.X (A1 st.regs) rho b off->Prv (C.plus V).X (A1 st.regs) rho b off:=by
 have f:∀b off,Prv C.X (A1 st.regs) rho b off->Prv (C.plus V).X (A1 st.regs) rho b off:=by
  rintro b off (c|c)
  .exact .inl (.inl c)
  exact .inr c
 have hk:Keeps w (Prv (C.plus V).X (A1 st.regs) rho) w (Prv C.X (A1 st.regs) rho):=fun b o v hp hc=>⟨hc,fun g=>hp (f b o g)⟩;refine⟨⟨⟨⟨?_,h.hp.sep,fun j o b off hj hb c=>h.hp.out j o b off hj hb (.inl c),fun b off c=>h.hp.bound b off (.inl c)⟩,h.ext,h.size,h.same,h.keep.trans hk,h.own,h.yld⟩,fun t=>(h.env t).keeps hk fun j hj=>⟨hj,rfl⟩,h.pin,h.marks.1,?_⟩,f⟩
 .intro j o hj;exact (h.hp.holds j o hj).keeps hk (fun j hj=>⟨hj,rfl⟩) fun b hb=>rfl
 intro d i;obtain⟨r,h1,l,m,n⟩:=h.marks.2 d i;exact⟨r,h1,l,m,fun off c=>n off (.inl c)⟩
end
end Go.AM
namespace Go.AM
section
variable {P:Program}{n:Nat}{Q:I8}
structure LiftG (𝒢 : Prot P) (r1 r0:Nat->Value) (wS:World) (TS:Nat->Nat->Prop) (OS:Nat->Prop) (VS:Nat->Nat->Prop) (C C2:Ctx) (V0:Nat->Nat->Prop):Prop where
 g : 𝒢.G C2
 r2:C2.rho0=r1
 X:C.X=fun b o=>C2.X b o \/ VS b o
 Y:C.Y=C2.Y
 yv:C.yv=C2.yv
 rho:C.rho0=r0
 pi:C.Pi0=fun b o=>C.X b o \/ V0 b o
 rel:Rel C2 C.w0 (fun b=>OS b \/ C.E0 b) (fun b o=>VS b o \/ V0 b o)
 os:∀b,OS b->C.w0.heap[b]? = wS.heap[b]?
 keep:Keeps wS TS C.w0 C.Pi0
 dis:∀b,OS b->¬C.E0 b
 size:wS.heap.size<=C.w0.heap.size
 ext:Ext wS C.w0
theorem or4 {a b c:Prop}:(a \/ b) \/ c↔a \/ (b \/ c):=or_assoc
theorem Keeps.of_imp {w:World}{p q:Nat->Nat->Prop}(h:∀b o,q b o->p b o):Keeps w p w q:=fun b o v hp hc=>⟨hc,fun a=>hp (h b o a)⟩
theorem LiftG.joint {𝒢 : Prot P}{r1 r0:Nat->Value}{wS:World}{TS:Nat->Nat->Prop}{OS:Nat->Prop}{VS:Nat->Nat->Prop}(c:∀b o,VS b o->OS b){C C2:Ctx}{V0:Nat->Nat->Prop}(h:LiftG 𝒢 r1 r0 wS TS OS VS C C2 V0)
 {w:World}{O:Nat->Prop}{V:Nat->Nat->Prop}(hR:Rel C w O V) :
 Rel C2 w (fun b=>OS b \/ O b) (fun b o=>VS b o \/ V b o)/\(∀b,OS b->w.heap[b]? = wS.heap[b]?)/\Keeps wS TS w (fun b o=>C.X b o \/ V b o)/\(∀b,OS b->¬O b)/\wS.heap.size<=w.heap.size/\Ext wS w:=by
 have hj:=h.rel;have d:∀b,OS b->w.heap[b]? = C.w0.heap[b]?:=fun b hb=>hR.same b (hj.lt b (.inl hb)) (h.dis b hb);refine⟨⟨hj.ext.trans hR.ext,AW5 hj.size hR.size,?_,?_,?_,?_,?_,fun b off a=>AT0 (hj.bnd b off a) hR.size,?_⟩,fun b hb=>(d b hb).trans (h.os b hb),h.keep.trans hR.keep,?_,AW5 h.size hR.size,h.ext.trans hR.ext⟩
 .intro b hb g;rw[hR.same b (AT0 hb hj.size) fun i=>by
   rcases hj.own b (.inr i)with h1|h1
   .exact g h1
   omega]
  exact hj.same b hb g
 .refine hj.keep.trans ((Keeps.of_imp ?_).trans (hR.keep.trans (Keeps.of_imp ?_)))
  .intro b o hp;rw[h.pi,h.X]at hp;exact or4.1 hp
  intro b o hp;rw[h.X];exact or4.2 hp
 .rintro b (hb|hb)
  .exact hj.own b (.inl hb)
  rcases hR.own b hb with h1|h1
  .exact hj.own b (.inr h1)
  exact .inr (AW5 hj.size h1)
 .rintro b off (hb|hb) a
  .exact hj.out b off (.inl hb) a
  exact hR.out b off hb (by rw[h.X];exact .inl a)
 .rintro b (hb|hb)
  .exact AT0 (hj.lt b (.inl hb)) hR.size
  exact hR.lt b hb
 .rintro b o (f|f)
  .exact .inl (c b o f)
  exact .inr (hR.vo b o f)
 intro b hb j;rcases hR.own b j with h1|h1
 .exact h.dis b hb h1
 have:=hj.lt b (.inl hb);omega
def Prot.lift (𝒢 : Prot P)(r1 r0:Nat->Value)(wS:World)(TS:Nat->Nat->Prop)(OS:Nat->Prop)(VS:Nat->Nat->Prop)(a:∀b o,VS b o->OS b):Prot P where
 G:=fun C=>∃C2 V0,LiftG 𝒢 r1 r0 wS TS OS VS C C2 V0
 tab:=by rintro C ⟨C2,V0,h⟩;exact ((𝒢.tab C2 h.g).keeps h.rel.keep).keeps (Keeps.of_imp fun b o hp=>by rw[h.pi,h.X]at hp;exact or4.1 hp)
 call:=by
  rintro C w O V ys rest vs H ⟨C2,V0,h⟩ hR i c j;obtain⟨j1,j2,j3,j4,j5,j6⟩:=h.joint a hR;have d : YArg w (fun b o=>C2.X b o \/ (VS b o \/ V b o)) vs ys H:=j.keeps (Keeps.of_imp fun b o hp=>by rw[h.X];exact or4.2 hp) fun _ _=>rfl;obtain⟨l,fn,tmps,as,body,h1,m,n⟩:=𝒢.call C2 w _ _ ys rest vs H h.g j1 (by rw[<- h.Y];exact i) (fun b hb=>⟨.inr (c b hb).1,fun o=>.inr ((c b hb).2 o)⟩) d;refine⟨l,fn,tmps,as,body,h.yv.trans h1,m,n.mono ?_⟩;rintro e w' ⟨b,rfl,C2',g1,g2,g3,g4,g5,g6,g7,g8,g9,g10,g11,g12,g13⟩;have f:∀b,OS b->¬H b:=fun b hb q=>j4 b hb (c b q).1;refine⟨b,rfl,{ X:=fun b o=>C2'.X b o \/ VS b o,w0:=w',E0:=O,Pi0:=fun b o=>(C2'.X b o \/ VS b o) \/ V b o,rho0:=C.rho0,Y:=C2'.Y,yv:=C2'.yv },⟨C2',V,?_⟩,g2.trans h.yv.symm,rfl,g4,rfl,rfl,rfl,?_,fun b hb=>g9 b (.inr hb),?_,g11,g12,g13.keeps (Keeps.of_imp fun b o hp=>or4.1 hp) fun _ _=>rfl⟩
  .refine⟨g1,g3.trans h.r2,rfl,rfl,rfl,h.rho,rfl,g8,fun b hb=>(g9 b (.inl hb) (f b hb)).trans (j2 b hb),?_,j4,AW5 j5 g11,j6.trans g12⟩;refine j3.trans ((Keeps.of_imp ?_).trans (g10.trans (Keeps.of_imp ?_)))
   .intro b o hp;rw[h.X];exact or4.2 hp
   .intro b o hp;exact or4.1 hp
  .refine⟨Ext.refl _,AQ8 _,fun _ _ _=>rfl,Keeps.refl _ _,fun b hb=>.inl hb,?_,fun b hb=>g8.lt b (.inr hb),?_,hR.vo⟩
   .rintro b off hb (hx|hx)
    .exact g8.out b off (.inr hb) hx
    .exact j4 b (a b off hx) hb
   .rintro b off (hx|hx)
    .exact g8.bnd b off hx
    .exact g8.lt b (.inl (a b off hx))
  .refine (Keeps.of_imp ?_).trans (g10.trans (Keeps.of_imp ?_))
   .intro b o hp;rw[h.X];exact or4.2 hp
   .intro b o hp;exact or4.1 hp
end
section
variable {P:Program}{C:Ctx}{a:Act}{w:World}{rho:Nat->Value}{n:Nat}
theorem IF:∀(ts:List Nat) (l:List AV) (t:Nat),ts.length=l.length->ts.Nodup->(∀i:Nat,ts[i]? = some t->get (S5 ts l) t=l.getD i .top)/\(t ∉ ts->get (S5 ts l) t=.top)
 |[],[],t,_,_=>⟨fun i h=>by simp at h,fun _=>rfl⟩
 |[],_::_,t,h,_=>by simp at h
 |_::_,[],t,h,_=>by simp at h
 |x::ts,y::l,t,h,hn=>by
  obtain⟨n1,n2⟩:=AW0.1 hn;obtain⟨h1,c⟩:=IF ts l t (by simpa using h) n2;refine⟨fun i b=>?_,fun hm=>?_⟩
  .simp only[S5,get];cases i with
   |zero=>simp at b;simp[b]
   |succ i=>
    have a : ts[i]? = some t:=by simpa using b
    have e:¬x=t:=by rintro rfl;exact n1 (AT1 a)
    rw[Lm e,h1 i a];simp
  simp only[AT9,not_or]at hm;simp only[S5,get];rw[Lm (AV5 hm.1),c hm.2]
theorem JK:∀(ts:List Nat) (l:List AV),ts.length=l.length->(S5 ts l).map (·.1)=ts
 |[],[],_=>rfl
 |[],_::_,h=>by simp at h
 |_::_,[],h=>by simp at h
 |x::ts,y::l,h=>by simp[S5,JK ts l (by simpa using h)]
theorem Qm:∀(E:Env) (t:Nat),(E.map (·.1)).Nodup->(∀i:Nat,(E.map (·.1))[i]? = some t->get E t=(E.map (·.2)).getD i .top)/\(t ∉ E.map (·.1)->get E t=.top)
 |[],t,_=>⟨fun i h=>by simp at h,fun _=>rfl⟩
 |(x,y)::E,t,hn=>by
  obtain⟨n1,n2⟩:=AW0.1 hn;obtain⟨h1,c⟩:=Qm E t n2;refine⟨fun i b=>?_,fun hm=>?_⟩
  .simp only[get];cases i with
   |zero=>simp at b;simp[b]
   |succ i=>
    have a : (E.map (·.1))[i]? = some t:=by simpa using b
    have e:¬x=t:=by rintro rfl;exact n1 (AT1 a)
    rw[Lm e,h1 i a];simp
  simp only[AR9,AT9,not_or]at hm;simp only[get];rw[Lm (AV5 hm.1),c hm.2]
theorem Fi {regs:B5}{g i:Nat}(a:i≠g):A1 (del g regs) i=A1 regs i:=by
 induction regs with
 |nil=>rfl
 |cons p r ih=>
  obtain⟨x,y⟩:=p;simp only[del];split
  .rename_i e;subst e;simp[A1,AV5 a]
  simp only[A1,ih]
theorem Mm {Pi:Nat->Nat->Prop}{live:Nat->Prop}:∀(ps:List Nat) (ys:List PV) (vs:List Value) (E:Env) (tmps:Array Value),ps.length=ys.length->ps.length=vs.length->(∀t∈ps,t<tmps.size) ->
 (∀t,RepA w Pi live rho (tmps.getD t undef) (get E t))->(∀i,i<ys.length->RepP w Pi (vs.getD i undef) (ys.getD i default)) ->
 ∀t,RepA w Pi live rho (((ps.zip vs).foldl (fun tmps (q:Nat×Value)=>tmps.setIfInBounds q.1 q.2) tmps).getD t undef) (get (Lf ps ys E) t)
 |[],[],vs,E,tmps,_,h2,_,hE,_,t=>by simpa[Lf]using hE t
 |[],_::_,_,_,_,h,_,_,_,_,_=>by simp at h
 |_::_,[],_,_,_,h,_,_,_,_,_=>by simp at h
 |p::ps,y::ys,[],_,_,_,h,_,_,_,_=>by simp at h
 |p::ps,y::ys,v::vs,E,tmps,h1,h2,hlt,hE,hv,t=>by
  simp only[Bj2,Bd3,Lf];refine Mm ps ys vs (ins p (.p y) E) (tmps.setIfInBounds p v) (by simpa using h1) (by simpa using h2) (fun t ht=>by simpa using hlt t (AT2 _ ht)) ?_ (fun i a=>by simpa using hv (i+1) (by simpa using a)) t;intro t;rw[JC];by_cases e:p=t
  .subst e
   have:=hlt p (by simp)
   rw[Ll rfl];have e2:(tmps.setIfInBounds p v).getD p undef=v:=by simp[AQ0,this]
   rw[e2];exact .p _ _ (by simpa using hv 0 (by simp))
  rw[Lm e];have e2:(tmps.setIfInBounds p v).getD t undef=tmps.getD t undef:=by simp[AQ0,e]
  rw[e2];exact hE t
end
end Go.AM
namespace Go.AM
section
variable {w w' : World}{Pi Pi' : Nat->Nat->Prop}{live live' : Nat->Prop}{rho:Nat->Value}
theorem RepA.drop (hk:Keeps w Pi w' Pi')(hl:∀j,live j->(∀vs,rho j ≠ .tuple vs)->live' j){v:Value}{a:AV}(h:RepA w Pi live rho v a):RepA w' Pi' live' rho v a:=by
 induction h with
 |p v x h=>exact .p v x (h.keeps hk)
 |reg j off b hj h=>exact .reg j off b (hl j hj (by rw[h];intro vs e;cases e)) h
 |vec j base n cap hj h=>exact .vec j base n cap (hl j hj (by rw[h];intro vs e;cases e)) h
 |vecp j m base n cap hj h hm=>exact .vecp j m base n cap (hl j hj (by rw[h];intro vs e;cases e)) h hm
 |elt j k i off b n cap hj h=>exact .elt j k i off b n cap (hl j hj (by rw[h];intro vs e;cases e)) h
 |mref j r hj h=>exact .mref j r (hl j hj (by rw[h];intro vs e;cases e)) h
 |clo f x y a b hx hy ha hb iha ihb=>exact .clo f x y a b hx hy iha ihb
 |tup x a hx ha ih=>exact .tup x a hx ih
 |agr x a hx h1 ha ih=>exact .agr x a hx h1 ih
 |yf j l hj h=>exact .yf j l (hl j hj (by rw[h];intro vs e;cases e)) h
 |rsl j n b hj h=>exact .rsl j n b (hl j hj (by rw[h];intro vs e;cases e)) h
 |top v=>exact .top v
theorem HoldsO.drop (hk:Keeps w Pi w' Pi')(hl:∀j,live j->(∀vs,rho j ≠ .tuple vs)->live' j){h:Value}{o:Obj}(hb:∀b,D6 h o b->w'.heap[b]? = w.heap[b]?)(m:HoldsO w Pi live rho h o):HoldsO w' Pi' live' rho h o:=by
 cases o with
 |cells cs=>obtain⟨b,c,T,rfl,h1,l,a⟩:=m;exact⟨b,c,T,rfl,(hb b rfl).trans h1,l,fun i d=>⟨(a i d).1.drop hk hl,(a i d).2⟩⟩
 |vec e k n f vw=>
  rcases m with hn|⟨b,cap,c,rfl,h1,l,a,s,t,u⟩
  .exact .inl hn
  exact .inr ⟨b,cap,c,rfl,(hb b rfl).trans h1,l,a,s,t,fun i j d hj=>⟨(u i j d hj).1.keeps hk,(u i j d hj).2⟩⟩
 |map es=>obtain⟨b,ents,clock,rfl,h1,l,a,y⟩:=m;exact⟨b,ents,clock,rfl,(hb b rfl).trans h1,l,fun i d=>⟨(a i d).1.keeps hk,(a i d).2.keeps hk⟩,y⟩
 |arr n f=>obtain⟨b,c,T,rfl,h1,l,a⟩:=m;exact⟨b,c,T,rfl,(hb b rfl).trans h1,l,fun i d=>⟨(a i d).1.keeps hk,(a i d).2⟩⟩
 |ghost cs=>obtain⟨vs,rfl,h1,l⟩:=m;exact⟨vs,rfl,h1,fun i d=>(l i d).drop hk hl⟩
 |yld r b=>exact m
 |fam e n jr x=>
  obtain⟨rv,g1,g2,v⟩:=m;refine⟨rv,hl jr g1 (by rw[g2];intro vs e;cases e),g2,?_⟩;rcases v with v|⟨b,cap,c,rfl,h1,l,a,s,t,u⟩
  .exact .inl v
  cases x with
  |none=>exact .inr ⟨b,cap,c,rfl,(hb b rfl).trans h1,l,a,s,t,trivial⟩
  |some q=>exact .inr ⟨b,cap,c,rfl,(hb b rfl).trans h1,l,a,s,t,u.drop hk hl⟩
 |rows n g=>exact ED hk hb m
 |dead=>trivial
theorem HoldsO.block {h:Value}{o:Obj}(a:HoldsO w Pi live rho h o){b:Nat}(hb:D6 h o b):(∃c T f,w.heap[b]? = some (.cells c T f)) \/ ∃es ck,w.heap[b]? = some (.map es ck):=by
 have:=a.kind hb
 unfold isC at this;split at this
 .rename_i h;exact .inl ⟨_,_,_,h⟩
 .rename_i h;exact .inr ⟨_,_,h⟩
 cases this
end
section
variable {P:Program}{C:Ctx}{st:St}{a:Act}{w:World}{rho:Nat->Value}{𝒢 : Prot P}{n:Nat}{Q:I8}
theorem Sat.own_not {b:Nat}(h:Sat C st a w rho)(hb:Own (A1 st.regs) rho b){o:Go.Obj}(g:w.heap[b]? = some o)(hc:∀c T f,o ≠ .cells c T f)(hm:∀es ck,o ≠ .map es ck):False:=by
 obtain⟨j,oj,hj,d⟩:=hb;rcases (h.hp.holds j oj hj).block d with⟨c,T,f,h1⟩ | ⟨es,ck,h1⟩
 .rw[g]at h1;cases h1;exact hc _ _ _ rfl
 rw[g]at h1;cases h1;exact hm _ _ rfl
theorem Sat.loop_not_own {l:Nat}{lo:Loop}(h:Sat C st a w rho)(hl:w.heap[l]? = some (.loop lo)):¬RK st.regs rho a.defers l:=by
 rintro (hb|hb)
 .exact h.own_not hb hl (fun _ _ _ e=>by cases e) (fun _ _ e=>by cases e)
 obtain⟨r,h1,_,b,_⟩:=h.marks.2 _ hb;cases h1;rw[hl]at b;cases b
theorem Rel.poke {O:Nat->Prop}{V:Nat->Nat->Prop}(h:Rel C w O V){l:Nat}{lo:Loop}(hl:w.heap[l]? = some (.loop lo))(d:O l)(o' : Go.Obj):Rel C (w.putObj l o') O V:=by
 have a:∀b,b≠l->(w.putObj l o').heap[b]? = w.heap[b]?:=fun b hb=>AV8 hb;refine⟨h.ext.trans ⟨rfl,rfl⟩,by rw[AV1];exact h.size,?_,?_,h.own,h.out,fun b hb=>by rw[AV1];exact h.lt b hb,fun b off f=>by rw[AV1];exact h.bnd b off f,h.vo⟩
 .intro b hb c;rw[a b (fun e=>by subst e;rcases h.own b d with h1|h1;exact c h1;omega)];exact h.same b hb c
 intro b o v hp hc;obtain⟨h1,g⟩:=h.keep b o v hp hc;refine⟨?_,g⟩;rw[<- h1];refine AV4 (a b ?_);rintro rfl;simp[World.cell?,hl]at h1
def Ctx.fresh (C:Ctx)(w:World)(E:Nat->Prop)(Pi:Nat->Nat->Prop):Ctx:={ C with w0:=w,E0:=E,Pi0:=Pi }
theorem Sat.pokeFresh (h:Sat C st a w rho){l:Nat}{lo:Loop}(hl:w.heap[l]? = some (.loop lo))(o' : Go.Obj) :Sat (C.fresh (w.putObj l o') (RK st.regs rho a.defers) (Prv C.X (A1 st.regs) rho)) st a (w.putObj l o') rho:=by
 have c:∀b,b≠l->(w.putObj l o').heap[b]? = w.heap[b]?:=fun b hb=>AV8 hb;have hk:∀Pi,Keeps w Pi (w.putObj l o') Pi:=fun Pi b o v hp hc=>⟨by rw[<- hc];refine AV4 (c b ?_);rintro rfl;simp[World.cell?,hl]at hc,hp⟩
 have f:∀b,RK st.regs rho a.defers b->b≠l:=by rintro b hb rfl;exact h.loop_not_own hl hb
 refine⟨⟨⟨?_,h.hp.sep,h.hp.out,fun b off i=>by rw[AV1];exact h.hp.bound b off i⟩,Ext.refl _,AQ8 _,fun b _ _=>rfl,Keeps.refl _ _,fun b hb=>.inl (.inl hb),h.yld⟩,fun t=>(h.env t).keeps (hk _) fun j hj=>⟨hj,rfl⟩,h.pin,h.marks.1,?_⟩
 .intro j o hj;exact (h.hp.holds j o hj).keeps (hk _) (fun j hj=>⟨hj,rfl⟩) fun b hb=>c b (f b (.inl ⟨j,o,hj,hb⟩))
 intro d g;obtain⟨r,h1,q,m,n⟩:=h.marks.2 d g;have hm:Qe a.defers r:=by unfold Qe;rw[<- h1];exact g
 exact⟨r,h1,.inl (.inr hm),(c r (f r (.inr hm))).trans m,n⟩
def Fj (ts:List Nat)(tmps:Array Value):Array Value:=(ts.map fun t=>tmps.getD t undef).toArray
theorem OZ (ts:List Nat)(tmps:Array Value):(Fj ts tmps).size=ts.length:=by simp[Fj]
theorem IG {ts:List Nat}{tmps:Array Value}{i t:Nat}(h:ts[i]? = some t):(Fj ts tmps).getD i undef=tmps.getD t undef:=by simp[Fj,AQ0,h]
theorem AI9 {r1 r0:Nat->Value}{wS:World}{TS:Nat->Nat->Prop}{OS:Nat->Prop}{V:Nat->Nat->Prop}(a0:∀b o,V b o->OS b){C2:Ctx}{V0:Nat->Nat->Prop}(hL:LiftG 𝒢 r1 r0 wS TS OS V C C2 V0)(h:Sat C st a w rho)
 {gh:Nat}{cs:List AV}{ts:List Nat}(n:A1 st.regs gh=some (.ghost cs)) (q:cs.length=ts.length) (s:A1 (del gh st.regs) gh=none) (a1:gh<1000) (a2:ts.Nodup) {a' : Act}
 (a3:r0 gh=.tuple (Fj ts a'.tmps)) (u : ∀j,j≠gh->r0 j=r1 j) (v:a'.defers.Nodup/\∀d∈a'.defers,∃r,d={ target:=.collected r,args:=#[] }/\wS.heap[r]? = some (.deferred (some []))) (l:∀b,Qe a'.defers b->OS b) (a4:∀b off,Qe a'.defers b->¬V b off) :
 Sat (C2.plus V) ⟨S5 ts cs,del gh st.regs⟩ a' w rho:=by
 obtain⟨j1,j2,j3,j4,j5,_⟩:=hL.joint a0 h.rel;have x:rho gh=.tuple (Fj ts a'.tmps):=by rw[h.pin gh a1 (by simp[Lv,n]),hL.rho,a3]
 have c:∀i oi,A1 (del gh st.regs) i=some oi->i≠gh/\A1 st.regs i=some oi:=by
  intro i oi f;have e:i≠gh:=by rintro rfl;rw[s]at f;cases f
  exact⟨e,by rw[<- Fi e];exact f⟩
 have y:∀b,Own (A1 (del gh st.regs)) rho b->Own (A1 st.regs) rho b:=by rintro b ⟨i,oi,f,hb⟩;exact⟨i,oi,(c i oi f).2,hb⟩
 have a5:∀b off,Prv (C2.plus V).X (A1 (del gh st.regs)) rho b off->Prv C.X (A1 st.regs) rho b off:=by
  rintro b off (g|⟨i,oi,f,hb,hp⟩)
  .exact .inl (by rw[hL.X];exact g)
  exact .inr ⟨i,oi,(c i oi f).2,hb,hp⟩
 have hk:Keeps w (Prv C.X (A1 st.regs) rho) w (Prv (C2.plus V).X (A1 (del gh st.regs)) rho):=Keeps.of_imp a5;have hl:∀j,Lv (A1 st.regs) j->(∀vs,rho j ≠ .tuple vs)->Lv (A1 (del gh st.regs)) j:=by
  intro j hj m;have e:j≠gh:=by rintro rfl;exact m _ x
  simpa[Lv,Fi e]using hj
 refine⟨⟨⟨?_,?_,?_,?_⟩,j1.ext,j1.size,j1.same,j1.keep.trans (Keeps.of_imp ?_),fun b hb=>j1.own b (.inr (.inl (y b hb))),?_⟩,?_,?_,v.1,?_⟩
 .intro i oi f;exact (h.hp.holds i oi (c i oi f).2).drop hk hl fun b _=>rfl
 .intro i i' oi oj b f a6 hb a7;exact h.hp.sep i i' oi oj b (c i oi f).2 (c i' oj a6).2 hb a7
 .intro i oi b off f hb g;exact h.hp.out i oi b off (c i oi f).2 hb (by rw[hL.X];exact g)
 .intro b off g;exact h.hp.bound b off (by rw[hL.X];exact g)
 .rintro b off ((g|g)|⟨i,oi,f,hb,hp⟩)
  .exact .inl g
  .exact .inr (.inl g)
  exact .inr (.inr ⟨i,oi,(c i oi f).2,hb,hp⟩)
 .intro i r b f
  have:=h.yld i r b (c i _ f).2
  rw[hL.Y,hL.yv]at this;exact this
 .intro t;show RepA w _ _ rho (a'.tmps.getD t undef) (get (S5 ts cs) t);obtain⟨h1,h2⟩:=IF ts cs t q.symm a2;by_cases hm:t∈ts
  .obtain⟨i,f⟩:=AW7.1 hm;rw[h1 i f,<- IG (tmps:=a'.tmps) f];obtain⟨vs,hv,hs,z⟩:=h.hp.holds gh _ n;rw[x]at hv;cases hv;have hlt:i<cs.length:=by rw[q];exact (AR7.1 f).1
   exact (z i hlt).drop hk hl
  rw[h2 hm];exact .top _
 .intro i f hlv;obtain⟨oi,hoi⟩:=AR8.1 hlv;obtain⟨m,hr⟩:=c i oi hoi;rw[h.pin i f (by simp[Lv,hr]),hL.rho,u i m];show r1 i=C2.rho0 i;rw[hL.r2]
 intro d hd;obtain⟨r,h1,h2⟩:=v.2 d hd;have hm:Qe a'.defers r:=by unfold Qe;rw[<- h1];exact hd
 refine⟨r,h1,j1.own r (.inl (l r hm)),(j2 r (l r hm)).trans h2,?_⟩;rintro off (g|g)
 .exact j1.out r off (.inl (l r hm)) g
 exact a4 r off hm g
theorem RepA.within {w w' : World}{Pi Pi' : Nat->Nat->Prop}{live live' : Nat->Prop}{rho:Nat->Value}(hk:Keeps w Pi w' Pi'){js:List Nat}(hl:∀j,js.contains j=true->live' j){v:Value}{a:AV}(h:RepA w Pi live rho v a)(c:inA js a=true):RepA w' Pi' live' rho v a:=by
 induction h with
 |p v x h=>exact .p v x (h.keeps hk)
 |reg j off b hj h=>unfold inA at c;exact .reg j off b (hl j c) h
 |vec j base n cap hj h=>unfold inA at c;exact .vec j base n cap (hl j c) h
 |vecp j m base n cap hj h hm=>unfold inA at c;exact .vecp j m base n cap (hl j c) h hm
 |elt j k i off b n cap hj h=>unfold inA at c;exact .elt j k i off b n cap (hl j c) h
 |mref j r hj h=>unfold inA at c;exact .mref j r (hl j c) h
 |clo f x y a b hx hy ha hb iha ihb=>unfold inA at c;rw[AQ7]at c;exact .clo f x y a b hx hy (fun i h=>iha i h (Cf c.1 i h)) fun i h=>ihb i h (Cf c.2 i h)
 |tup x a hx ha ih=>unfold inA at c;exact .tup x a hx fun i h=>ih i h (Cf c i h)
 |agr x a hx h1 ha ih=>unfold inA at c;exact .agr x a hx h1 fun i h=>ih i h (Cf c i h)
 |yf j l hj h=>unfold inA at c;exact .yf j l (hl j c) h
 |rsl j n b hj h=>unfold inA at c;exact .rsl j n b (hl j c) h
 |top v=>exact .top v
theorem HoldsO.within {w w' : World}{Pi Pi' : Nat->Nat->Prop}{live live' : Nat->Prop}{rho:Nat->Value}(hk:Keeps w Pi w' Pi'){js:List Nat}(hl:∀j,js.contains j=true->live' j){h:Value}{o:Obj}(hb:∀b,D6 h o b->w'.heap[b]? = w.heap[b]?)(m:HoldsO w Pi live rho h o)(a:inO js o=true):HoldsO w' Pi' live' rho h o:=by
 cases o with
 |cells cs=>obtain⟨b,c,T,rfl,h1,l,d⟩:=m;exact⟨b,c,T,rfl,(hb b rfl).trans h1,l,fun i h=>⟨(d i h).1.within hk hl (Cf a i h),(d i h).2⟩⟩
 |ghost cs=>obtain⟨vs,rfl,h1,l⟩:=m;exact⟨vs,rfl,h1,fun i h=>(l i h).within hk hl (Cf a i h)⟩
 |fam e n jr x=>
  obtain⟨rv,g1,g2,s⟩:=m;simp only[inO,AQ7]at a;refine⟨rv,hl jr a.1,g2,?_⟩;rcases s with s|⟨b,cap,c,rfl,h1,l,d,t,u,v⟩
  .exact .inl s
  cases x with
  |none=>exact .inr ⟨b,cap,c,rfl,(hb b rfl).trans h1,l,d,t,u,trivial⟩
  |some q=>exact .inr ⟨b,cap,c,rfl,(hb b rfl).trans h1,l,d,t,u,v.within hk hl a.2⟩
 |vec e k n f vw=>exact HoldsC.vec (live:=live) (rho:=rho) m hk fun b h=>hb b h
 |map es=>obtain⟨b,ents,clock,rfl,h1,l,d,y⟩:=m;exact⟨b,ents,clock,rfl,(hb b rfl).trans h1,l,fun i a=>⟨(d i a).1.keeps hk,(d i a).2.keeps hk⟩,y⟩
 |arr n f=>obtain⟨b,c,T,rfl,h1,l,d⟩:=m;exact⟨b,c,T,rfl,(hb b rfl).trans h1,l,fun i a=>⟨(d i a).1.keeps hk,(d i a).2⟩⟩
 |yld r b=>exact m
 |rows n g=>exact ED hk hb m
 |dead=>trivial
theorem Aj2 {regs:B5}{i:Nat}:(regs.map (·.1)).contains i=true->(A1 regs i).isSome=true:=by
 induction regs with
 |nil=>intro h;simp at h
 |cons p r ih=>
  obtain⟨x,y⟩:=p;intro h;simp only[A1];split
  .rfl
  rename_i a;refine ih ?_;simp only[AR9,List.contains_cons,AS6,beq_iff_eq]at h;rcases h with h|h
  .exact Ln h.symm a
  exact h
theorem Az0 {r1 r0:Nat->Value}{wS:World}{TS:Nat->Nat->Prop}{OS:Nat->Prop}{V V1:Nat->Nat->Prop}(a9:∀b o,V b o->OS b){C2:Ctx}{V0:Nat->Nat->Prop}(hL:LiftG 𝒢 r1 r0 wS TS OS V C C2 V0)(h:Sat C st a w rho)
 {gh jl:Nat}{cs:List AV}{ts:List Nat}{e:TypeId}{k m:Nat}{f:Nat->List PV}(x:endL gh jl ts (.vec e k m f false) st cs) (b0:gh<1000) (b1:jl<1000) (hne:jl≠gh) (b2:ts.Nodup) {a' : Act}{v:Value}
 (q:∀b o,V1 b o↔V b o \/ K9 v (.vec e k m f false)=some b)
 (b3:r0 gh=.tuple (Fj ts a'.tmps)) (b4:r0 jl=v) (y : ∀j,j≠gh->j≠jl->r0 j=r1 j) (z:a'.defers.Nodup/\∀d∈a'.defers,∃r,d={ target:=.collected r,args:=#[] }/\wS.heap[r]? = some (.deferred (some []))) (s:∀b,Qe a'.defers b->OS b) (b5:∀b off,Qe a'.defers b->¬V b off) :
 Sat (C2.plus V1) ⟨S5 ts cs,del jl (del gh st.regs)⟩ a' w rho/\rho jl=v/\HoldsC w (fun b o=>C.X b o \/ PvR st.regs rho b o) (fun _=>False) (fun _=>undef) v (.vec e k m f false):=by
 obtain⟨⟨a0,a1,hj⟩,⟨b6,b7⟩,a2,a3⟩:=x;obtain⟨j1,j2,j3,j4,j5,_⟩:=hL.joint a9 h.rel;have b8:rho gh=.tuple (Fj ts a'.tmps):=by rw[h.pin gh b0 (by simp[Lv,a0]),hL.rho,b3]
 have n:rho jl=v:=by rw[h.pin jl b1 (by simp[Lv,hj]),hL.rho,b4]
 have a4:=h.hp.holds jl _ hj;have g:∀i oi,A1 (del jl (del gh st.regs)) i=some oi->(i≠gh/\i≠jl)/\A1 st.regs i=some oi:=by
  intro i oi l;have e1:i≠gh:=by rintro rfl;rw[b6]at l;cases l
  have e2:i≠jl:=by rintro rfl;rw[b7]at l;cases l
  exact⟨⟨e1,e2⟩,by rw[<- Fi e1,<- Fi e2];exact l⟩
 have a5:∀b,Own (A1 (del jl (del gh st.regs))) rho b->Own (A1 st.regs) rho b:=by rintro b ⟨i,oi,l,hb⟩;exact⟨i,oi,(g i oi l).2,hb⟩
 have b9:∀b off,Prv (C2.plus V1).X (A1 (del jl (del gh st.regs))) rho b off->Prv C.X (A1 st.regs) rho b off:=by
  rintro b off ((c|c)|⟨i,oi,l,hb,hp⟩)
  .exact .inl (by rw[hL.X];exact .inl c)
  .rcases (q b off).1 c with c|c
   .exact .inl (by rw[hL.X];exact .inr c)
   exact .inr ⟨jl,_,hj,by rw[n];exact c,trivial⟩
  exact .inr ⟨i,oi,(g i oi l).2,hb,hp⟩
 have hk:Keeps w (Prv C.X (A1 st.regs) rho) w (Prv (C2.plus V1).X (A1 (del jl (del gh st.regs))) rho):=Keeps.of_imp b9;have hl:∀j,((del jl (del gh st.regs)).map (·.1)).contains j=true->Lv (A1 (del jl (del gh st.regs))) j:=fun j hj=>Aj2 hj;refine⟨⟨⟨⟨?_,?_,?_,?_⟩,j1.ext,j1.size,j1.same,j1.keep.trans (Keeps.of_imp ?_),fun b hb=>j1.own b (.inr (.inl (a5 b hb))),?_⟩,?_,?_,z.1,?_⟩,n,by rw[<- n];exact a4⟩
 .intro i oi l;exact (h.hp.holds i oi (g i oi l).2).within hk hl (fun b _=>rfl) (AR4.1 a3 _ (LC l))
 .intro i i' oi oj b l c0 hb c1;exact h.hp.sep i i' oi oj b (g i oi l).2 (g i' oj c0).2 hb c1
 .rintro i oi b off l hb (c|c)
  .exact h.hp.out i oi b off (g i oi l).2 hb (by rw[hL.X];exact .inl c)
  rcases (q b off).1 c with c|c
  .exact h.hp.out i oi b off (g i oi l).2 hb (by rw[hL.X];exact .inr c)
  exact (g i oi l).1.2 (h.hp.sep i jl oi _ b (g i oi l).2 hj hb (by rw[n];exact c))
 .rintro b off (c|c)
  .exact h.hp.bound b off (by rw[hL.X];exact .inl c)
  rcases (q b off).1 c with c|c
  .exact h.hp.bound b off (by rw[hL.X];exact .inr c)
  exact a4.lt (b:=b) (by rw[n];exact c)
 .rintro b off ((c|c)|⟨i,oi,l,hb,hp⟩)
  .exact .inl c
  .rcases (q b off).1 c with c|c
   .exact .inr (.inl c)
   exact .inr (.inr ⟨jl,_,hj,by rw[n];exact c,trivial⟩)
  exact .inr (.inr ⟨i,oi,(g i oi l).2,hb,hp⟩)
 .intro i r b l
  have:=h.yld i r b (g i _ l).2
  rw[hL.Y,hL.yv]at this;exact this
 .intro t;show RepA w _ _ rho (a'.tmps.getD t undef) (get (S5 ts cs) t);obtain⟨h1,h2⟩:=IF ts cs t a1.symm b2;by_cases hm:t∈ts
  .obtain⟨i,l⟩:=AW7.1 hm;have u:i<cs.length:=by rw[a1];exact (AR7.1 l).1
   rw[h1 i l,<- IG (tmps:=a'.tmps) l];obtain⟨vs,hv,hs,a6⟩:=h.hp.holds gh _ a0;rw[b8]at hv;cases hv;have hc:inA ((del jl (del gh st.regs)).map (·.1)) (cs.getD i .top)=true:=by refine AR4.1 a2 _ ?_;rw[AQ1,AQ5 u];exact Bb3 u
   exact (a6 i u).within hk hl hc
  rw[h2 hm];exact .top _
 .intro i l hlv;obtain⟨oi,hoi⟩:=AR8.1 hlv;obtain⟨⟨a7,a8⟩,hr⟩:=g i oi hoi;rw[h.pin i l (by simp[Lv,hr]),hL.rho,y i a7 a8];show r1 i=C2.rho0 i;rw[hL.r2]
 intro d hd;obtain⟨r,h1,h2⟩:=z.2 d hd;have hm:Qe a'.defers r:=by unfold Qe;rw[<- h1];exact hd
 refine⟨r,h1,j1.own r (.inl (s r hm)),(j2 r (s r hm)).trans h2,?_⟩;rintro off (c|c)
 .exact j1.out r off (.inl (s r hm)) c
 rcases (q r off).1 c with c|c
 .exact b5 r off hm c
 exact j4 r (s r hm) (.inl ⟨jl,_,hj,by rw[n];exact c⟩)
end
end Go.AM
namespace Go.AM
structure RP (P:Program) where
 pr:Prot P
 n:Nat
 Q:I8
 act:Act
 l:Nat
 fn:FuncId
 D:Nat
 rA:Nat->Value
 r0:Nat->Value
 ts:List Nat
 gh:Nat
 jl:Option Nat
 I:List (List PV)->St->Prop
 ps:Array Tmp
 asg:Code
 body:Code
def RP.lo {P:Program}(R:RP P)(st:LoopState)(pe:Option Code):Loop:={ state:=st,pending:=pe,fn:=R.fn,tmps:=R.act.tmps,params:=R.ps,assign:=R.asg,body:=R.body,defers:=R.D }
def At3:Hf->Code->Prop
 |.ret,c=>c=.ret
 |.exit id,c=>c=.exit id
 |.goto t,c=>c=.goto t
 |_,_=>False
def RP.stOk {P:Program}(R:RP P)(s:St)(rest:List (List PV))(live:Bool)(lo:Loop):Prop:= (live=true/\lo=R.lo .ready none/\R.I rest s/\∀ys∈rest,AH5 R.jl R.ps.size ys) \/ (live=false/\rest=[]/\∃c e,lo=R.lo .done (some c)/\At3 e c/\R.Q e s)
structure InG {P:Program}(R:RP P) (C C2:Ctx) (s:St) (rhoA:Nat->Value) (XI:Nat->Nat->Prop) (rest:List (List PV)) (live:Bool) (lo:Loop):Prop where
 g:R.pr.G C2
 r2:C2.rho0=R.rA
 sat:Sat (C2.plus XI) s R.act C.w0 rhoA
 X:C.X=fun b o=>C2.X b o \/ PvR s.regs rhoA b o
 pi:C.Pi0=fun b o=>C.X b o \/ XI b o
 dis:∀b,C.E0 b->¬RK s.regs rhoA R.act.defers b
 oc:∀b,C.E0 b->C2.E0 b \/ C2.w0.heap.size<=b
 lt:∀b,C.E0 b->b<C.w0.heap.size
 rl:C.w0.heap[R.l]? = some (.loop lo)
 lown:C2.E0 R.l \/ C2.w0.heap.size<=R.l
 lX:∀off,¬C2.X R.l off
 lE:¬C.E0 R.l
 Y:C.Y=fun r b=>r=rest/\b=live
 yv:C.yv=.func (.yield R.l) #[] #[]
 rho:C.rho0=R.r0
 keys:s.env.map (·.1)=R.ts
 ng:A1 s.regs R.gh=none
 st:R.stOk s rest live lo
section
variable {P:Program}{R:RP P}{C C2 C3 C2' : Ctx}{s s4:St}{rhoA rho4:Nat->Value}{XI V V0 TS:Nat->Nat->Prop}{rest:List (List PV)}{live:Bool}{lo:Loop}{w w2 w3:World}{O:Nat->Prop}{a3:Act}
def RP.OS (R:RP P)(O:Nat->Prop)(b:Nat):Prop:=O b \/ b=R.l \/ Qe R.act.defers b
def RP.rR (R:RP P)(v:Value)(j:Nat):Value:=if j=R.gh then .tuple (Fj R.ts R.act.tmps)else if R.jl=some j then v else R.rA j
theorem InG.disO (h:InG R C C2 s rhoA XI rest live lo)(hR:Rel C w O V):(∀b,O b->¬RK s.regs rhoA R.act.defers b)/\¬O R.l:=by
 refine⟨fun b hb a=>?_,fun hl=>?_⟩
 .rcases hR.own b hb with h1|h1
  .exact h.dis b h1 a
  have:=h.sat.rel.lt b a;omega
 rcases hR.own R.l hl with h1|h1
 .exact h.lE h1
 have:=(AR1.1 h.rl).1;omega
theorem AJ0 (h:InG R C C2 s rhoA XI rest live lo)(hR:Rel C w O V){H:Nat->Prop}(hH:∀b,H b->O b/\∀o,V b o){lob:Loop}{r0:Nat->Value}{vs:Array Value}{ys:List PV}
 (hL:LiftG R.pr R.rA r0 w2 TS (R.OS fun b=>O b/\¬H b) (fun b o=>V b o/\¬H b) C3 C2' V0) (hs:Sat C3 s4 a3 w3 rho4) {s5:St}(hres:Sat (C2'.plus V) s5 R.act w3 rho4) (d:s5.env.map (·.1)=R.ts) (hng:A1 s5.regs R.gh=none)
 (h5:∀i o,A1 s5.regs i=some o->A1 s4.regs i=some o) (n:∀b,Own (A1 s5.regs) rho4 b->¬H b) (q:∀b,H b->∃i o,A1 s4.regs i=some o/\D6 (rho4 i) o b/\∀off,Hr o off) (hya:YArg w3 (fun b o=>C3.X b o \/ PvR s4.regs rho4 b o) vs ys H)
 (hk2:Keeps w (fun b o=>C.X b o \/ V b o) w2 TS) (hb2:∀b,R.OS (fun b=>O b/\¬H b) b->b≠R.l->w2.heap[b]? = w.heap[b]?) (hs2:w.heap.size<=w2.heap.size) (hx2:Ext w w2) (hl2:w2.heap[R.l]? = some (.loop lob))
 {rest1:List (List PV)}{live1:Bool}{lo1:Loop}(hst:R.stOk s5 rest1 live1 lo1) :
 ∃C',InG R C' C2' s5 rho4 V rest1 live1 lo1/\C'.yv=C.yv/\C'.rho0=C.rho0/\C'.Y rest1 live1/\C'.w0=w3.putObj R.l (.loop lo1)/\C'.E0=O/\(C'.Pi0=fun b o=>C'.X b o \/ V b o)/\Rel C' (w3.putObj R.l (.loop lo1)) O V /\
  (∀b,O b->¬H b->(w3.putObj R.l (.loop lo1)).heap[b]? = w.heap[b]?)/\Keeps w (fun b o=>C.X b o \/ V b o) (w3.putObj R.l (.loop lo1)) (fun b o=>C'.X b o \/ V b o)/\w.heap.size<=(w3.putObj R.l (.loop lo1)).heap.size/\w3.heap[R.l]? = some (.loop lob)/\Ext w (w3.putObj R.l (.loop lo1)) /\
  YArg (w3.putObj R.l (.loop lo1)) (fun b o=>C'.X b o \/ V b o) vs ys H:=by
 obtain⟨hOF,f⟩:=h.disO hR;have hVO:∀b o,V b o/\¬H b->R.OS (fun b=>O b/\¬H b) b:=fun b o hv=>.inl ⟨hR.vo b o hv.1,hv.2⟩;obtain⟨j1,j2,j3,j4,j5,j6⟩:=hL.joint hVO hs.rel;have hOM:∀b,O b->¬Qe R.act.defers b:=fun b hb hm=>hOF b hb (.inr hm);have j:w3.heap[R.l]? = some (.loop lob):=(j2 R.l (.inr (.inl rfl))).trans hl2;obtain⟨p1,p2⟩:=hres.poke j (.loop lo1) (j1.own R.l (.inl (.inr (.inl rfl))));have a:∀b,Own (A1 s5.regs) rho4 b->RK s4.regs rho4 a3.defers b:=fun b ⟨i,oi,t,hb⟩=>.inl ⟨i,oi,h5 i oi t,hb⟩;have u:∀b off,PvR s5.regs rho4 b off->PvR s4.regs rho4 b off:=fun b off ⟨i,oi,t,hb,hp⟩=>⟨i,oi,h5 i oi t,hb,hp⟩;have m:∀b off,PvR s5.regs rho4 b off->Own (A1 s5.regs) rho4 b:=fun b off ⟨i,oi,t,hb,_⟩=>⟨i,oi,t,hb⟩;have hHo:∀b,H b->RK s4.regs rho4 a3.defers b:=fun b hb=>let ⟨i,o,h1,h2,_⟩:=q b hb;.inl ⟨i,o,h1,h2⟩
 have hHp:∀b off,H b->PvR s4.regs rho4 b off:=fun b off hb=>let ⟨i,o,h1,h2,h3⟩:=q b hb;⟨i,o,h1,h2,h3 off⟩
 have z:∀b,O b->R.OS (fun b=>O b/\¬H b) b \/ RK s4.regs rho4 a3.defers b:=fun b hb=>by
  by_cases c:H b
  .exact .inr (hHo b c)
  exact .inl (.inl ⟨hb,c⟩)
 have v:R.l<w3.heap.size:=(AR1.1 j).1;have x:∀b off,((C2'.X b off \/ PvR s5.regs rho4 b off) \/ V b off)->(C3.X b off \/ PvR s4.regs rho4 b off):=by
  rintro b off ((hx|hx)|hx)
  .exact .inl (by rw[hL.X];exact .inl hx)
  .exact .inr (u b off hx)
  by_cases c:H b
  .exact .inr (hHp b off c)
  exact .inl (by rw[hL.X];exact .inr ⟨hx,c⟩)
 refine⟨{ X:=fun b o=>C2'.X b o \/ PvR s5.regs rho4 b o,w0:=w3.putObj R.l (.loop lo1),E0:=O,Pi0:=fun b o=>(C2'.X b o \/ PvR s5.regs rho4 b o) \/ V b o,rho0:=C.rho0,Y:=fun r b=>r=rest1/\b=live1,yv:=C.yv },
  ⟨hL.g,hL.r2,p1,rfl,rfl,?_,fun b hb=>j1.own b (z b hb),fun b hb=>by rw[AV1];exact j1.lt b (z b hb),Bg9 v,j1.own R.l (.inl (.inr (.inl rfl))),fun off=>j1.out R.l off (.inl (.inr (.inl rfl))),f,rfl,h.yv,h.rho,d,hng,hst⟩,
  rfl,rfl,⟨rfl,rfl⟩,rfl,rfl,rfl,⟨Ext.refl _,AQ8 _,fun _ _ _=>rfl,Keeps.refl _ _,fun b hb=>.inl hb,?_,fun b hb=>by rw[AV1];exact j1.lt b (z b hb),?_,hR.vo⟩,?_,?_,?_,j,(hx2.trans j6).trans ⟨rfl,rfl⟩,?_⟩
 .rintro b hb (hF|hF)
  .exact j4 b (.inl ⟨hb,n b hF⟩) (a b hF)
  exact hOM b hb hF
 .rintro b off hb (hx|hx)
  .exact j1.out b off (z b hb) hx
  exact j4 b (.inl ⟨hb,n b (m b off hx)⟩) (a b (m b off hx))
 .rintro b off (hx|hx)
  .rw[AV1];exact j1.bnd b off hx
  rw[AV1];exact hs.rel.lt b (a b (m b off hx))
 .intro b hb c;have y:b≠R.l:=by rintro rfl;exact f hb
  rw[AV8 y,j2 b (.inl ⟨hb,c⟩),hb2 b (.inl ⟨hb,c⟩) y]
 .exact hk2.trans (j3.trans ((Keeps.of_imp x).trans (p2 _)))
 .rw[AV1];exact AW5 hs2 j5
 refine hya.keeps ((Keeps.of_imp x).trans (p2 _)) fun b hb=>AV8 ?_;rintro rfl;exact f (hH _ hb).1
end
end Go.AM
