/- Part 4. -/
import Derived.Test.YtndjjecpdipknaaGreatDoorWC
import Derived.Test.YtndjjecpdipknaaGreatDoorWA
import Derived.ProofKit
import Derived.WideKeyArgs
import Derived.Deep.Slices
import Derived.OpenShut
set_option linter.defProp false
set_option linter.unusedSimpArgs false
set_option linter.unusedVariables false
set_option linter.unusedSectionVars false
namespace Go.AM
def By6:=@Int.toNat_natCast
def BE0:=@List.mem_map
def BG1:=@Nat.pow_le_pow_right
def BH2:=@List.mem_cons_self
def BJ0:=@Nat.blt_eq
def BJ7:=@List.getElem_mem
def BK1:=@BitVec.eq_of_toNat_eq
def BK2:=@List.take_append_drop
def BK8:=@Bool.false_and
def BL7:=@Bool.and_true
def BM7:=@Go.World.alloc_heap_new
def BN4:=@Nat.shiftRight_eq_div_pow
def BN5:=@List.drop_zero
def BN9:=@BitVec.toNat_ushiftRight
def BO0:=@List.length_range
def BO6:=@Nat.min_eq_right
def BO7:=@Nat.lt_succ_self
def BO9:=@Go.World.putObj_heap_same
def BP0:=@BitVec.toNat_shiftLeft
def BQ2:=@Go.WideShapes.add_plain
def BR0:=@List.zip_cons_cons
def BR1:=@Int.natCast_nonneg
def BR2:=@List.sum_cons
def BR3:=@List.getElem_range
def BR8:=@List.all_nil
def BR9:=@Nat.le_of_eq
section
variable {P:Program}{n:Nat}{Q:J3}
structure LiftG (𝒢 : Prot P) (r1 r0:Nat->Value) (wS:World) (TS:Nat->Nat->Prop) (OS:Nat->Prop) (VS:Nat->Nat->Prop) (C C2:Ctx) (V0:Nat->Nat->Prop):Prop where
 g : 𝒢.G C2
 r2:C2.rho0=r1
 X:C.X=λb o=>C2.X b o \/ VS b o
 Y:C.Y=C2.Y
 yv:C.yv=C2.yv
 rho:C.rho0=r0
 pi:C.Pi0=λb o=>C.X b o \/ V0 b o
 rel:Rel C2 C.w0 (λb=>OS b \/ C.E0 b) (λb o=>VS b o \/ V0 b o)
 os:∀b,OS b->C.w0.heap[b]? = wS.heap[b]?
 keep:Sc wS TS C.w0 C.Pi0
 dis:∀b,OS b->¬C.E0 b
 size:wS.heap.size<=C.w0.heap.size
 ext:Ext wS C.w0
def or4 {a b c:Prop}:(a \/ b) \/ c↔a \/ (b \/ c):=or_assoc
def Sc.of_imp {w:World}{p q:Nat->Nat->Prop}(h:∀b o,q b o->p b o):Sc w p w q:=λb o v hp hc=>⟨hc,λa=>hp (h b o a)⟩
def LiftG.joint {𝒢 : Prot P}{r1 r0:Nat->Value}{wS:World}{TS:Nat->Nat->Prop}{OS:Nat->Prop}{VS:Nat->Nat->Prop}(d:∀b o,VS b o->OS b){C C2:Ctx}{V0:Nat->Nat->Prop}(h:LiftG 𝒢 r1 r0 wS TS OS VS C C2 V0)
 {w:World}{O:Nat->Prop}{V:Nat->Nat->Prop}(hR:Rel C w O V) :
 Rel C2 w (λb=>OS b \/ O b) (λb o=>VS b o \/ V b o)/\(∀b,OS b->w.heap[b]? = wS.heap[b]?)/\Sc wS TS w (λb o=>C.X b o \/ V b o)/\(∀b,OS b->¬O b)/\wS.heap.size<=w.heap.size/\Ext wS w:=by
 have a:=h.rel;have f:∀b,OS b->w.heap[b]? = C.w0.heap[b]?:=λb hb=>hR.same b (a.lt b (.inl hb)) (h.dis b hb);refine⟨⟨a.ext.trans hR.ext,BD9 a.size hR.size,?_,?_,?_,?_,?_,λb off c=>BB0 (a.bnd b off c) hR.size,?_⟩,λb hb=>(f b hb).trans (h.os b hb),h.keep.trans hR.keep,?_,BD9 h.size hR.size,h.ext.trans hR.ext⟩
 .intro b hb i;rw[hR.same b (BB0 hb a.size) λj=>by
   rcases a.own b (.inr j)with h1|h1
   .exact i h1
   omega]
  exact a.same b hb i
 .refine a.keep.trans ((Sc.of_imp ?_).trans (hR.keep.trans (Sc.of_imp ?_)))
  .intro b o hp;rw[h.pi,h.X]at hp;exact or4.1 hp
  intro b o hp;rw[h.X];exact or4.2 hp
 .rintro b (hb|hb)
  .exact a.own b (.inl hb)
  rcases hR.own b hb with h1|h1
  .exact a.own b (.inr h1)
  exact .inr (BD9 a.size h1)
 .rintro b off (hb|hb) c
  .exact a.out b off (.inl hb) c
  exact hR.out b off hb (by rw[h.X];exact .inl c)
 .rintro b (hb|hb)
  .exact BB0 (a.lt b (.inl hb)) hR.size
  exact hR.lt b hb
 .rintro b o (g|g)
  .exact .inl (d b o g)
  exact .inr (hR.vo b o g)
 intro b hb l;rcases hR.own b l with h1|h1
 .exact h.dis b hb h1
 have:=a.lt b (.inl hb);omega
def Prot.lift (𝒢 : Prot P)(r1 r0:Nat->Value)(wS:World)(TS:Nat->Nat->Prop)(OS:Nat->Prop)(VS:Nat->Nat->Prop)(a:∀b o,VS b o->OS b):Prot P where
 G:=λC=>∃C2 V0,LiftG 𝒢 r1 r0 wS TS OS VS C C2 V0
 tab:=by rintro C ⟨C2,V0,h⟩;exact ((𝒢.tab C2 h.g).keeps h.rel.keep h.rel.same (E':=C.E0) λb hb i=>(h.rel.own b (.inr i)).resolve_right (Nat.not_le.2 hb)).keeps (Sc.of_imp λb o hp=>by rw[h.pi,h.X]at hp;exact or4.1 hp) (λ_ _ _=>rfl) λ_ _ j=>j
 call:=by
  rintro C w O V ys rest vs H ⟨C2,V0,h⟩ hR m c n;obtain⟨j1,j2,j3,j4,j5,j6⟩:=h.joint a hR;have d : YArg w (λb o=>C2.X b o \/ (VS b o \/ V b o)) vs ys H:=n.keeps (Sc.of_imp λb o hp=>by rw[h.X];exact or4.2 hp) λ_ _=>rfl;obtain⟨l,fn,tmps,as,body,h1,q,r⟩:=𝒢.call C2 w _ _ ys rest vs H h.g j1 (by rw[<- h.Y];exact m) (λb hb=>⟨.inr (c b hb).1,λo=>.inr ((c b hb).2 o)⟩) d;refine⟨l,fn,tmps,as,body,h.yv.trans h1,q,r.mono ?_⟩;rintro e w' ⟨b,rfl,C2',g1,g2,g3,g4,g5,g6,g7,g8,g9,g10,g11,g12,g13⟩;have f:∀b,OS b->¬H b:=λb hb s=>j4 b hb (c b s).1;refine⟨b,rfl,{ X:=λb o=>C2'.X b o \/ VS b o,w0:=w',E0:=O,Pi0:=λb o=>(C2'.X b o \/ VS b o) \/ V b o,rho0:=C.rho0,Y:=C2'.Y,yv:=C2'.yv },⟨C2',V,?_⟩,g2.trans h.yv.symm,rfl,g4,rfl,rfl,rfl,?_,λb hb=>g9 b (.inr hb),?_,g11,g12,g13.keeps (Sc.of_imp λb o hp=>or4.1 hp) λ_ _=>rfl⟩
  .refine⟨g1,g3.trans h.r2,rfl,rfl,rfl,h.rho,rfl,g8,λb hb=>(g9 b (.inl hb) (f b hb)).trans (j2 b hb),?_,j4,BD9 j5 g11,j6.trans g12⟩;refine j3.trans ((Sc.of_imp ?_).trans (g10.trans (Sc.of_imp ?_)))
   .intro b o hp;rw[h.X];exact or4.2 hp
   .intro b o hp;exact or4.1 hp
  .refine⟨Ext.refl _,Bz5 _,λ_ _ _=>rfl,Sc.refl _ _,λb hb=>.inl hb,?_,λb hb=>g8.lt b (.inr hb),?_,hR.vo⟩
   .rintro b off hb (hx|hx)
    .exact g8.out b off (.inr hb) hx
    .exact j4 b (a b off hx) hb
   .rintro b off (hx|hx)
    .exact g8.bnd b off hx
    .exact g8.lt b (.inl (a b off hx))
  .refine (Sc.of_imp ?_).trans (g10.trans (Sc.of_imp ?_))
   .intro b o hp;rw[h.X];exact or4.2 hp
   .intro b o hp;exact or4.1 hp
end
section
variable {P:Program}{C:Ctx}{a:Act}{w:World}{rho:Nat->Value}{n:Nat}
def LT:∀(ts:List Nat) (l:List AV) (t:Nat),ts.length=l.length->ts.Nodup->(∀i:Nat,ts[i]? = some t->get (X7 ts l) t=l.getD i .top)/\(t ∉ ts->get (X7 ts l) t=.top)
 |[],[],t,_,_=>⟨λi h=>by simp at h,λ_=>rfl⟩
 |[],_::_,t,h,_=>by simp at h
 |_::_,[],t,h,_=>by simp at h
 |x::ts,y::l,t,h,hn=>by
  obtain⟨n1,n2⟩:=BE5.1 hn;obtain⟨h1,c⟩:=LT ts l t (by simpa using h) n2;refine⟨λi b=>?_,λhm=>?_⟩
  .simp only[X7,get];cases i with
   |zero=>simp at b;simp[b]
   |succ i=>
    have a : ts[i]? = some t:=by simpa using b
    have e:¬x=t:=by rintro rfl;exact n1 (BB3 a)
    rw[Hj e,h1 i a];simp
  simp only[BC1,not_or]at hm;simp only[X7,get];rw[Hj (BC5 hm.1),c hm.2]
def Nb:∀(ts:List Nat) (l:List AV),ts.length=l.length->(X7 ts l).map (·.1)=ts
 |[],[],_=>rfl
 |[],_::_,h=>by simp at h
 |_::_,[],h=>by simp at h
 |x::ts,y::l,h=>by simp[X7,Nb ts l (by simpa using h)]
def UL:∀(E:Env) (t:Nat),(E.map (·.1)).Nodup->(∀i:Nat,(E.map (·.1))[i]? = some t->get E t=(E.map (·.2)).getD i .top)/\(t ∉ E.map (·.1)->get E t=.top)
 |[],t,_=>⟨λi h=>by simp at h,λ_=>rfl⟩
 |(x,y)::E,t,hn=>by
  obtain⟨n1,n2⟩:=BE5.1 hn;obtain⟨h1,c⟩:=UL E t n2;refine⟨λi b=>?_,λhm=>?_⟩
  .simp only[get];cases i with
   |zero=>simp at b;simp[b]
   |succ i=>
    have a : (E.map (·.1))[i]? = some t:=by simpa using b
    have e:¬x=t:=by rintro rfl;exact n1 (BB3 a)
    rw[Hj e,h1 i a];simp
  simp only[BA3,BC1,not_or]at hm;simp only[get];rw[Hj (BC5 hm.1),c hm.2]
def GX {Qw:C5}{g i:Nat}(a:i≠g):A1 (del g Qw) i=A1 Qw i:=by
 induction Qw with
 |nil=>rfl
 |cons p r ih=>
  obtain⟨x,y⟩:=p;simp only[del];split
  .rename_i e;subst e;simp[A1,BC5 a]
  simp only[A1,ih]
def PJ {Pi:Nat->Nat->Prop}{live:Nat->Prop}:∀(ps:List Nat) (ys:List PV) (vs:List Value) (E:Env) (tmps:Array Value),ps.length=ys.length->ps.length=vs.length->(∀t∈ps,t<tmps.size) ->
 (∀t,Sq w Pi live rho (tmps.getD t undef) (get E t))->(∀i,i<ys.length->Sd w Pi (vs.getD i undef) (ys.getD i default)) ->
 ∀t,Sq w Pi live rho (((ps.zip vs).foldl (λtmps (q:Nat×Value)=>tmps.setIfInBounds q.1 q.2) tmps).getD t undef) (get (Oz ps ys E) t)
 |[],[],vs,E,tmps,_,h2,_,hE,_,t=>by simpa[Oz]using hE t
 |[],_::_,_,_,_,h,_,_,_,_,_=>by simp at h
 |_::_,[],_,_,_,h,_,_,_,_,_=>by simp at h
 |p::ps,y::ys,[],_,_,_,h,_,_,_,_=>by simp at h
 |p::ps,y::ys,v::vs,E,tmps,h1,h2,hlt,hE,hv,t=>by
  simp only[BR0,BL4,Oz];refine PJ ps ys vs (ins p (.p y) E) (tmps.setIfInBounds p v) (by simpa using h1) (by simpa using h2) (λt ht=>by simpa using hlt t (BB4 _ ht)) ?_ (λi a=>by simpa using hv (i+1) (by simpa using a)) t;intro t;rw[MT];by_cases e:p=t
  .subst e
   have:=hlt p (by simp)
   rw[Gy rfl];have e2:(tmps.setIfInBounds p v).getD p undef=v:=by simp[By2,this]
   rw[e2];exact .p _ _ (by simpa using hv 0 (by simp))
  rw[Hj e];have e2:(tmps.setIfInBounds p v).getD t undef=tmps.getD t undef:=by simp[By2,e]
  rw[e2];exact hE t
end
section
variable {w w' : World}{Pi Pi' : Nat->Nat->Prop}{live live' : Nat->Prop}{rho:Nat->Value}
def Sq.drop (hk:Sc w Pi w' Pi')(hl:∀j,live j->(∀vs,rho j ≠ .tuple vs)->live' j){v:Value}{a:AV}(h:Sq w Pi live rho v a):Sq w' Pi' live' rho v a:=by
 induction h with
 |p v x h=>exact .p v x (h.keeps hk)
 |reg j off b hj h=>exact .reg j off b (hl j hj (by rw[h];intro vs e;cases e)) h
 |vec j base n cap hj h=>exact .vec j base n cap (hl j hj (by rw[h];intro vs e;cases e)) h
 |vecp j m base n cap hj h hm=>exact .vecp j m base n cap (hl j hj (by rw[h];intro vs e;cases e)) h hm
 |elt j k i off b n cap hj h=>exact .elt j k i off b n cap (hl j hj (by rw[h];intro vs e;cases e)) h
 |Se j r hj h=>exact .Se j r (hl j hj (by rw[h];intro vs e;cases e)) h
 |clo f x y a b hx hy ha hb iha ihb=>exact .clo f x y a b hx hy iha ihb
 |tup x a hx ha ih=>exact .tup x a hx ih
 |agr x a hx h1 ha ih=>exact .agr x a hx h1 ih
 |yf j l hj h=>exact .yf j l (hl j hj (by rw[h];intro vs e;cases e)) h
 |rsl j n b hj h=>exact .rsl j n b (hl j hj (by rw[h];intro vs e;cases e)) h
 |top v=>exact .top v
def Sr.drop (hk:Sc w Pi w' Pi')(hl:∀j,live j->(∀vs,rho j ≠ .tuple vs)->live' j){h:Value}{o:Obj}(hb:∀b,E5 h o b->w'.heap[b]? = w.heap[b]?)(s:Sr w Pi live rho h o):Sr w' Pi' live' rho h o:=by
 cases o with
 |cells cs=>obtain⟨b,c,T,rfl,h1,m,a⟩:=s;exact⟨b,c,T,rfl,(hb b rfl).trans h1,m,λi d=>⟨(a i d).1.drop hk hl,(a i d).2⟩⟩
 |vec e k n f vw=>
  rcases s with hn|⟨b,cap,c,rfl,h1,m,a,t,u,v⟩
  .exact .inl hn
  exact .inr ⟨b,cap,c,rfl,(hb b rfl).trans h1,m,a,t,u,λi j d z=>⟨(v i j d z).1.keeps hk,(v i j d z).2⟩⟩
 |map es=>obtain⟨b,Sg,clock,rfl,h1,m,a,h9⟩:=s;exact⟨b,Sg,clock,rfl,(hb b rfl).trans h1,m,λi d=>⟨(a i d).1.keeps hk,(a i d).2.keeps hk⟩,h9⟩
 |arr n f=>obtain⟨b,c,T,rfl,h1,m,a⟩:=s;exact⟨b,c,T,rfl,(hb b rfl).trans h1,m,λi d=>⟨(a i d).1.keeps hk,(a i d).2⟩⟩
 |blk l jr=>obtain⟨g1,g2,b,rfl,h1⟩:=s;exact⟨hl jr g1 g2.1,g2,b,rfl,(hb b rfl).trans h1⟩
 |ghost cs=>obtain⟨vs,rfl,h1,m⟩:=s;exact⟨vs,rfl,h1,λi d=>(m i d).drop hk hl⟩
 |yld r b=>exact s
 |fam e n jr x=>
  obtain⟨rv,g1,g2,y⟩:=s;refine⟨rv,hl jr g1 (by rw[g2];intro vs e;cases e),g2,?_⟩;rcases y with y|⟨b,cap,c,rfl,h1,m,a,t,u,v⟩
  .exact .inl y
  cases x with
  |none=>exact .inr ⟨b,cap,c,rfl,(hb b rfl).trans h1,m,a,t,u,trivial⟩
  |some q=>exact .inr ⟨b,cap,c,rfl,(hb b rfl).trans h1,m,a,t,u,v.drop hk hl⟩
 |rows n g=>exact Gp hk hb s
 |dead=>trivial
def Sr.block {h:Value}{o:Obj}(a:Sr w Pi live rho h o){b:Nat}(hb:E5 h o b):(∃c T f,w.heap[b]? = some (.cells c T f)) \/ (∃es ck,w.heap[b]? = some (.map es ck)) \/ ∃m c s l,w.heap[b]? = some (.mapIter m c s l):=by
 have:=a.kind hb
 unfold isC at this;split at this
 .rename_i h;exact .inl ⟨_,_,_,h⟩
 .rename_i h;exact .inr (.inl ⟨_,_,h⟩)
 .rename_i h;exact .inr (.inr ⟨_,_,_,_,h⟩)
 cases this
end
section
variable {P:Program}{C:Ctx}{st:St}{a:Act}{w:World}{rho:Nat->Value}{𝒢 : Prot P}{n:Nat}{Q:J3}
def Sat.own_not {b:Nat}(h:Sat C st a w rho)(hb:Own (A1 st.Qw) rho b){o:Go.Obj}(d:w.heap[b]? = some o)(hc:∀c T f,o ≠ .cells c T f)(hm:∀es ck,o ≠ .map es ck)(i:∀m c s l,o ≠ .mapIter m c s l):False:=by
 obtain⟨j,oj,n,g⟩:=hb;rcases (h.hp.holds j oj n).block g with⟨c,T,f,h1⟩ | ⟨es,ck,h1⟩ | ⟨m,c,s,l,h1⟩
 .rw[d]at h1;cases h1;exact hc _ _ _ rfl
 .rw[d]at h1;cases h1;exact hm _ _ rfl
 rw[d]at h1;cases h1;exact i _ _ _ _ rfl
def Sat.loop_not_own {l:Nat}{lo:Loop}(h:Sat C st a w rho)(hl:w.heap[l]? = some (.loop lo)):¬Wz st.Qw rho a.defers l:=by
 rintro (hb|hb)
 .exact h.own_not hb hl (λ_ _ _ e=>by cases e) (λ_ _ e=>by cases e) (λ_ _ _ _ e=>by cases e)
 obtain⟨r,h1,_,b,_⟩:=h.marks.2 _ hb;cases h1;rw[hl]at b;cases b
def Rel.poke {O:Nat->Prop}{V:Nat->Nat->Prop}(h:Rel C w O V){l:Nat}{lo:Loop}(hl:w.heap[l]? = some (.loop lo))(d:O l)(o' : Go.Obj):Rel C (w.putObj l o') O V:=by
 have a:∀b,b≠l->(w.putObj l o').heap[b]? = w.heap[b]?:=λb hb=>BD7 hb;refine⟨h.ext.trans ⟨rfl,rfl⟩,by rw[BD1];exact h.size,?_,?_,h.own,h.out,λb hb=>by rw[BD1];exact h.lt b hb,λb off f=>by rw[BD1];exact h.bnd b off f,h.vo⟩
 .intro b hb c;rw[a b (λe=>by subst e;rcases h.own b d with h1|h1;exact c h1;omega)];exact h.same b hb c
 intro b o v hp hc;obtain⟨h1,g⟩:=h.keep b o v hp hc;refine⟨?_,g⟩;rw[<- h1];refine BC8 (a b ?_);rintro rfl;simp[World.cell?,hl]at h1
def Ctx.fresh (C:Ctx)(w:World)(E:Nat->Prop)(Pi:Nat->Nat->Prop):Ctx:={ C with w0:=w,E0:=E,Pi0:=Pi }
def Sat.pokeFresh (h:Sat C st a w rho){l:Nat}{lo:Loop}(hl:w.heap[l]? = some (.loop lo))(o' : Go.Obj) :Sat (C.fresh (w.putObj l o') (Wz st.Qw rho a.defers) (Prv C.X (A1 st.Qw) rho)) st a (w.putObj l o') rho:=by
 have c:∀b,b≠l->(w.putObj l o').heap[b]? = w.heap[b]?:=λb hb=>BD7 hb;have hk:∀Pi,Sc w Pi (w.putObj l o') Pi:=λPi b o v hp hc=>⟨by rw[<- hc];refine BC8 (c b ?_);rintro rfl;simp[World.cell?,hl]at hc,hp⟩
 have g:∀b,Wz st.Qw rho a.defers b->b≠l:=by rintro b hb rfl;exact h.loop_not_own hl hb
 refine⟨⟨⟨?_,h.hp.sep,h.hp.out,λb off m=>by rw[BD1];exact h.hp.bound b off m⟩,Ext.refl _,Bz5 _,λb _ _=>rfl,Sc.refl _ _,λb hb=>.inl (.inl hb),h.yld⟩,λt=>(h.env t).keeps (hk _) λj f=>⟨f,rfl⟩,h.pin,h.marks.1,?_⟩
 .intro j o f;exact (h.hp.holds j o f).keeps (hk _) (λj f=>⟨f,rfl⟩) λb hb=>c b (g b (.inl ⟨j,o,f,hb⟩))
 intro d i;obtain⟨r,h1,s,n,q⟩:=h.marks.2 d i;have hm:UE a.defers r:=by unfold UE;rw[<- h1];exact i
 exact⟨r,h1,.inl (.inr hm),(c r (g r (.inr hm))).trans n,q⟩
def GY (ts:List Nat)(tmps:Array Value):Array Value:=(ts.map λt=>tmps.getD t undef).toArray
def Tt (ts:List Nat)(tmps:Array Value):(GY ts tmps).size=ts.length:=by simp[GY]
def LU {ts:List Nat}{tmps:Array Value}{i t:Nat}(h:ts[i]? = some t):(GY ts tmps).getD i undef=tmps.getD t undef:=by simp[GY,By2,h]
def Bo9 {r1 r0:Nat->Value}{wS:World}{TS:Nat->Nat->Prop}{OS:Nat->Prop}{V:Nat->Nat->Prop}(a0:∀b o,V b o->OS b){C2:Ctx}{V0:Nat->Nat->Prop}(hL:LiftG 𝒢 r1 r0 wS TS OS V C C2 V0)(h:Sat C st a w rho)
 {gh:Nat}{cs:List AV}{ts:List Nat}(n:A1 st.Qw gh=some (.ghost cs)) (q:cs.length=ts.length) (s:A1 (del gh st.Qw) gh=none) (a1:gh<1000) (a2:ts.Nodup) {a' : Act}
 (a3:r0 gh=.tuple (GY ts a'.tmps)) (u : ∀j,j≠gh->r0 j=r1 j) (v:a'.defers.Nodup/\∀d∈a'.defers,∃r,d={ target:=.collected r,args:=#[] }/\wS.heap[r]? = some (.deferred (some []))) (l:∀b,UE a'.defers b->OS b) (a4:∀b off,UE a'.defers b->¬V b off) :
 Sat (C2.plus V) ⟨X7 ts cs,del gh st.Qw⟩ a' w rho:=by
 obtain⟨j1,j2,j3,j4,j5,_⟩:=hL.joint a0 h.rel;have x:rho gh=.tuple (GY ts a'.tmps):=by rw[h.pin gh a1 (by simp[Lv,n]),hL.rho,a3]
 have c:∀i oi,A1 (del gh st.Qw) i=some oi->i≠gh/\A1 st.Qw i=some oi:=by
  intro i oi f;have e:i≠gh:=by rintro rfl;rw[s]at f;cases f
  exact⟨e,by rw[<- GX e];exact f⟩
 have y:∀b,Own (A1 (del gh st.Qw)) rho b->Own (A1 st.Qw) rho b:=by rintro b ⟨i,oi,f,hb⟩;exact⟨i,oi,(c i oi f).2,hb⟩
 have a5:∀b off,Prv (C2.plus V).X (A1 (del gh st.Qw)) rho b off->Prv C.X (A1 st.Qw) rho b off:=by
  rintro b off (g|⟨i,oi,f,hb,hp⟩)
  .exact .inl (by rw[hL.X];exact g)
  exact .inr ⟨i,oi,(c i oi f).2,hb,hp⟩
 have hk:Sc w (Prv C.X (A1 st.Qw) rho) w (Prv (C2.plus V).X (A1 (del gh st.Qw)) rho):=Sc.of_imp a5;have hl:∀j,Lv (A1 st.Qw) j->(∀vs,rho j ≠ .tuple vs)->Lv (A1 (del gh st.Qw)) j:=by
  intro j hj m;have e:j≠gh:=by rintro rfl;exact m _ x
  simpa[Lv,GX e]using hj
 refine⟨⟨⟨?_,?_,?_,?_⟩,j1.ext,j1.size,j1.same,j1.keep.trans (Sc.of_imp ?_),λb hb=>j1.own b (.inr (.inl (y b hb))),?_⟩,?_,?_,v.1,?_⟩
 .intro i oi f;exact (h.hp.holds i oi (c i oi f).2).drop hk hl λb _=>rfl
 .intro i i' oi oj b f a6 hb a7;exact h.hp.sep i i' oi oj b (c i oi f).2 (c i' oj a6).2 hb a7
 .intro i oi b off f hb g;exact h.hp.out i oi b off (c i oi f).2 hb (by rw[hL.X];exact g)
 .intro b off g;exact h.hp.bound b off (by rw[hL.X];exact g)
 .rintro b off ((g|g)|⟨i,oi,f,hb,hp⟩)
  .exact .inl g
  .exact .inr (.inl g)
  exact .inr (.inr ⟨i,oi,(c i oi f).2,hb,hp⟩)
 .intro i r b f
  have:=h.yld i r b (c i _ f).2
  rw[hL.Y,hL.yv]at this;exact this
 .intro t;show Sq w _ _ rho (a'.tmps.getD t undef) (get (X7 ts cs) t);obtain⟨h1,h2⟩:=LT ts cs t q.symm a2;by_cases hm:t∈ts
  .obtain⟨i,f⟩:=BF1.1 hm;rw[h1 i f,<- LU (tmps:=a'.tmps) f];obtain⟨vs,hv,hs,z⟩:=h.hp.holds gh _ n;rw[x]at hv;cases hv;have hlt:i<cs.length:=by rw[q];exact (Bz8.1 f).1
   exact (z i hlt).drop hk hl
  rw[h2 hm];exact .top _
 .intro i f hlv;obtain⟨oi,hoi⟩:=BA1.1 hlv;obtain⟨m,hr⟩:=c i oi hoi;rw[h.pin i f (by simp[Lv,hr]),hL.rho,u i m];show r1 i=C2.rho0 i;rw[hL.r2]
 intro d hd;obtain⟨r,h1,h2⟩:=v.2 d hd;have hm:UE a'.defers r:=by unfold UE;rw[<- h1];exact hd
 refine⟨r,h1,j1.own r (.inl (l r hm)),(j2 r (l r hm)).trans h2,?_⟩;rintro off (g|g)
 .exact j1.out r off (.inl (l r hm)) g
 exact a4 r off hm g
def Sq.within {w w' : World}{Pi Pi' : Nat->Nat->Prop}{live live' : Nat->Prop}{rho:Nat->Value}(hk:Sc w Pi w' Pi'){js:List Nat}(hl:∀j,js.contains j=true->live' j){v:Value}{a:AV}(h:Sq w Pi live rho v a)(c:inA js a=true):Sq w' Pi' live' rho v a:=by
 induction h with
 |p v x h=>exact .p v x (h.keeps hk)
 |reg j off b hj h=>unfold inA at c;exact .reg j off b (hl j c) h
 |vec j base n cap hj h=>unfold inA at c;exact .vec j base n cap (hl j c) h
 |vecp j m base n cap hj h hm=>unfold inA at c;exact .vecp j m base n cap (hl j c) h hm
 |elt j k i off b n cap hj h=>unfold inA at c;exact .elt j k i off b n cap (hl j c) h
 |Se j r hj h=>unfold inA at c;exact .Se j r (hl j c) h
 |clo f x y a b hx hy ha hb iha ihb=>unfold inA at c;rw[By5]at c;exact .clo f x y a b hx hy (λi h=>iha i h (CG c.1 i h)) λi h=>ihb i h (CG c.2 i h)
 |tup x a hx ha ih=>unfold inA at c;exact .tup x a hx λi h=>ih i h (CG c i h)
 |agr x a hx h1 ha ih=>unfold inA at c;exact .agr x a hx h1 λi h=>ih i h (CG c i h)
 |yf j l hj h=>unfold inA at c;exact .yf j l (hl j c) h
 |rsl j n b hj h=>unfold inA at c;exact .rsl j n b (hl j c) h
 |top v=>exact .top v
def Sr.within {w w' : World}{Pi Pi' : Nat->Nat->Prop}{live live' : Nat->Prop}{rho:Nat->Value}(hk:Sc w Pi w' Pi'){js:List Nat}(hl:∀j,js.contains j=true->live' j){h:Value}{o:Obj}(hb:∀b,E5 h o b->w'.heap[b]? = w.heap[b]?)(s:Sr w Pi live rho h o)(a:inO js o=true):Sr w' Pi' live' rho h o:=by
 cases o with
 |cells cs=>obtain⟨b,c,T,rfl,h1,m,d⟩:=s;exact⟨b,c,T,rfl,(hb b rfl).trans h1,m,λi h=>⟨(d i h).1.within hk hl (CG a i h),(d i h).2⟩⟩
 |blk l jr=>obtain⟨g1,g2,b,rfl,h1⟩:=s;exact⟨hl jr a,g2,b,rfl,(hb b rfl).trans h1⟩
 |ghost cs=>obtain⟨vs,rfl,h1,m⟩:=s;exact⟨vs,rfl,h1,λi h=>(m i h).within hk hl (CG a i h)⟩
 |fam e n jr x=>
  obtain⟨rv,g1,g2,t⟩:=s;simp only[inO,By5]at a;refine⟨rv,hl jr a.1,g2,?_⟩;rcases t with t|⟨b,cap,c,rfl,h1,m,d,u,v,y⟩
  .exact .inl t
  cases x with
  |none=>exact .inr ⟨b,cap,c,rfl,(hb b rfl).trans h1,m,d,u,v,trivial⟩
  |some q=>exact .inr ⟨b,cap,c,rfl,(hb b rfl).trans h1,m,d,u,v,y.within hk hl a.2⟩
 |vec e k n f vw=>exact HoldsC.vec (live:=live) (rho:=rho) s hk λb h=>hb b h
 |map es=>obtain⟨b,Sg,clock,rfl,h1,m,d,z⟩:=s;exact⟨b,Sg,clock,rfl,(hb b rfl).trans h1,m,λi a=>⟨(d i a).1.keeps hk,(d i a).2.keeps hk⟩,z⟩
 |arr n f=>obtain⟨b,c,T,rfl,h1,m,d⟩:=s;exact⟨b,c,T,rfl,(hb b rfl).trans h1,m,λi a=>⟨(d i a).1.keeps hk,(d i a).2⟩⟩
 |yld r b=>exact s
 |rows n g=>exact Gp hk hb s
 |dead=>trivial
def AP5 {Qw:C5}{i:Nat}:(Qw.map (·.1)).contains i=true->(A1 Qw i).isSome=true:=by
 induction Qw with
 |nil=>intro h;simp at h
 |cons p r ih=>
  obtain⟨x,y⟩:=p;intro h;simp only[A1];split
  .rfl
  rename_i a;refine ih ?_;simp only[BA3,List.contains_cons,BA4,beq_iff_eq]at h;rcases h with h|h
  .exact Ij h.symm a
  exact h
def Bf2 {r1 r0:Nat->Value}{wS:World}{TS:Nat->Nat->Prop}{OS:Nat->Prop}{V V1:Nat->Nat->Prop}(b0:∀b o,V b o->OS b){C2:Ctx}{V0:Nat->Nat->Prop}(hL:LiftG 𝒢 r1 r0 wS TS OS V C C2 V0)(h:Sat C st a w rho)
 {gh jl:Nat}{cs:List AV}{ts:List Nat}{e:TypeId}{k m:Nat}{f:Nat->List PV}(y:Bw8 gh jl ts (.vec e k m f false) st cs) (b1:gh<1000) (b2:jl<1000) (hne:jl≠gh) (b3:ts.Nodup) {a' : Act}{v:Value}
 (q:∀b o,V1 b o↔V b o \/ N1 v (.vec e k m f false)=some b)
 (b4:r0 gh=.tuple (GY ts a'.tmps)) (b5:r0 jl=v) (z : ∀j,j≠gh->j≠jl->r0 j=r1 j) (a0:a'.defers.Nodup/\∀d∈a'.defers,∃r,d={ target:=.collected r,args:=#[] }/\wS.heap[r]? = some (.deferred (some []))) (s:∀b,UE a'.defers b->OS b) (b6:∀b off,UE a'.defers b->¬V b off) :
 Sat (C2.plus V1) ⟨X7 ts cs,del jl (del gh st.Qw)⟩ a' w rho/\rho jl=v/\HoldsC w (λb o=>C.X b o \/ PvR st.Qw rho b o) (λ_=>False) (λ_=>undef) v (.vec e k m f false):=by
 obtain⟨⟨a1,a2,u⟩,⟨b7,b8⟩,a3,a4⟩:=y;obtain⟨j1,j2,j3,j4,j5,_⟩:=hL.joint b0 h.rel;have b9:rho gh=.tuple (GY ts a'.tmps):=by rw[h.pin gh b1 (by simp[Lv,a1]),hL.rho,b4]
 have n:rho jl=v:=by rw[h.pin jl b2 (by simp[Lv,u]),hL.rho,b5]
 have a5:=h.hp.holds jl _ u;have g:∀i oi,A1 (del jl (del gh st.Qw)) i=some oi->(i≠gh/\i≠jl)/\A1 st.Qw i=some oi:=by
  intro i oi l;have e1:i≠gh:=by rintro rfl;rw[b7]at l;cases l
  have e2:i≠jl:=by rintro rfl;rw[b8]at l;cases l
  exact⟨⟨e1,e2⟩,by rw[<- GX e1,<- GX e2];exact l⟩
 have a6:∀b,Own (A1 (del jl (del gh st.Qw))) rho b->Own (A1 st.Qw) rho b:=by rintro b ⟨i,oi,l,hb⟩;exact⟨i,oi,(g i oi l).2,hb⟩
 have c0:∀b off,Prv (C2.plus V1).X (A1 (del jl (del gh st.Qw))) rho b off->Prv C.X (A1 st.Qw) rho b off:=by
  rintro b off ((c|c)|⟨i,oi,l,hb,hp⟩)
  .exact .inl (by rw[hL.X];exact .inl c)
  .rcases (q b off).1 c with c|c
   .exact .inl (by rw[hL.X];exact .inr c)
   exact .inr ⟨jl,_,u,by rw[n];exact c,trivial⟩
  exact .inr ⟨i,oi,(g i oi l).2,hb,hp⟩
 have hk:Sc w (Prv C.X (A1 st.Qw) rho) w (Prv (C2.plus V1).X (A1 (del jl (del gh st.Qw))) rho):=Sc.of_imp c0;have hl:∀j,((del jl (del gh st.Qw)).map (·.1)).contains j=true->Lv (A1 (del jl (del gh st.Qw))) j:=λj u=>AP5 u;refine⟨⟨⟨⟨?_,?_,?_,?_⟩,j1.ext,j1.size,j1.same,j1.keep.trans (Sc.of_imp ?_),λb hb=>j1.own b (.inr (.inl (a6 b hb))),?_⟩,?_,?_,a0.1,?_⟩,n,by rw[<- n];exact a5⟩
 .intro i oi l;exact (h.hp.holds i oi (g i oi l).2).within hk hl (λb _=>rfl) (Bz2.1 a4 _ (OZ l))
 .intro i i' oi oj b l c1 hb c2;exact h.hp.sep i i' oi oj b (g i oi l).2 (g i' oj c1).2 hb c2
 .rintro i oi b off l hb (c|c)
  .exact h.hp.out i oi b off (g i oi l).2 hb (by rw[hL.X];exact .inl c)
  rcases (q b off).1 c with c|c
  .exact h.hp.out i oi b off (g i oi l).2 hb (by rw[hL.X];exact .inr c)
  exact (g i oi l).1.2 (h.hp.sep i jl oi _ b (g i oi l).2 u hb (by rw[n];exact c))
 .rintro b off (c|c)
  .exact h.hp.bound b off (by rw[hL.X];exact .inl c)
  rcases (q b off).1 c with c|c
  .exact h.hp.bound b off (by rw[hL.X];exact .inr c)
  exact a5.lt (b:=b) (by rw[n];exact c)
 .rintro b off ((c|c)|⟨i,oi,l,hb,hp⟩)
  .exact .inl c
  .rcases (q b off).1 c with c|c
   .exact .inr (.inl c)
   exact .inr (.inr ⟨jl,_,u,by rw[n];exact c,trivial⟩)
  exact .inr (.inr ⟨i,oi,(g i oi l).2,hb,hp⟩)
 .intro i r b l
  have:=h.yld i r b (g i _ l).2
  rw[hL.Y,hL.yv]at this;exact this
 .intro t;show Sq w _ _ rho (a'.tmps.getD t undef) (get (X7 ts cs) t);obtain⟨h1,h2⟩:=LT ts cs t a2.symm b3;by_cases hm:t∈ts
  .obtain⟨i,l⟩:=BF1.1 hm;have x:i<cs.length:=by rw[a2];exact (Bz8.1 l).1
   rw[h1 i l,<- LU (tmps:=a'.tmps) l];obtain⟨vs,hv,hs,a7⟩:=h.hp.holds gh _ a1;rw[b9]at hv;cases hv;have hc:inA ((del jl (del gh st.Qw)).map (·.1)) (cs.getD i .top)=true:=by refine Bz2.1 a3 _ ?_;rw[By3,By7 x];exact BJ7 x
   exact (a7 i x).within hk hl hc
  rw[h2 hm];exact .top _
 .intro i l hlv;obtain⟨oi,hoi⟩:=BA1.1 hlv;obtain⟨⟨a8,a9⟩,hr⟩:=g i oi hoi;rw[h.pin i l (by simp[Lv,hr]),hL.rho,z i a8 a9];show r1 i=C2.rho0 i;rw[hL.r2]
 intro d hd;obtain⟨r,h1,h2⟩:=a0.2 d hd;have hm:UE a'.defers r:=by unfold UE;rw[<- h1];exact hd
 refine⟨r,h1,j1.own r (.inl (s r hm)),(j2 r (s r hm)).trans h2,?_⟩;rintro off (c|c)
 .exact j1.out r off (.inl (s r hm)) c
 rcases (q r off).1 c with c|c
 .exact b6 r off hm c
 exact j4 r (s r hm) (.inl ⟨jl,_,u,by rw[n];exact c⟩)
end
structure RP (P:Program) where
 pr:Prot P
 n:Nat
 Q:J3
 act:Act
 l:Nat
 fn:FuncId
 D:Nat
 rA:Nat->Value
 r0:Nat->Value
 ts:List Nat
 gh:Nat
 jl:Option Nat
 I:List (List PV)->St->Prop
 ps:Array Tmp
 asg:Code
 body:Code
def RP.lo {P:Program}(R:RP P)(st:LoopState)(pe:Option Code):Loop:={ state:=st,pending:=pe,fn:=R.fn,tmps:=R.act.tmps,params:=R.ps,assign:=R.asg,body:=R.body,defers:=R.D }
def AZ0:JN->Code->Prop
 |.ret,c=>c=.ret
 |.exit id,c=>c=.exit id
 |.goto t,c=>c=.goto t
 |_,_=>False
def RP.stOk {P:Program}(R:RP P)(s:St)(rest:List (List PV))(live:Bool)(lo:Loop):Prop:= (live=true/\lo=R.lo .ready none/\R.I rest s/\∀ys∈rest,Bn4 R.jl R.ps.size ys) \/ (live=false/\rest=[]/\∃c e,lo=R.lo .done (some c)/\AZ0 e c/\R.Q e s)
structure InG {P:Program}(R:RP P) (C C2:Ctx) (s:St) (rhoA:Nat->Value) (XI:Nat->Nat->Prop) (rest:List (List PV)) (live:Bool) (lo:Loop):Prop where
 g:R.pr.G C2
 r2:C2.rho0=R.rA
 sat:Sat (C2.plus XI) s R.act C.w0 rhoA
 X:C.X=λb o=>C2.X b o \/ PvR s.Qw rhoA b o
 pi:C.Pi0=λb o=>C.X b o \/ XI b o
 dis:∀b,C.E0 b->¬Wz s.Qw rhoA R.act.defers b
 oc:∀b,C.E0 b->C2.E0 b \/ C2.w0.heap.size<=b
 lt:∀b,C.E0 b->b<C.w0.heap.size
 rl:C.w0.heap[R.l]? = some (.loop lo)
 lown:C2.E0 R.l \/ C2.w0.heap.size<=R.l
 lX:∀off,¬C2.X R.l off
 lE:¬C.E0 R.l
 Y:C.Y=λr b=>r=rest/\b=live
 yv:C.yv=.func (.yield R.l) #[] #[]
 rho:C.rho0=R.r0
 keys:s.env.map (·.1)=R.ts
 ng:A1 s.Qw R.gh=none
 st:R.stOk s rest live lo
section
variable {P:Program}{R:RP P}{C C2 C3 C2' : Ctx}{s s4:St}{rhoA rho4:Nat->Value}{XI V V0 TS:Nat->Nat->Prop}{rest:List (List PV)}{live:Bool}{lo:Loop}{w w2 w3:World}{O:Nat->Prop}{a3:Act}
def RP.OS (R:RP P)(O:Nat->Prop)(b:Nat):Prop:=O b \/ b=R.l \/ UE R.act.defers b
def RP.rR (R:RP P)(v:Value)(j:Nat):Value:=if j=R.gh then .tuple (GY R.ts R.act.tmps)else if R.jl=some j then v else R.rA j
def InG.disO (h:InG R C C2 s rhoA XI rest live lo)(hR:Rel C w O V):(∀b,O b->¬Wz s.Qw rhoA R.act.defers b)/\¬O R.l:=by
 refine⟨λb hb a=>?_,λhl=>?_⟩
 .rcases hR.own b hb with h1|h1
  .exact h.dis b h1 a
  have:=h.sat.rel.lt b a;omega
 rcases hR.own R.l hl with h1|h1
 .exact h.lE h1
 have:=(Bz0.1 h.rl).1;omega
def Bp0 (h:InG R C C2 s rhoA XI rest live lo)(hR:Rel C w O V){H:Nat->Prop}(hH:∀b,H b->O b/\∀o,V b o){lob:Loop}{r0:Nat->Value}{vs:Array Value}{ys:List PV}
 (hL:LiftG R.pr R.rA r0 w2 TS (R.OS λb=>O b/\¬H b) (λb o=>V b o/\¬H b) C3 C2' V0) (hs:Sat C3 s4 a3 w3 rho4) {s5:St}(hres:Sat (C2'.plus V) s5 R.act w3 rho4) (d:s5.env.map (·.1)=R.ts) (hng:A1 s5.Qw R.gh=none)
 (h5:∀i o,A1 s5.Qw i=some o->A1 s4.Qw i=some o) (n:∀b,Own (A1 s5.Qw) rho4 b->¬H b) (q:∀b,H b->∃i o,A1 s4.Qw i=some o/\E5 (rho4 i) o b/\∀off,JY o off) (hya:YArg w3 (λb o=>C3.X b o \/ PvR s4.Qw rho4 b o) vs ys H)
 (hk2:Sc w (λb o=>C.X b o \/ V b o) w2 TS) (hb2:∀b,R.OS (λb=>O b/\¬H b) b->b≠R.l->w2.heap[b]? = w.heap[b]?) (hs2:w.heap.size<=w2.heap.size) (hx2:Ext w w2) (hl2:w2.heap[R.l]? = some (.loop lob))
 {rest1:List (List PV)}{live1:Bool}{lo1:Loop}(hst:R.stOk s5 rest1 live1 lo1) :
 ∃C',InG R C' C2' s5 rho4 V rest1 live1 lo1/\C'.yv=C.yv/\C'.rho0=C.rho0/\C'.Y rest1 live1/\C'.w0=w3.putObj R.l (.loop lo1)/\C'.E0=O/\(C'.Pi0=λb o=>C'.X b o \/ V b o)/\Rel C' (w3.putObj R.l (.loop lo1)) O V /\
  (∀b,O b->¬H b->(w3.putObj R.l (.loop lo1)).heap[b]? = w.heap[b]?)/\Sc w (λb o=>C.X b o \/ V b o) (w3.putObj R.l (.loop lo1)) (λb o=>C'.X b o \/ V b o)/\w.heap.size<=(w3.putObj R.l (.loop lo1)).heap.size/\w3.heap[R.l]? = some (.loop lob)/\Ext w (w3.putObj R.l (.loop lo1)) /\
  YArg (w3.putObj R.l (.loop lo1)) (λb o=>C'.X b o \/ V b o) vs ys H:=by
 obtain⟨hOF,f⟩:=h.disO hR;have hVO:∀b o,V b o/\¬H b->R.OS (λb=>O b/\¬H b) b:=λb o hv=>.inl ⟨hR.vo b o hv.1,hv.2⟩;obtain⟨j1,j2,j3,j4,j5,j6⟩:=hL.joint hVO hs.rel;have hOM:∀b,O b->¬UE R.act.defers b:=λb hb hm=>hOF b hb (.inr hm);have j:w3.heap[R.l]? = some (.loop lob):=(j2 R.l (.inr (.inl rfl))).trans hl2;obtain⟨p1,p2⟩:=hres.poke j (.loop lo1) (j1.own R.l (.inl (.inr (.inl rfl))));have a:∀b,Own (A1 s5.Qw) rho4 b->Wz s4.Qw rho4 a3.defers b:=λb ⟨i,oi,t,hb⟩=>.inl ⟨i,oi,h5 i oi t,hb⟩;have u:∀b off,PvR s5.Qw rho4 b off->PvR s4.Qw rho4 b off:=λb off ⟨i,oi,t,hb,hp⟩=>⟨i,oi,h5 i oi t,hb,hp⟩;have m:∀b off,PvR s5.Qw rho4 b off->Own (A1 s5.Qw) rho4 b:=λb off ⟨i,oi,t,hb,_⟩=>⟨i,oi,t,hb⟩;have hHo:∀b,H b->Wz s4.Qw rho4 a3.defers b:=λb hb=>let ⟨i,o,h1,h2,_⟩:=q b hb;.inl ⟨i,o,h1,h2⟩
 have hHp:∀b off,H b->PvR s4.Qw rho4 b off:=λb off hb=>let ⟨i,o,h1,h2,h3⟩:=q b hb;⟨i,o,h1,h2,h3 off⟩
 have z:∀b,O b->R.OS (λb=>O b/\¬H b) b \/ Wz s4.Qw rho4 a3.defers b:=λb hb=>by
  by_cases c:H b
  .exact .inr (hHo b c)
  exact .inl (.inl ⟨hb,c⟩)
 have v:R.l<w3.heap.size:=(Bz0.1 j).1;have x:∀b off,((C2'.X b off \/ PvR s5.Qw rho4 b off) \/ V b off)->(C3.X b off \/ PvR s4.Qw rho4 b off):=by
  rintro b off ((hx|hx)|hx)
  .exact .inl (by rw[hL.X];exact .inl hx)
  .exact .inr (u b off hx)
  by_cases c:H b
  .exact .inr (hHp b off c)
  exact .inl (by rw[hL.X];exact .inr ⟨hx,c⟩)
 refine⟨{ X:=λb o=>C2'.X b o \/ PvR s5.Qw rho4 b o,w0:=w3.putObj R.l (.loop lo1),E0:=O,Pi0:=λb o=>(C2'.X b o \/ PvR s5.Qw rho4 b o) \/ V b o,rho0:=C.rho0,Y:=λr b=>r=rest1/\b=live1,yv:=C.yv },
  ⟨hL.g,hL.r2,p1,rfl,rfl,?_,λb hb=>j1.own b (z b hb),λb hb=>by rw[BD1];exact j1.lt b (z b hb),BO9 v,j1.own R.l (.inl (.inr (.inl rfl))),λoff=>j1.out R.l off (.inl (.inr (.inl rfl))),f,rfl,h.yv,h.rho,d,hng,hst⟩,
  rfl,rfl,⟨rfl,rfl⟩,rfl,rfl,rfl,⟨Ext.refl _,Bz5 _,λ_ _ _=>rfl,Sc.refl _ _,λb hb=>.inl hb,?_,λb hb=>by rw[BD1];exact j1.lt b (z b hb),?_,hR.vo⟩,?_,?_,?_,j,(hx2.trans j6).trans ⟨rfl,rfl⟩,?_⟩
 .rintro b hb (hF|hF)
  .exact j4 b (.inl ⟨hb,n b hF⟩) (a b hF)
  exact hOM b hb hF
 .rintro b off hb (hx|hx)
  .exact j1.out b off (z b hb) hx
  exact j4 b (.inl ⟨hb,n b (m b off hx)⟩) (a b (m b off hx))
 .rintro b off (hx|hx)
  .rw[BD1];exact j1.bnd b off hx
  rw[BD1];exact hs.rel.lt b (a b (m b off hx))
 .intro b hb c;have y:b≠R.l:=by rintro rfl;exact f hb
  rw[BD7 y,j2 b (.inl ⟨hb,c⟩),hb2 b (.inl ⟨hb,c⟩) y]
 .exact hk2.trans (j3.trans ((Sc.of_imp x).trans (p2 _)))
 .rw[BD1];exact BD9 hs2 j5
 refine hya.keeps ((Sc.of_imp x).trans (p2 _)) λb hb=>BD7 ?_;rintro rfl;exact f (hH _ hb).1
end
section
variable {P:Program}{R:RP P}{C C2:Ctx}{s:St}{rhoA:Nat->Value}{XI V:Nat->Nat->Prop}{w:World}{O:Nat->Prop}
def Bf3 (ps:Array Tmp)(vs:Array Value)(tmps:Array Value):(ps.zip vs).foldl (λtmps (x:Tmp×Value)=>match x with|(t,a)=>tmps.setIfInBounds t a) tmps=(ps.toList.zip vs.toList).foldl (λtmps (q:Nat×Value)=>tmps.setIfInBounds q.1 q.2) tmps:=by rw[<- BQ8,Array.toList_zip]
def Aj6:∀(l:List (Nat×Value)) (tmps:Array Value),(l.foldl (λtmps (q:Nat×Value)=>tmps.setIfInBounds q.1 q.2) tmps).size=tmps.size
 |[],tmps=>rfl
 |q::l,tmps=>by simp only[BL4];rw[Aj6 l];simp
def Z8 (R:RP P)(C2:Ctx)(s:St)(rhoA:Nat->Value)(V:Nat->Nat->Prop)(H:Nat->Prop)(v:Value)(w:World):Ctx:= { X:=λb o=>C2.X b o \/ (V b o/\¬H b),w0:=w,E0:=λb=>Own (A1 s.Qw) rhoA b \/ H b,Pi0:=λb o=>(C2.X b o \/ (V b o/\¬H b)) \/ (PvR s.Qw rhoA b o \/ H b),rho0:=R.rR v,Y:=C2.Y,yv:=C2.yv }
def Aq7 {rest:List (List PV)}{live:Bool}{lo:Loop}(h:InG R C C2 s rhoA XI rest live lo)(hR:Rel C w O V){H:Nat->Prop}(i:∀b,H b->O b/\∀o,V b o)(v:Value)(m1:Sat (C2.plus V) s R.act w rhoA) :LiftG R.pr R.rA (R.rR v) w (Z8 R C2 s rhoA V H v w).Pi0 (R.OS λb=>O b/\¬H b) (λb o=>V b o/\¬H b) (Z8 R C2 s rhoA V H v w) C2 (λb o=>PvR s.Qw rhoA b o \/ H b):=by
 obtain⟨l,m⟩:=h.disO hR;have a:=m1.rel;have c:∀b,O b->C2.E0 b \/ C2.w0.heap.size<=b:=λb hb=>by
  rcases hR.own b hb with h1|h1
  .exact h.oc b h1
  exact .inr (BD9 h.sat.size h1)
 have f:∀b off,O b->¬C2.X b off:=λb off hb d=>hR.out b off hb (by rw[h.X];exact .inl d);refine⟨h.g,h.r2,rfl,rfl,rfl,rfl,rfl,⟨a.ext,a.size,a.same,a.keep.trans (Sc.of_imp ?_),?_,?_,?_,λb off d=>a.bnd b off (.inl d),?_⟩,λb _=>rfl,Sc.refl _ _,?_,Bz5 _,Ext.refl _⟩
 .rintro b o (hp|hp|hp|hp)
  .exact .inl (.inl hp)
  .exact .inl (.inr hp.1)
  .exact .inr hp
  exact .inl (.inr ((i b hp).2 o))
 .rintro b ((hb|rfl|hb)|hb|hb)
  .exact c b hb.1
  .exact h.lown
  .exact a.own b (.inr hb)
  .exact a.own b (.inl hb)
  exact c b (i b hb).1
 .rintro b off ((hb|rfl|hb)|hb|hb) d
  .exact f b off hb.1 d
  .exact h.lX off d
  .exact a.out b off (.inr hb) (.inl d)
  .exact a.out b off (.inl hb) (.inl d)
  exact f b off (i b hb).1 d
 .rintro b ((hb|rfl|hb)|hb|hb)
  .exact hR.lt b hb.1
  .exact BB0 (Bz0.1 h.rl).1 hR.size
  .exact a.lt b (.inr hb)
  .exact a.lt b (.inl hb)
  exact hR.lt b (i b hb).1
 .rintro b o (hb|hb|hb)
  .exact .inl (.inl ⟨hR.vo b o hb.1,hb.2⟩)
  .obtain⟨j,oj,t,n,_⟩:=hb;exact .inr (.inl ⟨j,oj,t,n⟩)
  exact .inr (.inr hb)
 rintro b (hb|rfl|hb) (c|q)
 .exact l b hb.1 (.inl c)
 .exact hb.2 q
 .exact h.sat.loop_not_own h.rl (.inl c)
 .exact m (i _ q).1
 .obtain⟨r,h1,_,u,_⟩:=m1.marks.2 _ hb;cases h1;exact m1.own_not c u (λ_ _ _ e=>by cases e) (λ_ _ e=>by cases e) (λ_ _ _ _ e=>by cases e)
 exact l b (i b q).1 (.inr hb)
def ZI (f:R.act.tmps.size=R.n)(l:∀t∈R.ps.toList,t<R.n)(hgl:R.gh<1000)(m:R.jl=none)(x:R.ts.Nodup){rest:List (List PV)}{live:Bool}{lo:Loop}(h:InG R C C2 s rhoA XI rest live lo)(m1:Sat (C2.plus V) s R.act w rhoA){H:Nat->Prop}(y:∀b,¬H b)
 {ys:List PV}{vs:Array Value}(v:Value) (a:ys.length=R.ps.size) (z:vs.size=ys.length) (hv:∀i,i<ys.length->Sd w (Prv (C2.plus V).X (A1 s.Qw) rhoA) (vs.getD i undef) (ys.getD i default)) :
 Sat (Z8 R C2 s rhoA V H v w) ⟨Oz R.ps.toList ys s.env,ins R.gh (.ghost (s.env.map (·.2))) s.Qw⟩ { tmps:=(R.ps.toList.zip vs.toList).foldl (λtmps (q:Nat×Value)=>tmps.setIfInBounds q.1 q.2) R.act.tmps,defers:=[] } w
  (λi=>if i=R.gh then .tuple (GY R.ts R.act.tmps)else rhoA i):=by
 have c:(s.env.map (·.1)).Nodup:=by rw[h.keys];exact x
 have g:(Z8 R C2 s rhoA V H v w).X=(C2.plus V).X:=by funext b o;show (C2.X b o \/ (V b o/\¬H b))=(C2.X b o \/ V b o);simp[y b]
 have a0:SatE (Z8 R C2 s rhoA V H v w) s.Qw w rhoA:=⟨by rw[g];exact m1.hp,Ext.refl _,Bz5 _,λ_ _ _=>rfl,by
  refine Sc.of_imp ?_;rintro b o (hp|hp)
  .exact .inl hp
  exact .inr (.inl hp),λb hb=>.inl (.inl hb),m1.yld⟩
 obtain⟨g1,g2,g3⟩:=a0.add (R':=ins R.gh (.ghost (s.env.map (·.2))) s.Qw) h.ng (o:=.ghost (s.env.map (·.2))) (v:=.tuple (GY R.ts R.act.tmps)) (λu b h=>by cases h)
  (λi=>by rw[A3];by_cases e:i=R.gh<;>simp[e,eq_comm])
  (λhk hl=>⟨_,rfl,by rw[Tt,<- h.keys];simp,λi hi=>by
   have hi' : i<(s.env.map (·.1)).length:=by simpa using hi
   obtain⟨t,ht⟩:∃t,(s.env.map (·.1))[i]? = some t:=⟨_,By7 hi'⟩;have ht' : R.ts[i]? = some t:=by rw[<- h.keys];exact ht
   rw[LU ht', <- (UL s.env t c).1 i ht];rw[g]at hk;exact (m1.env t).keeps (by rw[g];exact hk) hl⟩)
  (λr b he=>by cases he)
 have hk:Sc w (Prv (C2.plus V).X (A1 s.Qw) rhoA) w (Prv (Z8 R C2 s rhoA V H v w).X (A1 (ins R.gh (.ghost (s.env.map (·.2))) s.Qw)) (λi=>if i=R.gh then .tuple (GY R.ts R.act.tmps)else rhoA i)):=
  Sc.of_imp λb o hp=>by rw[<- g];exact (g2 b o).1 hp
 refine⟨g1,?_,?_,BG8,λd hd=>by simp at hd⟩
 .refine PJ R.ps.toList ys vs.toList s.env R.act.tmps (by simp[a]) (by simp[z,a]) (λt ht=>by rw[f];exact l t ht) (λt=>(m1.env t).keeps hk g3) (λi hi=>?_)
  have:=(hv i hi).keeps hk
  simpa[By2,By3]using this
 intro j hj hl;show (if j=R.gh then Value.tuple (GY R.ts R.act.tmps)else rhoA j)=R.rR v j;unfold RP.rR;by_cases e:j=R.gh
 .simp[e]
 simp only[e,Ld,m];have hl' : Lv (A1 s.Qw) j:=by simp only[Lv,A3]at hl;rw[Hj (BC5 e)]at hl;exact hl
 rw[m1.pin j hj hl'];show C2.rho0 j=R.rA j;rw[h.r2]
def Xe (a8:R.act.tmps.size=R.n)(hps:∀t∈R.ps.toList,t<R.n)(hgl:R.gh<1000){jl:Nat}(a9:R.jl=some jl)(a2:jl≠R.gh)(hjs:A1 s.Qw jl=none)(hts:R.ts.Nodup){rest:List (List PV)}{live:Bool}{lo:Loop}(h:InG R C C2 s rhoA XI rest live lo)(m1:Sat (C2.plus V) s R.act w rhoA)(hR:Rel C w O V){H:Nat->Prop}(hH:∀b,H b->O b/\∀o,V b o)
 {v:Value}{e:TypeId}{k n:Nat}{f:Nat->List PV}(a4:R.ps.size=1) (z:∀b,H b↔N1 v (.vec e k n f false)=some b) (hv:HoldsC w (λb o=>C.X b o \/ V b o) (λ_=>False) (λ_=>undef) v (.vec e k n f false)) :
 Sat (Z8 R C2 s rhoA V H v w) ⟨ins (R.ps.getD 0 0) (.vec jl) s.env,ins jl (.vec e k n f false) (ins R.gh (.ghost (s.env.map (·.2))) s.Qw)⟩ { tmps:=(R.ps.toList.zip (#[v]:Array Value).toList).foldl (λtmps (q:Nat×Value)=>tmps.setIfInBounds q.1 q.2) R.act.tmps,defers:=[] } w
  (λi=>if i=R.gh then .tuple (GY R.ts R.act.tmps)else if i=jl then v else rhoA i):=by
 have a5:(s.env.map (·.1)).Nodup:=by rw[h.keys];exact hts
 have g:∀i o,A1 (ins jl (.vec e k n f false) s.Qw) i=some o->(i=jl/\o=.vec e k n f false) \/ (i≠jl/\A1 s.Qw i=some o):=by
  intro i o a;rw[A3]at a;split at a
  .rename_i e;cases a;exact .inl ⟨e.symm,rfl⟩
  rename_i e;exact .inr ⟨λe'=>e e'.symm,a⟩
 have x:∀i,Lv (A1 s.Qw) i->Lv (A1 (ins jl (.vec e k n f false) s.Qw)) i/\(if i=jl then v else rhoA i)=rhoA i:=by
  intro i a;have e:i≠jl:=by rintro rfl;simp[Lv,hjs]at a
  simp only[Lv,A3,Hj (BC5 e),Hj e];exact⟨a,trivial⟩
 have b0:∀b off,Prv (Z8 R C2 s rhoA V H v w).X (A1 (ins jl (.vec e k n f false) s.Qw)) (λi=>if i=jl then v else rhoA i) b off->Prv (C2.plus V).X (A1 s.Qw) rhoA b off:=by
  rintro b off ((y|y)|⟨i,o,a,hb,hp⟩)
  .exact .inl (.inl y)
  .exact .inl (.inr y.1)
  rcases g i o a with⟨rfl,rfl⟩ | ⟨m,a⟩
  .simp only[Lc]at hb;exact .inl (.inr ((hH b ((z b).2 hb)).2 off))
  simp only[Hj m]at hb;exact .inr ⟨i,o,a,hb,hp⟩
 have a6:=Sc.of_imp (w:=w) b0;have b1:∀i o b,A1 s.Qw i=some o->E5 (rhoA i) o b->¬H b:=λi o b a hb hh=>m1.hp.out i o b 0 a hb (.inr ((hH b hh).2 0));have hE0:SatE (Z8 R C2 s rhoA V H v w) (ins jl (.vec e k n f false) s.Qw) w (λi=>if i=jl then v else rhoA i):=by
  refine⟨⟨?_,?_,?_,?_⟩,Ext.refl _,Bz5 _,λ_ _ _=>rfl,Sc.of_imp ?_,?_,?_⟩
  .intro i o a;rcases g i o a with⟨rfl,rfl⟩ | ⟨m,a⟩
   .simp only[Lc];refine hv.vec (Sc.of_imp λb o hp=>?_) λ_ _=>rfl;rw[h.X];rcases b0 b o hp with (hp|hp)|hp
    .exact .inl (.inl hp)
    .exact .inr hp
    exact .inl (.inr hp)
   simp only[Hj m];exact (m1.hp.holds i o a).keeps a6 x λb _=>rfl
  .intro i i' oi oj b a a3 hb a0;rcases g i oi a with⟨h1,h2⟩ | ⟨m,b2⟩
   .rcases g i' oj a3 with⟨h3,h4⟩ | ⟨a1,a7⟩
    .rw[h1,h3]
    rw[Gy h1,h2]at hb;rw[Hj a1]at a0;exact Ij ((z b).2 hb) (b1 i' oj b a7 a0)
   rw[Hj m]at hb;rcases g i' oj a3 with⟨h3,h4⟩ | ⟨a1,a7⟩
   .rw[Gy h3,h4]at a0;exact Ij ((z b).2 a0) (b1 i oi b b2 hb)
   rw[Hj a1]at a0;exact m1.hp.sep i i' oi oj b b2 a7 hb a0
  .intro i o b off a hb y;rcases g i o a with⟨rfl,rfl⟩ | ⟨m,a⟩
   .simp only[Lc]at hb;have hh:=(z b).2 hb;rcases y with y|y
    .exact hR.out b off (hH b hh).1 (by rw[h.X];exact .inl y)
    exact y.2 hh
   simp only[Hj m]at hb;refine m1.hp.out i o b off a hb ?_;rcases y with y|y
   .exact .inl y
   exact .inr y.1
  .rintro b off (y|y)
   .exact m1.hp.bound b off (.inl y)
   exact m1.hp.bound b off (.inr y.1)
  .rintro b off (y|⟨i,o,a,hb,hp⟩)
   .exact .inl y
   rcases g i o a with⟨rfl,rfl⟩ | ⟨m,a⟩
   .simp only[Lc]at hb;exact .inr (.inr ((z b).2 hb))
   simp only[Hj m]at hb;exact .inr (.inl ⟨i,o,a,hb,hp⟩)
  .rintro b ⟨i,o,a,hb⟩;rcases g i o a with⟨rfl,rfl⟩ | ⟨m,a⟩
   .simp only[Lc]at hb;exact .inl (.inr ((z b).2 hb))
   simp only[Hj m]at hb;exact .inl (.inl ⟨i,o,a,hb⟩)
  intro i r b a;rcases g i _ a with⟨_,he⟩ | ⟨m,a⟩
  .cases he
  simp only[Hj m];exact m1.yld i r b a
 obtain⟨g1,g2,g3⟩:=hE0.add (R':=ins jl (.vec e k n f false) (ins R.gh (.ghost (s.env.map (·.2))) s.Qw)) (j:=R.gh) (by rw[A3,Hj a2];exact h.ng) (o:=.ghost (s.env.map (·.2))) (v:=.tuple (GY R.ts R.act.tmps)) (λu b h=>by cases h)
  (λi=>by
   rw[A3,A3,A3];by_cases e1:i=R.gh
   .subst e1;simp[a2]
   by_cases e2:i=jl
   .subst e2;simp[a2]
   simp[e1,BC5 e1,BC5 e2])
  (λhk hl=>⟨_,rfl,by rw[Tt,<- h.keys];simp,λi a=>by
   have a3 : i<(s.env.map (·.1)).length:=by simpa using a
   obtain⟨t,ht⟩:∃t,(s.env.map (·.1))[i]? = some t:=⟨_,By7 a3⟩;have ht' : R.ts[i]? = some t:=by rw[<- h.keys];exact ht
   rw[LU ht', <- (UL s.env t a5).1 i ht];exact ((m1.env t).keeps a6 x).keeps hk hl⟩)
  (λr b he=>by cases he)
 have hk1:Sc w (Prv (C2.plus V).X (A1 s.Qw) rhoA) w (Prv (Z8 R C2 s rhoA V H v w).X (A1 (ins jl (.vec e k n f false) (ins R.gh (.ghost (s.env.map (·.2))) s.Qw))) (λi=>if i=R.gh then .tuple (GY R.ts R.act.tmps)else if i=jl then v else rhoA i)):=
  a6.trans (Sc.of_imp λb o hp=>(g2 b o).1 hp)
 have hl1:∀i,Lv (A1 s.Qw) i->Lv (A1 (ins jl (.vec e k n f false) (ins R.gh (.ghost (s.env.map (·.2))) s.Qw))) i/\(if i=R.gh then Value.tuple (GY R.ts R.act.tmps)else if i=jl then v else rhoA i)=rhoA i:=λi a=>
  ⟨(g3 i (x i a).1).1,(g3 i (x i a).1).2.trans (x i a).2⟩
 refine⟨g1,?_,?_,BG8,λd hd=>by simp at hd⟩
 .obtain⟨p,hp⟩:∃p,R.ps = #[p]:=by
   generalize R.ps=ps at a4;obtain⟨l⟩:=ps
   match l,a4 with
   |[p],_=>exact⟨p,rfl⟩
  intro t;show Sq w _ _ _ (Array.getD _ t undef) (get (ins (R.ps.getD 0 0) (.vec jl) s.env) t);have hpn:p<R.act.tmps.size:=by rw[a8];exact hps p (by simp[hp])
  simp only[hp,BR0,List.zip_nil_right,BL4,List.foldl_nil];rw[MT];by_cases e1:p=t
  .subst e1;rw[Gy (by simp)];have e2:(R.act.tmps.setIfInBounds p v).getD p undef=v:=by simp[By2,hpn]
   rw[e2];have b3:Lv (A1 (ins jl (.vec e k n f false) (ins R.gh (.ghost (s.env.map (·.2))) s.Qw))) jl:=by simp[Lv,A3]
   have b4:(if jl=R.gh then Value.tuple (GY R.ts R.act.tmps)else if jl=jl then v else rhoA jl)=v:=by simp[a2]
   rcases hv with⟨rfl,_⟩ | ⟨b,cap,c,rfl,_⟩
   .exact .vec jl none 0 0 b3 b4
   exact .vec jl _ _ _ b3 b4
  rw[Hj (by simpa using e1)];have e2:(R.act.tmps.setIfInBounds p v).getD t undef=R.act.tmps.getD t undef:=by simp[By2,e1]
  rw[e2];exact (m1.env t).keeps hk1 hl1
 intro j hj hl;show (if j=R.gh then Value.tuple (GY R.ts R.act.tmps)else if j=jl then v else rhoA j)=R.rR v j;unfold RP.rR;by_cases e1:j=R.gh
 .simp[e1]
 by_cases e2:j=jl
 .simp[e1,e2,a9]
 simp only[e1,e2,Ld,a9,By4,BC5 e2];have hl' : Lv (A1 s.Qw) j:=by simp only[Lv,A3]at hl;rw[Hj (BC5 e2),Hj (BC5 e1)]at hl;exact hl
 rw[m1.pin j hj hl'];show C2.rho0 j=R.rA j;rw[h.r2]
def InG.marks {rest:List (List PV)}{live:Bool}{lo:Loop}(h:InG R C C2 s rhoA XI rest live lo)(hR:Rel C w O V){w2:World}{OS:Nat->Prop}(a:∀b,R.OS OS b->b≠R.l->w2.heap[b]? = w.heap[b]?):R.act.defers.Nodup/\∀d∈R.act.defers,∃r,d={ target:=.collected r,args:=#[] }/\w2.heap[r]? = some (.deferred (some [])):=by
 refine⟨h.sat.marks.1,λd c=>?_⟩;obtain⟨r,h1,_,f,_⟩:=h.sat.marks.2 d c;have hm:UE R.act.defers r:=by unfold UE;rw[<- h1];exact c
 refine⟨r,h1,?_⟩;rw[a r (.inr (.inr hm)) (by rintro rfl;exact h.sat.loop_not_own h.rl (.inr hm)),hR.same r (Bz0.1 f).1 (λg=>h.dis r g (.inr hm))];exact f
def RP.nx (R:RP P)(rest:List (List PV))(e:JN)(s:St):Prop:=match e with
 |.normal=>R.I rest s
 |e=>R.Q e s
def Tu (casg:Ig P R.n R.asg)(cbody:Ig P R.n R.body){H:Nat->Prop}(hH:∀b,H b->O b/\∀o,V b o){v:Value}{QQ:J3}{En:JN->St->Prop}{s0:St}{rho0:Nat->Value}{tm:Array Value}
 {ys:List PV}{rest:List (List PV)}{vs:Array Value}(h:InG R C C2 s rhoA XI (ys::rest) true (R.lo .ready none)) (hlens:∀z∈rest,Bn4 R.jl R.ps.size z) (hR:Rel C w O V) (m1:Sat (C2.plus V) s R.act w rhoA) (hl:w.heap[R.l]? = some (.loop (R.lo .ready none)))
 (hT:∀b o,Prv (C2.plus V).X (A1 s.Qw) rhoA b o↔(C.X b o \/ V b o)) (hsz:vs.size=R.ps.size) (htm:tm=(R.ps.toList.zip vs.toList).foldl (λtmps (q:Nat×Value)=>tmps.setIfInBounds q.1 q.2) R.act.tmps) (hact:R.act.tmps.size=R.n)
 (hs0:Sat (Z8 R C2 s rhoA V H v w) s0 { tmps:=tm,defers:=[] } w rho0)
 (hrun:awp (Gj P) P R.asg (λe s'=>match e with | .normal=>semUp s' λs'=>awp (Gj P) P R.body QQ s' | _=>False) s0)
 (u:∀e s',QQ e s' -> match e with | .panic _=>False|e=>semUp s' (En e))
 (hfin:∀(e:JN) (w2:World) (TS:Nat->Nat->Prop) (C3 C2' : Ctx) (V0:Nat->Nat->Prop) (s4:St) (a3:Act) (w3:World) (rho4:Nat->Value),LiftG R.pr R.rA (R.rR v) w2 TS (R.OS λb=>O b/\¬H b) (λb o=>V b o/\¬H b) C3 C2' V0->Sat C3 s4 a3 w3 rho4 ->
  (R.act.defers.Nodup/\∀d∈R.act.defers,∃r,d={ target:=.collected r,args:=#[] }/\w2.heap[r]? = some (.deferred (some [])))->Sc w (λb o=>C.X b o \/ V b o) w3 (λb o=>C3.X b o \/ PvR s4.Qw rho4 b o)->En e s4 ->
  ∃s5,Sat (C2'.plus V) s5 R.act w3 rho4/\s5.env.map (·.1)=R.ts/\A1 s5.Qw R.gh=none/\(∀i o,A1 s5.Qw i=some o->A1 s4.Qw i=some o)/\(∀b,Own (A1 s5.Qw) rho4 b->¬H b) /\
   (∀b,H b->∃i o,A1 s4.Qw i=some o/\E5 (rho4 i) o b/\∀off,JY o off)/\YArg w3 (λb o=>C3.X b o \/ PvR s4.Qw rho4 b o) vs ys H/\R.nx rest e s5) :
 Be9 P C.yv vs w λb w'=>∃C',(∃C2 s rhoA XI rest live lo,InG R C' C2 s rhoA XI rest live lo)/\C'.yv=C.yv/\C'.rho0=C.rho0/\C'.Y (if b then rest else []) b/\C'.w0=w' /\ C'.E0=O/\(C'.Pi0=λb o=>C'.X b o \/ V b o)/\Rel C' w' O V /\
  (∀b,O b->¬H b->w'.heap[b]? = w.heap[b]?)/\Sc w (λb o=>C.X b o \/ V b o) w' (λb o=>C'.X b o \/ V b o)/\w.heap.size<=w'.heap.size/\Ext w w' /\ YArg w' (λb o=>C'.X b o \/ V b o) vs ys H:=by
 have f:∀b o,V b o/\¬H b->R.OS (λb=>O b/\¬H b) b:=λb o hv=>.inl ⟨hR.vo b o hv.1,hv.2⟩;refine⟨R.l,R.fn,_,R.asg,R.body,h.yv,run_yield hl (by simp[RP.lo];omega),?_⟩;refine roundIn_of_wpIn trivial ?_;show R.asg.wpIn (FW (some R.l)) 0 P _ { tmps:=(R.ps.zip vs).foldl (λtmps (x:Tmp×Value)=>match x with|(t,a)=>tmps.setIfInBounds t a) R.act.tmps,defers:=[] } w;rw[Bf3,<- htm];have htms:tm.size=R.n:=by rw[htm];exact (Aj6 _ _).trans hact
 have hL0:=Aq7 h hR hH v m1;have hro1:Bl9 (R.pr.lift R.rA (R.rR v) w (Z8 R C2 s rhoA V H v w).Pi0 (R.OS λb=>O b/\¬H b) (λb o=>V b o/\¬H b) f) (some R.l):=by rintro l' hl' C' ⟨C2',V0,hL⟩;cases hl';exact⟨_,(hL.os R.l (.inr (.inl rfl))).trans hl,hL.dis R.l (.inr (.inl rfl))⟩
 refine wpIn_mono (casg (R.pr.lift R.rA (R.rR v) w (Z8 R C2 s rhoA V H v w).Pi0 (R.OS λb=>O b/\¬H b) (λb o=>V b o/\¬H b) f) (some R.l) hro1 _ _ _ _ w _ ⟨C2,_,hL0⟩ hs0 htms hrun) ?_;intro e a1 w1 m;cases e with
 |exit id=>obtain⟨_,_,_,_,_,_,hf⟩:=m;exact hf.elim
 |goto t=>obtain⟨_,_,_,_,_,_,hf⟩:=m;exact hf.elim
 |ret=>obtain⟨_,_,_,_,_,_,hf⟩:=m;exact hf.elim
 |panic ch=>obtain⟨_,_,_,_,_,_,_,_,_,_,hf⟩:=m;exact hf.elim
 |outgrown=>exact m.elim
 |normal=>
  obtain⟨C1,s1',rho1',⟨C2',V1,j⟩,hs1',hsz1,hu⟩:=m;obtain⟨s1,rho1,hw1,_,hs1⟩:=hu C1 a1 w1 rho1' hs1';obtain⟨j1,j2,j3,j4,j5,j6⟩:=j.joint f hs1.rel;have y:w1.heap[R.l]? = some (.loop (R.lo .ready none)):=(j2 R.l (.inr (.inl rfl))).trans hl;refine⟨w1.putObj R.l (.loop (R.lo .busy none)),run_beginRound y rfl,?_⟩;have hsB:=hs1.pokeFresh y (.loop (R.lo .busy none));have hl2:(w1.putObj R.l (.loop (R.lo .busy none))).heap[R.l]? = some (.loop (R.lo .busy none)):=BO9 (Bz0.1 y).1;have hLB:LiftG R.pr R.rA (R.rR v) (w1.putObj R.l (.loop (R.lo .busy none))) (Prv C1.X (A1 s1.Qw) rho1) (R.OS λb=>O b/\¬H b) (λb o=>V b o/\¬H b) (C1.fresh (w1.putObj R.l (.loop (R.lo .busy none))) (Wz s1.Qw rho1 a1.defers) (Prv C1.X (A1 s1.Qw) rho1)) C2' (PvR s1.Qw rho1):=
   ⟨j.g,j.r2,j.X,j.Y,j.yv,j.rho,rfl,j1.poke y (.inl (.inr (.inl rfl))) _,λb _=>rfl,Sc.refl _ _,j4,Bz5 _,Ext.refl _⟩
  have hro2:Bl9 (R.pr.lift R.rA (R.rR v) (w1.putObj R.l (.loop (R.lo .busy none))) (Prv C1.X (A1 s1.Qw) rho1) (R.OS λb=>O b/\¬H b) (λb o=>V b o/\¬H b) f) (some R.l):=by rintro l' hl' C' ⟨C2',V0,hL⟩;cases hl';exact⟨_,(hL.os R.l (.inr (.inl rfl))).trans hl2,hL.dis R.l (.inr (.inl rfl))⟩
  have hk2:Sc w (λb o=>C.X b o \/ V b o) (w1.putObj R.l (.loop (R.lo .busy none))) (Prv C1.X (A1 s1.Qw) rho1):=by
   refine (Sc.of_imp λb o hp=>?_:Sc w _ w (Z8 R C2 s rhoA V H v w).Pi0).trans (j3.trans λb o v hp hc=>⟨?_,hp⟩)
   .rcases hp with (hp|hp)|hp|hp
    .exact (hT b o).1 (.inl (.inl hp))
    .exact .inr hp.1
    .exact (hT b o).1 (.inr hp)
    exact .inr ((hH b hp).2 o)
   rw[<- hc];refine BC8 (BD7 ?_);rintro rfl;simp[World.cell?,y]at hc
  have hb2:∀b,R.OS (λb=>O b/\¬H b) b->b≠R.l->(w1.putObj R.l (.loop (R.lo .busy none))).heap[b]? = w.heap[b]?:=λb hb hne=>(BD7 hne).trans (j2 b hb);have hs2:w.heap.size<=(w1.putObj R.l (.loop (R.lo .busy none))).heap.size:=by rw[BD1];exact j5
  have hx2:Ext w (w1.putObj R.l (.loop (R.lo .busy none))):=j6.trans ⟨rfl,rfl⟩;have hmk:=h.marks hR hb2;show R.body.wpIn (FW (some R.l)) 0 P _ a1 _;refine wpIn_mono (cbody (R.pr.lift R.rA (R.rR v) (w1.putObj R.l (.loop (R.lo .busy none))) (Prv C1.X (A1 s1.Qw) rho1) (R.OS λb=>O b/\¬H b) (λb o=>V b o/\¬H b) f) (some R.l) hro2 _ _ _ _ _ _ ⟨C2',_,hLB⟩ hsB hsz1 hw1) ?_;have fin:∀(e:JN) (rest1:List (List PV)) (live1:Bool) (pe:Option Code) (lo1:Loop) (a3:Act) (w3:World),(∀s5,R.nx rest e s5->R.stOk s5 rest1 live1 lo1)->(∀w3:World,w3.heap[R.l]? = some (.loop (R.lo .busy none))->(Instr.endRound R.l pe).run P w3=.ok (.bool live1) (w3.putObj R.l (.loop lo1))) ->
   (rest1=if live1 then rest else [])->NextOk (R.pr.lift R.rA (R.rR v) (w1.putObj R.l (.loop (R.lo .busy none))) (Prv C1.X (A1 s1.Qw) rho1) (R.OS λb=>O b/\¬H b) (λb o=>V b o/\¬H b) f) R.n (λs=>semUp s (En e)) a3 w3 ->
   ∃v w',(Instr.endRound R.l pe).run P w3=.ok v w' /\ ∃b:Bool,Ending.returned v=.returned (.bool b)/\∃C',(∃C2 s rhoA XI rest live lo,InG R C' C2 s rhoA XI rest live lo)/\C'.yv=C.yv/\C'.rho0=C.rho0/\C'.Y (if b then rest else []) b/\C'.w0=w' /\ C'.E0=O/\(C'.Pi0=λb o=>C'.X b o \/ V b o)/\Rel C' w' O V /\
    (∀b,O b->¬H b->w'.heap[b]? = w.heap[b]?)/\Sc w (λb o=>C.X b o \/ V b o) w' (λb o=>C'.X b o \/ V b o)/\w.heap.size<=w'.heap.size/\Ext w w' /\ YArg w' (λb o=>C'.X b o \/ V b o) vs ys H:=by
   rintro e rest1 live1 pe lo1 a3 w3 hst hrunE hrest ⟨C3,s3,rho3,⟨C2f,V3,hL3⟩,hs3,hsz3,hu3⟩;obtain⟨s4,rho4,hEn,_,hs4⟩:=hu3 C3 a3 w3 rho3 hs3;obtain⟨_,_,k3,_,_,_⟩:=hL3.joint f hs4.rel;obtain⟨s5,q1,q2,q3,q4,q5,q6,q7,q8⟩:=hfin e _ _ C3 C2f V3 s4 a3 w3 rho4 hL3 hs4 hmk (hk2.trans k3) hEn;obtain⟨C',f1,f2,f3,f4,f5,f6,f7,f8,f9,f10,f11,f12,f13,f14⟩:=Bp0 h hR hH hL3 hs4 q1 q2 q3 q4 q5 q6 q7 hk2 hb2 hs2 hx2 hl2 (hst s5 q8);exact⟨.bool live1,_,hrunE w3 f12,live1,rfl,C',⟨_,_,_,_,_,_,_,f1⟩,f2,f3,hrest ▸ f4,f5,f6,f7,f8,f9,f10,f11,f13,f14⟩
  have jmp:∀(e:JN) (c:Code) (a3:Act) (w3:World),AZ0 e c->(∀s5,R.nx rest e s5->R.Q e s5)->NextOk (R.pr.lift R.rA (R.rR v) (w1.putObj R.l (.loop (R.lo .busy none))) (Prv C1.X (A1 s1.Qw) rho1) (R.OS λb=>O b/\¬H b) (λb o=>V b o/\¬H b) f) R.n (λs=>semUp s (En e)) a3 w3->_:=
   λe c a3 w3 hj hq hn=>fin e [] false (some c) (R.lo .done (some c)) a3 w3 (λs5 hs5=>.inr ⟨rfl,rfl,c,e,rfl,hj,hq s5 hs5⟩) (λw3 hw=>run_endRound (some c) hw) rfl hn
  intro e a3 w3 m;have up:∀e',(∀s',QQ e' s' -> semUp s' (En e'))->NextOk (R.pr.lift R.rA (R.rR v) (w1.putObj R.l (.loop (R.lo .busy none))) (Prv C1.X (A1 s1.Qw) rho1) (R.OS λb=>O b/\¬H b) (λb o=>V b o/\¬H b) f) R.n (QQ e') a3 w3->NextOk (R.pr.lift R.rA (R.rR v) (w1.putObj R.l (.loop (R.lo .busy none))) (Prv C1.X (A1 s1.Qw) rho1) (R.OS λb=>O b/\¬H b) (λb o=>V b o/\¬H b) f) R.n (λs=>semUp s (En e')) a3 w3:=
   λe' hq ⟨C3,s3,rho3,hg,hs3,hsz3,hu3⟩=>⟨C3,s3,rho3,hg,hs3,hsz3,hq _ hu3⟩
  cases e with
  |normal=>exact fin .normal rest true none (R.lo .ready none) a3 w3 (λs5 hs5=>.inl ⟨rfl,rfl,hs5,hlens⟩) (λw3 hw=>run_endRound none hw) rfl (up .normal (λs' hq=>u .normal s' hq) m)
  |ret=>exact jmp .ret .ret a3 w3 rfl (λ_ h=>h) (up .ret (λs' hq=>u .ret s' hq) m)
  |exit id=>exact jmp (.exit id) (.exit id) a3 w3 rfl (λ_ h=>h) (up (.exit id) (λs' hq=>u (.exit id) s' hq) m)
  |goto t=>exact jmp (.goto t) (.goto t) a3 w3 rfl (λ_ h=>h) (up (.goto t) (λs' hq=>u (.goto t) s' hq) m)
  |panic ch=>obtain⟨_,s3,_,_,x,_,_,_,_,_,hf⟩:=m;exact (u (.panic _) _ hf).elim
  |outgrown=>exact m.elim
def UM {ys:List PV}{m:Nat}(h:AH ys=some m):Az3 ys=none/\ys.length=m:=by
 unfold AH at h;split at h
 .rename_i a;exact⟨a,by simpa using h⟩
 cases h
def ZJ (q:R.act.tmps.size=R.n)(hps:∀t∈R.ps.toList,t<R.n)(a1:R.gh<1000)(a2:R.ts.Nodup)(casg:Ig P R.n R.asg)(cbody:Ig P R.n R.body)
 (a4:∀ys rest s,s.env.map (·.1)=R.ts->A1 s.Qw R.gh=none->R.I (ys::rest) s->Az5 (Gj P) R.jl R.gh R.ts R.ps (awp (Gj P) P R.asg) (awp (Gj P) P R.body) (R.I rest) R.Q ys s)
 {ys:List PV}{rest:List (List PV)}{lo:Loop}{vs:Array Value}{H:Nat->Prop}(h:InG R C C2 s rhoA XI (ys::rest) true lo) (hR:Rel C w O V) (hH:∀b,H b->O b/\∀o,V b o) (r:YArg w (λb o=>C.X b o \/ V b o) vs ys H) :
 Be9 P C.yv vs w λb w'=>∃C',(∃C2 s rhoA XI rest live lo,InG R C' C2 s rhoA XI rest live lo)/\C'.yv=C.yv/\C'.rho0=C.rho0/\C'.Y (if b then rest else []) b/\C'.w0=w' /\ C'.E0=O/\(C'.Pi0=λb o=>C'.X b o \/ V b o)/\Rel C' w' O V /\
  (∀b,O b->¬H b->w'.heap[b]? = w.heap[b]?)/\Sc w (λb o=>C.X b o \/ V b o) w' (λb o=>C'.X b o \/ V b o)/\w.heap.size<=w'.heap.size/\Ext w w' /\ YArg w' (λb o=>C'.X b o \/ V b o) vs ys H:=by
 obtain⟨a9,hI,a⟩:lo=R.lo .ready none/\R.I (ys::rest) s/\∀z∈ys::rest,Bn4 R.jl R.ps.size z:=by
  rcases h.st with⟨_,a9,hI,a⟩ | ⟨hf,_⟩
  .exact⟨a9,hI,a⟩
  cases hf
 subst a9;have a5:=a ys (by simp);have u : ∀z∈rest,Bn4 R.jl R.ps.size z:=λz hz=>a z (BB4 _ hz);obtain⟨m1,m2,m3⟩:=h.sat.moves rfl h.X h.pi hR h.dis h.oc;have hllt:R.l<C.w0.heap.size:=(Bz0.1 h.rl).1;have hl:w.heap[R.l]? = some (.loop (R.lo .ready none)):=(m3 R.l hllt h.lE).trans h.rl;have hT:∀b o,Prv (C2.plus V).X (A1 s.Qw) rhoA b o↔(C.X b o \/ V b o):=by
  intro b o;rw[h.X];show ((C2.X b o \/ V b o) \/ PvR s.Qw rhoA b o)↔((C2.X b o \/ PvR s.Qw rhoA b o) \/ V b o);constructor
  .rintro ((h|h)|h)
   .exact .inl (.inl h)
   .exact .inr h
   exact .inl (.inr h)
  rintro ((h|h)|h)
  .exact .inl (.inl h)
  .exact .inr h
  exact .inl (.inr h)
 have x:=a4 ys rest s h.keys h.ng hI;have hOF:=(h.disO hR).1;have hmV:∀b off,UE R.act.defers b->¬(V b off/\¬H b):=λb off hm r=>hOF b (hR.vo b off r.1) (.inr hm);have hVO:∀b o,V b o/\¬H b->R.OS (λb=>O b/\¬H b) b:=λb o r=>.inl ⟨hR.vo b o r.1,r.2⟩;cases m:R.jl with
 |none=>
  rw[m]at a5 x;obtain⟨hnl,g⟩:=UM a5;rcases r with⟨hn,b0,r⟩ | ⟨v,e,k,n,f,rfl,rfl,_⟩
  .have hVe:(λb o=>V b o/\¬H b)=V:=by funext b o;simp[hn b]
   refine Tu casg cbody hH (v:=undef) (En:=λe s4=>∃cs,A1 s4.Qw R.gh=some (.ghost cs)/\cs.length=R.ts.length/\A1 (del R.gh s4.Qw) R.gh=none/\R.nx rest e ⟨X7 R.ts cs,del R.gh s4.Qw⟩) h u hR m1 hl hT (b0.trans g) rfl q
    (ZI q hps a1 m a2 h m1 hn undef g b0 (λi d=>(r i d).keeps (Sc.of_imp λb o hp=>(hT b o).1 hp))) x (λe s' hq=>?_) ?_
   .cases e<;>exact hq
   rintro e w2 TS C3 C2' V0 s4 a3 w3 rho4 hL3 a6 hmk hkk ⟨cs,hgh,a7,y,hq⟩;have hres:=Bo9 hVO hL3 a6 hgh a7 y a1 a2 (a':=R.act) (by simp[RP.rR]) (λj hj=>by simp[RP.rR,hj,m]) hmk (λb hm=>.inr (.inr hm)) hmV;rw[hVe]at hres;refine⟨_,hres,Nb _ _ a7.symm,y,λi o d=>?_,λb _=>hn b,λb hb=>Ij hb (hn b),.inl ⟨hn,b0,λi d=>(r i d).keeps hkk⟩,?_⟩
   .have e:i≠R.gh:=by rintro rfl;rw[y]at d;cases d
    rw[<- GX e];exact d
   exact hq
  simp[Az3,Ut]at hnl
 |some jl=>
  rw[m]at a5 x;obtain⟨g,e,k,n,f,rfl⟩:=a5;obtain⟨⟨hj1,hj2,hj3⟩,x⟩:=x;rcases r with⟨_,_,r⟩ | ⟨v,e',k',n',f',rfl,hy,a0,r⟩
  .have h0:=r 0 (by simp[Ut]);simp only[Ut,BL2]at h0;exfalso;generalize vs.getD 0 undef=vv at h0;cases h0 with
   |agg vs cs hs h1 h2=>
    have h3:=h2 0 (by simp);simp only[BL2]at h3;generalize Array.getD _ 0 undef=v3 at h3;cases h3 with
    |sl _ b off cap _ _ _ c hn hk hc h sp hsp=>have:=hk 0 (by omega);simp at this
  simp only[Ut,BD6,PV.agg.injEq,PV.iface.injEq,PV.sl.injEq,and_true,true_and]at hy;obtain⟨rfl,rfl,rfl,rfl⟩:=hy;refine Tu casg cbody hH (v:=v) (En:=λe' s4=>∃cs,Bw8 R.gh jl R.ts (.vec e k n f false) s4 cs/\R.nx rest e' ⟨X7 R.ts cs,del jl (del R.gh s4.Qw)⟩) h u hR m1 hl hT (by simp[g]) rfl q
   (Xe q hps a1 m hj2 hj3 a2 h m1 hR hH g a0 r) (x e k n f rfl) (λe s' hq=>?_) ?_
  .cases e<;>exact hq
  rintro e' w2 TS C3 C2' V0 s4 a3 w3 rho4 hL3 a6 hmk hkk ⟨cs,a8,hq⟩;have hrr:∀j,j≠R.gh->j≠jl->R.rR v j=R.rA j:=λj h1 h2=>by simp[RP.rR,h1,m,BC5 h2]
  obtain⟨hres,hrj,hh⟩:=Bf2 hVO hL3 a6 a8 a1 hj1 hj2 a2 (a':=R.act) (v:=v) (V1:=V) (λb o=>by
   rw[<- a0 b];constructor
   .intro hx;by_cases hb:H b
    .exact .inr hb
    exact .inl ⟨hx,hb⟩
   rintro (hx|hx)
   .exact hx.1
   exact (hH b hx).2 o) (by simp[RP.rR]) (by simp[RP.rR,hj2,m]) hrr hmk (λb hm=>.inr (.inr hm)) hmV
  have hend':=a8;obtain⟨⟨hgh,a7,hj⟩,⟨hd1,hd2⟩,_⟩:=hend';have h5:∀i o,A1 (del jl (del R.gh s4.Qw)) i=some o->i≠jl/\A1 s4.Qw i=some o:=by
   intro i o d;have e1:i≠R.gh:=by rintro rfl;rw[hd1]at d;cases d
   have e2:i≠jl:=by rintro rfl;rw[hd2]at d;cases d
   exact⟨e2,by rw[<- GX e1,<- GX e2];exact d⟩
  refine⟨_,hres,Nb _ _ a7.symm,hd1,λi o d=>(h5 i o d).2,?_,λb hb=>⟨jl,_,hj,by rw[hrj];exact (a0 b).1 hb,λ_=>trivial⟩,.inr ⟨v,e,k,n,f,rfl,rfl,a0,hh⟩,?_⟩
  .rintro b ⟨i,o,d,hb⟩ hh;exact (h5 i o d).1 (a6.hp.sep i jl o _ b (h5 i o d).2 hj hb (by rw[hrj];exact (a0 b).1 hh))
  exact hq
end
section
variable {P:Program}{C:Ctx}{st:St}{a:Act}{w:World}{rho:Nat->Value}{𝒢 : Prot P}{n:Nat}{Q:J3}{ro:Option Nat}
def RP.prot (R:RP P)(c:R.act.tmps.size=R.n)(d:∀t∈R.ps.toList,t<R.n)(f:R.gh<1000)(i:R.ts.Nodup)(casg:Ig P R.n R.asg)(cbody:Ig P R.n R.body)
 (a:∀ys rest s,s.env.map (·.1)=R.ts->A1 s.Qw R.gh=none->R.I (ys::rest) s->Az5 (Gj P) R.jl R.gh R.ts R.ps (awp (Gj P) P R.asg) (awp (Gj P) P R.body) (R.I rest) R.Q ys s):Prot P where
 G:=λC=>∃C2 s rhoA XI rest live lo,InG R C C2 s rhoA XI rest live lo
 tab:=by
  rintro C ⟨C2,s,rhoA,XI,rest,live,lo,h⟩;refine ((R.pr.tab C2 h.g).keeps h.sat.keep h.sat.same (E':=C.E0) λb hb l=>(h.oc b l).resolve_right (Nat.not_le.2 hb)).keeps (Sc.of_imp λb o hp=>?_) (λ_ _ _=>rfl) λ_ _ m=>m;rw[h.pi,h.X]at hp;rcases hp with (hp|hp)|hp
  .exact .inl (.inl hp)
  .exact .inr hp
  .exact .inl (.inr hp)
 call:=by rintro C w O V ys rest vs H ⟨C2,s,rhoA,XI,rest0,live,lo,h⟩ hR j q r;rw[h.Y]at j;obtain⟨rfl,rfl⟩:=j;exact ZJ c d f i casg cbody a h hR q r
def Sat.mark (h:Sat C st a w rho){w' : World}(i:w.heap.size<=w'.heap.size)(c:∀b,b<w.heap.size->w'.heap[b]? = w.heap[b]?)(j:Ext w w'){mk:List Deferred}
 (hm:mk=[] \/ ∃r,mk=[{ target:=.collected r,args:=#[] }]/\w.heap.size<=r/\w'.heap[r]? = some (.deferred (some []))):Sat C st { a with defers:=mk++a.defers } w' rho:=by
 obtain⟨h1,_⟩:=h.grow i c j;rcases hm with rfl|⟨r,rfl,l,m⟩
 .exact h1
 refine⟨h1.toSatE,h1.env,h1.pin,?_,?_⟩
 .refine BE5.2 ⟨λg=>?_,h.marks.1⟩;obtain⟨r',e1,_,e2,_⟩:=h.marks.2 _ g;cases e1
  have:=(Bz0.1 e2).1;omega
 intro d f;rcases BC1.1 f with rfl|f
 .exact⟨r,rfl,.inr (BD9 h.size l),m,λoff n=>by have:=h.hp.bound r off n;omega⟩
 exact h1.marks.2 d f
def Xf {f:FuncId}{vs:Array Value}{fn:Func}(d:P.funcs[f]? = some fn)(hb:fn.body.isSome=true)(a:(fn.name == "runtime.NumGoroutine")=false):(callFunc f vs).run P w=.ok (.enter f vs) w:=by
 have b : ¬fn.name = "runtime.NumGoroutine" := by simpa using a
 obtain⟨c,hc⟩:=BA1.1 hb;simp[callFunc,d,b,hc]
def RH (D:List Deferred)(a:Act):Act:={ a with defers:=a.defers++D }
set_option maxHeartbeats 2000000 in
theorem Xg (DD:List Deferred){g:Operand}{ps:Array Tmp}{asg body:Code}(hps:(ps.toList.all λt=>Nat.blt t n)=true)(casg:Ig P n asg)(cbody:Ig P n body){𝒢 : Prot P}{ro:Option Nat}(hro:Bl9 𝒢 ro){Q:J3}(hG : 𝒢.G C)(h:Sat C st a w rho)(hsz:a.tmps.size=n)
 (hw:awp (Gj P) P (.rangeFunc g ps asg body) Q st):(Code.rangeFunc g ps asg body).wpIn (FW ro) 0 P (λe a' w'=>∃a0,a' = RH DD a0/\WP 𝒢 n Q e a0 w') (RH DD a) w:=by
 obtain⟨f,first,caps,as,bs,objs,ids,ts,gh,jl,L,I,Fin,h1,⟨fn,hfn,hfb,hfname⟩,hny,hd,hr1,hr2,hob,hgl,hng,hids,hts,hlens,hup,hround,hend,hF⟩:=hw;refine wpIn_rangeFunc ?_;intro fid _;obtain⟨l,mk,D,w1,hent,hxt,hl,hlsz,hwsz,hheap,hmk⟩:∃(l:Nat) (mk:List Deferred) (D:Nat) (w1:World),(Instr.enterLoop fid a.tmps ps asg body ro).run P w=.ok (l,mk) w1/\Ext w w1 /\
  w1.heap[l]? = some (.loop { state:=.ready,pending:=none,fn:=fid,tmps:=a.tmps,params:=ps,assign:=asg,body:=body,defers:=D })/\w.heap.size<=l/\w.heap.size<=w1.heap.size/\(∀b,b<w.heap.size->w1.heap[b]? = w.heap[b]?) /\
  (mk=[] \/ ∃r,mk=[{ target:=.collected r,args:=#[] }]/\w.heap.size<=r/\w1.heap[r]? = some (.deferred (some []))):=by
  cases ro with
  |none=>
   refine⟨_,_,w.heap.size,_,run_enterLoop_outer fid a.tmps ps asg body,⟨rfl,rfl⟩,?_,by omega,by simp;omega,?_,.inr ⟨w.heap.size,rfl,Bz5 _,?_⟩⟩
   .have:=BM7 (w.alloc (.deferred (some []))) (.loop { state:=.ready,pending:=none,fn:=fid,tmps:=a.tmps,params:=ps,assign:=asg,body:=body,defers:=w.heap.size })
    simpa using this
   .intro b hb;rw[heap_alloc_old _ _ (by simp;omega),heap_alloc_old _ _ hb]
   rw[heap_alloc_old _ _ (by simp)];exact BM7 w _
  |some l0=>
   obtain⟨r,hr,hE⟩:=hro l0 rfl C hG;have hr' : w.heap[l0]? = some (.loop r):=by rw[h.same l0 (Bz0.1 hr).1 hE];exact hr
   refine⟨w.heap.size,[],r.defers,w.alloc (.loop { state:=.ready,pending:=none,fn:=fid,tmps:=a.tmps,params:=ps,assign:=asg,body:=body,defers:=r.defers }),?_,⟨rfl,rfl⟩,BM7 w _,Bz5 _,by simp,λb hb=>heap_alloc_old _ _ hb,.inl rfl⟩;unfold Instr.enterLoop;simp only[BB2,run_getLoop hr',Result.andThen,BC7,run_newObj_alloc]
 have hA:=h.mark hwsz hheap hxt hmk;obtain⟨act,hact⟩:∃act:Act,act={ a with defers:=mk++a.defers }:=⟨_,rfl⟩;have hacts:act.tmps.size=n:=by rw[hact];exact hsz
 rw[<- hact]at hA;obtain⟨x,y,hx,hrx,hry⟩:=ZG hA h1;have hxy:=RepV.append hrx hry;obtain⟨hobl,hobg⟩:=AK hob;obtain⟨args0,hargs0,hrl⟩:∃args0,DP ids (first++caps)=some args0/\args0=as++bs:=by
  have:∀(l m l' m' : List AV),DP ids l=some l' -> DP ids m=some m' -> DP ids (l++m)=some (l' ++ m'):=by
   intro l
   induction l with
   |nil=>intro m l' m' hl hm;simp only[DP,By4]at hl;subst hl;simpa using hm
   |cons z l ih=>
    intro m l' m' hl hm;simp only[DP]at hl;split at hl
    .rename_i z' l2 hz hl2;cases hl;simp only[BA0,DP,hz,ih m l2 m' hl2 hm]
    cases hl
  exact⟨_,this _ _ _ _ hr1 hr2,rfl⟩
 subst hrl;have hS1:=NJ hA hd hob hny trivial hargs0 (vs:=x++y) hxy.1 hxy.2;have hidx:∀j∈ids,Lv (A1 st.Qw) j:=by intro j hj;obtain⟨p,hp⟩:=BF1.1 hj;obtain⟨o,_,ho,_⟩:=hobg p j hp;simp[Lv,ho]
 obtain⟨VI,hVI⟩:∃VI:Nat->Nat->Prop,VI=λb off=>∃j o,j∈ids/\A1 st.Qw j=some o/\E5 (rho j) o b/\JY o off:=⟨_,rfl⟩;obtain⟨hsus,hsuspi⟩:=hA.suspend hd (E:=X7 ts (ts.map (get st.env))) (V:=VI) (λt=>by
  obtain⟨e1,e2⟩:=LT ts (ts.map (get st.env)) t (by simp) hts;by_cases hm:t∈ts
  .obtain⟨i,hi⟩:=BF1.1 hm;exact .inl (by rw[e1 i hi,By3,Bz1,hi];rfl)
  exact .inr (e2 hm)) (λb off=>by rw[hVI]) hidx
 obtain⟨s1,rho1,⟨hk1,hn1,hI1⟩,hup1,hs1⟩:=hup _ act w1 rho hsus;obtain⟨rI,hrI⟩:∃rI:Nat->Value,rI=λp=>if p=ids.length then .func (.yield l) #[] #[]else rho (ids.getD p 0):=⟨_,rfl⟩
 obtain⟨R,q⟩:∃R:RP P,R={ pr:=𝒢,n:=n,Q:=Q,act:=act,l:=l,fn:=fid,D:=D,rA:=C.rho0,r0:=rI,ts:=ts,gh:=gh,jl:=jl,I:=I,ps:=ps,asg:=asg,body:=body }:=⟨_,rfl⟩;obtain⟨CI,a1⟩:∃CI:Ctx,CI={ X:=λb o=>C.X b o \/ PvR s1.Qw rho1 b o,w0:=w1,E0:=λb=>∃j o,j∈ids/\A1 st.Qw j=some o/\E5 (rho j) o b,Pi0:=λb o=>(C.X b o \/ PvR s1.Qw rho1 b o) \/ VI b o,rho0:=rI,Y:=λr b=>r=L/\b=true,yv:=.func (.yield l) #[] #[] }:=⟨_,rfl⟩;have hlC:C.E0 l \/ C.w0.heap.size<=l:=.inr (BD9 h.size hlsz);have hVIx:∀b,CI.E0 b->∃off,VI b off:=by
  intro b hb;subst a1;obtain⟨j,o,hj,ho,a2⟩:=hb;cases o with
  |vec e k m f vw=>
   refine⟨m*k,?_⟩;rw[hVI];refine⟨j,_,hj,ho,a2,?_⟩;cases vw
   .trivial
   exact Bz5 _
  |cells cs=>exact⟨0,by rw[hVI];exact⟨j,_,hj,ho,a2,trivial⟩⟩
  |map es=>exact⟨0,by rw[hVI];exact⟨j,_,hj,ho,a2,trivial⟩⟩
  |arr n f=>exact⟨0,by rw[hVI];exact⟨j,_,hj,ho,a2,trivial⟩⟩
  |blk=>exact⟨0,by rw[hVI];exact⟨j,_,hj,ho,a2,trivial⟩⟩
  |fam=>exact⟨0,by rw[hVI];exact⟨j,_,hj,ho,a2,trivial⟩⟩
  |rows=>exact⟨0,by rw[hVI];exact⟨j,_,hj,ho,a2,trivial⟩⟩
  |ghost cs=>simp[E5,N1]at a2
  |yld r b=>simp[E5,N1]at a2
  |dead=>simp[E5,N1]at a2
 have hEl:∀b,CI.E0 b->b<w1.heap.size/\b<w.heap.size:=by
  intro b hb;subst a1;obtain⟨j,o,hj,ho,a2⟩:=hb
  have:=(h.hp.holds j o ho).lt a2
  exact⟨by omega,this⟩
 have hin:InG R CI C s1 rho1 VI L true (R.lo .ready none):=by
  subst q;refine⟨hG,rfl,by subst a1;exact hs1,by subst a1;rfl,by subst a1;rfl,?_,?_,?_,?_,hlC,λoff hX=>?_,?_,by subst a1;rfl,by subst a1;rfl,by subst a1;rfl,hk1,hn1,.inl ⟨rfl,rfl,hI1,hlens⟩⟩
  .rintro b hb (hF|hF)
   .obtain⟨off,hv⟩:=hVIx b hb;obtain⟨i,oi,hi,hbi⟩:=hF;exact hs1.hp.out i oi b off hi hbi (.inr hv)
   subst a1;obtain⟨j,o,hj,ho,a2⟩:=hb;obtain⟨r,e1,_,e2,_⟩:=hA.marks.2 _ hF;cases e1;exact (hA.hp.holds j o ho).nd a2 e2
  .intro b hb;subst a1;obtain⟨j,o,hj,ho,a2⟩:=hb;exact h.own b ⟨j,o,ho,a2⟩
  .intro b hb
   have:=(hEl b hb).1
   subst a1;exact this
  .have e:RP.lo { pr:=𝒢,n:=n,Q:=Q,act:=act,l:=l,fn:=fid,D:=D,rA:=C.rho0,r0:=rI,ts:=ts,gh:=gh,jl:=jl,I:=I,ps:=ps,asg:=asg,body:=body } .ready none={ state:=.ready,pending:=none,fn:=fid,tmps:=a.tmps,params:=ps,assign:=asg,body:=body,defers:=D }:=by simp[RP.lo,hact]
   rw[e];subst a1;exact hl
  .have:=h.hp.bound l off hX;omega
  intro hE
  have:=(hEl l hE).2;omega
 have hne:ids.length ∉ List.range ids.length:=by simp
 have hrgI:∀p,A1 (Sa (objs++[.yld L true])) p=if p=ids.length then some (.yld L true)else A1 (Sa objs) p:=by
  intro p;rw[E7,E7];by_cases e:p=ids.length
  .subst e;rw[Gy rfl,<- hobl];simp
  rw[Hj e];by_cases hlt:p<objs.length
  .rw[BD8 hlt]
  rw[BD0 (by simp;omega),BD0 (by omega)]
 have hT:∀b o,(CI.X b o \/ VI b o)->Prv C.X (A1 st.Qw) rho b o:=by
  intro b o hp;refine (hsuspi b o).1 (hup1 b o ?_);subst a1;rcases hp with (hp|hp)|hp
  .exact .inl (.inl hp)
  .exact .inr hp
  exact .inl (.inr hp)
 have hprI:∀b off,Prv CI.X (A1 (Sa objs)) (λp=>rho (ids.getD p 0)) b off↔(CI.X b off \/ VI b off):=by
  intro b off;refine or_congr BL1 ?_;rw[hVI];constructor
  .rintro⟨p,o',hp,hb,hpr⟩;rw[E7]at hp;have hlt:p<ids.length:=by rw[<- hobl];exact (Bz8.1 hp).1
   obtain⟨o,o2,e1,e2,e3⟩:=hobg p _ (By7 hlt);rw[hp]at e3;cases e3;simp only[DQ (By7 hlt),AI e2]at hb;exact⟨_,o,BJ7 hlt,e1,hb,(LQ e2 off).1 hpr⟩
  rintro⟨j,o,hj,ho,hb,hpr⟩;obtain⟨p,hp⟩:=BF1.1 hj;obtain⟨o1,o2,e1,e2,e3⟩:=hobg p j hp;rw[ho]at e1;cases e1;refine⟨p,o2,by rw[E7];exact e3,?_,(LQ e2 off).2 hpr⟩;simp only[DQ hp,AI e2];exact hb
 have hkI:Sc w1 (Prv (C.callee st.Qw w1 rho ids).X (A1 (Sa objs)) (λp=>rho (ids.getD p 0))) w1 (Prv CI.X (A1 (Sa objs)) (λp=>rho (ids.getD p 0))):=
  Sc.of_imp λb o hp=>(Tm hob b o).2 (hT b o ((hprI b o).1 hp))
 have hEI:SatE CI (Sa objs) w1 (λp=>rho (ids.getD p 0)):=by
  refine⟨⟨λp o hp=>(hS1.hp.holds p o hp).keeps hkI (λj hj=>⟨hj,rfl⟩) λb _=>rfl,hS1.hp.sep,?_,?_⟩,by subst a1;exact Ext.refl _,by subst a1;exact Bz5 _,by subst a1;exact λb _ _=>rfl,?_,?_,?_⟩
  .intro p o b off hp hb hX;have hE:CI.E0 b:=by
    rcases hS1.own b ⟨p,o,hp,hb⟩with h1|h1
    .subst a1;exact h1
    have:=(hS1.hp.holds p o hp).lt hb
    have h1:w1.heap.size<=b:=h1;omega
   have hd':=hin.dis b hE;obtain⟨off',hv⟩:=hVIx b hE;subst a1;rcases hX with hX|⟨i,oi,hi,hbi,_⟩
   .rw[hVI]at hv;obtain⟨j,oj,hj,ho,a2,_⟩:=hv;exact h.hp.out j oj b off ho a2 hX
   exact hd' (.inl ⟨i,oi,hi,hbi⟩)
  .intro b off hX;subst a1;rcases hX with hX|⟨i,oi,hi,hbi,_⟩
   .have:=h.hp.bound b off hX;omega
   exact (hs1.hp.holds i oi hi).lt hbi
  .have:CI.Pi0=λb o=>CI.X b o \/ VI b o:=by subst a1;rfl
   rw[this];have hw0:CI.w0=w1:=by subst a1;rfl
   rw[hw0];exact Sc.of_imp λb o hp=>(hprI b o).1 hp
  .intro b hb;rcases hS1.own b hb with h1|h1
   .exact .inl (by subst a1;exact h1)
   exact .inr (by subst a1;exact h1)
  intro p r b hp;exact Ij (hS1.yld p r b hp).1 (λh=>h)
 obtain⟨g1,g2,g3⟩:=hEI.add (R':=Sa (objs++[.yld L true])) (j:=ids.length) (by rw[E7,BD0 (by omega)]) (o:=.yld L true) (v:=.func (.yield l) #[] #[]) (λu b h=>by cases h) hrgI
  (λ_ _=>⟨l,rfl⟩) (λr b he=>by cases he;subst a1;exact⟨⟨rfl,rfl⟩,rfl⟩)
 have hrIeq:(λi=>if i=ids.length then Value.func (.yield l) #[] #[]else rho (ids.getD i 0))=rI:=by rw[hrI]
 rw[hrIeq]at g1 g2;have g3' : ∀i,Lv (A1 (Sa objs)) i->Lv (A1 (Sa (objs++[.yld L true]))) i/\rI i=rho (ids.getD i 0):=λi hi=>by
  have:=g3 i hi
  rw[hrI];exact this
 have hyvI:rI ids.length=.func (.yield l) #[] #[]:=by rw[hrI];simp
 have hkA:Sc w1 (PiS C st rho) w1 (Prv CI.X (A1 (Sa (objs++[.yld L true]))) rI):=Sc.of_imp λb o hp=>hT b o ((hprI b o).1 ((g2 b o).1 hp));have hrenI:∀p j:Nat,ids[p]? = some j->Lv (A1 st.Qw) j->Lv (A1 (Sa (objs++[.yld L true]))) p/\rI p=rho j:=by intro p j hp _;obtain⟨o,o2,e1,e2,e3⟩:=hobg p j hp;obtain⟨q1,q2⟩:=g3' p (by simp[Lv,E7,e3]);exact⟨q1,by rw[q2,DQ hp]⟩
 have hlvI:Lv (A1 (Sa (objs++[.yld L true]))) ids.length:=by simp[Lv,hrgI]
 have ren:∀{vs:Array Value}{l l' : List AV},RepV w1 (PiS C st rho) (Lv (A1 st.Qw)) rho vs l->DP ids l=some l' -> RepV w1 (Prv CI.X (A1 (Sa (objs++[.yld L true]))) rI) (Lv (A1 (Sa (objs++[.yld L true])))) rI vs l':=by intro vs l l' hv hr;obtain⟨e1,e2⟩:=Df hr;exact⟨hv.1.trans e1,λi hi=>(hv.2 i (by omega)).ren hkA hrenI (e2 i (by omega))⟩
 have hvals:RepV w1 (Prv CI.X (A1 (Sa (objs++[.yld L true]))) rI) (Lv (A1 (Sa (objs++[.yld L true])))) rI (x ++ #[.func (.yield l) #[] #[]]++y) (as++[.yf ids.length]++bs):=
  RepV.append (RepV.append (ren hrx hr1) ⟨rfl,λi hi=>by
   simp only[BC3]at hi;obtain rfl:i=0:=by omega
   exact .yf ids.length l hlvI hyvI⟩) (ren hry hr2)
 have hvals' : as++[.yf ids.length]++bs=as ++ .yf ids.length::bs:=by simp
 rw[hvals']at hvals;have hSI:Sat CI ⟨Ss (as ++ .yf ids.length::bs),Sa (objs++[.yld L true])⟩ ⟨x ++ #[.func (.yield l) #[] #[]]++y,[]⟩ w1 rI:=by
  refine⟨g1,λt=>?_,λj _ _=>by subst a1;rfl,BG8,λd hd=>by simp at hd⟩;show Sq w1 _ _ rI _ (get (Ss (as ++ .yf ids.length::bs)) t);rw[AJ];by_cases ht:t<(as ++ .yf ids.length::bs).length
  .exact hvals.2 t ht
  rw[By3,BD0 (by omega)];exact .top _
 have hpsn:∀t∈R.ps.toList,t<R.n:=by
  subst q;intro t ht;rw[Bz2]at hps
  have:=hps t ht
  simpa using this
 have hRact:R.act=act:=by subst q;rfl
 have hRl:R.l=l:=by subst q;rfl
 have hcall:=hF (RP.prot R (by subst q;exact hacts) hpsn (by subst q;exact hgl) (by subst q;exact hts) (by subst q;exact casg) (by subst q;exact cbody) (by subst q;exact hround)) CI w1 _ rI ⟨C,s1,rho1,VI,L,true,_,hin⟩ hSI hvals.1;obtain⟨nx,w2,hrun,hcall⟩:=hcall;rw[Xf hfn hfb hfname]at hrun;cases hrun;have hev:a.eval g=.func (.func f) x y:=by rw[hact]at hx;exact hx
 have hres:(resolve a.eval (rangeCall g l) 0).run P w1=.ok { target:=.fn (.func f) y,args:=x ++ #[.func (.yield l) #[] #[]] } w1:=by
  have e1:(rangeCall g l).args.map a.eval = #[.func (.yield l) #[] #[]]:=by simp[Act.eval]
  have e2:resolve a.eval (rangeCall g l) 0=Deferred.ofValue (a.eval g) #[.func (.yield l) #[] #[]]:=by rw[<- e1];rfl
  rw[e2,hev];simp[Deferred.ofValue]
 have hinv:(invoke (.fn (.func f) y) (x ++ #[.func (.yield l) #[] #[]])).run P w1=.ok (.enter f (x ++ #[.func (.yield l) #[] #[]]++y)) w1:=by simp only[invoke];exact Xf hfn hfb hfname
 have hcall2:CallsIn (FW ro) (0-1) P f (x ++ #[.func (.yield l) #[] #[]]++y) w1 (rangePost (FW ro) 0 P l (λe a' w'=>∃a0,a' = RH DD a0/\WP 𝒢 n Q e a0 w') { RH DD a with defers:=mk++(RH DD a).defers }):=by
  have ha:({ RH DD a with defers:=mk++(RH DD a).defers }:Act)=RH DD { a with defers:=mk++a.defers }:=by simp[RH]
  rw[ha];refine (Tp hcall).mono ?_;rintro e w' ⟨C',r,objs',ks,rho',⟨C2,s2,rhoA2,XI2,rest2,live2,lo2,s⟩,⟨b,hb1,_,hFin,hb2⟩,hE,hend',_⟩;rw[<- hact];obtain⟨hY,_⟩:=hE.yld ids.length [] b (by rw[E7];exact hb1);rw[s.Y]at hY;obtain⟨hr2',hb'⟩:=hY;subst hb';have hrel:Rel C' w' (Own (A1 (Sa objs')) rho') (PvR (Sa objs') rho'):=
   ⟨hE.ext,hE.size,hE.same,hE.keep,hE.own,λb off ⟨j,o,hj,hb⟩=>hE.hp.out j o b off hj hb,λb hb=>hE.hp.lt hb,hE.hp.bound,λb o ⟨j,oj,hj,hb,_⟩=>⟨j,oj,hj,hb⟩⟩
  obtain⟨n1,_,n3⟩:=s.sat.moves rfl s.X s.pi hrel s.dis s.oc;obtain⟨n4,n5⟩:=n1.minus;have hl' : w'.heap[R.l]? = some (.loop lo2):=(n3 R.l (Bz0.1 s.rl).1 s.lE).trans s.rl;rw[hRl]at hl';have hG2 : 𝒢.G C2:=by have:=s.g;subst q;exact this
  have hlown:C2.E0 l \/ C2.w0.heap.size<=l:=by have:=s.lown;rw[hRl]at this;exact this
  rw[hRact]at n4;cases r with
  |ret v'=>
   obtain⟨v,rfl,_⟩:=hend';rcases s.st with⟨hlv1,hlo,hI2,_⟩ | ⟨_,_,c,e,hlo,hj,hQ⟩
   .refine⟨none,w'.putObj l (.loop { lo2 with state:=.exhausted }),?_,?_⟩
    .rw[run_endLoop hl' (by rw[hlo];simp[RP.lo])];rw[hlo];rfl
    refine⟨act,rfl,C2,s2,rhoA2,hG2,(n4.poke hl' _ hlown).1,hacts,?_⟩;rw[<- hr2']at hI2;exact hend s2 (.ret v') (by have:=s.keys;subst q;exact this) (by have:=s.ng;subst q;exact this) (by subst q;exact hI2) (hlv1 ▸ hFin)
   refine⟨some c,w'.putObj l (.loop { lo2 with state:=.exhausted }),?_,?_⟩
   .rw[run_endLoop hl' (by rw[hlo];simp[RP.lo])];rw[hlo];rfl
   have hnx:NextOk 𝒢 n (Q e) act (w'.putObj l (.loop { lo2 with state:=.exhausted })):=⟨C2,s2,rhoA2,hG2,(n4.poke hl' _ hlown).1,hacts,by subst q;exact hQ⟩;cases e with
   |ret=>cases hj;exact wpIn_ret ⟨act,rfl,hnx⟩
   |exit id=>cases hj;exact wpIn_exit ⟨act,rfl,hnx⟩
   |goto t=>cases hj;exact wpIn_goto ⟨act,rfl,hnx⟩
   |normal=>exact hj.elim
   |panic x=>exact hj.elim
  |panic x=>
   obtain⟨v,rfl,hv⟩:=hend';rcases s.st with⟨hlv1,hlo,hI2,_⟩ | ⟨hlv,_⟩
   .refine⟨act,rfl,C2,s2,rhoA2,v,x,rfl,hG2,n4,hacts,hv.keeps (Sc.of_imp ?_),?_⟩
    .intro b o hp;exact .inl (by rw[s.X];exact hp)
    rw[<- hr2']at hI2;exact hend s2 (.panic x) (by have:=s.keys;subst q;exact this) (by have:=s.ng;subst q;exact this) (by subst q;exact hI2) (hlv1 ▸ hFin)
   obtain⟨z,hz⟩:=hb2 hlv;cases hz
 exact⟨l,mk,w1,_,w1,f,_,w1,hent,hres,λ_ _=>trivial,hinv,λh=>by simp[FW,Fence.wide]at h,hcall2⟩
def ZK {g:Operand}{ps:Array Tmp}{asg body:Code}(b:(ps.toList.all λt=>Nat.blt t n)=true)(casg:Ig P n asg)(cbody:Ig P n body):Ig P n (.rangeFunc g ps asg body):=by
 intro 𝒢 ro c Q C st a w rho f h d hw;have e:∀a:Act,RH [] a=a:=λa=>by simp[RH]
 have:=Xg [] b casg cbody c f h d hw
 rw[e]at this;refine wpIn_mono this ?_;rintro e' a' w' ⟨a0,rfl,i⟩;rw[e];exact i
def Aq8 (n:Nat)(c:Code)(a:Bm n c=true):Ig P n c:=ZH (λ_ _ _ _ b=>ZK b) c a
def Ah5 (P:Program):G0 (Gj P) P where
 refl:=λs K h=>semUp.refl h
 trans:=λs K h=>semUp.trans h
 mono:=λs K K' hk h=>semUp.mono hk h
 bool:=λst t b K z h=>semUp.bool z h
 nil:=λst t k n f K z h1 i=>semUp.nil z h1 i
 frz:=λst j ps K o d=>semUp.frz o d
 trunc:=λst j j' n N k e f K h1 i h3 h4 d=>semUp.trunc h1 i h3 h4 d
 toArr:=λst j n f K o d=>semUp.toArr o d
 ofArr:=λst j n f K o d=>semUp.ofArr o d
 pq:=λst t x y K z hq h=>semUp.pq z hq h
 vecq:=λst j n k e f g vw K o hq d=>semUp.vecq o hq d
 le:=λids s t K hle d=>semUp.le hle d
 fam:=λop s t c K h hc d=>semUp.famAll h hc d
 less:=λs t K h1 i d=>semUp.less h1 i d
 eqv:=λs t K h1 i d=>semUp.eqv h1 i d
 func:=λf fn code args objs Q hf hb q hok hn ho hw=>Aq6 (λc=>Aq8 _ c) hf hb q rfl hok hn ho hw
 argLe:=λf args args' objs Q hle h 𝒢 C w vs rho hG hS u=>by
  have hlen:∀{l m:List AV},WJ l m->l.length=m.length:=by
   intro l
   induction l with
   |nil=>intro m h;cases m with
    |nil=>rfl
    |cons=>exact h.elim
   |cons a r ih=>intro m h;cases m with
    |nil=>exact h.elim
    |cons b s=>simp only[BA2,ih h.2]
  have hget:∀{w:World}{Pi:Nat->Nat->Prop}{live:Nat->Prop}{rho:Nat->Value}{v:Value}{l m:List AV},WJ l m->∀t,Sq w Pi live rho v (l.getD t .top)->Sq w Pi live rho v (m.getD t .top):=by
   intro w Pi live rho v l
   induction l with
   |nil=>intro m h t ht;cases m with
    |nil=>exact ht
    |cons=>exact h.elim
   |cons a r ih=>intro m h t ht;cases m with
    |nil=>exact h.elim
    |cons b s=>
     cases t with
     |zero=>
      rcases h.1 with rfl|⟨x,y,rfl,rfl,hl⟩
      .exact ht
      exact .p _ _ (ht.toP.leQ hl)
     |succ t=>exact ih h.2 t ht
  exact h 𝒢 C w vs rho hG ⟨hS.toSatE,λt=>by
   have:=hS.env t
   rw[AJ]at this⊢;exact hget hle t this,hS.pin,hS.marks⟩ (u.trans (hlen hle))
 monoF:=λf args objs Q Q' hq h 𝒢 C w vs rho hG hS u=>(h 𝒢 C w vs rho hG hS u).mono λe w' ⟨C',r,objs',ks,rho',h1,i,h3⟩=>⟨C',r,objs',ks,rho',h1,hq _ _ _ i,h3⟩
end
inductive Cls where
 |n|r|w
 |l (js:List Nat)|a (js:List Nat)
 |b (js:List Nat)
 deriving DecidableEq,Inhabited
def Bf4:Cls->Cls->Bool
 |.n,_|_,.n | .r,.r | .r,.l _ | .l _,.r | .l _,.l _=>false
 |.l i,.a j | .a i,.l j | .a i,.a j | .l i,.b j | .b i,.l j=>i.any λq=>j.contains q
 |_,_=>true
def EN (q:Nat):Cls->Bool
 |.w=>true
 |.a js | .b js=>js.contains q
 |_=>false
def Aq9 (q:Nat):Cls->Bool
 |.n=>false
 |.l js | .a js=>js.contains q
 |_=>true
def GZ {q:Nat}{c d:Cls}(h:EN q c=true)(h' : Aq9 q d=true):Bf4 c d=true/\Bf4 d c=true:=by
 have hm:∀{i j:List Nat},i.contains q=true->j.contains q=true->(i.any λq=>j.contains q)=true:=λf g=>List.any_eq_true.2 ⟨q,by simpa using f,g⟩;cases c with
 |w=>cases d<;>first|(cases h';done)|exact⟨rfl,rfl⟩
 |a i=>
  cases d with
  |n=>cases h'
  |l j=>exact⟨hm h h',hm h' h⟩
  |a j=>exact⟨hm h h',hm h' h⟩
  |_=>exact⟨rfl,rfl⟩
 |b i=>
  cases d with
  |n=>cases h'
  |l j=>exact⟨hm h h',hm h' h⟩
  |_=>exact⟨rfl,rfl⟩
 |_=>cases h
def KW {q:Nat}{c:Cls}(h:EN q c=true):Aq9 q c=true:=by cases c<;>first|(cases h;done)|rfl|exact h
def Bm0:List Nat->List Nat
 |[]=>[]
 |x::r=>if (Bm0 r).contains x then Bm0 r else x::Bm0 r
def UN {x:Nat}:∀{l:List Nat},x∈Bm0 l->x∈l
 |[],h=>h
 |y::r,h=>by
  unfold Bm0 at h;split at h
  .exact BB4 _ (UN h)
  rcases BC1.1 h with rfl|h
  .exact BH2
  exact BB4 _ (UN h)
def Ar0 (acc:List (List Nat))(o:Oper):List Nat:=Bm0 ((o.after.toList.filter EH).flatMap λe=>e.on::acc.getD e.on [])
def UO:List Oper->List (List Nat)->List (List Nat)
 |[],acc=>acc
 |o::r,acc=>UO r (acc++[Ar0 acc o])
def Bp1 (ops:List Oper):List (List Nat):=UO ops []
def ZL:Operand->List Nat
 |.tmp t=>[t]
 |_=>[]
def reads (ops:List Oper)(o:Oper):List Nat:=o.op.operands.toList.flatMap ZL++match o.guard with
 |some (j,_)=>[FO ops j]
 |none=>[]
def Iw (ops:List Oper)(ci cj:Cls)(oi oj:Oper):Bool:=
 !Bf4 ci cj &&
 (match oi.dst with|some d=>!(reads ops oj).contains d&&decide (oj.dst≠some d)|none=>true) &&
 (match oj.dst with|some d=>!(reads ops oi).contains d|none=>true)
def NM (ops:List Oper)(cls:List Cls):Bool:=
 Ip ops&&(cls.length==ops.length) &&
 (List.range ops.length).all λj=>(List.range j).all λi=>
  match ops[i]?,ops[j]? with
  |some oi,some oj=>((Bp1 ops).getD j []).contains i||Iw ops (cls.getD i .n) (cls.getD j .n) oi oj
  |_,_=>true
def isP:AV->Bool
 |.p _=>true
 |_=>false
def isN (env:Env):Op->Bool
 |.move _ | .assign _ | .pick .. | .build .. | .nilCheck _ | .binOp .. | .unOp .. | .fieldAddr .. | .field .. | .index .. | .extract .. | .makeFunc ..=>true
 |.load _ a=>isP (aev env a)
 |.convert _ _ x=>isP (aev env x)
 |.makeInterface _ x=>isP (aev env x)
 |.indexAddr _ x _=>isP (aev env x)
 |.slice _ x _ _ _=>isP (aev env x)
 |.lookup _ m k _=>isP (aev env m)&&isP (aev env k)
 |.call { callee:=.builtin .len,args,.. }=>args.toList.all λx=>isP (aev env x)
 |.call { callee:=.builtin .min,.. } | .call { callee:=.builtin .max,.. }=>true
 |_=>false
section
variable {P:Program}
def UP {env:Env}{R R' : C5}{d:Nat}{o:Op}{c:List Prop}{v:AV}(hn:isN env o=true)(h:aop P env R d o=some ⟨c,v,R'⟩):R' = R/\∀R2,aop P env R2 d o=some ⟨c,v,R2⟩:=by
 cases o with
 |move x=>simp only[aop,By4,Out.mk.injEq]at h⊢;obtain⟨rfl,rfl,rfl⟩:=h;simp
 |assign x=>simp only[aop,By4,Out.mk.injEq]at h⊢;obtain⟨rfl,rfl,rfl⟩:=h;simp
 |pick x y z=>simp only[aop]at h⊢;split at h<;>simp_all
 |build t ps=>
  simp only[aop]at h⊢;split at h
  .split at h<;>simp_all
  cases h
 |nilCheck x=>simp only[aop]at h⊢;split at h<;>simp_all
 |binOp op t x y yt=>simp only[aop]at h⊢;split at h<;>simp_all
 |unOp op t x=>simp only[aop]at h⊢;split at h<;>simp_all
 |fieldAddr t x f=>simp only[aop]at h⊢;split at h<;>simp_all
 |field t x f=>simp only[aop]at h⊢;split at h<;>simp_all
 |index t x i=>
  simp only[aop]at h⊢;split at h
  .split at h<;>simp_all
  cases h
 |extract x i=>
  simp only[aop]at h⊢;split at h
  .split at h<;>simp_all
  cases h
 |makeFunc f a b=>cases f<;>simp only[aop]at h⊢<;>simp_all
 |load t a=>simp only[isN]at hn;simp only[aop]at h⊢;cases hx:aev env a<;>simp only[hx,isP,By9]at hn;simp only[hx]at h⊢;rename_i x;cases x<;>simp only[load]at h⊢<;>first|(cases h;done)|(split at h<;>simp_all)
 |convert s t x=>
  simp only[isN]at hn;cases hx:aev env x<;>simp only[hx,isP,By9]at hn;simp only[aop,hx]at h⊢;rename_i x;have j:∀R R2 k,elems R k (.p x)=elems R2 k (.p x):=by intro R R2 k;unfold elems;split<;>simp_all
  split at h
  .split at h<;>simp_all
  .split at h<;>simp_all
  .split at h<;>simp_all
  .split at h
   .split at h
    .rename_i n f w h3;simp only[By4,Out.mk.injEq]at h;obtain⟨rfl,rfl,rfl⟩:=h;refine⟨rfl,λR2=>?_⟩;rw[j R R2]at h3
     simp_all
    cases h
   cases h
  cases h
 |makeInterface t x=>
  simp only[isN]at hn;cases hx:aev env x<;>simp only[hx,isP,By9]at hn;simp only[aop,hx,DO]at h⊢;split at h
  .rename_i h1 w;simp only[By4,Bz3]at h1;obtain⟨rfl,rfl⟩:=h1;split at h<;>simp_all
  cases h
 |indexAddr t x i=>
  simp only[isN]at hn;cases hx:aev env x<;>simp only[hx,isP,By9]at hn;rename_i y;simp only[aop,hx]at h⊢;split at h
  .rename_i n l;have j:∀R R2,Gl P R t (.p y) n=Gl P R2 t (.p y) n:=by intro R R2;unfold Gl;split<;>simp_all
   split at h
   .rename_i g;simp only[By4,Out.mk.injEq]at h;obtain⟨rfl,rfl,rfl⟩:=h;refine⟨rfl,λR2=>?_⟩;rw[j R R2]at g;simp[g]
   cases h
  cases h
 |slice t x lo l mx=>
  cases mx with
  |some _=>simp[aop]at h
  |none=>
   simp only[isN]at hn;cases hx:aev env x<;>simp only[hx,isP,By9]at hn;rename_i y;have j:∀R R2 lo l c a R',Gm P R t (.p y) lo l=some (c,a,R')->R' = R/\Gm P R2 t (.p y) lo l=some (c,a,R2):=by
    intro R R2 lo l c a R' h;unfold Gm at h⊢;split at h
    .split at h<;>simp_all
    .split at h
     .split at h<;>simp_all
     cases h
    .split at h<;>simp_all
    .split at h<;>simp_all
    .simp_all
    simp_all
   have fin:∀lo l,(match Gm P R t (.p y) lo l with|some (c,a,Qw)=>some (Out.mk c a Qw)|none=>none)=some ⟨c,v,R'⟩ ->
    R' = R/\∀R2,(match Gm P R2 t (.p y) lo l with|some (c,a,Qw)=>some (Out.mk c a Qw)|none=>none)=some ⟨c,v,R2⟩:=by
    intro lo l h;cases g:Gm P R t (.p y) lo l with
    |none=>rw[g]at h;cases h
    |some q=>obtain⟨c',a',r'⟩:=q;rw[g]at h;simp only[By4,Out.mk.injEq]at h;obtain⟨rfl,rfl,rfl⟩:=h;refine⟨(j _ R _ _ _ _ _ g).1,λR2=>?_⟩;simp only[(j _ R2 _ _ _ _ _ g).2]
   simp only[aop,hx]at h⊢;split at h<;>first|exact fin _ _ h|cases h
 |lookup t m k ok=>
  simp only[isN,By5]at hn;cases hm:aev env m<;>simp only[hm,isP,By9,false_and]at hn;rename_i y;cases hk:aev env k<;>simp only[hk,By9,and_false]at hn;rename_i z;have j:∀R R2 k,EG P R t (.p y) k ok=EG P R2 t (.p y) k ok:=by
   intro R R2 k;unfold EG;split
   .rename_i kt e ht;cases Gn P kt k with
    |false=>rfl
    |true=>
     cases y with
     |v u=>cases u<;>first|rfl|(rename_i r;cases r<;>rfl)
     |_=>rfl
   rfl
  simp only[aop,hm,hk,DO]at h⊢;split at h
  .rename_i g;simp only[By4,Out.mk.injEq]at h;obtain⟨rfl,rfl,rfl⟩:=h;refine⟨rfl,λR2=>?_⟩;rw[j R R2]at g;simp[g]
  cases h
 |call c=>
  obtain⟨callee,args,types⟩:=c;cases callee with
  |builtin b=>
   cases b with
   |len=>
    simp only[aop]at h⊢;split at h
    .rename_i x t hx ht;simp only[isN,hx,BI3,BR8,BL7]at hn;have j:∀R R2,Ay0 P R t (aev env x)=Ay0 P R2 t (aev env x):=by intro R R2;cases hy:aev env x<;>simp only[hy,isP,By9]at hn;unfold Ay0;split<;>simp_all
     cases g:Ay0 P R t (aev env x)with
     |none=>rw[g]at h;cases h
     |some q=>rw[g]at h;simp only[By4,Out.mk.injEq]at h;obtain⟨rfl,rfl,rfl⟩:=h;refine⟨rfl,λR2=>?_⟩;rw[j R R2]at g;simp[g]
    cases h
   |min=>simp only[aop]at h⊢;split at h<;>simp_all
   |max=>simp only[aop]at h⊢;split at h<;>simp_all
   |_=>simp[isN]at hn
  |_=>simp[isN]at hn
 |_=>simp[isN]at hn
def AC6 {env env' : Env}{x:Operand}(h:∀t∈ZL x,get env t=get env' t):aev env x=aev env' x:=by
 cases x with
 |tmp t=>exact h t (by simp[ZL])
 |_=>rfl
def NN {env env' : Env}{place:Nat->Option (Nat×Nat)}:∀(l:List (Nat×Operand)) (cs:List AV),(∀q∈l,aev env q.2=aev env' q.2)->NE env place l cs=NE env' place l cs
 |[],cs,_=>rfl
 |(i,x)::r,cs,h=>by
  have hx:aev env x=aev env' x:=h (i,x) (by simp);simp only[NE,hx];split
  .split
   .exact NN r _ λq a=>h q (BB4 _ a)
   rfl
  rfl
def Gu {env env' : Env}{R:C5}{d:Nat}{o:Op}(h:∀x∈o.operands.toList,aev env x=aev env' x):aop P env R d o=aop P env' R d o:=by
 cases o with
 |build t ps=>
  have:∀q∈ps.toList,aev env q.2=aev env' q.2:=λq g=>h q.2 (by simp only[Op.operands];simpa using ⟨q.1,by simpa using g⟩)
  simp only[aop,NN ps.toList _ this]
 |buildSlice t n ps=>
  have:(ps.toList.map λq=>aev env q.2)=ps.toList.map λq=>aev env' q.2:=BB8 λq g=>h q.2 (by simp only[Op.operands];simpa using ⟨q.1,by simpa using g⟩)
  have j:(ps.toList.map λq=>(q.1,aev env q.2))=ps.toList.map λq=>(q.1,aev env' q.2):=BB8 λq g=>by rw[h q.2 (by simp only[Op.operands];simpa using ⟨q.1,by simpa using g⟩)]
  simp only[aop,this,j]
 |makeFunc f a b=>have h1:a.toList.map (aev env)=a.toList.map (aev env'):=BB8 λq g=>h q (by simp[Op.operands];exact .inl (by simpa using g));have j:b.toList.map (aev env)=b.toList.map (aev env'):=BB8 λq g=>h q (by simp[Op.operands];exact .inr (by simpa using g));cases f<;>simp only[aop,h1,j]
 |makeMap t r=>cases r<;>simp only[aop]
 |slice t x lo hi mx=>
  have hx:=h x (by simp[Op.operands]);have hl:lo.map (λo=>asInt (aev env o))=lo.map (λo=>asInt (aev env' o)):=by
   cases lo with
   |none=>rfl
   |some l=>simp only[Bz7];rw[h l (by simp[Op.operands])]
  have u:hi.map (λo=>asInt (aev env o))=hi.map (λo=>asInt (aev env' o)):=by
   cases hi with
   |none=>rfl
   |some l=>simp only[Bz7];rw[h l (by simp[Op.operands])]
  cases mx<;>simp only[aop,hx,hl,u]
 |call c=>
  obtain⟨callee,args,types⟩:=c;cases callee with
  |builtin b=>
   have h1:args.toList.map (aev env)=args.toList.map (aev env'):=BB8 λq g=>h q (by simp[Op.operands,Call.operands];simpa using g);cases b with
   |len=>
    simp only[aop];cases hl:args.toList with
    |nil=>rfl
    |cons x r=>
     rw[hl]at h1;simp only[BA3,BD6]at h1;cases r with
     |nil=>cases types.toList with
      |nil=>rfl
      |cons t r=>cases r<;>simp only[h1.1]
     |cons _ _=>rfl
   |clear=>
    simp only[aop];cases hl:args.toList with
    |nil=>rfl
    |cons x r=>
     rw[hl]at h1;simp only[BA3,BD6]at h1;cases r with
     |nil=>cases types.toList with
      |nil=>rfl
      |cons t r=>cases r<;>simp only[h1.1]
     |cons _ _=>rfl
   |append=>
    simp only[aop];cases hl:args.toList with
    |nil=>rfl
    |cons x r=>
     rw[hl]at h1;simp only[BA3,BD6]at h1;cases r with
     |nil=>rfl
     |cons y r=>
      simp only[BA3,BD6]at h1;cases r with
      |nil=>
       cases types.toList with
       |nil=>rfl
       |cons t r=>
        cases r with
        |nil=>rfl
        |cons t2 r=>cases r<;>first|rfl|simp only[h1.1,h1.2.1]
      |cons _ _=>rfl
   |min=>simp only[aop,h1]
   |max=>simp only[aop,h1]
   |_=>first|rfl|simp only[aop]
  |_=>first|rfl|simp only[aop]
 |move x=>simp only[aop,h x (by simp[Op.operands])]
 |assign x=>simp only[aop,h x (by simp[Op.operands])]
 |pick x y z=>simp only[aop,h x (by simp[Op.operands]),h y (by simp[Op.operands]),h z (by simp[Op.operands])]
 |box t x=>simp only[aop,h x (by simp[Op.operands])]
 |load t x=>simp only[aop,h x (by simp[Op.operands])]
 |store t x y=>simp only[aop,h x (by simp[Op.operands]),h y (by simp[Op.operands])]
 |nilCheck x=>simp only[aop,h x (by simp[Op.operands])]
 |binOp op t x y yt=>simp only[aop,h x (by simp[Op.operands]),h y (by simp[Op.operands])]
 |unOp op t x=>simp only[aop,h x (by simp[Op.operands])]
 |convert s t x=>simp only[aop,h x (by simp[Op.operands])]
 |makeInterface t x=>simp only[aop,h x (by simp[Op.operands])]
 |makeSlice t l c=>simp only[aop,h l (by simp[Op.operands]),h c (by simp[Op.operands])]
 |fieldAddr t x f=>simp only[aop,h x (by simp[Op.operands])]
 |field t x f=>simp only[aop,h x (by simp[Op.operands])]
 |indexAddr t x i=>simp only[aop,h x (by simp[Op.operands]),h i (by simp[Op.operands])]
 |index t x i=>simp only[aop,h x (by simp[Op.operands]),h i (by simp[Op.operands])]
 |lookup t m k ok=>simp only[aop,h m (by simp[Op.operands]),h k (by simp[Op.operands])]
 |mapUpdate t m k x=>simp only[aop,h m (by simp[Op.operands]),h k (by simp[Op.operands]),h x (by simp[Op.operands])]
 |insert t m k x=>simp only[aop,h m (by simp[Op.operands]),h k (by simp[Op.operands]),h x (by simp[Op.operands])]
 |mapEntry t m k=>simp only[aop,h m (by simp[Op.operands]),h k (by simp[Op.operands])]
 |entryStore t m s x=>simp only[aop,h m (by simp[Op.operands]),h s (by simp[Op.operands]),h x (by simp[Op.operands])]
 |extract x i=>simp only[aop,h x (by simp[Op.operands])]
 |range t x=>simp only[aop,h x (by simp[Op.operands])]
 |entry x=>simp only[aop,h x (by simp[Op.operands])]
 |_=>first|rfl|simp only[aop]
end
section
variable (S:U8) (P:Program)
def Ai (all:List Oper)(env:Env)(o:Oper):Option Bool:=
 match o.guard with
 |none=>some true
 |some (j,want)=>(yv (get env (FO all j))).map λb=>decide (b=some want)
def AC7:AV->Bool
 |.vec _ | .vecp _ _=>false
 |_=>true
def AP6 (env:Env)(o:Op)(r:AV):Prop:= ∃c f fn as' args r',o=.call c/\c.callee=.value f/\((c.args.toList.map (aev env)).all AC7)=true/\Ta env f (c.args.toList.map (aev env))=some (fn,as')/\DP [] as' = some args/\WM S fn args r' /\ r=unA [] r'
def AC8 (env:Env)(Qw:C5)(d:Nat)(o:Op)(r:AV)(regs' : C5):Prop:= ∃c f as regs1 fn as' args objs objs' ks r' ids,o=.call c/\c.callee=.value f/\Im Qw (c.args.toList.map (aev env))=some (as,regs1)/\Ta env f as=some (fn,as')/\DP ids as' = some args/\M0 ids regs1 ids=some objs /\ Sb S fn args objs r' objs' ks/\H5 ids=true/\Fu objs=true/\X1 regs1 ids ks d objs'.length=true /\ r=unA (G7 d ids ks objs'.length) r' /\ regs' = back (G7 d ids ks objs'.length) (G7 d ids ks objs'.length) objs' (J9 ids ks regs1)
def Bf5 (env:Env)(Qw:C5)(d:Nat)(o:Op)(r:AV)(regs' : C5):Prop:= ∃c f fn as cs xs e m n g,o=.call c/\c.callee=.value f/\Ta env f (c.args.toList.map (aev env))=some (fn,as)/\Us (WH Qw 9) as=some (cs,xs)/\C6 cs/\Sb S fn (xs.map .p) [] (.vec 0) [.vec e m n g false] [] /\ (∀i l,i<n->l<m->Zo ((g i).getD l default)=true)/\A1 Qw (nid d 0)=none/\r=.vec (nid d 0)/\regs' = ins (nid d 0) (.vec e m n g false) Qw
def clsF (cl:Cls)(a b:Prop):Prop:=match cl with
 |.n=>a
 |.r=>b
 |_=>True
def clsX (cl:Cls)(env:Env)(Qw:C5)(d:Nat)(o:Op)(c:List Prop)(v:AV)(regs' : C5):Prop:=match cl with
 |.l js=>(∀q,A1 regs' q=A1 Qw q)/\∀R2,(∀q∈js,A1 R2 q=A1 Qw q)->∃R3,aop P env R2 d o=some ⟨c,v,R3⟩/\∀q,A1 R3 q=A1 R2 q
 |.a js=>∀R2,(∀q∈js,A1 R2 q=A1 Qw q)->∃R3,aop P env R2 d o=some ⟨c,v,R3⟩/\(∀q∈js,A1 R3 q=A1 regs' q)/\∀q,q ∉ js->A1 R3 q=A1 R2 q
 |.b js=>∀q,q ∉ js->A1 regs' q=A1 Qw q
 |_=>True
def AP7 (cl:Cls)(env:Env)(Qw:C5)(d:Nat)(o:Op)(v:AV)(regs' : C5):Prop:= (∃c,aop P env Qw d o=some ⟨c,v,regs'⟩/\C6 c/\clsF cl (isN env o=true) (regs' = Qw)/\clsX P cl env Qw d o c v regs') \/ (AP6 S env o v/\regs' = Qw) \/ ((cl=.w \/ ∃js,cl=.b js/\∀q,q ∉ js->A1 regs' q=A1 Qw q)/\AC8 S env Qw d o v regs') \/ (∃c x,RK P env o=some (c,x)/\C6 c/\v=.p x/\regs' = Qw) \/ ∃js,cl=.a js/\(∀q,q ∉ js->A1 regs' q=A1 Qw q)/\∀R2,(∀q∈js,A1 R2 q=A1 Qw q)->∃R3,(AC8 S env R2 d o v R3 \/ Bf5 S env R2 d o v R3)/\(∀q∈js,A1 R3 q=A1 regs' q)/\∀q,q ∉ js->A1 R3 q=A1 R2 q
def Pa (d:Option Nat)(a:AV)(env:Env):Env:=match d with
 |some d=>ins d a env
 |none=>env
def LB (all:List Oper):List Cls->List Oper->Env->C5->(Env->C5->Prop)->Prop
 |cl::cls,o::rest,env,Qw,k=>∃b,Ai all env o=some b /\
  if b then ∃v regs',AP7 S P cl env Qw (o.dst.getD 0) o.op v regs' /\ LB all cls rest (Pa o.dst v env) regs' k
  else LB all cls rest (Pa o.dst Cl env) Qw k
 |_,[],env,Qw,k=>k env Qw
 |[],_::_,_,_,_=>False
end
section
variable {S:U8}{P:Program}
structure AP8 (S:U8) (P:Program) (all:List Oper) (cls:List Cls) (E:Nat->Env) (R:Nat->C5) (V:Nat->AV):Prop where
 step:∀i o,all[i]? = some o->∃b,Ai all (E i) o=some b /\
  (if b then AP7 S P (cls.getD i .n) (E i) (R i) (o.dst.getD 0) o.op (V i) (R (i+1))else V i=Cl/\R (i+1)=R i)/\E (i+1)=Pa o.dst (V i) (E i)
def Aj7 (all:List Oper):∀(rest:List Oper) (cls:List Cls) (i:Nat) (env:Env) (Qw:C5) (k:Env->C5->Prop),LB S P all cls rest env Qw k->cls.length=rest.length ->
 ∃(E:Nat->Env) (R:Nat->C5) (V:Nat->AV),E 0=env/\R 0=Qw/\k (E rest.length) (R rest.length) /\
  ∀j o,rest[j]? = some o->∃b,Ai all (E j) o=some b /\
   (if b then AP7 S P (cls.getD j .n) (E j) (R j) (o.dst.getD 0) o.op (V j) (R (j+1))else V j=Cl/\R (j+1)=R j)/\E (j+1)=Pa o.dst (V j) (E j)
 |[],[],i,env,Qw,k,h,_=>⟨λ_=>env,λ_=>Qw,λ_=>.top,rfl,rfl,h,λj o c=>by simp at c⟩
 |[],_::_,i,env,Qw,k,h,hl=>by simp at hl
 |_::_,[],i,env,Qw,k,h,hl=>by simp at hl
 |o::rest,cl::cls,i,env,Qw,k,h,hl=>by
  obtain⟨b,hb,h⟩:=h;have key:∃v regs',(if b then AP7 S P cl env Qw (o.dst.getD 0) o.op v regs' else v=Cl/\regs' = Qw)/\LB S P all cls rest (Pa o.dst v env) regs' k:=by
   cases b with
   |true=>simp only[Lc]at h⊢;exact h
   |false=>simp only[By9,Ld]at h⊢;exact⟨_,_,⟨rfl,rfl⟩,h⟩
  obtain⟨v,regs',hs,a⟩:=key;obtain⟨E,R,V,h1,d,f,g⟩:=Aj7 all rest cls (i+1) _ _ k a (by simpa using hl);refine⟨λj=>match j with|0=>env|j+1=>E j,λj=>match j with|0=>Qw|j+1=>R j,λj=>match j with|0=>v|j+1=>V j,rfl,rfl,f,?_⟩;intro j o' c;cases j with
  |zero=>simp only[BF5,By4]at c;subst c;refine⟨b,hb,?_,h1⟩;simp only[BL2,d];exact hs
  |succ j=>
   have:=g j o' (by simpa using c)
   simpa using this
def JP (all:List Oper)(V:Nat->AV)(env:Env)(D:Nat->Bool)(x:Nat):Nat->AV
 |0=>get env x
 |m+1=>if D m=true/\(all[m]?).bind (·.dst)=some x then V m else JP all V env D x m
def EO {all:List Oper}{V:Nat->AV}{env:Env}{D D' : Nat->Bool}{x:Nat}:∀{m:Nat},(∀j,j<m->(all[j]?).bind (·.dst)=some x->D j=D' j)->JP all V env D x m=JP all V env D' x m
 |0,_=>rfl
 |m+1,h=>by
  simp only[JP];rw[EO (m:=m) λj b a=>h j (by omega) a];by_cases a:(all[m]?).bind (·.dst)=some x
  .rw[h m (by omega) a]
  simp[a]
def Xh {all:List Oper}{V:Nat->AV}{env:Env}{D:Nat->Bool}{x i:Nat}(a:D i=true)(hx:(all[i]?).bind (·.dst)=some x):∀{m:Nat},i<m->(∀j,i<j->j<m->(all[j]?).bind (·.dst)=some x->D j=false)->JP all V env D x m=V i
 |0,h,_=>by omega
 |m+1,h,hno=>by
  simp only[JP];by_cases e:i=m
  .subst e;rw[Gy ⟨a,hx⟩]
  rw[Hj]
  .exact Xh a hx (by omega) λj h1 b=>hno j h1 (by omega)
  rintro⟨h1,b⟩;rw[hno m (by omega) (by omega) b]at h1;cases h1
def Ej (env:Env)(d t:Nat)(x:AV):get (ins d x env) t=if d=t then x else get env t:=by
 induction env with
 |nil=>simp[ins,get]
 |cons p r ih=>
  obtain⟨i,b⟩:=p;simp only[ins];split
  .simp only[get]
  split
  .rename_i h;subst h;simp only[get];split<;>rfl
  rename_i h1 a;simp only[get,ih];by_cases h:i=t
  .simp only[h,Lc];rw[Hj (by omega)]
  simp only[h,Ld]
def Aj8 (env:Env)(d:Option Nat)(t:Nat)(x:AV):get (Pa d x env) t=if d=some t then x else get env t:=by
 cases d with
 |none=>simp[Pa]
 |some d=>simp[Pa,Ej]
def Xi {all:List Oper}{cls:List Cls}{E:Nat->Env}{R:Nat->C5}{V:Nat->AV}(h:AP8 S P all cls E R V)(x:Nat):∀m,m<=all.length->get (E m) x=JP all V (E 0) (λj=>decide (j<m)) x all.length:=by
 have h1:∀m,m<=all.length->get (E m) x=JP all V (E 0) (λ_=>true) x m:=by
  intro m
  induction m with
  |zero=>intro _;rfl
  |succ m ih=>intro hm;obtain⟨o,a⟩:∃o,all[m]? = some o:=⟨_,By7 (by omega)⟩;obtain⟨b,_,_,c⟩:=h.step m o a;rw[c,Aj8];simp only[JP,a,By8,true_and];rw[ih (by omega)]
 have d:∀m n,m<=n->JP all V (E 0) (λj=>decide (j<m)) x n=JP all V (E 0) (λ_=>true) x m:=by
  intro m n
  induction n with
  |zero=>
   intro h;obtain rfl:m=0:=by omega
   rfl
  |succ n ih=>
   intro f;by_cases e:m=n+1
   .subst e;exact EO λj g _=>by simp[g]
   simp only[JP];rw[Hj (by simp;intro i;omega),ih (by omega)]
 intro m hm;rw[h1 m hm,d m _ hm]
def AC9 {all:List Oper}{cls:List Cls}{E:Nat->Env}{R:Nat->C5}{V:Nat->AV}(h:AP8 S P all cls E R V){i o q}(s:all[i]? = some o)(hc:EN q (cls.getD i .n)=false):A1 (R (i+1)) q=A1 (R i) q:=by
 obtain⟨b,_,g,_⟩:=h.step i o s;cases b with
 |false=>simp only[By9,Ld]at g;rw[g.2]
 |true=>
  simp only[Lc]at g;rcases g with⟨c,ha,_,f,hx⟩ | ⟨_,d⟩ | ⟨d,_⟩ | ⟨_,_,_,_,_,d⟩ | ⟨js,hk,d,_⟩
  .cases hk:cls.getD i .n with
   |n=>rw[hk]at f;rw[(UP f ha).1]
   |r=>rw[hk]at f;rw[show R (i+1)=R i from f]
   |w=>rw[hk]at hc;cases hc
   |l j=>rw[hk]at hx;exact hx.1 q
   |a j=>rw[hk]at hx hc;obtain⟨R3,m,_,t⟩:=hx (R i) λ_ _=>rfl;rw[m]at ha;cases ha;exact t q (by simpa[EN]using hc)
   |b j=>rw[hk]at hx hc;exact hx q (by simpa[EN]using hc)
  .rw[d]
  .rcases d with d|⟨js,d,m⟩
   .rw[d]at hc;cases hc
   rw[d]at hc;exact m q (by simpa[EN]using hc)
  .rw[d]
  rw[hk]at hc;exact d q (by simpa[EN]using hc)
def ZM {all:List Oper}{cls:List Cls}{E:Nat->Env}{R:Nat->C5}{V:Nat->AV}(h:AP8 S P all cls E R V)(q:Nat):∀(a b:Nat),a<=b->b<=all.length->(∀j,a<=j->j<b->EN q (cls.getD j .n)=false)->A1 (R b) q=A1 (R a) q:=by
 intro a b
 induction b with
 |zero=>
  intro h1 _ _;obtain rfl:a=0:=by omega
  rfl
 |succ b ih=>
  intro h1 g c;by_cases e:a=b+1
  .rw[e]
  obtain⟨o,d⟩:∃o,all[b]? = some o:=⟨_,By7 (by omega)⟩;rw[AC9 h d (c b (by omega) (by omega)),ih (by omega) (by omega) λj f i=>c j f (by omega)]
def KX {o:Oper}{k:St->Prop}{Q:J3}{st:St}{c:List Prop}{v:AV}{R' : C5}(h:aop P st.env st.Qw (o.dst.getD 0) o.op=some ⟨c,v,R'⟩)(hc:C6 c)(hk:k (put { st with Qw:=R' } o.dst v)):wOp S P o k Q st:=by
 unfold wOp;split
 .rename_i a;rw[a]at h;simp[aop]at h
 .rename_i a;rw[a]at h;simp[aop]at h
 .rename_i a;rw[a]at h;simp[aop]at h
 .rename_i a;rw[a]at h;simp[aop]at h
 exact .inl ⟨_,h,hc,hk⟩
def AP9 {o:Oper}{k:St->Prop}{Q:J3}{st:St}{c:List Prop}{x:PV}(h:RK P st.env o.op=some (c,x))(hc:C6 c)(hk:k (put st o.dst (.p x))):wOp S P o k Q st:=by
 unfold wOp;split
 .rename_i a;rw[a]at h;simp[RK]at h
 .rename_i a;rw[a]at h;simp[RK]at h
 .rename_i a;rw[a]at h;simp[RK]at h
 .rename_i a;rw[a]at h;simp[RK]at h
 exact .inr (.inl ⟨_,_,h,hc,hk⟩)
def Ar1 {env env' : Env}{o:Op}(h:∀x∈o.operands.toList,aev env x=aev env' x):RK P env o=RK P env' o:=by
 cases o with
 |buildSlice t n parts=>
  have:(parts.toList.map λq=>aev env q.2)=parts.toList.map λq=>aev env' q.2:=BB8 λq a=>h q.2 (by simp only[Op.operands];simpa using ⟨q.1,by simpa using a⟩)
  simp only[RK,this]
 |makeSlice t l c=>have h1:aev env l=aev env' l:=h l (by simp[Op.operands]);have b:aev env c=aev env' c:=h c (by simp[Op.operands]);simp only[RK,h1,b]
 |_=>rfl
def Xj (ops:List Oper):∀(rest:List Oper) (acc:List (List Nat)),acc.length+rest.length=ops.length->ops.drop acc.length=rest->∀i,(i<acc.length->(UO rest acc).getD i []=acc.getD i []) /\
 (acc.length<=i->i<ops.length->∃o,ops[i]? = some o/\∃pre,(UO rest acc).getD i []=Ar0 pre o/\∀j,j<i->pre.getD j []=(UO rest acc).getD j [])
 |[],acc,hl,hd,i=>⟨λ_=>rfl,λh1 d=>by simp at hl;omega⟩
 |o::rest,acc,hl,hd,i=>by
  have f:ops[acc.length]? = some o:=by
   have:(ops.drop acc.length)[0]? = some o:=by rw[hd];rfl
   simpa using this
  have b : ops.drop (acc++[Ar0 acc o]).length=rest:=by
   have:(ops.drop acc.length).drop 1=rest:=by rw[hd];rfl
   rw[BK7]at this;simpa using this
  have ih:=λi=>Xj ops rest (acc++[Ar0 acc o]) (by simp at hl⊢;omega) b i;have a:∀j,j<acc.length->(UO (o::rest) acc).getD j []=acc.getD j []:=by intro j c;simp only[UO];rw[(ih j).1 (by simp;omega)];simp[By3,BD8 c]
  refine⟨a i,λh1 d=>?_⟩;by_cases e:i=acc.length
  .subst e;refine⟨o,f,acc,?_,λj c=>(a j c).symm⟩;simp only[UO];rw[(ih acc.length).1 (by simp)];simp[By3]
  simp only[UO];exact (ih i).2 (by simp;omega) d
def Nc {ops:List Oper}(a:Ip ops=true){D:Nat->Bool}(s:∀i o,D i=true->ops[i]? = some o->∀e∈o.after.toList,EH e=true->D e.on=true) :∀(i:Nat) (o:Oper),ops[i]? = some o->(∀e∈o.after.toList,EH e=true->D e.on=true)->∀j∈(Bp1 ops).getD i [],D j=true:=by
 intro i
 induction i using Nat.strongRecOn with
 |_ i ih=>
  intro o r c j b;have d:i<ops.length:=(Bz8.1 r).1;obtain⟨o',f,pre,h1,t⟩:=(Xj ops ops [] (by simp) (by simp) i).2 (by simp) d;rw[r]at f;cases f;have h1:(Bp1 ops).getD i []=Ar0 pre o:=h1;rw[h1]at b;unfold Ar0 at b;have b:=UN b;rw[List.mem_flatMap]at b;obtain⟨e,g,b⟩:=b;rw[BN0]at g;obtain⟨g,hb⟩:=g;have l:e.on<i:=by
   unfold Ip at a;rw[Bz2]at a
   have:=a i (by simpa using d)
   simp only[r,Bz2,BA4,BA7,decide_eq_true_eq]at this;rcases this e g with q|q
   .rw[hb]at q;cases q
   exact q
  have m:=c e g hb;rcases BC1.1 b with rfl|b
  .exact m
  rw[t e.on l]at b;obtain⟨oe,n⟩:∃oe,ops[e.on]? = some oe:=⟨_,By7 (by omega)⟩;exact ih e.on l oe n (s e.on oe m n) j b
end
section
variable {S:U8}{P:Program}
def Tv {Qw:C5}:∀{l:List AV},l.all AC7=true->Im Qw l=some (l,Qw)
 |[],_=>rfl
 |a::r,h=>by simp only[BI3,By5]at h;have ih:=Tv (Qw:=Qw) h.2;cases a<;>simp only[Im,ih]<;>simp[AC7]at h
def JB {env env' : Env}{f:Operand}{as:List AV}(h:aev env f=aev env' f):Ta env f as=Ta env' f as:=by unfold Ta;rw[h]
def Tw {all:List Oper}{V:Nat->AV}{env:Env}{x:Nat}:∀m,JP all V env (λ_=>false) x m=get env x
 |0=>rfl
 |m+1=>by simp only[JP];rw[Hj (by simp),Tw m]
def Aj9 (hS:G0 S P){F:J3}{K:List It}{id:Nat}{ops:Array Oper}{env:Env}{Qw:C5}(cls:List Cls)(hmix:P.follows .mixedOrders=true)(hok:NM ops.toList cls=true)
 (h:LB S P ops.toList cls ops.toList env Qw λenv Qw=>G S P F (.pop .normal K ⟨env,Qw⟩)):G S P F (.code (.region id ops true) K ⟨env,Qw⟩):=by
 simp only[G,awp,Lc];generalize ops.toList=all at hok h;simp only[NM,By5,beq_iff_eq,Bz2,BC0]at hok;obtain⟨⟨hdep,hlen⟩,hpair⟩:=hok;obtain⟨E,R,V,hE0,hR0,hk,hstep⟩:=Aj7 all all cls 0 env Qw _ h hlen;have T:AP8 S P all cls E R V:=⟨hstep⟩;have hpr:∀(i j:Nat) (oi oj:Oper),i<j->all[i]? = some oi->all[j]? = some oj->i∈(Bp1 all).getD j [] \/ Iw all (cls.getD i .n) (cls.getD j .n) oi oj=true:=by
  intro i j oi oj hij hi y
  have:=hpair j (Bz8.1 y).1 i hij
  simp only[hi,y,BA4,BC2,decide_eq_true_eq]at this;exact this
 let down:(Nat->Bool)->Prop:=λD=>∀i o,D i=true->all[i]? = some o->∀e∈o.after.toList,EH e=true->D e.on=true
 let Inv:(Nat->Bool)->St->Prop:=λD s=>down D/\(∀x,get s.env x=JP all V env D x all.length) /\
  ∀q,∃k,k<=all.length/\(∀i,i<all.length->EN q (cls.getD i .n)=true->(D i=true↔i<k))/\A1 s.Qw q=A1 (R k) q
 refine⟨hmix,hdep,Inv,⟨λi o hi=>(by cases hi),λx=>(Tw _).symm,λq=>⟨0,BG6 _,λi _ _=>by simp,by rw[hR0]⟩⟩,?_,?_⟩
 .intro D i s o ⟨hD,henv,hreg⟩ ho hDi hready;have hin:i<all.length:=(Bz8.1 ho).1;have hanc:=Nc hdep hD i o ho hready;have hbef:∀j oj,j<i->all[j]? = some oj->D j=true \/ Iw all (cls.getD j .n) (cls.getD i .n) oj o=true:=λj oj y d=>
   (hpr j i oj o y d ho).imp (hanc j) λh=>h
  have haft:∀j oj,i<j->all[j]? = some oj->D j=true->Iw all (cls.getD i .n) (cls.getD j .n) o oj=true:=by
   intro j oj y d hDj;rcases hpr i j o oj y ho d with h1|h1
   .have:=Nc hdep hD j oj d (hD j oj hDj d) i h1
    rw[hDi]at this;cases this
   exact h1
  have hrd:∀x∈reads all o,get s.env x=get (E i) x:=by
   intro x hx;rw[henv x,Xi T x i (by omega),hE0];refine EO λj y hd=>?_;obtain⟨oj,d⟩:∃oj,all[j]? = some oj:=⟨_,By7 y⟩;simp only[d,By8]at hd;by_cases e:j<i
   .simp only[e,decide_true];rcases hbef j oj e d with h1|h1
    .exact h1
    simp only[Iw,hd,By5,BA7,BC2,decide_eq_false_iff_not]at h1;exact Ij hx h1.1.2.1
   simp only[e,decide_false];by_cases e2:j=i
   .subst e2;exact hDi
   cases hDj:D j with
   |false=>rfl
   |true=>have h1:=haft j oj (by omega) d hDj;simp only[Iw,hd,By5,BA7,BC2,decide_eq_false_iff_not]at h1;exact Ij hx h1.2
  have g:∀x∈o.op.operands.toList,aev s.env x=aev (E i) x:=λx hx=>AC6 λt ht=>hrd t (BB9 _ (List.mem_flatMap.2 ⟨x,hx,ht⟩));have hq:∀q,Aq9 q (cls.getD i .n)=true->A1 s.Qw q=A1 (R i) q:=by
   intro q hn;obtain⟨k,hkn,hW,hr⟩:=hreg q;rw[hr];by_cases hki:k<=i
   .refine (ZM T q k i hki (by omega) λj h1 h2=>?_).symm;cases hw:EN q (cls.getD j .n)with
    |false=>rfl
    |true=>
     obtain⟨oj,d⟩:∃oj,all[j]? = some oj:=⟨_,By7 (by omega)⟩;rcases hbef j oj h2 d with h3|h3
     .have:=(hW j (by omega) hw).1 h3;omega
     simp only[Iw,(GZ hw hn).1,BI4,BK8,By9]at h3
   refine ZM T q i k (by omega) hkn λj h1 h2=>?_;cases hw:EN q (cls.getD j .n)with
   |false=>rfl
   |true=>
    have hDj:D j=true:=(hW j (by omega) hw).2 h2;by_cases e:j=i
    .subst e;rw[hDi]at hDj;cases hDj
    obtain⟨oj,d⟩:∃oj,all[j]? = some oj:=⟨_,By7 (by omega)⟩;have h3:=haft j oj (by omega) d hDj;simp only[Iw,(GZ hw hn).2,BI4,BK8,By9]at h3
  obtain⟨b,hb,hs,hEi⟩:=hstep i o ho;have hdown:down λj=>if j=i then true else D j:=by
   intro j oj y d e he hbe;by_cases e1:j=i
   .subst e1;rw[ho]at d;cases d
    have:=hready e he hbe
    show (if e.on=j then true else D e.on)=true;split
    .rfl
    exact this
   have hj' : D j=true:=by
    have y:(if j=i then true else D j)=true:=y
    rwa [Hj e1]at y
   have:=hD j oj hj' d e he hbe
   show (if e.on=i then true else D e.on)=true;split
   .rfl
   exact this
  have henv' : ∀x,get (Pa o.dst (V i) s.env) x=JP all V env (λj=>if j=i then true else D j) x all.length:=by
   intro x;rw[Aj8];by_cases hd:o.dst=some x
   .rw[Gy hd];refine (Xh (by simp) (by simp[ho,hd]) hin λj h1 h2 h3=>?_).symm;have hne:j≠i:=by omega
    simp only[hne,Ld];obtain⟨oj,d⟩:∃oj,all[j]? = some oj:=⟨_,By7 h2⟩;simp only[d,By8]at h3;cases hDj:D j with
    |false=>rfl
    |true=>have h4:=haft j oj h1 d hDj;simp[Iw,hd,h3]at h4
   rw[Hj hd,henv x];refine EO λj y h3=>?_;have hne:j≠i:=by rintro rfl;rw[ho]at h3;exact hd h3
   simp[hne]
  have z:∀R',(∀q,EN q (cls.getD i .n)=true->A1 R' q=A1 (R (i+1)) q)->(∀q,EN q (cls.getD i .n)=false->A1 R' q=A1 s.Qw q)->Inv (λj=>if j=i then true else D j) (put ⟨s.env,R'⟩ o.dst (V i)):=by
   intro R' h1 h2;refine⟨hdown,?_,λq=>?_⟩
   .intro x
    have:=henv' x
    cases hd:o.dst<;>simp only[hd,put,Pa]at this⊢<;>exact this
   have hput:(put ⟨s.env,R'⟩ o.dst (V i)).Qw=R':=by cases o.dst<;>rfl
   rw[hput];cases hw:EN q (cls.getD i .n)with
   |false=>
    obtain⟨k,hkn,hW,hr⟩:=hreg q;refine⟨k,hkn,λj y hwj=>?_,(h2 q hw).trans hr⟩;have hne:j≠i:=by rintro rfl;rw[hw]at hwj;cases hwj
    simp only[hne,Ld];exact hW j y hwj
   |true=>
    refine⟨i+1,by omega,λj y hwj=>?_,h1 q hw⟩;by_cases e:j=i
    .simp[e]
    simp only[e,Ld];obtain⟨oj,d⟩:∃oj,all[j]? = some oj:=⟨_,By7 y⟩;constructor
    .intro hDj;by_cases hlt:i<j
     .have h3:=haft j oj hlt d hDj;simp only[Iw,(GZ hw (KW hwj)).1,BI4,BK8,By9]at h3
     omega
    intro hlt;rcases hbef j oj (by omega) d with h3|h3
    .exact h3
    simp only[Iw,(GZ hwj (KW hw)).1,BI4,BK8,By9]at h3
  obtain⟨RT,a0,hRT2⟩:∃RT,(∀q,A1 s.Qw q=A1 RT q)/\((cls.getD i .n=.r \/ cls.getD i .n=.w \/ ∃js,cls.getD i .n=.b js)->RT=R i):=by
   by_cases hall:cls.getD i .n=.r \/ cls.getD i .n=.w \/ ∃js,cls.getD i .n=.b js
   .exact⟨R i,λq=>hq q (by rcases hall with h1|h1|⟨js,h1⟩<;>rw[h1]<;>rfl),λ_=>rfl⟩
   exact⟨s.Qw,λ_=>rfl,λh=>Ij h hall⟩
  have hsame:R (i+1)=R i->Inv (λj=>if j=i then true else D j) (put ⟨s.env,RT⟩ o.dst (V i)):=λhRi=>
   z RT (λq hw=>by rw[<- a0 q,hq q (KW hw),hRi]) λq _=>(a0 q).symm
  have hrun:b=true->wOp S P o (Inv λj=>if j=i then true else D j) (kp S P K F) ⟨s.env,RT⟩:=by
   intro hbt;rw[hbt,Gy rfl]at hs;rcases hs with⟨c,ha,hc,hcl,hcx⟩ | ⟨hp,hRi⟩ | ⟨hw,hdet⟩ | ⟨c,x,ha,hc,hvx,hRi⟩ | ⟨js,u,_,hx⟩
   .cases u : cls.getD i .n with
    |n=>rw[u]at hcl;have h1:=UP hcl ha;have ha':=h1.2 RT;rw[<- Gu g]at ha';exact KX ha' hc (hsame h1.1)
    |r=>rw[u]at hcl;rw[<- Gu g,<- hRT2 (.inl u)]at ha;refine KX ha hc ?_;have hcl:R (i+1)=R i:=hcl;rw[hcl,<- hRT2 (.inl u)];exact hsame hcl
    |w=>rw[<- Gu g,<- hRT2 (.inr (.inl u))]at ha;exact KX ha hc (z _ (λ_ _=>rfl) λq hw=>by rw[u]at hw;cases hw)
    |b js=>
     rw[u]at hcx;rw[<- Gu g,<- hRT2 (.inr (.inr ⟨js,u⟩))]at ha;exact KX ha hc (z _ (λ_ _=>rfl) λq hw=>by rw[u]at hw;rw[hcx q (by simpa[EN]using hw),a0 q,hRT2 (.inr (.inr ⟨js,u⟩))])
    |l js=>
     rw[u]at hcx;obtain⟨R3,ha',h3⟩:=hcx.2 RT λq y=>by rw[<- a0 q];exact hq q (by rw[u];simpa[Aq9]using y)
     rw[<- Gu g]at ha';exact KX ha' hc (z R3 (λq hw=>by rw[u]at hw;cases hw) λq hw=>by rw[h3 q,a0 q])
    |a js=>
     rw[u]at hcx;obtain⟨R3,ha',h3,h4⟩:=hcx RT λq y=>by rw[<- a0 q];exact hq q (by rw[u];simpa[Aq9]using y)
     rw[<- Gu g]at ha';refine KX ha' hc (z R3 (λq hw=>?_) λq hw=>?_)
     .rw[u]at hw;exact h3 q (by simpa[EN]using hw)
     rw[u]at hw;rw[h4 q (by simpa[EN]using hw),a0 q]
   .obtain⟨c,f,fn,as',args,r',e1,e2,e3,e4,e5,e6,e7⟩:=hp;obtain⟨callee,cargs,types⟩:=c;simp only at e2 e3 e4;subst e2;have v:cargs.toList.map (aev s.env)=cargs.toList.map (aev (E i)):=BB8 λx hx=>g x (by rw[e1];simp[Op.operands,Call.operands];exact .inr (by simpa using hx));have hf:aev s.env f=aev (E i) f:=g f (by rw[e1];simp[Op.operands,Call.operands]);unfold wOp;rw[e1];refine .inl ⟨_,RT,fn,as',by rw[v];exact .inl (Tv e3),by rw[JB hf];exact e4,[],args,[],rfl,e5,rfl,rfl,hS.monoF _ _ _ _ _ ?_ e6⟩;rintro _ _ _ ⟨rfl,rfl,rfl⟩;refine⟨rfl,?_⟩
    have:(G7 (o.dst.getD 0) [] [] ([]:List Obj).length)=[]:=rfl
    rw[this];show Inv _ (put ⟨s.env,RT⟩ o.dst (unA [] r'));rw[<- e7];exact hsame hRi
   .obtain⟨c,f,as,regs1,fn,as',args,objs,objs',ks,r',ids,e1,e2,e3,e4,e5,e6,e7,e8,e9,e10,e11,e12⟩:=hdet;obtain⟨callee,cargs,types⟩:=c;simp only at e2 e3;subst e2;have v:cargs.toList.map (aev s.env)=cargs.toList.map (aev (E i)):=BB8 λx hx=>g x (by rw[e1];simp[Op.operands,Call.operands];exact .inr (by simpa using hx));have hf:aev s.env f=aev (E i) f:=g f (by rw[e1];simp[Op.operands,Call.operands]);unfold wOp;rw[e1];have hRTi:RT=R i:=hRT2 (hw.elim (λh=>.inr (.inl h)) fun⟨js,h,_⟩=>.inr (.inr ⟨js,h⟩));refine .inl ⟨as,regs1,fn,as',by rw[v,hRTi];exact .inl e3,by rw[JB hf];exact e4,ids,args,objs,e8,e5,e6,e9,hS.monoF _ _ _ _ _ ?_ e7⟩;rintro _ _ _ ⟨rfl,rfl,rfl⟩;refine⟨e10,?_⟩;show Inv _ (put ⟨s.env,_⟩ o.dst (unA _ r'));rw[<- e11,<- e12];exact z _ (λ_ _=>rfl) λq h=>by
     rcases hw with hw|⟨js,hw,h4⟩
     .rw[hw]at h;cases h
     rw[hw]at h;rw[h4 q (by simpa[EN]using h),a0 q,hRTi]
   .rw[<- Ar1 g]at ha;have hfin:=hsame hRi;rw[hvx]at hfin;exact AP9 ha hc hfin
   obtain⟨R3,⟨c,f,as,regs1,fn,as',args,objs,objs',ks,r',ids,e1,e2,e3,e4,e5,e6,e7,e8,e9,e10,e11,e12⟩ | ⟨c,f,fn,as,cs,xs,e0,m,n,g0,e1,e2,e3,e4,e5,e6,e7,e8,e9,e10⟩,h3,h4⟩:=hx RT λq y=>by rw[<- a0 q];exact hq q (by rw[u];simpa[Aq9]using y)
   .obtain⟨callee,cargs,types⟩:=c;simp only at e2 e3;subst e2;have v:cargs.toList.map (aev s.env)=cargs.toList.map (aev (E i)):=BB8 λx hx=>g x (by rw[e1];simp[Op.operands,Call.operands];exact .inr (by simpa using hx));have hf:aev s.env f=aev (E i) f:=g f (by rw[e1];simp[Op.operands,Call.operands]);unfold wOp;rw[e1];refine .inl ⟨as,regs1,fn,as',by rw[v];exact .inl e3,by rw[JB hf];exact e4,ids,args,objs,e8,e5,e6,e9,hS.monoF _ _ _ _ _ ?_ e7⟩;rintro _ _ _ ⟨rfl,rfl,rfl⟩;refine⟨e10,?_⟩;show Inv _ (put ⟨s.env,_⟩ o.dst (unA _ r'));rw[<- e11,<- e12];exact z R3 (λq hw=>by rw[u]at hw;exact h3 q (by simpa[EN]using hw)) λq hw=>by rw[u]at hw;rw[h4 q (by simpa[EN]using hw),a0 q]
   obtain⟨callee,cargs,types⟩:=c;simp only at e2 e3;subst e2;have v:cargs.toList.map (aev s.env)=cargs.toList.map (aev (E i)):=BB8 λx hx=>g x (by rw[e1];simp[Op.operands,Call.operands];exact .inr (by simpa using hx));have hf:aev s.env f=aev (E i) f:=g f (by rw[e1];simp[Op.operands,Call.operands]);unfold wOp;rw[e1];refine .inr (.inr (.inl ⟨fn,as,cs,xs,by rw[v,JB hf];exact e3,e4,e5,hS.monoF _ _ _ _ _ ?_ e6⟩));rintro _ _ _ ⟨rfl,rfl,rfl⟩;refine .inr ⟨e0,m,n,g0,rfl,rfl,e7,e8,?_⟩;show Inv _ (put ⟨s.env,_⟩ o.dst _);rw[<- e9,<- e10];exact z R3 (λq hw=>by rw[u]at hw;exact h3 q (by simpa[EN]using hw)) λq hw=>by rw[u]at hw;rw[h4 q (by simpa[EN]using hw),a0 q]
  have hskip:b=false->Inv (λj=>if j=i then true else D j) (put ⟨s.env,RT⟩ o.dst Cl):=by intro hbf;rw[hbf]at hs;simp only[By9,Ld]at hs;obtain⟨hv,hRi⟩:=hs;rw[<- hv];exact hsame hRi
  refine hS.eqv s ⟨s.env,RT⟩ _ (λ_=>rfl) a0 ?_;cases hg:o.guard with
  |none=>simp only[Ai,hg,By4]at hb;exact hrun hb.symm
  |some q=>
   obtain⟨j,want⟩:=q;simp only[Ai,hg,BB6]at hb;obtain⟨b0,hy,hb0⟩:=hb;have hsl:get s.env (FO all j)=get (E i) (FO all j):=hrd _ (BA9 _ (by simp[hg]));refine⟨b0,by rw[hsl];exact hy,?_⟩;by_cases hbw:b0=some want
   .rw[Gy hbw];exact hrun (by rw[<- hb0];simp[hbw])
   rw[Hj hbw];exact hskip (by rw[<- hb0];simp[hbw])
 intro D s ⟨hD,henv,hreg⟩ hall;refine hS.eqv s ⟨E all.length,R all.length⟩ _ (λx=>?_) (λq=>?_) hk
 .show get s.env x=get (E all.length) x;rw[henv x,Xi T x _ (Bz5 _),hE0];exact EO λj y _=>by simp[hall j y,y]
 obtain⟨k,hkn,hW,hr⟩:=hreg q;rw[hr];refine (ZM T q k all.length hkn (Bz5 _) λj h1 h2=>?_).symm;cases hw:EN q (cls.getD j .n)with
 |false=>rfl
 |true=>have:=(hW j h2 hw).1 (hall j h2);omega
end
def clsOf:Op->Cls
 |.store .. | .alloc _ | .box .. | .buildSlice .. | .makeMap .. | .makeSlice .. | .mapUpdate .. | .insert .. | .entryStore .. | .mapEntry ..=>.w
 |.load .. | .indexAddr .. | .lookup ..=>.r
 |.call { callee:=.builtin .len,.. } | .call { callee:=.builtin .cap,.. }=>.r
 |.call { callee:=.builtin .min,.. } | .call { callee:=.builtin .max,.. }=>.n
 |.call _=>.w
 |_=>.n
def isR (env:Env):Op->Bool
 |.load .. | .indexAddr ..=>true
 |.lookup _ _ k _=>isP (aev env k)
 |.call { callee:=.builtin .len,.. }=>true
 |o=>isN env o
def inJ (js:List Nat):AV->Bool
 |.p _=>true
 |.vec i=>js.contains i
 |.vecp i _=>js.contains i
 |_=>false
def adJ (js:List Nat):AV->Bool
 |.reg i _=>js.contains i
 |.elt i _ _ _=>js.contains i
 |_=>false
def mrJ (js:List Nat):AV->Bool
 |.Se i=>js.contains i
 |_=>false
def isL (js:List Nat)(env:Env):Op->Bool
 |.lookup _ m k _=>mrJ js (aev env m)&&isP (aev env k)
 |.load _ a=>adJ js (aev env a)
 |.indexAddr _ x _=>adJ js (aev env x)||inJ js (aev env x)
 |.call { callee:=.builtin .len,args,.. }=>args.toList.all λx=>inJ js (aev env x)
 |_=>false
def isA (js:List Nat)(env:Env)(d:Nat):Op->Bool
 |.alloc _=>js.contains (nid d 0)
 |.box _ _=>js.contains (nid d 0)
 |.store _ a _=>adJ js (aev env a)
 |.call { callee:=.builtin .append,args,.. }=>js.contains (nid d 0)&&args.toList.all λx=>inJ js (aev env x)
 |.buildSlice _ _ parts=>js.contains (nid d 0)&&parts.toList.all λq=>isP (aev env q.2)
 |.makeMap _ none=>js.contains (nid d 0)
 |.mapEntry _ m k=>mrJ js (aev env m)&&isP (aev env k)
 |.entryStore _ m _ x=>mrJ js (aev env m)&&isP (aev env x)
 |_=>false
def isB (js:List Nat)(env:Env)(d:Nat):Op->Bool
 |.buildSlice _ _ parts=>js.contains (nid d 0)&&parts.toList.all λq=>inJ js (aev env q.2)
 |_=>false
def Xk (cl:Cls)(env:Env)(d:Nat)(o:Op):Bool:=match cl with
 |.n=>isN env o
 |.r=>isR env o
 |.w=>true
 |.l j=>isL j env o
 |.a j=>isA j env d o
 |.b j=>isB j env d o
structure SRes:Type 1 where
 conds:List Prop
 cls:List Cls
 rest:List Oper
 env:Env
 Qw:C5
def Bp2 (kn:List Nat)(all:List Oper)(env:Env)(o:Oper):Bool:=match o.guard with
 |none=>false
 |some (j,_)=>match kn.contains j with
  |true=>false
  |false=>match get env (FO all j)with
   |.p (.bb _)=>true
   |_=>false
def RI (P:Program)(kn:List Nat)(all:List Oper):List Cls->List Oper->List Prop->Env->C5->SRes
 |cl::cls,o::rest,c,env,Qw=>
  match Bp2 kn all env o with
  |true=>⟨c,cl::cls,o::rest,env,Qw⟩
  |false=>match Ai all env o with
  |some true=>match AN3 o.op&&Xk cl env (o.dst.getD 0) o.op with
   |true=>match aop P env Qw (o.dst.getD 0) o.op with
    |none=>⟨c,cl::cls,o::rest,env,Qw⟩
    |some ⟨p,v,regs'⟩=>fA v λv=>fR regs' λregs'=>fC p c λc=>
     match o.dst with
     |some d=>Az7 d v env λenv=>RI P kn all cls rest c env regs'
     |none=>RI P kn all cls rest c env regs'
   |false=>⟨c,cl::cls,o::rest,env,Qw⟩
  |some false=>match o.dst with
   |some d=>Az7 d Cl env λenv=>RI P kn all cls rest c env Qw
   |none=>RI P kn all cls rest c env Qw
  |none=>⟨c,cl::cls,o::rest,env,Qw⟩
 |cls,rest,c,env,Qw=>⟨c,cls,rest,env,Qw⟩
section
variable {S:U8}{P:Program}
def AQ0 {env:Env}{R R' : C5}{d:Nat}{o:Op}{c:List Prop}{v:AV}(f:isR env o=true)(h:aop P env R d o=some ⟨c,v,R'⟩):R' = R:=by
 have gen:isN env o=true->R' = R:=λhn=>(UP hn h).1;cases o with
 |load t a=>
  simp only[aop]at h;split at h
  .simp only[By4,Out.mk.injEq]at h;exact h.2.2.symm
  cases h
 |indexAddr t x i=>
  simp only[aop]at h;split at h
  .split at h
   .simp only[By4,Out.mk.injEq]at h;exact h.2.2.symm
   cases h
  cases h
 |lookup t m k ok=>
  simp only[isR]at f;cases hk:aev env k<;>simp only[hk,isP,By9]at f;simp only[aop,hk,DO]at h;split at h
  .simp only[By4,Out.mk.injEq]at h;exact h.2.2.symm
  cases h
 |call cc=>
  obtain⟨callee,args,types⟩:=cc;cases callee with
  |builtin b=>
   cases b with
   |len=>
    simp only[aop]at h;split at h
    .split at h
     .simp only[By4,Out.mk.injEq]at h;exact h.2.2.symm
     cases h
    cases h
   |_=>exact gen f
  |_=>exact gen f
 |_=>exact gen f
def O1 (Qw:C5)(d t:Nat)(x:Obj):A1 (ins d x Qw) t=if d=t then some x else A1 Qw t:=by
 induction Qw with
 |nil=>simp[ins,A1]
 |cons p r ih=>
  obtain⟨i,b⟩:=p;simp only[ins];split
  .simp only[A1]
  split
  .rename_i h;subst h;simp only[A1];split<;>rfl
  rename_i h1 a;simp only[A1,ih];by_cases h:i=t
  .simp only[h,Lc];rw[Hj (by omega)]
  simp only[h,Ld]
def Ak0 {js:List Nat}{a:AV}(h:adJ js a=true):∃i∈js,(∃off,a=.reg i off) \/ ∃k n off,a=.elt i k n off:=by
 cases a with
 |reg i off=>exact⟨i,by simpa[adJ]using h,.inl ⟨off,rfl⟩⟩
 |elt i k n off=>exact⟨i,by simpa[adJ]using h,.inr ⟨k,n,off,rfl⟩⟩
 |_=>cases h
section
variable {js:List Nat}{R R2:C5}(hR:∀q∈js,A1 R2 q=A1 R q)
include hR
theorem AQ1 {t:TypeId}{a:AV}(ha:adJ js a=true):load P R2 t a=load P R t a:=by obtain⟨i,b,⟨off,rfl⟩ | ⟨k,n,off,rfl⟩⟩:=Ak0 ha<;>simp only[load,hR i b]
theorem Ar2 {t:TypeId}{x:AV}{n:Int}(ha:(adJ js x||inJ js x)=true):Gl P R2 t x n=Gl P R t x n:=by
 cases x with
 |vec i=>
  have a:i∈js:=by simpa[adJ,inJ]using ha
  unfold Gl;cases tk P t with
  |none=>rfl
  |some k=>cases k<;>first|rfl|simp only[hR i a]
 |vecp i m=>
  have a:i∈js:=by simpa[adJ,inJ]using ha
  unfold Gl;cases tk P t with
  |none=>rfl
  |some k=>cases k<;>first|rfl|simp only[hR i a]
 |reg i off=>unfold Gl;cases tk P t with
  |none=>rfl
  |some k=>cases k<;>rfl
 |p y=>unfold Gl;cases tk P t with
  |none=>rfl
  |some k=>cases k<;>cases y<;>rfl
 |elt i k n off=>unfold Gl;cases tk P t with
  |none=>rfl
  |some k=>cases k<;>rfl
 |_=>cases ha
theorem AQ2 {t:TypeId}{x:AV}(ha:inJ js x=true):Ay0 P R2 t x=Ay0 P R t x:=by
 cases x with
 |vec i=>
  have a:i∈js:=by simpa[inJ]using ha
  unfold Ay0;cases tk P t with
  |none=>rfl
  |some k=>cases k<;>first|rfl|simp only[hR i a]
 |vecp i m=>unfold Ay0;cases tk P t with
  |none=>rfl
  |some k=>cases k<;>rfl
 |p y=>unfold Ay0;split<;>simp_all
 |_=>cases ha
theorem Xl {k:Nat}{x:AV}(ha:inJ js x=true):elems R2 k x=elems R k x:=by
 cases x with
 |vec i=>
  have a:i∈js:=by simpa[inJ]using ha
  simp only[elems,hR i a]
 |vecp i m=>
  have a:i∈js:=by simpa[inJ]using ha
  simp only[elems,hR i a]
 |p y=>unfold elems;split<;>simp_all
 |_=>cases ha
theorem AD0 {e:TypeId}{k:Nat}{x:AV}{q:Nat×(Nat->List PV)×Bool×C5}(ha:inJ js x=true)(h:Up R e k x=some q) :(Up R2 e k x=some (q.1,q.2.1,q.2.2.1,R2)/\q.2.2.2=R) \/ ∃j∈js,Up R2 e k x=some (q.1,q.2.1,q.2.2.1,ins j .dead R2)/\q.2.2.2=ins j .dead R:=by
 cases x with
 |vec i=>
  have b:i∈js:=by simpa[inJ]using ha
  simp only[Up]at h⊢;rw[hR i b]
  right
  refine⟨i,b,?_⟩;cases a:A1 R i with
  |none=>simp[a]at h
  |some o=>
   cases o with
   |vec e' m n f vw=>
    simp only[a]at h⊢;split at h
    .rename_i hc;cases h;exact⟨by rw[Gy hc],rfl⟩
    cases h
   |_=>simp[a]at h
 |vecp i m=>
  have b:i∈js:=by simpa[inJ]using ha
  simp only[Up]at h⊢;rw[hR i b]
  right
  refine⟨i,b,?_⟩;cases a:A1 R i with
  |none=>simp[a]at h
  |some o=>
   cases o with
   |vec e' m n f vw=>
    cases vw with
    |true=>simp[a]at h
    |false=>
     simp only[a]at h⊢;split at h
     .rename_i hc;cases h;exact⟨by rw[Gy hc],rfl⟩
     cases h
   |_=>simp[a]at h
 |p y=>
  left
  unfold Up at h⊢;split at h
  .cases h;exact⟨rfl,rfl⟩
  .rename_i h1;cases h1
  .rename_i h1;cases h1
  cases h
 |_=>cases ha
theorem AD1 {t:TypeId}{a x:AV}{c:List Prop}{R' : C5}(ha:adJ js a=true)(h:store P R t a x=some (c,R')):∃i∈js,∃o,R' = ins i o R/\store P R2 t a x=some (c,ins i o R2):=by
 obtain⟨i,s,g⟩:=Ak0 ha;refine⟨i,s,?_⟩;have r:=hR i s;have fin:∀(p:Prop) [Decidable p] (c0:List Prop) (o:Obj),(if p then some (c0,ins i o R)else none)=some (c,R')->∃o',R' = ins i o' R/\(if p then some (c0,ins i o R2)else none)=some (c,ins i o' R2):=by
  intro p _ c0 o h;split at h
  .rename_i hc;simp only[By4,Bz3]at h;obtain⟨rfl,rfl⟩:=h;exact⟨o,rfl,by rw[Gy hc]⟩
  cases h
 cases b:tsz P t with
 |none=>simp[store,b]at h
 |some m=>
  cases d:Dd x with
  |false=>simp[store,b,d]at h
  |true=>
   cases j:A1 R i with
   |none=>rcases g with⟨off,rfl⟩ | ⟨k,n,off,rfl⟩<;>simp[store,b,d,j]at h
   |some o=>
    rw[j]at r;rcases g with⟨off,rfl⟩ | ⟨k,n,off,rfl⟩
    .simp only[store,b,d,j,r]at h⊢;cases o with
     |cells cs=>exact fin _ _ _ h
     |arr n f=>
      cases x with
      |p y=>cases y with
       |agg ps=>exact fin _ _ _ h
       |_=>exact fin _ _ _ h
      |_=>simp at h
     |blk l jr=>match l with
      |0::T::u::l=>cases x with
       |vec jr=>exact fin _ _ _ h
       |_=>simp at h
      |[] | [0] | [0,_] | (_+1)::_=>simp at h
     |_=>simp at h
    simp only[store,b,d,j,r]at h⊢;cases o with
    |vec e k' n' f vw=>
     cases vw with
     |true=>simp at h
     |false=>cases x with
      |p y=>exact fin _ _ _ h
      |_=>simp at h
    |fam e n' jr x0=>
     cases x0 with
     |none=>simp at h
     |some q=>
      cases hl:cellsOf x with
      |nil=>simp[hl]at h
      |cons y l=>cases l with
       |nil=>simp only[hl]at h⊢;exact fin _ _ _ h
       |cons=>simp[hl]at h
    |_=>simp at h
end
theorem AQ3 {js:List Nat}{env:Env}{R R' : C5}{d:Nat}{o:Op}{c:List Prop}{v:AV}(f:isL js env o=true)(h:aop P env R d o=some ⟨c,v,R'⟩):R' = R/\∀R2,(∀q∈js,A1 R2 q=A1 R q)->aop P env R2 d o=some ⟨c,v,R2⟩:=by
 cases o with
 |lookup t m k ok=>
  simp only[isL,By5]at f;obtain⟨hm,hk⟩:=f;simp only[aop]at h⊢;cases ek:aev env k<;>simp only[ek,isP,By9]at hk;cases em:aev env m<;>simp only[em,mrJ,By9]at hm;rename_i x j;simp only[ek,em,DO]at h⊢;cases hl:EG P R t (.Se j) (nP x) ok with
  |none=>simp[hl]at h
  |some q=>
   obtain⟨c',a'⟩:=q;simp only[hl,By4,Out.mk.injEq]at h;obtain⟨rfl,rfl,rfl⟩:=h;refine⟨rfl,λR2 g=>?_⟩;have e:EG P R2 t (.Se j) (nP x) ok=EG P R t (.Se j) (nP x) ok:=by
    unfold EG;cases tk P t with
    |none=>rfl
    |some q=>
     cases q with
     |map kt e=>have e2:=g j (by simpa using hm);cases l:Gn P kt (nP x)<;>simp only[l,e2]
     |_=>rfl
   rw[e,hl]
 |load t a=>
  simp only[isL]at f;simp only[aop]at h⊢;cases hl:load P R t (aev env a)with
  |none=>simp[hl]at h
  |some q=>obtain⟨c',a'⟩:=q;simp only[hl,By4,Out.mk.injEq]at h;obtain⟨rfl,rfl,rfl⟩:=h;exact⟨rfl,λR2 g=>by rw[AQ1 g f,hl]⟩
 |indexAddr t x i=>
  simp only[isL]at f;simp only[aop]at h⊢;cases r:asInt (aev env i)with
  |none=>simp[r]at h
  |some n=>
   simp only[r]at h⊢;cases hl:Gl P R t (aev env x) n with
   |none=>simp[hl]at h
   |some q=>obtain⟨c',a'⟩:=q;simp only[hl,By4,Out.mk.injEq]at h;obtain⟨rfl,rfl,rfl⟩:=h;exact⟨rfl,λR2 g=>by rw[Ar2 g f,hl]⟩
 |call cc=>
  obtain⟨callee,args,types⟩:=cc;cases callee with
  |builtin b=>
   cases b with
   |len=>
    simp only[isL]at f;simp only[aop]at h⊢;split at h
    .rename_i x t hx ht;simp only[hx,BI3,BR8,BL7]at f;cases hl:Ay0 P R t (aev env x)with
     |none=>simp[hl]at h
     |some n=>simp only[hl,By4,Out.mk.injEq]at h;obtain⟨rfl,rfl,rfl⟩:=h;exact⟨rfl,λR2 g=>by simp only[AQ2 g f,hl]⟩
    cases h
   |_=>cases f
  |_=>cases f
 |_=>cases f
theorem AZ1:∀{xs:List AV},xs.all isP=true->∃ys,∀R,Gk R xs=some (ys,R)
 |[],_=>⟨[],λ_=>rfl⟩
 |.p x::xs,h=>by obtain⟨ys,hy⟩:=AZ1 (xs:=xs) (by simpa[isP]using h);exact⟨nP x::ys,λR=>by simp only[Gk,DO,hy]⟩
 |.reg .. :: _,h | .elt .. :: _,h | .vec _::_,h | .vecp .. :: _,h | .Se _::_,h | .clo .. :: _,h | .tup _::_,h | .agr _::_,h | .yf _::_,h | .rsl .. :: _,h | .top::_,h=>by simp[isP]at h
theorem Bf6 {n:Nat}:∀{L:List (Nat×AV)},(∀p∈L,isP p.2=true)->∀R,JW R n L=none:=by
 intro L h R;unfold JW;split
 .rename_i j
  have:=h (0,.vec j) (by simp)
  cases this
 rfl
theorem Bf7 {n:Nat}:∀{L:List (Nat×AV)},(∀p∈L,isP p.2=true)->LE n L=none:=by
 intro L h;unfold LE;split
 .rename_i j o i q
  have:=h (0,.reg j o) (by simp)
  cases this
 rfl
theorem Ak1 {js:List Nat}{x:AV}(h:mrJ js x=true):∃j,j∈js/\x=.Se j:=by
 cases x with
 |Se j=>exact⟨j,by simpa[mrJ]using h,rfl⟩
 |_=>cases h
theorem AQ4 {js:List Nat}{env:Env}{R R' : C5}{d:Nat}{o:Op}{c:List Prop}{v:AV}(u:isA js env d o=true)(h:aop P env R d o=some ⟨c,v,R'⟩) :∀R2,(∀q∈js,A1 R2 q=A1 R q)->∃R3,aop P env R2 d o=some ⟨c,v,R3⟩/\(∀q∈js,A1 R3 q=A1 R' q)/\∀q,q ∉ js->A1 R3 q=A1 R2 q:=by
 intro R2 h2;have up:∀{A B:C5}(i:Nat) (x:Obj),i∈js->(∀q∈js,A1 A q=A1 B q)->(∀q,q ∉ js->A1 A q=A1 R2 q)->(∀q∈js,A1 (ins i x A) q=A1 (ins i x B) q)/\∀q,q ∉ js->A1 (ins i x A) q=A1 R2 q:=by intro A B i x hi h1 h2;refine⟨λq hq=>by rw[O1,O1,h1 q hq],λq hq=>?_⟩;rw[O1,Hj (by rintro rfl;exact hq hi),h2 q hq]
 have one:=λ{i:Nat}(x:Obj) (hi:i∈js)=>up i x hi h2 λ_ _=>rfl;cases o with
 |buildSlice t n parts=>
  simp only[isA,By5]at u;have w:nid d 0∈js:=by simpa using u.1
  obtain⟨ys,hys⟩:=AZ1 (xs:=parts.toList.map λq=>aev env q.2) (by simpa[BI2,BE6]using u.2);have hrl:=Bf6 (n:=n) (L:=parts.toList.map λq=>(q.1,aev env q.2)) (λp hp=>by obtain⟨q,hq,rfl⟩:=BE0.1 hp;exact Bz2.1 u.2 q hq)
  have hrf:=Bf7 (n:=n) (L:=parts.toList.map λq=>(q.1,aev env q.2)) (λp hp=>by obtain⟨q,hq,rfl⟩:=BE0.1 hp;exact Bz2.1 u.2 q hq)
  simp only[aop,hrl,hrf,hys,h2 _ w]at h⊢;split at h
  .split at h
   .rename_i l0 regs0 m0 z0 a3 a4 a5;simp only[By4,Bz3]at a3;obtain⟨rfl,rfl⟩:=a3;split at h
    .rename_i hc;simp only[By4,Out.mk.injEq]at h;obtain⟨rfl,rfl,rfl⟩:=h;refine⟨ins (nid d 0) _ R2,?_,one _ w⟩;simp only[a4,a5];rw[Gy hc]
    cases h
   cases h
  cases h
 |alloc t=>
  have w:nid d 0∈js:=by simpa[isA]using u
  simp only[aop,h2 _ w]at h⊢;split at h
  .rename_i z h1 h3;split at h
   .rename_i hz;simp only[By4,Out.mk.injEq]at h;obtain⟨rfl,rfl,rfl⟩:=h;exact⟨_,by simp only[h1,h3,hz,Lc],one _ w⟩
   cases h
  cases h
 |box t x=>
  have w:nid d 0∈js:=by simpa[isA]using u
  simp only[aop,h2 _ w]at h⊢;split at h
  .rename_i h1 h3;simp only[By4,Out.mk.injEq]at h;obtain⟨rfl,rfl,rfl⟩:=h;exact⟨_,by simp only[h1,h3],one _ w⟩
  cases h
 |makeMap t r=>cases r with
  |some r=>cases u
  |none=>
   have w:nid d 0∈js:=by simpa[isA]using u
   simp only[aop,h2 _ w]at h⊢;split at h
   .rename_i h1;simp only[By4,Out.mk.injEq]at h;obtain⟨rfl,rfl,rfl⟩:=h;exact⟨_,by simp only[h1],one _ w⟩
   cases h
 |mapEntry t m k=>
  simp only[isA,By5]at u;obtain⟨j,w,hm⟩:=Ak1 u.1;simp only[aop,hm]at h⊢;split at h
  .rename_i kt e j1 y hk hm2 hy;cases hm2;split at h
   .rename_i es z hes hz;split at h
    .rename_i q h5 h6;simp only[By4,Out.mk.injEq]at h;obtain⟨rfl,rfl,rfl⟩:=h;exact⟨_,by simp only[hk,hy,h2 j w,hes,hz,h5,h6],one _ w⟩
    cases h
   cases h
  cases h
 |entryStore t m s x=>
  simp only[isA,By5]at u;obtain⟨j,w,hm⟩:=Ak1 u.1;obtain⟨xx,hx⟩:∃xx,aev env x=.p xx:=by
   cases hx:aev env x with
   |p xx=>exact⟨xx,rfl⟩
   |_=>rw[hx]at u;cases u.2
  simp only[aop,hm,hx,DO]at h⊢;split at h
  .rename_i j1 s1 y R1 hm2 hs hy;cases hm2;simp only[By4,Bz3]at hy;obtain⟨rfl,rfl⟩:=hy;split at h
   .rename_i es hes;simp only[By4,Out.mk.injEq]at h;obtain⟨rfl,rfl,rfl⟩:=h;exact⟨_,by simp only[hs,h2 j w,hes],one _ w⟩
   cases h
  cases h
 |store t a x=>
  simp only[isA]at u;simp only[aop]at h⊢;split at h
  .rename_i hs;simp only[By4,Out.mk.injEq]at h;obtain⟨rfl,rfl,rfl⟩:=h;obtain⟨i,hi,o,rfl,hs2⟩:=AD1 h2 u hs;exact⟨_,by simp only[hs2],one _ hi⟩
  cases h
 |call cc=>
  obtain⟨callee,args,types⟩:=cc;cases callee with
  |builtin b=>
   cases b with
   |append=>
    simp only[isA,By5]at u;have w:nid d 0∈js:=by simpa using u.1
    have u:=u.2;simp only[aop,h2 _ w]at h⊢;split at h
    .rename_i s x t t2 hx ht;simp only[hx,BI3,BR8,BL7,By5]at u;split at h
     .rename_i e k2 hk1 hk2;split at h
      .rename_i m z hz1 hz2 hz3;split at h
       .rename_i n g l f vw regs1 hn he htk;split at h
        .rename_i hc;simp only[By4,Out.mk.injEq]at h;obtain⟨rfl,rfl,rfl⟩:=h;rcases AD0 h2 u.1 htk with⟨h3,h4⟩ | ⟨j,hjj,h3,h4⟩
         .simp only at h3 h4;subst h4;refine⟨ins (nid d 0) (.vec e m (l+n) (Ey l f g) vw) R2,?_,one _ w⟩;simp only[Xl h2 u.2,hz1,hz2,hz3,hn,he,h3];rw[Gy hc]
         simp only at h3 h4;subst h4;have h5:=one (i:=j) .dead hjj;refine⟨ins (nid d 0) (.vec e m (l+n) (Ey l f g) vw) (ins j .dead R2),?_,up _ _ w h5.1 h5.2⟩;simp only[Xl h2 u.2,hz1,hz2,hz3,hn,he,h3];rw[Gy hc]
        cases h
       split at h
       .rename_i c1 v1 R1 hF;simp only[By4,Out.mk.injEq]at h;obtain⟨rfl,rfl,rfl⟩:=h;simp only[LD]at hF;split at hF
        .rename_i j l hs hx';have hjj:j∈js:=by have:=u.1;rw[hs]at this;simpa[inJ]using this
         have hll:l∈js:=by have:=u.2;rw[hx']at this;simpa[inJ]using this
         split at hF
         .rename_i e1 n jr e2 jz y h1 h3 h4;split at hF
          .rename_i hc;simp only[By4,Bz3]at hF;obtain⟨rfl,rfl,rfl⟩:=hF;have a1:=one (i:=j) .dead hjj;have a2:=up l .dead hll a1.1 a1.2;refine⟨ins (nid d 0) (.fam e (n+1) jr (some (n,y))) (ins l .dead (ins j .dead R2)),?_,up _ _ w a2.1 a2.2⟩;have el:elems R2 m (.vec l)=none:=by simp only[elems,h2 l hll,h4]
           simp only[hz1,hz2,hz3,hs,hx',el,h1];simp only[LD,h2 _ w,h2 j hjj,h2 l hll,h1,h3,h4];rw[Gy hc]
          cases hF
         cases hF
        cases hF
       cases h
      cases h
     cases h
    cases h
   |_=>cases u
  |_=>cases u
 |_=>cases u
theorem UQ {js:List Nat}{R R' : C5}{x:AV}{y:PV}(hx:inJ js x=true)(h:DO R x=some (y,R')):∀q,q ∉ js->A1 R' q=A1 R q:=by
 intro q b;have up:∀(j:Nat) (o:Obj),j∈js->A1 (ins j o R) q=A1 R q:=λj o a=>by rw[O1,Hj (by rintro rfl;exact b a)]
 cases x with
 |p x=>simp only[DO,By4,Bz3]at h;rw[<- h.2]
 |vec j=>
  have a:j∈js:=by simpa[inJ]using hx
  simp only[DO]at h;split at h
  .simp only[By4,Bz3]at h;rw[<- h.2];exact up _ _ a
  cases h
 |vecp j m=>
  have a:j∈js:=by simpa[inJ]using hx
  simp only[DO]at h;split at h
  .simp only[By4,Bz3]at h;rw[<- h.2];exact up _ _ a
  cases h
 |_=>cases hx
theorem Xm {js:List Nat}:∀{xs:List AV}{R R' : C5}{l:List PV},(xs.all λx=>inJ js x)=true->Gk R xs=some (l,R')->∀q,q ∉ js->A1 R' q=A1 R q
 |[],R,R',l,_,h,q,_=>by simp only[Gk,By4,Bz3]at h;rw[<- h.2]
 |x::xs,R,R',l,hx,h,q,hq=>by
  simp only[BI3,By5]at hx;simp only[Gk]at h;cases h1:DO R x with
  |none=>simp[h1]at h
  |some p=>
   obtain⟨y,R1⟩:=p;simp only[h1]at h;cases a:Gk R1 xs with
   |none=>simp[a]at h
   |some p=>obtain⟨l1,R2⟩:=p;simp only[a,By4,Bz3]at h;rw[<- h.2,Xm hx.2 a q hq,UQ hx.1 h1 q hq]
theorem AQ5 {js:List Nat}{env:Env}{R R' : C5}{d:Nat}{o:Op}{c:List Prop}{v:AV}(a:isB js env d o=true)(h:aop P env R d o=some ⟨c,v,R'⟩):∀q,q ∉ js->A1 R' q=A1 R q:=by
 intro q b;cases o with
 |buildSlice t n parts=>
  simp only[isB,By5]at a;have f:nid d 0∈js:=by simpa using a.1
  have up:∀(R1:C5) (o:Obj),A1 (ins (nid d 0) o R1) q=A1 R1 q:=λR1 o=>by rw[O1,Hj (by rintro rfl;exact b f)]
  simp only[aop]at h;split at h
  .split at h
   .split at h
    .split at h
     .simp only[By4,Out.mk.injEq]at h;rw[<- h.2.2];exact up _ _
     cases h
    cases h
   cases h
  split at h
  .split at h
   .split at h
    .split at h
     .simp only[By4,Out.mk.injEq]at h;rw[<- h.2.2];exact up _ _
     cases h
    cases h
   cases h
  split at h
  .split at h
   .rename_i g _ _;split at h
    .simp only[By4,Out.mk.injEq]at h;rw[<- h.2.2,up];exact Xm (by simpa[BI2,BE6]using a.2) g q b
    cases h
   cases h
  cases h
 |_=>cases a
theorem Tx {cl:Cls}{env:Env}{R R' : C5}{d:Nat}{o:Op}{c:List Prop}{v:AV}(f:Xk cl env d o=true)(h:aop P env R d o=some ⟨c,v,R'⟩):clsF cl (isN env o=true) (R' = R)/\clsX P cl env R d o c v R':=by
 cases cl with
 |n=>exact⟨f,trivial⟩
 |r=>exact⟨AQ0 f h,trivial⟩
 |w=>exact⟨trivial,trivial⟩
 |l j=>obtain⟨h1,g⟩:=AQ3 f h;exact⟨trivial,λq=>by rw[h1],λR2 hR=>⟨R2,g R2 hR,λ_=>rfl⟩⟩
 |a j=>exact⟨trivial,AQ4 f h⟩
 |b j=>exact⟨trivial,AQ5 f h⟩
variable {kn:List Nat}{all:List Oper}{k:Env->C5->Prop}
theorem PK:∀(cls:List Cls) (rest:List Oper) (c:List Prop) (env:Env) (Qw:C5),C6 (RI P kn all cls rest c env Qw).conds ->
 C6 c/\(LB S P all (RI P kn all cls rest c env Qw).cls (RI P kn all cls rest c env Qw).rest (RI P kn all cls rest c env Qw).env (RI P kn all cls rest c env Qw).Qw k->LB S P all cls rest env Qw k)
 |[],[],c,env,Qw,h=>⟨h,λh=>h⟩
 |[],_::_,c,env,Qw,h=>⟨h,λh=>h⟩
 |_::_,[],c,env,Qw,h=>⟨h,λh=>h⟩
 |cl::cls,o::rest,c,env,Qw,h=>by
  simp only[RI]at h⊢;cases g:Bp2 kn all env o with
  |true=>simp only[g]at h⊢;exact⟨h,λh=>h⟩
  |false=>
  simp only[g]at h⊢;cases f:Ai all env o with
  |none=>simp only[f]at h⊢;exact⟨h,λh=>h⟩
  |some b=>
   cases b with
   |true=>
    simp only[f]at h⊢;cases ha:(AN3 o.op&&Xk cl env (o.dst.getD 0) o.op)with
    |false=>simp only[ha]at h⊢;exact⟨h,λh=>h⟩
    |true=>
     simp only[ha]at h⊢;simp only[By5]at ha;cases hp:aop P env Qw (o.dst.getD 0) o.op with
     |none=>simp only[hp]at h⊢;exact⟨h,λh=>h⟩
     |some q=>
      obtain⟨p,v,regs'⟩:=q;simp only[hp,Ao9,Bd1,Bn6]at h⊢;have fin:∀(env' : Env),env' = Pa o.dst v env->(C6 (p++c)/\(LB S P all (RI P kn all cls rest (p++c) env' regs').cls (RI P kn all cls rest (p++c) env' regs').rest (RI P kn all cls rest (p++c) env' regs').env (RI P kn all cls rest (p++c) env' regs').Qw k->LB S P all cls rest env' regs' k)) ->
       C6 c/\(LB S P all (RI P kn all cls rest (p++c) env' regs').cls (RI P kn all cls rest (p++c) env' regs').rest (RI P kn all cls rest (p++c) env' regs').env (RI P kn all cls rest (p++c) env' regs').Qw k->LB S P all (cl::cls) (o::rest) env Qw k):=by
       rintro env' rfl ⟨h1,i⟩;obtain⟨j,l⟩:=(CE _ _).1 h1;exact⟨j,λhs=>⟨true,f,by rw[Gy rfl];exact⟨v,regs', .inl ⟨p,hp,l,Tx ha.2 hp⟩,i hs⟩⟩⟩
      cases a:o.dst with
      |some d=>simp only[a,KP]at h⊢;exact fin _ (by simp[a,Pa]) (PK cls rest _ _ _ h)
      |none=>simp only[a]at h⊢;exact fin _ (by simp[a,Pa]) (PK cls rest _ _ _ h)
   |false=>
    simp only[f]at h⊢;cases a:o.dst with
    |some d=>simp only[a,KP]at h⊢;obtain⟨h1,i⟩:=PK cls rest _ _ _ h;exact⟨h1,λhs=>⟨false,f,by simp only[By9,Ld,a,Pa];exact i hs⟩⟩
    |none=>simp only[a]at h⊢;obtain⟨h1,i⟩:=PK cls rest _ _ _ h;exact⟨h1,λhs=>⟨false,f,by simp only[By9,Ld,a,Pa];exact i hs⟩⟩
theorem s_go {cls cls' : List Cls}{rest rest' : List Oper}{c:List Prop}{env env' : Env}{Qw regs' : C5}(h:RI P kn all cls rest [] env Qw=⟨c,cls',rest',env',regs'⟩)(hc:C6 c)(hk:LB S P all cls' rest' env' regs' k):LB S P all cls rest env Qw k:=by
 have:=PK (S:=S) (kn:=kn) (k:=k) cls rest [] env Qw (by rw[h];exact hc)
 rw[h]at this;exact this.2 hk
theorem s_end {cls:List Cls}{env:Env}{Qw:C5}(h:k env Qw):LB S P all cls [] env Qw k:=by cases cls<;>exact h
theorem Ak2 {cl:Cls}{cls:List Cls}{o:Oper}{rest:List Oper}{env:Env}{Qw regs' : C5}{c:List Prop}{v:AV}(b:Ai all env o=some true)(ha:aop P env Qw (o.dst.getD 0) o.op=some ⟨c,v,regs'⟩)(hc:C6 c)
 (a:Xk cl env (o.dst.getD 0) o.op=true) (hk:LB S P all cls rest (Pa o.dst v env) regs' k):LB S P all (cl::cls) (o::rest) env Qw k:=
 ⟨true,b,by rw[Gy rfl];exact⟨v,regs', .inl ⟨c,ha,hc,Tx a ha⟩,hk⟩⟩
theorem Bp3 {cl:Cls}{cls:List Cls}{o:Oper}{rest:List Oper}{env:Env}{Qw:C5}{c:Call}{f:Operand}{fn:FuncId}{as' args:List AV}{r:AV}(a:Ai all env o=some true)(b:o.op=.call c)(d:c.callee=.value f)
 (ha:((c.args.toList.map (aev env)).all AC7)=true) (hw:Ta env f (c.args.toList.map (aev env))=some (fn,as')) (g:DP [] as' = some args) (i:WM S fn args r)
 (hk:LB S P all cls rest (Pa o.dst (unA [] r) env) Qw k):LB S P all (cl::cls) (o::rest) env Qw k:=
 ⟨true,a,by rw[Gy rfl];exact⟨_,Qw,.inr (.inl ⟨⟨c,f,fn,as',args,r,b,d,ha,hw,g,i,rfl⟩,rfl⟩),hk⟩⟩
theorem JC {m:List Nat}:∀{ids:List Nat}{objs:List Obj}{R:C5}{q:Nat},q ∉ ids->A1 (back m ids objs R) q=A1 R q
 |[],_,R,q,_=>rfl
 |j::ids,[],R,q,_=>rfl
 |j::ids,o::objs,R,q,h=>by simp only[BC1,not_or]at h;show A1 (back m ids objs (ins j (unO m o) R)) q=_;rw[JC h.2,O1,Hj (BC5 h.1)]
theorem AD2 {cl:Cls}{cls:List Cls}{o:Oper}{rest:List Oper}{env:Env}{Qw regs1:C5}{c:Call}{f:Operand}{as:List AV}{fn:FuncId}{as' args:List AV}{objs objs' : List Obj}{ks:List Bool}{r:AV}(ids:List Nat)(a:cl=.w \/ ∃js,cl=.b js/\∀q,q ∉ js->A1 (back (G7 (o.dst.getD 0) ids ks objs'.length) (G7 (o.dst.getD 0) ids ks objs'.length) objs' (J9 ids ks regs1)) q=A1 Qw q)(g:Ai all env o=some true)(i:o.op=.call c)(j:c.callee=.value f)
 (ha:Im Qw (c.args.toList.map (aev env))=some (as,regs1)) (hw:Ta env f as=some (fn,as')) (l:DP ids as' = some args) (d:M0 ids regs1 ids=some objs) (m:Sb S fn args objs r objs' ks)
 (n:H5 ids=true) (hy:Fu objs=true) (hn:X1 regs1 ids ks (o.dst.getD 0) objs'.length=true)
 (hk:LB S P all cls rest (Pa o.dst (unA (G7 (o.dst.getD 0) ids ks objs'.length) r) env) (back (G7 (o.dst.getD 0) ids ks objs'.length) (G7 (o.dst.getD 0) ids ks objs'.length) objs' (J9 ids ks regs1)) k) :
 LB S P all (cl::cls) (o::rest) env Qw k:=
 ⟨true,g,by rw[Gy rfl];exact⟨_,_,.inr (.inr (.inl ⟨a,c,f,as,regs1,fn,as',args,objs,objs',ks,r,ids,i,j,ha,hw,l,d,m,n,hy,hn,rfl,rfl⟩)),hk⟩⟩
theorem AQ6 {cl:Cls}{cls:List Cls}{o:Oper}{rest:List Oper}{env:Env}{Qw:C5}{c:List Prop}{x:PV}(a:Ai all env o=some true)(ha:RK P env o.op=some (c,x))(hc:C6 c)
 (hk:LB S P all cls rest (Pa o.dst (.p x) env) Qw k):LB S P all (cl::cls) (o::rest) env Qw k:=
 ⟨true,a,by rw[Gy rfl];exact⟨_,Qw,.inr (.inr (.inr (.inl ⟨c,x,ha,hc,rfl,rfl⟩))),hk⟩⟩
def Bx2 (o:Op):Cls:=match o with
 |.buildSlice ..=>.n
 |o=>clsOf o
theorem AQ7 (hS:G0 S P){F:J3}{K:List It}{id:Nat}{ops:Array Oper}{st:St}{cls:List Cls}(a:P.follows .mixedOrders=true)(c:ops.toList.map (λo=>Bx2 o.op)=cls)(b:NM ops.toList cls=true)
 (h:LB S P ops.toList cls ops.toList st.env st.Qw λenv Qw=>G S P F (.pop .normal K ⟨env,Qw⟩)):G S P F (.code (.region id ops true) K st):=
 Aj9 hS cls a b h
end
section
variable {S:U8}{P:Program}{F:J3}{K:List It}{st:St}
def Nd (hS:G0 S P){f:FuncId}{fn:Func}{code:Code}{args:List AV}{objs:List Obj}{Q:ARes->List Obj->List Bool->Prop}{rs:List ResultVar}(d:P.funcs[f]? = some fn)(hc:fn.body=some code)(hn:args.length<=fn.ntmps)(g:objs.length<1000)
 (a:fn.results.toList=rs) (b:Bm fn.ntmps code=true) (c:(fn.name == "runtime.NumGoroutine")=false)
 (h:G S P (Cm S P objs.length rs Q) (.code code [] { env:=Ss args,Qw:=Sa objs })):S.F f args objs Q:=by
 subst a;exact hS.func f fn code args objs _ d hc c b hn g (hS.refl _ _ h)
def Bf8 (hS:G0 S P){all rest:List Oper}{o:Oper}{c:Call}{f:Operand}{j:Nat}{xs ys:List PV}{Qw:C5}{rest0:List (List PV)}
 (i:Bn all st.env o=some true) (l:o.op=.call c) (d:c.callee=.value f) (hy:aev st.env f=.yf j) (g:Gk st.Qw (c.args.toList.map (aev st.env))=some (xs,Qw))
 (m:A1 Qw j=some (.yld (ys::rest0) true)) (a:FP j Qw=true) (hle:Bc8 xs ys)
 (hk:∀b:Bool,G S P F (.ops all rest K (put { st with Qw:=ins j (.yld (if b then rest0 else []) b) Qw } o.dst (.p (.bb b))))):G S P F (.ops all (o::rest) K st):=by
 refine Bo hS i ?_;unfold wOp;obtain⟨callee,cargs,types⟩:=c;simp only at d g;subst d;rw[l];exact .inr (.inl ⟨j,xs,Qw,ys,rest0,hy,g,m,a,hle,hk⟩)
def AQ8 (hS:G0 S P){all rest:List Oper}{o:Oper}{c:Call}{rv:Operand}{m:String}{as:List AV}{Qw:C5}{t:TypeId}{y:PV}{fn:FuncId}{args:List AV}{r:AV}
 (d:Bn all st.env o=some true) (f:o.op=.call c) (b:c.callee=.invoke rv m) (ha:Im st.Qw (c.args.toList.map (aev st.env))=some (as,Qw)) (a:aev st.env rv=.p (.iface t y)) (hm:WG P t m=some fn)
 (g:DP [] (.p y::as)=some args) (i:WM S fn args r)
 (hk:G S P F (.ops all rest K (put { env:=st.env,Qw:=Qw } o.dst (unA [] r)))):G S P F (.ops all (o::rest) K st):=by
 refine Bo hS d ?_;unfold wOp;obtain⟨callee,cargs,types⟩:=c;simp only at b ha;subst b;rw[f];refine⟨as,Qw,t,y,fn,ha,a,hm,[],args,[],rfl,g,rfl,rfl,hS.monoF _ _ _ _ _ ?_ i⟩;rintro _ _ _ ⟨rfl,rfl,rfl⟩;exact⟨rfl,hk⟩
def Bf9 (hS:G0 S P){all rest:List Oper}{o:Oper}{x:Operand}{t:TypeId}{y:PV}(a:Bn all st.env o=some true)(b:o.op=.panic x)(hx:aev st.env x=.p (.iface t y))(hk:G S P F (.pop (.panic (.iface t y)) K st)):G S P F (.ops all (o::rest) K st):=by refine Bo hS a ?_;unfold wOp;rw[b];exact⟨t,y,hx,hk⟩
def EP (S:U8)(f:FuncId)(first caps:List AV)(objs:List Obj)(L:List (List PV)):Prop:= S.F f (first ++ .yf objs.length::caps) (objs++[.yld L true]) λr objs' ks=>∃b,objs'[objs.length]? = some (.yld [] b)/\ks[objs.length]? = some true/\∃a,r=.ret a
def Cn (S:U8)(P:Program)(body:Code)(gh:Nat)(ts:List Nat)(next:St->Prop)(Q:J3):J3
 |.normal,s=>S.up s λs=>awp S P body (GS S gh ts next Q) s
 |_,_=>False
def G_asg (hS:G0 S P){body:Code}{gh:Nat}{ts:List Nat}{next:St->Prop}{Q:J3}(h:G S P (GS S gh ts next Q) (.code body [] st)):G S P (Cn S P body gh ts next Q) (.pop .normal [] st):=
 hS.refl _ _ h
def AQ9 {X:Type}(s:X->St)(J:List (List PV)->X->Prop)(rest:List (List PV))(t:St):Prop:=∃x,t=s x/\J rest x
def AD3 (hS:G0 S P){g:Operand}{ps:Array Tmp}{asg body:Code}{f:FuncId}{first caps as bs:List AV}{objs:List Obj}(ids ts:List Nat)(gh:Nat)(L:List (List PV)){X:Type}(s:X->St)(J:List (List PV)->X->Prop)(x0:X)(idl:List (Nat×Nat))
 (hp:FN st.env g=some (f,first,caps)) (m:∃fn,P.funcs[f]? = some fn/\fn.body.isSome=true/\(fn.name == "runtime.NumGoroutine")=false) (n:M0 ids st.Qw ids=some objs) (q:Fu objs=true) (hd:H5 ids=true) (t:DP ids first=some as) (u:DP ids caps=some bs) (v:objs.length=ids.length)
 (w:gh<1000) (y:A1 st.Qw gh=none) (z:ids.length<1000) (a0:H5 ts=true) (d:∀ys∈L,AH ys=some ps.size)
 (hF:EP S f as bs objs L) (hle:Le idl ⟨X7 ts (ts.map (get st.env)),J9 ids (ids.map λ_=>false) st.Qw⟩ (s x0)) (h0:J L x0) (hk:∀x,(s x).env.map (·.1)=ts) (hn:∀x,A1 (s x).Qw gh=none)
 (c:∀ys rest x,J (ys::rest) x->G S P (Cn S P body gh ts (AQ9 s J rest) (kp S P K F)) (.code asg [] ⟨Oz ps.toList ys (s x).env,ins gh (.ghost ((s x).env.map (·.2))) (s x).Qw⟩))
 (i:∀x,J [] x->G S P F (.pop .normal K (s x))):G S P F (.code (.rangeFunc g ps asg body) K st):=by
 have j:∀{l:List Nat},H5 l=true->l.Nodup:=by
  intro l
  induction l with
  |nil=>intro _;exact BG8
  |cons a r ih=>intro h;simp only[H5,By5,BA7,BC2,decide_eq_false_iff_not]at h;exact BE5.2 ⟨h.1,ih h.2⟩
 refine⟨f,first,caps,as,bs,objs,ids,ts,gh,none,L,AQ9 s J,λ_ r=>∃a,r=.ret a,hp,m,q,hd,t,u,n,w,y,z,j a0,d,hS.le idl _ _ _ hle ⟨hk x0,hn x0,x0,rfl,h0⟩,?_,?_,?_⟩
 .rintro ys rest _ _ _ ⟨x,rfl,hJ⟩;have h:=c ys rest x hJ;have e:Cn S P body gh ts (AQ9 s J rest) (kp S P K F)=λe s'=>match e with
   |.normal=>S.up s' λs'=>awp S P body (GS S gh ts (AQ9 s J rest) (kp S P K F)) s'
   |_=>False:=by funext e s';cases e<;>rfl
  rw[e]at h;exact h
 .rintro _ r _ _ ⟨x,rfl,hJ⟩ ⟨a,rfl⟩;exact i x hJ
 rw[<- v];refine hS.monoF _ _ _ _ _ ?_ hF;rintro r o ks ⟨b,h1,h2,h3⟩;exact⟨b,h1,h2,h3,λ_=>h3⟩
def ZN (hS:G0 S P){gh:Nat}{ts:List Nat}{X:Type}{s:X->St}{J:List (List PV)->X->Prop}{rest:List (List PV)}{Q:J3}(st1:St){cs:List AV}(x:X)(idl:List (Nat×Nat))(hle:Le idl st st1)(a:A1 st1.Qw gh=some (.ghost cs))(hl:cs.length=ts.length)(b:A1 (del gh st1.Qw) gh=none)
 (c:(⟨X7 ts cs,del gh st1.Qw⟩:St)=s x) (d:J rest x):G S P (GS S gh ts (AQ9 s J rest) Q) (.pop .normal [] st):=
 hS.le idl _ _ _ hle ⟨cs,a,hl,b,x,c,d⟩
def Ak3 (hS:G0 S P){gh:Nat}{ts:List Nat}{next:St->Prop}{e:JN}(c:match e with | .normal | .panic _=>False|_=>True)(st1:St){cs:List AV}(idl:List (Nat×Nat))(hle:Le idl st st1)(a:A1 st1.Qw gh=some (.ghost cs))(hl:cs.length=ts.length)(b:A1 (del gh st1.Qw) gh=none)
 (hk:G S P F (.pop e K ⟨X7 ts cs,del gh st1.Qw⟩)):G S P (GS S gh ts next (kp S P K F)) (.pop e [] st):=by
 cases e with
 |normal=>exact c.elim
 |panic x=>exact c.elim
 |exit id=>exact hS.le idl _ _ _ hle ⟨cs,a,hl,b,hk⟩
 |goto t=>exact hS.le idl _ _ _ hle ⟨cs,a,hl,b,hk⟩
 |ret=>exact hS.le idl _ _ _ hle ⟨cs,a,hl,b,hk⟩
end
def LW {n:Nat}(h:n<2 ^ 32):IntKind.u32.wrap (n:Int)=n:=by have h1:((n:Int) % (2 ^ 32:Int))=n:=BI9 (by omega) (by omega);unfold IntKind.wrap;simp only[IntKind.bits,IntKind.signed,h1,BK8,By9,Ld]
abbrev u32 (x:BitVec 32):PV:=.v (.int .u32 x.toNat)
def CJ (x:BitVec 32):BitVec.ofInt 32 (x.toNat:Int)=x:=by
 apply BK1;rw[BitVec.toNat_ofInt]
 have:=x.isLt
 omega
def Ha (x y:BitVec 32):G6 .and .u32 x.toNat y.toNat=((x &&& y).toNat:Int):=by simp only[G6,IntKind.bits,CJ];exact LW (x &&& y).isLt
def PL (x y:BitVec 32):G6 .or .u32 x.toNat y.toNat=((x ||| y).toNat:Int):=by simp only[G6,IntKind.bits,CJ];exact LW (x ||| y).isLt
def JD (x y:BitVec 32):G6 .andNot .u32 x.toNat y.toNat=((x &&& ~~~ y).toNat:Int):=by simp only[G6,IntKind.bits,CJ];exact LW (x &&& ~~~ y).isLt
def AZ2 (x:BitVec 32)(n:Nat):shI .shr .u32 x.toNat n=((x >>> n).toNat:Int):=by
 simp only[shI,IntKind.bits,By6];have hx:=x.isLt;rw[BN9,BN4];have e:((2:Int) ^ (min n 32))=((2 ^ (min n 32):Nat):Int):=by norm_cast
 rw[e,Int.fdiv_eq_ediv_of_nonneg _ (BR1 _),<- Int.natCast_ediv];congr 1;by_cases h:n<=32
 .rw[BI7 h]
 rw[BO6 (by omega),BK9 hx,BK9];exact BB0 hx (BG1 (by omega) (by omega))
def Bp4 (x:BitVec 32)(n:Nat):shI .shl .u32 x.toNat n=((x <<< n).toNat:Int):=by
 simp only[shI,IntKind.bits,By6];rw[BP0,Nat.shiftLeft_eq];unfold IntKind.wrap;simp only[IntKind.bits,IntKind.signed,BK8,By9,Ld];by_cases h:n<=32
 .rw[BI7 h]
  norm_cast
 rw[BO6 (by omega)];have h1:x.toNat*2 ^ n % 2 ^ 32=0:=by obtain⟨d,rfl⟩:∃d,n=32+d:=⟨n-32,by omega⟩;rw[Nat.pow_add,<- Nat.mul_assoc,Nat.mul_right_comm,Nat.mul_mod_left]
 have a:x.toNat*2 ^ 32 % 2 ^ 32=0:=Nat.mul_mod_left _ _;rw[h1];simp
abbrev snd (p m:BitVec 32):PV:=.agg [u32 p,u32 m]
def Kc {P:Program}{f:FuncId}{args:List PV}{r:AV}(d:∀as w,(callFunc f as).run P w=.ok (.enter f as) w)
 (h:∀(w:World) (Pi:Nat->Nat->Prop) (vs:Array Value),TabE P w Pi (λ_=>False)->(∀b off,Pi b off->b<w.heap.size)->vs.size=args.length->(∀i,i<args.length->Sd w Pi (vs.getD i undef) (args.getD i default)) ->
  Calls P f vs w λe w'=>∃v,e=.returned v/\RowKit.Below w.heap.size w w' /\ ∀live rho,Sq w' Pi live rho v r):WM (Gj P) f (args.map .p) r:=by
 intro 𝒢 C w vs rho q hs l;have s:=h w (Prv C.X (A1 (Sa [])) rho) vs ((𝒢.tab C q).keeps hs.keep hs.same (E':=λ_=>False) λ_ _ t=>t.elim) (λb off hp=>by
  rcases hp with hp|⟨j,o,a,_⟩
  .exact hs.hp.bound b off hp
  .simp[Sa,Sa.go,A1]at a) (by simpa using l) (λi m=>by
  have:=hs.env i
  rw[AJ]at this;have e:(args.map AV.p).getD i .top=.p (args.getD i default):=by simp[m]
  rw[e]at this;exact this.toP)
 refine⟨_,_,d _ _,callsIn_wide.2 (s.mono ?_)⟩;rintro e w' ⟨v,rfl,hb,u⟩;have hk:Sc w (Prv C.X (A1 (Sa [])) rho) w' (Prv C.X (A1 (Sa [])) rho):=λb o v hp hc=>⟨by rw[<- hc];exact BC8 (hb.block b (BF4 w ⟨b,o,none⟩ hc)),hp⟩
 refine⟨C,.ret r,[],[],rho,q,⟨rfl,rfl,rfl⟩,?_,⟨v,rfl,u _ _⟩,λi m=>by simp at m⟩;have c:∀j,A1 (Sa []) j=none:=λj=>by simp[Sa,Sa.go,A1]
 refine⟨⟨λj o a=>by simp[c]at a,λi j oi oj b a=>by simp[c]at a,λj o b off a=>by simp[c]at a,λb off hp=>BB0 (hs.hp.bound b off hp) hb.size⟩,hs.ext.trans ⟨hb.os,hb.output⟩,BD9 hs.size hb.size,λb g x=>?_,hs.keep.trans hk,λb n=>?_,λj r b a=>by simp[c]at a⟩
 .rw[hb.block b (BB0 g hs.size)];exact hs.same b g x
 obtain⟨j,o,a,_⟩:=n;simp[c]at a
def Kd {P:Program}{f:FuncId}{args:List PV}{r:AV}(a:∀as w,(callFunc f as).run P w=.ok (.enter f as) w)
 (h:∀(w:World) (Pi:Nat->Nat->Prop) (vs:Array Value),TabOk P w Pi->(∀b off,Pi b off->b<w.heap.size)->vs.size=args.length->(∀i,i<args.length->Sd w Pi (vs.getD i undef) (args.getD i default)) ->
  Calls P f vs w λe w'=>∃v,e=.returned v/\RowKit.Below w.heap.size w w' /\ ∀live rho,Sq w' Pi live rho v r):WM (Gj P) f (args.map .p) r:=
 Kc a λw Pi vs c=>h w Pi vs c.1
def Hb {P:Program}{f:FuncId}{args:List PV}{r:AV}(a:∀as w,(callFunc f as).run P w=.ok (.enter f as) w)
 (h:∀(w:World) (Pi:Nat->Nat->Prop) (vs:Array Value),(∀b off,Pi b off->b<w.heap.size)->vs.size=args.length->(∀i,i<args.length->Sd w Pi (vs.getD i undef) (args.getD i default)) ->
  Calls P f vs w λe w'=>∃v,e=.returned v/\RowKit.Below w.heap.size w w' /\ ∀live rho,Sq w' Pi live rho v r):WM (Gj P) f (args.map .p) r:=
 Kd a λw Pi vs _=>h w Pi vs
open Go.RowKit Go.ChangeShapes
def Bx3 (W:World):Ctx:={ X:=λ_ _=>False,w0:=W,E0:=λ_=>False,Pi0:=λ_ _=>False,rho0:=λ_=>undef,Y:=λ_ _=>False,yv:=undef }
def Bg0 {W:World}{vs:Array Value}{args:List PV}(g:vs.size=args.length)(l:∀i,i<args.length->Sd W (λ_ _=>False) (vs.getD i undef) (args.getD i default)) :Sat (Bx3 W) ⟨Ss (args.map .p),Sa []⟩ ⟨vs,[]⟩ W (λ_=>undef):=by
 have a:∀j,A1 (Sa []) j=none:=λj=>by simp[Sa,Sa.go,A1]
 have f:∀b o,¬Prv (Bx3 W).X (A1 (Sa [])) (λ_=>undef) b o:=λb o h=>by
  rcases h with h|⟨j,o',c,_⟩
  .exact h
  simp[a]at c
 refine⟨⟨⟨λj o c=>by simp[a]at c,λi j oi oj b c=>by simp[a]at c,λj o b off c=>by simp[a]at c,λb off hp=>hp.elim⟩,Ext.refl _,Bz5 _,λ_ _ _=>rfl,λb o v _ hc=>⟨hc,f b o⟩,λb hb=>?_,λj r b c=>by simp[a]at c⟩,λt=>?_,λj _ hl=>?_,BG8,λd m=>by cases m⟩
 .obtain⟨j,o,c,_⟩:=hb;simp[a]at c
 .show Sq W _ _ _ (vs.getD t undef) (get (Ss (args.map .p)) t);rw[AJ];by_cases ht:t<args.length
  .have e:(args.map AV.p).getD t .top=.p (args.getD t default):=by simp[ht]
   rw[e];exact .p _ _ ((l t ht).keeps λb o v _ hc=>⟨hc,f b o⟩)
  have e:(args.map AV.p).getD t .top=.top:=by simp[BO5 ht]
  rw[e];exact .top _
 obtain⟨o,n⟩:=hl
structure Bp5 (W w' : World):Prop where
 os:w'.os=W.os
 output:w'.output=W.output
 size:W.heap.size<=w'.heap.size
 block:∀b,b<W.heap.size->w'.heap[b]? = W.heap[b]?
def Uo {P:Program}{f:FuncId}{args:List PV}(a:∀as w,(callFunc f as).run P w=.ok (.enter f as) w)(h:WM (Gj P) f (args.map .p) (.p (.bb true)))
 {W:World}{vs:Array Value}(g:TabE P W (λ_ _=>False) (λ_=>False)) (c:vs.size=args.length) (j:∀i,i<args.length->Sd W (λ_ _=>False) (vs.getD i undef) (args.getD i default)) :
 Calls P f vs W λe w'=>e=.returned (.bool true)/\Bp5 W w':=by
 obtain⟨nx,w1,h1,l⟩:=h (Prot.triv P (Bx3 W) (λ_ _ h=>h) g) (Bx3 W) W vs _ rfl (Bg0 c j) (by simpa using c);rw[a]at h1;cases h1;refine (callsIn_wide.1 l).mono ?_;rintro e w' ⟨C',r,objs',ks,rho',rfl,⟨rfl,rfl,rfl⟩,d,⟨v,rfl,m⟩,_⟩;cases m with
 |p _ _ hp=>cases hp;exact⟨rfl,d.ext.1,d.ext.2,d.size,λb hb=>d.same b hb λh=>h⟩
section
variable {H:Type}{enc:TypeId×Value->H}{P:Program}
def AR0 {W w' : World}(h:Bp5 W w')(may:MemPlace->Prop):W.keptBut w' may:=by
 refine⟨h.os,h.output,λi a=>?_⟩;rw[h.block i a];generalize W.heap[i]? = o;cases o with
 |none=>trivial
 |some o=>cases o<;>first|exact⟨rfl,rfl,rfl,λ_ _=>rfl⟩ | exact .inr ⟨rfl,rfl⟩ | rfl
def AD4 {W w' : World}(h:Bp5 W w'){p:MemPlace}(hp:p.block<W.heap.size):W.sameAt w' p:=by have hb:RowKit.Below W.heap.size W { w' with tape:=W.tape }:=⟨h.os,rfl,h.output,h.size,λk hk=>h.block k hk⟩;exact hb.same hp
def NO {W w' : World}(hk:Bp5 W w')(hl:laidOutB P=true){sp:Nat->Bool}:∀{ts:List TypeId}{vs:List Value}{ds:List (DataW H)}{ps:List MemPlace},(∀t∈ts,P.readableRec t=true/\t<P.types.size) ->
 (∀p∈ps,p.block<W.heap.size)->(∀p∈ps,sp p.block=true)->DataW.TrodAll enc P W 0 (λ_=>true) true ts vs ds ps->DataW.TrodAll enc P w' 0 sp true ts vs ds ps
 |[],[],[],_,_,_,_,h=>h
 |t::ts,v::vs,d::ds,_,hr,hlt,hs,⟨p,q,h1,h2,e⟩=>by subst e;refine⟨p,q,?_,NO hk hl (λt ht=>hr t (BC1.2 (.inr ht))) (λx hx=>hlt x (BA9 _ hx)) (λx hx=>hs x (BA9 _ hx)) h2,rfl⟩;exact WideElems.Trod_stays hl (hr t (by simp)).1 (hr t (by simp)).2 h1 (λx hx=>AD4 hk (hlt x (BB9 _ hx))) (λx hx=>hs x (BB9 _ hx))
def AM8 {f:Func}{s:ChangeSpec}{tb:TypeId}{W W' : World}{args:Array Value}{ds gs:List (DataW H)}{before:List MemPlace}(a:s.vars=[])(hres:f.resultTypes = #[tb])(i:P.underlying tb=some .bool)(hl:laidOutB P=true)
 (d:∀t∈f.params.toList,P.readableRec t=true/\t<P.types.size) (o:DataW.Whole enc P f.params.toList s.vars false W args.toList ds gs before)
 (g:s.fn H ds={ results:=[.lit (.bool true)],args:=ds,vars:=[] }) (hk:Bp5 W W'):s.post enc P f false true false false W args (.bool true) W':=by
 have c:∀p∈before,p.block<W.heap.size:=λp hp=>o.lt p hp;have j:=o;obtain⟨p,q,v,r,rfl,w,hn⟩:=o;rw[a]at r;obtain⟨rfl,rfl⟩:=trodVars_none r;simp only[BC4]at c j;have l : ∀sp:Nat->Bool,(∀x∈p,sp x.block=true)->DataW.TrodAll enc P W' 0 sp true f.params.toList args.toList (s.fn H (ds++[])).args p:=λsp hsp=>by rw[BC4,g];exact NO hk hl d c hsp v
 have hR:∀(b:Nat) (sp:Nat->Bool) (u:Bool),DataW.TrodAll enc P W' b sp u f.resultTypes.toList ((Value.bool true).resultList f.resultTypes.size) (s.fn H (ds++[])).results []:=λb sp u=>by rw[BC4,g,hres];exact⟨[],[],shut_bool i _,rfl,rfl⟩
 have m : ∀sp:Nat->Bool,DataW.TrodVars enc P W' sp s.vars (s.fn H (ds++[])).vars []:=λsp=>by rw[BC4,g,a];rfl
 refine⟨ds,[],p,[],p,[],j,hR _ _ _,l _ (λx hx=>by simpa using c x hx),m _,AR0 hk _,λ_=>?_⟩;refine⟨ok_one hres rfl (by simp[Value.okWide,i,Cell.okWide,Cell.ok]),_,_,([]++p)++[],⟨[]++p,[],trodAll_append (l _ λ_ _=>rfl) (hR _ _ _),m _,rfl,?_,?_⟩,?_⟩
 .intro b off hp;have n : MemPlace.cell b off∈p:=by simpa using hp
  have:=w b off (by simpa using n)
  have hb:=c _ n;simp only[MemPlace.block]at hb;simp only[World.frozen?,hk.block b hb]at this⊢;exact this
 .intro ha
  have:=hn ha
  simpa using this
 intro p' hp _;simpa using hp
end
open Go.RowKit Go.ChangeShapes Go.Deep
def Zi (l:List Nat):Nat:=l.foldr (· + ·) 0
def Xn (a:Nat)(l:List Nat):Zi (a::l)=a+Zi l:=rfl
structure Bulk {H:Type}(B:DataW H->Nat):Prop where
 int:∀k n,1<=B (.lit (.int k n))
 bool:∀b,1<=B (.lit (.bool b))
 str:∀l,l.length+1<=B (.lit (.string l))
 nil:1<=B .nil
 slice:∀es sp,Zi (es.map B)+1<=B (.slice es sp)
 agg:∀ps,Zi (ps.map B)+1<=B (.agg ps)
mutual
inductive KY (P:Program):Nat->TypeId->List PV->Prop
 |int {m:Nat}{t:TypeId}{k:IntKind}{n:Int}(ht:P.underlying t=some (.int k)) (hw:(Lit.int k n).wf=true) (hm:1<=m):KY P m t [.v (.int k n)]
 |bool {m:Nat}{t:TypeId}{b:Bool}(ht:P.underlying t=some .bool) (hm:1<=m):KY P m t [.bb b]
 |str {m:Nat}{t:TypeId}{l:List UInt8}(ht:P.underlying t=some .string) (hm:l.length+1<=m):KY P m t [.str l]
 |slice {m:Nat}{t e:TypeId}{n:Nat}{f:Nat->List PV}(ms:Nat->Nat) (ht:P.underlying t=some (.slice e)) (hl:∀i,i<n->(f i).length=P.cellsOf e) (h:∀i,i<n->KY P (ms i) e (f i))
  (hm:Zi ((List.range n).map ms)+1<=m):KY P m t [.sl false (P.cellsOf e) n f]
 |arr {m m' : Nat}{t e:TypeId}{n:Nat}{pvs:List PV}(ht:P.underlying t=some (.array n e)) (h:Ix P m (List.replicate n e) pvs) (hm:m+1<=m'):KY P m' t pvs
 |struct {m m' : Nat}{t:TypeId}{fs:Array Field}{pvs:List PV}(ht:P.underlying t=some (.struct fs)) (h:Ix P m (fs.toList.map (·.type)) pvs) (hm:m+1<=m'):KY P m' t pvs
inductive Ix (P:Program):Nat->List TypeId->List PV->Prop
 |nil {m:Nat}:Ix P m [] []
 |cons {a b m:Nat}{t:TypeId}{ts:List TypeId}{p q:List PV}(h:KY P a t p) (h' : Ix P b ts q) (hm:a+b<=m):Ix P m (t::ts) (p++q)
end
def CRep (W:World)(cs:List Value)(pvs:List PV):Prop:= cs.length=pvs.length/\∀i,i<pvs.length->Sd W (λ_ _=>False) (cs.getD i undef) (pvs.getD i default)/\(cs.getD i undef).oneCell' = true
def Xo {α : Type}(a b:List α)(d : α){i:Nat}(h:i<a.length):(a++b).getD i d=a.getD i d:=by simp[By3,BD8 h]
def Xp {α : Type}(a b:List α)(d : α){i:Nat}(h:a.length<=i):(a++b).getD i d=b.getD (i-a.length) d:=by simp[By3,BI0 h]
def CRep.append {W:World}{a b:List Value}{p q:List PV}(h:CRep W a p)(h' : CRep W b q):CRep W (a++b) (p++q):=by
 refine⟨by simp[h.1,h'.1],λi f=>?_⟩;by_cases c:i<p.length
 .rw[Xo _ _ _ (by rw[h.1];exact c),Xo _ _ _ c];exact h.2 i c
 have d : i-p.length<q.length:=by simp at f;omega
 rw[Xp _ _ _ (by rw[h.1];omega),Xp _ _ _ (by omega),h.1];exact h'.2 _ d
def CRep.one {W:World}{v:Value}{x:PV}(h:Sd W (λ_ _=>False) v x)(h1:v.oneCell' = true):CRep W [v] [x]:=by
 refine⟨rfl,λi a=>?_⟩;obtain rfl:i=0:=by simpa using a
 exact⟨h,h1⟩
def AX8 (P:Program)(T:List TypeId):Bool:=T.all λt=>match P.underlying t with
 |some (.int _)|some .bool|some .string=>true
 |some (.slice e)=>T.contains e&&decide (0<P.cellsOf e)
 |some (.array _ e)=>T.contains e
 |some (.struct fs)=>fs.toList.all λf=>T.contains f.type
 |_=>false
section
variable {H:Type}{enc:TypeId×Value->H}{P:Program}{W:World}
def Ty {B:DataW H->Nat}{r:TypeId->List Value->Option (DataW H×List MemPlace)}(T:TypeId->Prop)
 (ih:∀t cs x,T t->r t cs=some x->∃pvs,CRep W cs pvs/\KY P (B x.1) t pvs) :
 ∀(fs:List Field) (xs:List (DataW H×List MemPlace)) (cs:List Value) (base:Nat),(∀f∈fs,T f.type)->cs.length=(fs.map λf=>P.cellsOf f.type).sum ->
  (∀(j:Nat) f,fs[j]? = some f->f.offset=base+((fs.take j).map λf=>P.cellsOf f.type).sum)->xs.length=fs.length ->
  (∀(i:Nat) f,fs[i]? = some f->r f.type ((cs.drop (f.offset-base)).take (P.cellsOf f.type))=xs[i]?) ->
  ∃pvs,CRep W cs pvs/\Ix P (Zi (xs.map λx=>B x.1)) (fs.map (·.type)) pvs
 |[],xs,cs,base,_,hl,_,hx,_=>by obtain rfl:xs=[]:=BD5 hx;obtain rfl:cs=[]:=BD5 (by simpa using hl);exact⟨[],⟨rfl,λi m=>Ij m (by simp)⟩,.nil⟩
 |f::fs,xs,cs,base,hT,hl,ho,hx,hr=>by
  cases xs with
  |nil=>simp at hx
  |cons x xs=>
   have l:=ho 0 f rfl;simp only[BM3,BE9,List.sum_nil,BG2]at l;have b:=hr 0 f rfl;rw[l,Nat.sub_self,BN5]at b;obtain⟨p,hp,hs⟩:=ih _ _ _ (hT f (by simp)) b;simp only[BA3,BR2]at hl;obtain⟨q,n,c⟩:=Ty T ih fs xs (cs.drop (P.cellsOf f.type)) (base+P.cellsOf f.type) (λg a=>hT g (by simp[a])) (by simp[hl])
    (λj g a=>by
     have:=ho (j+1) g (by simpa using a)
     simp only[BJ3,BA3,BR2]at this;omega) (by simpa using hx)
    (λi g a=>by
     have:=hr (i+1) g (by simpa using a)
     have d:=ho (i+1) g (by simpa using a);simp only[BJ3,BA3,BR2]at d;rw[BK7,show P.cellsOf f.type+(g.offset-(base+P.cellsOf f.type))=g.offset-base by omega];simpa using this)
   refine⟨p++q,?_,.cons hs c (Bz5 _)⟩
   have:=hp.append n
   rwa [BK2]at this
def Ak4 {B:DataW H->Nat}{r:TypeId->List Value->Option (DataW H×List MemPlace)}{e:TypeId}(ih:∀cs x,r e cs=some x->∃pvs,CRep W cs pvs/\KY P (B x.1) e pvs) :∀(n:Nat) (xs:List (DataW H×List MemPlace)) (cs:List Value),cs.length=n*P.cellsOf e->xs.length=n->(∀i,i<n->r e ((cs.drop (i*P.cellsOf e)).take (P.cellsOf e))=xs[i]?) ->
  ∃pvs,CRep W cs pvs/\Ix P (Zi (xs.map λx=>B x.1)) (List.replicate n e) pvs
 |0,xs,cs,hl,hx,_=>by obtain rfl:xs=[]:=BD5 hx;obtain rfl:cs=[]:=BD5 (by simpa using hl);exact⟨[],⟨rfl,λi c=>Ij c (by simp)⟩,.nil⟩
 |n+1,xs,cs,hl,hx,hr=>by
  cases xs with
  |nil=>simp at hx
  |cons x xs=>
   have a:=hr 0 (by omega);rw[Nat.zero_mul,BN5]at a;obtain⟨p,hp,hs⟩:=ih _ _ a;rw[BL3]at hl;obtain⟨q,d,b⟩:=Ak4 ih n xs (cs.drop (P.cellsOf e)) (by simp[hl]) (by simpa using hx) (λi c=>by
    have:=hr (i+1) (by omega)
    rw[BK7,show P.cellsOf e+i*P.cellsOf e=(i+1)*P.cellsOf e by rw[BL3];omega];simpa using this)
   refine⟨p++q,?_,.cons hs b (Bz5 _)⟩
   have:=hp.append d
   rwa [BK2]at this
def MQ (K:Kids P (· < P.types.size)){B:DataW H->Nat}(q:Bulk B){T:List TypeId}(hT:AX8 P T=true)(hTl:∀t∈T,t<P.types.size):∀(fuel:Nat) (t:TypeId) (cs:List Value) (x:DataW H×List MemPlace),t∈T ->
 DataW.trod enc P W 0 (λ_=>true) true fuel t cs=some x->∃pvs,CRep W cs pvs/\KY P (B x.1) t pvs:=by
 intro fuel
 induction fuel with
 |zero=>intro t cs x _ h;simp[DataW.trod]at h
 |succ n ih=>
  intro t cs x ht h;have hp:=Bz2.1 hT t ht;cases c:P.underlying t with
  |none=>simp[c]at hp
  |some d=>
   cases d with
   |bool=>obtain⟨b,rfl,rfl⟩:=DataW.trod_bool c h;exact⟨[.bb b],.one (.bb b) rfl,.bool c (q.bool b)⟩
   |int k=>obtain⟨m,rfl,rfl,hw⟩:=DataW.trod_int c h;exact⟨[.v (.int k m)],.one (.v _) rfl,.int c hw (q.int _ _)⟩
   |string=>
    obtain⟨s,rfl,rfl,_⟩:=DataW.trod_string c h;refine⟨[.str s.data.toList],.one ?_ rfl,.str c (q.str _)⟩
    have:=Sd.str (w:=W) (Pi:=λ_ _=>False) s.data.toList
    simpa using this
   |slice e=>
    simp only[c,By5,BC2,decide_eq_true_eq]at hp;obtain⟨hpe,hpk⟩:=hp;rcases DataW.trod_slice c h with⟨rfl,rfl⟩ | ⟨a,len,cap,elems,rest,n',hn,rfl,rfl,_,hlen,_,hel,hall,_⟩
    .exact⟨[.sl false (P.cellsOf e) 0 λ_=>[]],.one (.slnil _ _) rfl,.slice (λ_=>0) c (λi g=>Ij g (by omega)) (λi g=>Ij g (by omega)) (by simpa[Zi]using q.nil)⟩
    obtain rfl:n' = n:=by omega
    have each:∀i,i<len->∃z:List PV×(Nat×(Nat->Value)),z.1.length=P.cellsOf e/\KY P z.2.1 e z.1/\z.2.1=B (elems.getD i (.nil,[])).1 /\
     ∀j,j<P.cellsOf e->W.cell? ((a.add (i*P.cellsOf e)).add j)=some (z.2.2 j)/\Sd W (λ_ _=>False) (z.2.2 j) (z.1.getD j default)/\(z.2.2 j).oneCell' = true:=by
     intro i g;have hk:=hall i g;have hi' : i<elems.length:=by omega
     rw[By7 hi']at hk;obtain⟨cs',h1,h2⟩:=BJ4.1 hk;obtain⟨pvs,hc,hs⟩:=ih _ _ _ hpe h2;obtain⟨_,u,y⟩:=World.cells?_some h1;refine⟨(pvs,(_,λj=>cs'.getD j undef)),by rw[<- hc.1,u],hs,?_,λj l=>⟨?_,(hc.2 j (by rw[<- hc.1,u];exact l)).1,(hc.2 j (by rw[<- hc.1,u];exact l)).2⟩⟩
     .simp[By3,By7 hi']
     rw[y j l];simp[By7 (show j<cs'.length by omega)]
    obtain⟨z,o⟩:=choose_lt (α:=List PV×(Nat×(Nat->Value))) each;obtain⟨b,off,sp⟩:=a;have hsp:0<len->sp=none:=λh0=>by
     have:=((o 0 h0).2.2.2 0 hpk).1
     simpa[Addr.add]using World.cell?_spot this
    refine⟨[.sl false (P.cellsOf e) len λi=>(z i).1],.one (.sl false b off cap (P.cellsOf e) len _ (λi j=>(z i).2.2 j) hlen (λi g=>(o i g).1) (λi j g l=>?_) (λi j g l=>((o i g).2.2.2 j l).2.1) sp hsp) rfl,
     .slice (λi=>(z i).2.1) c (λi g=>(o i g).1) (λi g=>(o i g).2.1) ?_⟩
    .have:=((o i g).2.2.2 j l).1
     obtain rfl:=hsp (by omega);refine⟨?_,λh=>h,((o i g).2.2.2 j l).2.2⟩;rw[<- this,BQ2,BQ2]
    refine BD9 (Nat.succ_le_succ (BR9 (congrArg Zi ?_))) (q.slice (elems.map (·.1)) (rest.map (·.1)));apply List.ext_getElem
    .simp[hel]
    intro i h1 h2;simp only[BD2,BO0]at h1
    have:=(o i h1).2.2.1
    simp only[List.getElem_map,BR3,this];simp[By3,By7 (show i<elems.length by omega)]
   |array k e=>
    simp only[c,BC2,decide_eq_true_eq]at hp;obtain⟨xs,n',hn,rfl,hl,hx,hr⟩:=DataW.trod_array c h;obtain⟨_,h2⟩:=K.array (hTl t ht) c;obtain rfl:n' = n:=by omega
    obtain⟨pvs,hc,hs⟩:=Ak4 (B:=B) (W:=W) (r:=DataW.trod enc P W 0 (λ_=>true) true n') (λcs x hx=>ih e cs x hp hx) k xs cs (by rw[hl,h2]) hx hr;refine⟨pvs,hc,.arr c hs ?_⟩
    have:=q.agg (xs.map (·.1))
    simpa[BH7,BE6]using this
   |struct fs=>
    simp only[c]at hp;obtain⟨xs,n',hn,rfl,hl,hx,hr⟩:=DataW.trod_struct c h;obtain⟨h1,h2,h3⟩:=K.struct (hTl t ht) c;obtain rfl:n' = n:=by omega
    obtain⟨pvs,hc,hs⟩:=Ty (B:=B) (W:=W) (r:=DataW.trod enc P W 0 (λ_=>true) true n') (· ∈ T) ih fs.toList xs cs 0 (λf hf=>by have:=Bz2.1 hp f hf;simpa using this) (by rw[hl,h2])
     (λj f hf=>by rw[h3 j f hf];omega) (by simpa using hx) (λi f hf=>by rw[BR7];exact hr i f (by simpa using hf))
    refine⟨pvs,hc,.struct c hs ?_⟩
    have:=q.agg (xs.map (·.1))
    simpa[BH7,BE6]using this
   |_=>simp[c]at hp
end
section
variable {S:U8}{P:Program}
def ZO {d:Option Nat}{k k' : St->Prop}{Q Q' : J3}(hk:∀s,k s->k' s)(b:∀e s,Q e s->Q' e s)(r:ARes)(s:St)(h:Io d k Q r s):Io d k' Q' r s:=by
 cases r with
 |ret a=>exact hk _ h
 |panic x=>exact b _ _ h
def Pb (hS:G0 S P){o:Oper}{k k' : St->Prop}{Q Q' : J3}(hk:∀s,k s->k' s)(hq:∀e s,Q e s->Q' e s){st:St}(h:wOp S P o k Q st):wOp S P o k' Q' st:=by
 have u:∀d ids f args st,Zn S d ids f args st (Io o.dst k Q)->Zn S d ids f args st (Io o.dst k' Q'):=by rintro d ids f args st ⟨a,ob,h1,l,q,v,w⟩;exact⟨a,ob,h1,l,q,v,hS.monoF _ _ _ _ _ (λr o ks ⟨z,h7⟩=>⟨z,ZO hk hq _ _ h7⟩) w⟩
 unfold wOp at h⊢;split at h
 .rcases h with⟨as,Qw,f',as',h1,l,ids,q⟩ | ⟨j,xs,Qw,ys,rest,h1,l,q,v,w,z⟩ | ⟨f',as',c,xs,h1,l,q,v⟩ | ⟨j,jw,e,m,n,g,rest,h1,l,q,v⟩
  .exact .inl ⟨as,Qw,f',as',h1,l,ids,u _ _ _ _ _ q⟩
  .exact .inr (.inl ⟨j,xs,Qw,ys,rest,h1,l,q,v,w,λb=>hk _ (z b)⟩)
  .exact .inr (.inr (.inl ⟨f',as',c,xs,h1,l,q,hS.monoF _ _ _ _ _ (λr o ks e=>e.imp (fun⟨a,e1,e2,e3⟩=>⟨a,e1,e2,hk _ e3⟩) fun⟨e0,m,n,g,e1,e2,e3,e4,e5⟩=>⟨e0,m,n,g,e1,e2,e3,e4,hk _ e5⟩) v⟩))
  exact .inr (.inr (.inr ⟨j,jw,e,m,n,g,rest,h1,l,q,λb=>hk _ (v b)⟩))
 .obtain⟨as,Qw,t,y,f',h1,l,q,ids,v⟩:=h;exact⟨as,Qw,t,y,f',h1,l,q,ids,u _ _ _ _ _ v⟩
 .obtain⟨t,y,h1,l⟩:=h;exact⟨t,y,h1,hq _ _ l⟩
 .obtain⟨j,cl,last,seen,jm,es,h1,l,q,v,w,z,h7⟩:=h;exact⟨j,cl,last,seen,jm,es,h1,l,q,v,w,λg=>hk _ (z g),λi hi hs=>hk _ (h7 i hi hs)⟩
 rcases h with⟨out,h1,l,q⟩ | ⟨c,x,h1,l,q⟩ | ⟨out,h1,l,q⟩
 .exact .inl ⟨out,h1,l,hk _ q⟩
 .exact .inr (.inl ⟨c,x,h1,l,hk _ q⟩)
 exact .inr (.inr ⟨out,h1,l,hk _ q⟩)
def Iy (hS:G0 S P){all:List Oper}{Q Q' : J3}(a:∀e s,Q e s->Q' e s):∀(rest:List Oper) {st:St},JO S P all rest Q st->JO S P all rest Q' st
 |[],st,h=>a _ _ h
 |o::rest,st,h=>by
  simp only[JO]at h⊢;refine hS.mono _ _ _ (λt h=>?_) h;split at h
  .exact Pb hS (λs=>Iy hS a rest) a h
  obtain⟨b,h1,c⟩:=h;refine⟨b,h1,?_⟩;split
  .rename_i hb;rw[Gy hb]at c;exact Pb hS (λs=>Iy hS a rest) a c
  rename_i hb;rw[Hj hb]at c;exact Iy hS a rest c
def Nf (hS:G0 S P){all:List Oper}{o:Oper}{k k' : St->Prop}{Q Q' : J3}(hk:∀s,k s->k' s)(c:∀e s,Q e s->Q' e s){st:St}(h:Id S P all o k Q st):Id S P all o k' Q' st:=by
 unfold Id at h⊢;refine hS.mono _ _ _ (λt h=>?_) h;split at h
 .exact Pb hS hk c h
 obtain⟨b,h1,a⟩:=h;refine⟨b,h1,?_⟩;split
 .rename_i hb;rw[Gy hb]at a;exact Pb hS hk c a
 rename_i hb;rw[Hj hb]at a;exact hk _ a
def Ak5 (hS:G0 S P){ops:List Oper}{Q:J3}{st:St}(hm:P.follows .mixedOrders=true)(m:Ip ops=true)(h:S.up st λs=>Zp S P ops Q s):Zp S P ops Q st:=by
 refine⟨hm,m,λD s=>S.up s λs'=>∃Inv:(Nat->Bool)->St->Prop,Inv D s' /\
  (∀D i s o,Inv D s->ops[i]? = some o->D i=false->(∀e∈o.after.toList,EH e=true->D e.on=true) ->
   Id S P ops o (Inv λj=>if j=i then true else D j) Q s) /\
  ∀D s,Inv D s->(∀i,i<ops.length->D i=true)->S.up s (Q .normal),?_,?_,?_⟩
 .refine hS.mono _ _ _ (λs hs=>?_) h;obtain⟨_,_,Inv,h1,b,c⟩:=hs;exact⟨Inv,h1,b,c⟩
 .intro D i s o f n g l
  have:S.up s λs'=>Id S P ops o (λt=>S.up t λt'=>∃Inv:(Nat->Bool)->St->Prop,Inv (λj=>if j=i then true else D j) t' /\
   (∀D i s o,Inv D s->ops[i]? = some o->D i=false->(∀e∈o.after.toList,EH e=true->D e.on=true) ->
    Id S P ops o (Inv λj=>if j=i then true else D j) Q s) /\
   ∀D s,Inv D s->(∀i,i<ops.length->D i=true)->S.up s (Q .normal)) Q s':=by
   refine hS.mono _ _ _ (λs' a=>?_) f;obtain⟨Inv,h1,b,c⟩:=a;exact Nf hS (λt ht=>hS.refl _ _ ⟨Inv,ht,b,c⟩) (λ_ _ h=>h) (b D i s' o h1 n g l)
  unfold Id at this⊢;exact hS.trans _ _ this
 intro D s f d;refine hS.trans _ _ (hS.mono _ _ _ (λs' a=>?_) f);obtain⟨Inv,h1,b,c⟩:=a;exact c D s' h1 d
def UR (hS:G0 S P){k k' : St->Prop}{Q Q' : J3}(hk:∀s,k s->k' s)(a:∀e s,Q e s->Q' e s)(e:JN)(s:St)(h:thn S k Q e s):thn S k' Q' e s:=by
 cases e with
 |normal=>exact hS.mono _ _ _ hk h
 |_=>exact a _ _ h
def Ar3 (hS:G0 S P){g:Nat}{ts:List Nat}{next:St->Prop}{Q Q' : J3}(a:∀e s,Q e s->Q' e s)(e:JN)(s:St)(h:GS S g ts next Q e s):GS S g ts next Q' e s:=by
 cases e with
 |normal=>exact h
 |panic x=>exact h
 |_=>exact hS.mono _ _ _ (λt ⟨cs,h1,b,c,d⟩=>⟨cs,h1,b,c,a _ _ d⟩) h
def ZP (hS:G0 S P){g j:Nat}{ts:List Nat}{o:Obj}{next:St->Prop}{Q Q' : J3}(a:∀e s,Q e s->Q' e s)(e:JN)(s:St)(h:Az4 S g j ts o next Q e s):Az4 S g j ts o next Q' e s:=by
 cases e with
 |normal=>exact h
 |panic x=>exact h
 |_=>exact hS.mono _ _ _ (λt ⟨cs,h1,b⟩=>⟨cs,h1,a _ _ b⟩) h
def AL (hS:G0 S P):∀(c:Code) {Q Q' : J3},(∀e s,Q e s->Q' e s)->∀{st:St},awp S P c Q st->awp S P c Q' st
 |.skip,Q,Q',hq,st,h=>hq _ _ h
 |.label _,Q,Q',hq,st,h=>hq _ _ h
 |.region _ ops draw,Q,Q',hq,st,h=>by
  unfold awp at h⊢;split
  .rename_i hb;rw[Gy hb]at h;obtain⟨h1,q,Inv,u,w,y⟩:=h;exact⟨h1,q,Inv,u,λD i s o a b c d=>Nf hS (λ_ h=>h) hq (w D i s o a b c d),λD s a b=>hS.mono _ _ _ (λt=>hq _ t) (y D s a b)⟩
  rename_i hb;rw[Hj hb]at h;exact Iy hS hq _ h
 |.seq a b,Q,Q',hq,st,h=>AL hS a (UR hS (λs=>AL hS b hq) hq) h
 |.cond c t e,Q,Q',hq,st,h=>by
  obtain⟨b,h1,q⟩:=h;refine⟨b,h1,?_⟩;split
  .rename_i hb;rw[Gy hb]at q;exact AL hS t hq q
  rename_i hb;rw[Hj hb]at q;exact AL hS e hq q
 |.block id b,Q,Q',hq,st,h=>AL hS b (λe s h=>by
  cases e with
  |exit i=>simp only[blk]at h⊢;split at h<;>simp_all
  |_=>exact hq _ _ h) h
 |.loop b,Q,Q',hq,st,h=>by
  obtain⟨X,s,J,m,h1,q⟩:=h;refine⟨X,s,J,m,h1,λx hx=>AL hS b (λe t h=>?_) (q x hx)⟩;cases e with
  |normal=>exact h
  |_=>exact hq _ _ h
 |.scope b,Q,Q',hq,st,h=>AL hS b (λe s h=>by
  cases e with
  |goto l=>exact h
  |_=>exact hq _ _ h) h
 |.exit id,Q,Q',hq,st,h=>hq _ _ h
 |.goto l,Q,Q',hq,st,h=>hq _ _ h
 |.ret,Q,Q',hq,st,h=>hq _ _ h
 |.rangeFunc g ps asg body,Q,Q',hq,st,h=>by
  obtain⟨f,first,caps,as,bs,objs,ids,ts,gh,jl,L,I,Fin,h1,q,u,w,y,h6,h7,h8,h9,z,a0,a1,a2,a3,a4,a5⟩:=h;refine⟨f,first,caps,as,bs,objs,ids,ts,gh,jl,L,I,Fin,h1,q,u,w,y,h6,h7,h8,h9,z,a0,a1,a2,?_,?_,a5⟩
  .intro ys rest s a b c;have h:=a3 ys rest s a b c;cases jl with
   |none=>
    refine AL hS asg (λe t h=>?_) h;cases e with
    |normal=>exact hS.mono _ _ _ (λt h=>AL hS body (Ar3 hS hq) h) h
    |_=>exact h
   |some j=>
    refine⟨h.1,λe' k n f hy=>AL hS asg (λe t h=>?_) (h.2 e' k n f hy)⟩;cases e with
    |normal=>exact hS.mono _ _ _ (λt h=>AL hS body (ZP hS hq) h) h
    |_=>exact h
  intro s r a b c d
  have:=a4 s r a b c d
  cases r with
  |ret v=>exact hq _ _ this
  |panic x=>exact hq _ _ this
 |.refuse _,Q,Q',hq,st,h=>h
def AR1 (hS:G0 S P){F:J3}(a:∀s,S.up s (F .normal)->F .normal s):∀(K:List It) (s:St),S.up s (kp S P K F .normal)->kp S P K F .normal s
 |[],s,h=>a s h
 |.code c::K,s,h=>hS.trans _ _ (hS.mono _ _ _ (λt h=>h) h)
 |.blk id::K,s,h=>AR1 hS a K s h
 |.lp X s' J m n::K,s,h=>hS.trans _ _ h
 |.mid M::K,s,h=>hS.trans _ _ h
 |.scp::K,s,h=>AR1 hS a K s h
def Bp6 (hS:G0 S P){F:J3}(a:∀s,S.up s (F .normal)->F .normal s){K:List It}{M:St->Prop}(b:∀t,M t->G S P F (.pop .normal K t))(e:JN)(s:St)(h:kp S P (.mid M::K) F e s):kp S P K F e s:=by
 cases e with
 |normal=>exact AR1 hS a K s (hS.mono _ _ _ b h)
 |_=>exact h
end
section
variable {S:U8}{P:Program}{F:J3}{K:List It}{st:St}
def Ak6 (hS:G0 S P){all rest:List Oper}{o:Oper}{t:TypeId}{m k:Operand}{ok:Bool}{key:PV}{Qw:C5}{j:Nat}{es:List (PV×PV)}{kt e:TypeId}{x:PV}{b:Bool}{fd:Option PV}
 (i:Bn all st.env o=some true) (f:o.op=.lookup t m k ok) (l:DO st.Qw (aev st.env k)=some (key,Qw)) (hm:aev st.env m=.Se j) (n:A1 Qw j=some (.map es))
 (ht:tk P t=some (.map kt e)) (hk:Gn P kt key=true) (q:find (Ic P kt) key es=some fd) (hx:(match fd with|some x=>some (x,true)|none=>(HJ P e).map λz=>(z,false))=some (x,b)) (hc:C6 (HI P kt))
 (hn:G S P F (.ops all rest K (put { st with Qw:=Qw } o.dst (if ok then .tup [.p x,.bool b]else .p x)))):G S P F (.ops all (o::rest) K st):=by
 refine AY6 hS (out:=⟨HI P kt,if ok then .tup [.p x,.bool b]else .p x,Qw⟩) i ?_ (λc a=>by rw[f]at a;cases a) (λx d=>by rw[f]at d;cases d) hc hn;rw[f];simp only[aop,l,hm,EG,ht,hk,n,q];cases fd with
 |some y=>simp only[By4,Bz3]at hx;obtain⟨rfl,rfl⟩:=hx;rfl
 |none=>
  simp only at hx⊢;cases g:HJ P e with
  |none=>simp[g]at hx
  |some z=>simp only[g,Bz7,By4,Bz3]at hx;obtain⟨rfl,rfl⟩:=hx;rfl
def ZQ (hS:G0 S P){all rest:List Oper}{o:Oper}{t:TypeId}{m k x:Operand}{key y:PV}{Qw:C5}{j:Nat}{es es' : List (PV×PV)}{kt e:TypeId}
 (g:Bn all st.env o=some true) (d:o.op=.mapUpdate t m k x) (f:aev st.env k=.p key) (i:DO st.Qw (aev st.env x)=some (y,Qw)) (hm:aev st.env m=.Se j) (l:A1 Qw j=some (.map es))
 (ht:tk P t=some (.map kt e)) (hk:Gn P kt (nP key)=true) (n:upd (Ic P kt) (nP key) y es=some es') (hc:C6 (HI P kt))
 (hn:G S P F (.ops all rest K (put { st with Qw:=ins j (.map es') Qw } o.dst LC))):G S P F (.ops all (o::rest) K st):=by
 refine AY6 hS (out:=⟨HI P kt,LC,ins j (.map es') Qw⟩) g ?_ (λc a=>by rw[d]at a;cases a) (λx b=>by rw[d]at b;cases b) hc hn;rw[d];simp only[aop,i,hm,f,ht,hk,l,n]
end
abbrev Str:=List UInt8
structure Sl (α : Type) where
 n:Nat
 g:Nat -> α
instance {α : Type} [Inhabited α]:Inhabited (Sl α):=⟨⟨0,λ_=>default⟩⟩
namespace Sl
variable {α : Type}
def toList (s:Sl α):List α:=(List.range s.n).map s.g
abbrev nil [Inhabited α]:Sl α:=⟨0,λ_=>default⟩
abbrev rep (n:Nat)(a : α):Sl α:=⟨n,λ_=>a⟩
abbrev sub (s:Sl α)(a b:Nat):Sl α:=⟨b-a,λi=>s.g (a+i)⟩
abbrev drop (s:Sl α)(a:Nat):Sl α:=⟨s.n-a,λi=>s.g (a+i)⟩
abbrev take (s:Sl α)(b:Nat):Sl α:=⟨b,s.g⟩
abbrev push (s:Sl α)(a : α):Sl α:=⟨s.n+1,λi=>if i<s.n then s.g i else a⟩
abbrev app (s t:Sl α):Sl α:=⟨s.n+t.n,λi=>if i<s.n then s.g i else t.g (i-s.n)⟩
abbrev upd (s:Sl α)(k:Nat)(a : α):Sl α:=⟨s.n,λi=>if i=k then a else s.g i⟩
abbrev of [Inhabited α](l:List α):Sl α:=⟨l.length,λi=>l.getD i default⟩
end Sl
abbrev vSl {α : Type}(k:Nat)(c : α -> List PV)(s:Sl α):PV:=.sl false k s.n λi=>c (s.g i)
abbrev pI (k:IntKind)(n:Int):PV:=.v (.int k n)
abbrev D7 (l:Str)(i:Int):Int:=(((l.getD i.toNat 0).toNat:Nat):Int)
abbrev pN (n:Int):AV:=.p (.v (.int .i64 n))
abbrev pU (n:Int):AV:=.p (.v (.int .u32 n))
abbrev pB (b:Bool):AV:=.p (.bb b)
abbrev Bm1:PV:=.v (.pointer none)
abbrev I4:PV:=.v (.slice none 0 0)
section
variable {R:Type}
def R6 {A:Type}(N:Nat)(body:(A->Option R)->A->Option R):A->Option R:=match N with
 |0=>λ_=>none
 |N+1=>λa=>body (R6 N body) a
variable {A B C D E F G H:Type}
def Co (N:Nat)(body:(A->B->Option R)->A->B->Option R)(a:A)(b:B):Option R:=R6 N (λc x=>body (λa b=>c (a,b)) x.1 x.2) (a,b)
def AZ3 (N:Nat)(body:(A->B->C->Option R)->A->B->C->Option R)(a:A)(b:B)(c:C):Option R:=R6 N (λd x=>body (λa b c=>d (a,b,c)) x.1 x.2.1 x.2.2) (a,b,c)
def fix4 (N:Nat)(body:(A->B->C->D->Option R)->A->B->C->D->Option R)(a:A)(b:B)(c:C)(d:D):Option R:=R6 N (λf x=>body (λa b c d=>f (a,b,c,d)) x.1 x.2.1 x.2.2.1 x.2.2.2) (a,b,c,d)
def fix6 (N:Nat)(body:(A->B->C->D->E->F->Option R)->A->B->C->D->E->F->Option R)(a:A)(b:B)(c:C)(d:D)(e:E)(f:F):Option R:=R6 N (λg x=>body (λa b c d e f=>g (a,b,c,d,e,f)) x.1 x.2.1 x.2.2.1 x.2.2.2.1 x.2.2.2.2.1 x.2.2.2.2.2) (a,b,c,d,e,f)
def PM {N:Nat}{body:(A->Option R)->A->Option R}{a:A}:R6 (N+1) body a=body (R6 N body) a:=rfl
def lt {K:Type}(k:K)(f:K->Option R):Option R:=f k
end
section
variable {R X Y:Type}{r:R}
def itT {b:Bool}{x y:Option R}(hb:b=true)(h:(if b then x else y)=some r):x=some r:=by rwa [Gy hb]at h
def itF {b:Bool}{x y:Option R}(hb:b=false)(h:(if b then x else y)=some r):y=some r:=by rwa [Hj (by simp[hb])]at h
def B9 {p:Prop}[Decidable p]{x:Option R}(h:(if p then x else none)=some r):p/\x=some r:=by
 split at h
 .exact⟨by assumption,h⟩
 cases h
def A9 {x:Option X}{f:X->Option R}(h:x.bind f=some r):∃a,x=some a/\f a=some r:=BJ4.1 h
def B1 {a b:R}(h:some a=some b):a=b:=BE7 h
end
section
variable {S:U8}{P:Program}{F:J3}{K:List It}{st:St}
def A4 (hS:G0 S P){n:Nat}{rs:List ResultVar}{Q:ARes->List Obj->List Bool->Prop}(s:St)(h:S.up s (Cm S P n rs Q .normal)):Cm S P n rs Q .normal s:=hS.trans _ _ h
def Bp7 (hS:G0 S P){b:Code}{R A:Type}{body:(A->Option R)->A->Option R}{N:Nat}{a0:A}{r:R}(h:R6 N body a0=some r)(s:A->St)(ids:List (Nat×Nat))(hle:Le ids st (s a0))
 (d:∀(X:Type) (s' : X->St) (J:X->Prop) (m:X->Nat) (n:Nat) (c:A->Option R) (a:A),(∀st ids a,Le ids st (s a)->c a=some r->G S P F (.pop .normal (.lp X s' J m n::K) st))->body c a=some r->G S P F (.code b (.lp X s' J m n::K) (s a))) :
 G S P F (.code (.loop b) K st):=by
 refine Ai0 hS (X:=Nat×A) (λx=>s x.2) (λx=>R6 x.1 body x.2=some r) (λx=>x.1) (N,a0) ids hle h ?_;rintro⟨n,a⟩ hx;cases n with
 |zero=>cases hx
 |succ n=>exact d _ _ _ _ _ (R6 n body) a (λst ids a hle h=>Zs hS (n,a) ids hle h (BO7 n)) hx
def AD5 (hS:G0 S P){all rest:List Oper}{o:Oper}(t:St)(ids:List (Nat×Nat))(hle:Le ids st t)(h:G S P F (.ops all (o::rest) K t)):G S P F (.ops all (o::rest) K st):=
 Zr hS (hS.le ids _ _ _ hle h)
end
def pm:(∀b,(true||b)=true)/\(∀b,(b||true)=true)/\(∀b,(false||b)=b)/\(∀b,(b||false)=b)/\(∀b,(true&&b)=b)/\(∀b,(b&&true)=b)/\(∀b,(false&&b)=false)/\(∀b,(b&&false)=false)/\((!true)=false)/\((!false)=true)/\((false=true)=False)/\((true=true)=True):=by refine⟨?_,?_,?_,?_,?_,?_,?_,?_,?_,?_,?_,?_⟩<;>simp
section
variable {Qw:C5}{ids:List (Nat×Nat)}
variable {env r:Env}{t:Nat}{a b:AV}{x y:PV}
def eP (b:get env t=a)(h:viewP Qw a=some y)(h' : Uu Qw ids env r):Uu Qw ids env ((t,.p y)::r):=Bo3 b (le_p h) h'
def app1 {α : Type}{c : α -> List PV}{n:Nat}{v:Sl α}{f:Nat->List PV}{z cs:List PV}{x : α}(h:∀i,i<n->f i=c (v.g i))(hn:n=v.n)(hx:cs=c x):∀i,i<n+1->Ey n f (H0 z [(0,cs)]) i=c ((v.push x).g i):=by
 subst hn hx;intro i a;show (if i<v.n then f i else H0 z [(0,c x)] (i-v.n))=c (if i<v.n then v.g i else x);split
 .exact h i ‹_›
 obtain rfl:i=v.n:=by omega
 simp[H0]
def Bm2 {α : Type}{c : α -> List PV}{n m:Nat}{v w:Sl α}{f g:Nat->List PV}(h:∀i,i<n->f i=c (v.g i))(hn:n=v.n)(h' : ∀i,i<m->g i=c (w.g i))(hm:m=w.n):∀i,i<n+m->Ey n f g i=c ((v.app w).g i):=by
 subst hn hm;intro i a;show (if i<v.n then f i else g (i-v.n))=c (if i<v.n then v.g i else w.g (i-v.n));split
 .exact h i ‹_›
 exact h' _ (by omega)
def AZ4 {α : Type}{c : α -> List PV}{n k:Nat}{v:Sl α}{f:Nat->List PV}{e:Nat->List PV}{x : α}(h:∀i,i<n->f i=c (v.g i))(hx:k<n->e k=c x):∀i,i<n->(λl=>if l=k then e l else f l) i=c ((v.upd k x).g i):=by
 intro i a;show (if i=k then e i else f i)=c (if i=k then x else v.g i);split
 .subst_vars;exact hx a
 exact h i a
def same {n:Nat}{f:Nat->List PV}:∀i,i<n->f i=f i:=λ_ _=>rfl
end
abbrev cI (k:IntKind)(n:Int):List PV:=[.v (.int k n)]
abbrev cB (b:Bool):List PV:=[.bb b]
abbrev cS (s:Str):List PV:=[.str s]
abbrev cL {α : Type}(k:Nat)(c : α -> List PV)(s:Sl α):List PV:=[vSl k c s]
abbrev strOf (s:Sl Int):Str:=(List.range s.n).map λi=>UInt8.ofNat (s.g i).toNat
section
variable {S:U8}{P:Program}{F:J3}{K:List It}{st:St}
end
section
variable {Qw:C5}{ids:List (Nat×Nat)}
def le_yf {i j:Nat}(h:lk ids j=some i):leA Qw ids (.yf i) (.yf j):=by unfold leA;exact⟨i,h,rfl⟩
def Bp8 {l m:List AV}(h:leL Qw ids l m):leA Qw ids (.tup l) (.tup m):=by unfold leA;exact⟨l,rfl,h⟩
def Bp9 {l m:List AV}(h:leL Qw ids l m):leA Qw ids (.agr l) (.agr m):=by unfold leA;exact⟨l,rfl,h⟩
end
def CC {κ ν : Type}(kP : κ -> PV)(vP : ν -> PV)(es:List (κ × ν)):List (PV×PV):=es.map λp=>(kP p.1,vP p.2)
def K6 {κ ν : Type}(eq : κ -> κ -> Bool)(k : κ):List (κ × ν)->Option ν
 |[]=>none
 |(a,v)::es=>if eq k a then some v else K6 eq k es
def Fz {κ ν : Type}(eq : κ -> κ -> Bool)(k : κ)(v : ν):List (κ × ν)->List (κ × ν)
 |[]=>[(k,v)]
 |(a,x)::es=>if eq k a then (k,v)::es else (a,x)::Fz eq k v es
def ZR {κ ν : Type}(kP : κ -> PV)(vP : ν -> PV)(es:List (κ × ν)):(CC kP vP es).length=es.length:=by simp[CC]
def Xq {κ ν : Type}{kP : κ -> PV}{vP : ν -> PV}{cmp:PV->PV->Option Bool}{eq : κ -> κ -> Bool}(hc:∀a b,cmp (kP a) (kP b)=some (eq a b))(k : κ):∀es:List (κ × ν),find cmp (kP k) (CC kP vP es)=some ((K6 eq k es).map vP)
 |[]=>rfl
 |(a,v)::es=>by
  show (match cmp (kP k) (kP a)with|some true=>some (some (vP v))|some false=>find cmp (kP k) (CC kP vP es)|none=>none)=some ((K6 eq k ((a,v)::es)).map vP);rw[hc];simp only[K6];cases h:eq k a
  .simpa using Xq hc k es
  rfl
def US {κ ν : Type}{kP : κ -> PV}{vP : ν -> PV}{cmp:PV->PV->Option Bool}{eq : κ -> κ -> Bool}(hc:∀a b,cmp (kP a) (kP b)=some (eq a b))(k : κ)(x : ν):∀es:List (κ × ν),upd cmp (kP k) (vP x) (CC kP vP es)=some (CC kP vP (Fz eq k x es))
 |[]=>rfl
 |(a,v)::es=>by
  show (match cmp (kP k) (kP a)with|some true=>some ((kP k,vP x)::CC kP vP es)|some false=>(upd cmp (kP k) (vP x) (CC kP vP es)).map ((kP a,vP v) :: ·)|none=>none)=some (CC kP vP (Fz eq k x ((a,v)::es)));rw[hc];simp only[Fz];cases h:eq k a
  .simp only[US hc k x es,Bz7,Ld,By9];rfl
  rfl
abbrev eqS (a b:Str):Bool:=a==b
abbrev eqI (a b:Int):Bool:=a==b
def Ih {X Y:Type}(o:Option X)(a:Y)(f:X->Y):Y:=match o with
 |none=>a
 |some x=>f x
def Zj {X R:Type}{r:R}{o:Option X}{a:Option R}{f:X->Option R}(b:o=none)(h:Ih o a f=some r):a=some r:=by subst b;exact h
def Xr {X R:Type}{r:R}{o:Option X}{x:X}{a:Option R}{f:X->Option R}(b:o=some x)(h:Ih o a f=some r):f x=some r:=by subst b;exact h
def K7 {X Y:Type}(a:Y)(f:X->Y):Ih none a f=a:=rfl
def K8 {X Y:Type}(x:X)(a:Y)(f:X->Y):Ih (some x) a f=f x:=rfl
section
variable {R T A B C D:Type}
def iter0 (L:List T)(body:Option R->T->Option R)(k:Option R):Option R:=match L with
 |[]=>k
 |t::L=>body (iter0 L body k) t
def Cp (L:List T)(body:(A->Option R)->T->A->Option R)(k:A->Option R)(a:A):Option R:=match L with
 |[]=>k a
 |t::L=>body (Cp L body k) t a
end
section
variable {S:U8}{P:Program}{F:J3}{K:List It}{st:St}
def Bg1 (hS:G0 S P){g:Operand}{ps:Array Tmp}{asg body:Code}{f:FuncId}{first caps as bs:List AV}{objs:List Obj}{R T A:Type}{enc:T->List PV}{L:List T}{mb:(A->Option R)->T->A->Option R}{mk:A->Option R}{a0:A}{r:R}
 (ids ts:List Nat) (gh:Nat) (s:A->St) (idl:List (Nat×Nat)) (h:Cp L mb mk a0=some r) (y:EP S f as bs objs (L.map enc))
 (hp:FN st.env g=some (f,first,caps)) (j:∃fn,P.funcs[f]? = some fn/\fn.body.isSome=true/\(fn.name == "runtime.NumGoroutine")=false) (l:M0 ids st.Qw ids=some objs) (m:Fu objs=true) (z:H5 ids=true) (n:DP ids first=some as) (o:DP ids caps=some bs) (q:objs.length=ids.length)
 (u:Nat.blt gh 1000=true) (v:A1 st.Qw gh=none) (w:Nat.blt ids.length 1000=true) (x:H5 ts=true) (d:∀t:T,AH (enc t)=some ps.size)
 (hle:Le idl ⟨X7 ts (ts.map (get st.env)),J9 ids (ids.map λ_=>false) st.Qw⟩ (s a0)) (hk:∀a,(s a).env.map (·.1)=ts) (hn:∀a,A1 (s a).Qw gh=none)
 (b:∀(t:T) (next:St->Prop) (c:A->Option R) (a:A),(∀(st st1:St) (cs:List AV) (idl:List (Nat×Nat)) (a:A),Le idl st st1->A1 st1.Qw gh=some (.ghost cs)->cs.length=ts.length->A1 (del gh st1.Qw) gh=none->(⟨X7 ts cs,del gh st1.Qw⟩:St)=s a->c a=some r->G S P (GS S gh ts next (kp S P K F)) (.pop .normal [] st)) ->
  mb c t a=some r->G S P (Cn S P body gh ts next (kp S P K F)) (.code asg [] ⟨Oz ps.toList (enc t) (s a).env,ins gh (.ghost ((s a).env.map (·.2))) (s a).Qw⟩))
 (i:∀a,mk a=some r->G S P F (.pop .normal K (s a))):G S P F (.code (.rangeFunc g ps asg body) K st):=by
 refine AD3 hS ids ts gh (L.map enc) s (λrest a=>∃L',rest=L'.map enc/\Cp L' mb mk a=some r) a0 idl hp j l m z n o q (by simpa[BJ0]using u) v (by simpa[BJ0]using w) x (λys hy=>?_) y hle ⟨L,rfl,h⟩ hk hn ?_ ?_
 .obtain⟨t,_,rfl⟩:=BE0.1 hy;exact d t
 .rintro ys rest a ⟨L',hL,hx⟩;cases L' with
  |nil=>cases hL
  |cons t L'=>simp only[BA3,BD6]at hL;obtain⟨rfl,rfl⟩:=hL;refine b t _ (Cp L' mb mk) a (λst st1 cs idl a hle h1 h2 h3 h4 h5=>?_) hx;exact ZN hS st1 a idl hle h1 h2 h3 h4 ⟨L',rfl,h5⟩
 rintro a ⟨L',hL,hx⟩;cases L' with
 |nil=>exact i a hx
 |cons t L'=>cases hL
def AR2 (hS:G0 S P){g:Operand}{ps:Array Tmp}{asg body:Code}{f:FuncId}{first caps as bs:List AV}{objs:List Obj}{R T A:Type}{enc:T->List PV}{L:List T}{mb:(A->Option R)->T->A->Option R}{mk:A->Option R}{a0:A}{r0:R}
 (ids ts:List Nat) (gh:Nat) (s:A->R->St) (idl:List (Nat×Nat)) (h:Cp L mb mk a0=some r0) (z:EP S f as bs objs (L.map enc))
 (hp:FN st.env g=some (f,first,caps)) (j:∃fn,P.funcs[f]? = some fn/\fn.body.isSome=true/\(fn.name == "runtime.NumGoroutine")=false) (l:M0 ids st.Qw ids=some objs) (m:Fu objs=true) (hd:H5 ids=true) (n:DP ids first=some as) (o:DP ids caps=some bs) (q:objs.length=ids.length)
 (u:Nat.blt gh 1000=true) (v:A1 st.Qw gh=none) (w:Nat.blt ids.length 1000=true) (y:H5 ts=true) (d:∀t:T,AH (enc t)=some ps.size)
 (hle:Le idl ⟨X7 ts (ts.map (get st.env)),J9 ids (ids.map λ_=>false) st.Qw⟩ (s a0 r0)) (hk:∀a r,(s a r).env.map (·.1)=ts) (hn:∀a r,A1 (s a r).Qw gh=none)
 (b:∀(t:T) (next:St->Prop) (c:A->Option R) (a:A) (r:R),(∀(st st1:St) (cs:List AV) (idl:List (Nat×Nat)) (a:A) (r:R),Le idl st st1->A1 st1.Qw gh=some (.ghost cs)->cs.length=ts.length->A1 (del gh st1.Qw) gh=none->(⟨X7 ts cs,del gh st1.Qw⟩:St)=s a r->c a=some r->G S P (GS S gh ts next (kp S P K F)) (.pop .normal [] st)) ->
  mb c t a=some r->G S P (Cn S P body gh ts next (kp S P K F)) (.code asg [] ⟨Oz ps.toList (enc t) (s a r).env,ins gh (.ghost ((s a r).env.map (·.2))) (s a r).Qw⟩))
 (i:∀a r,mk a=some r->G S P F (.pop .normal K (s a r))):G S P F (.code (.rangeFunc g ps asg body) K st):=by
 refine AD3 hS ids ts gh (L.map enc) (λx:A×R=>s x.1 x.2) (λrest x=>∃L',rest=L'.map enc/\Cp L' mb mk x.1=some x.2) (a0,r0) idl hp j l m hd n o q (by simpa[BJ0]using u) v (by simpa[BJ0]using w) y (λys hy=>?_) z hle ⟨L,rfl,h⟩ (λx=>hk x.1 x.2) (λx=>hn x.1 x.2) ?_ ?_
 .obtain⟨t,_,rfl⟩:=BE0.1 hy;exact d t
 .rintro ys rest ⟨a,r⟩ ⟨L',hL,hx⟩;cases L' with
  |nil=>cases hL
  |cons t L'=>simp only[BA3,BD6]at hL;obtain⟨rfl,rfl⟩:=hL;refine b t _ (Cp L' mb mk) a r (λst st1 cs idl a r hle h1 h2 h3 h4 h5=>?_) hx;exact ZN hS st1 (a,r) idl hle h1 h2 h3 h4 ⟨L',rfl,h5⟩
 rintro⟨a,r⟩ ⟨L',hL,hx⟩;cases L' with
 |nil=>exact i a r hx
 |cons t L'=>cases hL
end
section
variable {S:U8}{P:Program}{all:List Oper}{k:Env->C5->Prop}
def ZS {cls:List Cls}{o:Oper}{rest:List Oper}{env:Env}{Qw regs1:C5}{t:TypeId}{m q x:Operand}{key y:PV}{j:Nat}{es es' : List (PV×PV)}{kt e:TypeId}
 (d:Ai all env o=some true) (b:o.op=.mapUpdate t m q x) (a:aev env q=.p key) (f:DO Qw (aev env x)=some (y,regs1)) (hm:aev env m=.Se j) (g:A1 regs1 j=some (.map es))
 (ht:tk P t=some (.map kt e)) (hk:Gn P kt (nP key)=true) (i:upd (Ic P kt) (nP key) y es=some es') (hc:C6 (HI P kt))
 (hn:LB S P all cls rest (Pa o.dst LC env) (ins j (.map es') regs1) k):LB S P all (.w::cls) (o::rest) env Qw k:=by
 refine Ak2 (c:=HI P kt) (v:=LC) (regs':=ins j (.map es') regs1) d ?_ hc ?_ hn
 .rw[b];simp only[aop,f,hm,a,ht,hk,g,i]
 rw[b];rfl
def Ak7 {cl:Cls}{cls:List Cls}{o:Oper}{rest:List Oper}{env:Env}{Qw regs1:C5}{t:TypeId}{m q:Operand}{ok:Bool}{key:PV}{j:Nat}{es:List (PV×PV)}{kt e:TypeId}{x:PV}{b:Bool}{fd:Option PV}
 (f:Ai all env o=some true) (g:o.op=.lookup t m q ok) (i:DO Qw (aev env q)=some (key,regs1)) (hm:aev env m=.Se j) (l:A1 regs1 j=some (.map es))
 (ht:tk P t=some (.map kt e)) (hk:Gn P kt key=true) (n:find (Ic P kt) key es=some fd) (hx:(match fd with|some x=>some (x,true)|none=>(HJ P e).map λz=>(z,false))=some (x,b)) (hc:C6 (HI P kt)) (a:Xk cl env (o.dst.getD 0) o.op=true)
 (hn:LB S P all cls rest (Pa o.dst (if ok then .tup [.p x,.bool b]else .p x) env) regs1 k):LB S P all (cl::cls) (o::rest) env Qw k:=by
 refine Ak2 (c:=HI P kt) (v:=if ok then .tup [.p x,.bool b]else .p x) (regs':=regs1) f ?_ hc a hn;rw[g];simp only[aop,i,hm,EG,ht,hk,l,n];cases fd with
 |some y=>simp only[By4,Bz3]at hx;obtain⟨rfl,rfl⟩:=hx;rfl
 |none=>
  simp only at hx⊢;cases d:HJ P e with
  |none=>simp[d]at hx
  |some z=>simp only[d,Bz7,By4,Bz3]at hx;obtain⟨rfl,rfl⟩:=hx;rfl
end
end Go.AM
