/- Part 4. -/
import Derived.Test.YtppapmfonjmfbaaGreatDoorRC
import Derived.Test.YtppapmfonjmfbaaGreatDoorRA
import Derived.ProofKit
import Derived.WideKeyArgs
import Derived.Deep.Slices
import Derived.OpenShut
set_option linter.defProp false
set_option linter.unusedSimpArgs false
set_option linter.unusedVariables false
set_option linter.unusedSectionVars false
namespace Go.AM
def AQ4:=@Int.toNat_natCast
def AU2:=@List.mem_map
def AV0:=@BitVec.eq_of_toNat_eq
def AY6:=@List.mem_cons_self
def AZ3:=@Nat.blt_eq
def Ba1:=@Nat.pow_le_pow_right
def Bb4:=@Bool.false_and
def Bb8:=@List.take_append_drop
def Bc4:=@Nat.shiftRight_eq_div_pow
def Bd0:=@BitVec.toNat_ushiftRight
def Be2:=@List.mem_flatMap
def Be3:=@Nat.min_eq_right
def Be8:=@Go.World.alloc_heap_new
def Be9:=@Bool.and_true
def Bf5:=@Int.fdiv_eq_ediv_of_nonneg
def Bf9:=@List.drop_zero
def Bh0:=@BitVec.toNat_shiftLeft
def Bi5:=@Go.WideShapes.add_plain
def Bj3:=@BitVec.toNat_ofInt
def Bj4:=@Int.natCast_nonneg
def Bj5:=@List.sum_cons
def Bj6:=@List.getElem_range
def Bk2:=@List.all_nil
section
variable {P:Program}{R:RP P}{C C2:Ctx}{s:St}{rhoA:Nat->Value}{XI V:Nat->Nat->Prop}{w:World}{O:Nat->Prop}
theorem Az1 (ps:Array Tmp)(vs:Array Value)(tmps:Array Value):(ps.zip vs).foldl (fun tmps (x:Tmp×Value)=>match x with|(t,a)=>tmps.setIfInBounds t a) tmps=(ps.toList.zip vs.toList).foldl (fun tmps (q:Nat×Value)=>tmps.setIfInBounds q.1 q.2) tmps:=by rw[<- Bj0,Array.toList_zip]
theorem Wi:∀(l:List (Nat×Value)) (tmps:Array Value),(l.foldl (fun tmps (q:Nat×Value)=>tmps.setIfInBounds q.1 q.2) tmps).size=tmps.size
 |[],tmps=>rfl
 |q::l,tmps=>by simp only[Bd3];rw[Wi l];simp
def W6 (R:RP P)(C2:Ctx)(s:St)(rhoA:Nat->Value)(V:Nat->Nat->Prop)(H:Nat->Prop)(v:Value)(w:World):Ctx:= { X:=fun b o=>C2.X b o \/ (V b o/\¬H b),w0:=w,E0:=fun b=>Own (A1 s.regs) rhoA b \/ H b,Pi0:=fun b o=>(C2.X b o \/ (V b o/\¬H b)) \/ (PvR s.regs rhoA b o \/ H b),rho0:=R.rR v,Y:=C2.Y,yv:=C2.yv }
theorem XM {rest:List (List PV)}{live:Bool}{lo:Loop}(h:InG R C C2 s rhoA XI rest live lo)(hR:Rel C w O V){H:Nat->Prop}(i:∀b,H b->O b/\∀o,V b o)(v:Value)(m1:Sat (C2.plus V) s R.act w rhoA) :LiftG R.pr R.rA (R.rR v) w (W6 R C2 s rhoA V H v w).Pi0 (R.OS fun b=>O b/\¬H b) (fun b o=>V b o/\¬H b) (W6 R C2 s rhoA V H v w) C2 (fun b o=>PvR s.regs rhoA b o \/ H b):=by
 obtain⟨l,m⟩:=h.disO hR;have a:=m1.rel;have c:∀b,O b->C2.E0 b \/ C2.w0.heap.size<=b:=fun b hb=>by
  rcases hR.own b hb with h1|h1
  .exact h.oc b h1
  exact .inr (AW5 h.sat.size h1)
 have f:∀b off,O b->¬C2.X b off:=fun b off hb d=>hR.out b off hb (by rw[h.X];exact .inl d);refine⟨h.g,h.r2,rfl,rfl,rfl,rfl,rfl,⟨a.ext,a.size,a.same,a.keep.trans (Keeps.of_imp ?_),?_,?_,?_,fun b off d=>a.bnd b off (.inl d),?_⟩,fun b _=>rfl,Keeps.refl _ _,?_,AQ8 _,Ext.refl _⟩
 .rintro b o (hp|hp|hp|hp)
  .exact .inl (.inl hp)
  .exact .inl (.inr hp.1)
  .exact .inr hp
  exact .inl (.inr ((i b hp).2 o))
 .rintro b ((hb|rfl|hb)|hb|hb)
  .exact c b hb.1
  .exact h.lown
  .exact a.own b (.inr hb)
  .exact a.own b (.inl hb)
  exact c b (i b hb).1
 .rintro b off ((hb|rfl|hb)|hb|hb) d
  .exact f b off hb.1 d
  .exact h.lX off d
  .exact a.out b off (.inr hb) (.inl d)
  .exact a.out b off (.inl hb) (.inl d)
  exact f b off (i b hb).1 d
 .rintro b ((hb|rfl|hb)|hb|hb)
  .exact hR.lt b hb.1
  .exact AT0 (AR1.1 h.rl).1 hR.size
  .exact a.lt b (.inr hb)
  .exact a.lt b (.inl hb)
  exact hR.lt b (i b hb).1
 .rintro b o (hb|hb|hb)
  .exact .inl (.inl ⟨hR.vo b o hb.1,hb.2⟩)
  .obtain⟨j,oj,hj,n,_⟩:=hb;exact .inr (.inl ⟨j,oj,hj,n⟩)
  exact .inr (.inr hb)
 rintro b (hb|rfl|hb) (c|q)
 .exact l b hb.1 (.inl c)
 .exact hb.2 q
 .exact h.sat.loop_not_own h.rl (.inl c)
 .exact m (i _ q).1
 .obtain⟨r,h1,_,t,_⟩:=m1.marks.2 _ hb;cases h1;exact m1.own_not c t (fun _ _ _ e=>by cases e) (fun _ _ e=>by cases e)
 exact l b (i b q).1 (.inr hb)
theorem Ux (f:R.act.tmps.size=R.n)(l:∀t∈R.ps.toList,t<R.n)(hgl:R.gh<1000)(m:R.jl=none)(x:R.ts.Nodup){rest:List (List PV)}{live:Bool}{lo:Loop}(h:InG R C C2 s rhoA XI rest live lo)(m1:Sat (C2.plus V) s R.act w rhoA){H:Nat->Prop}(y:∀b,¬H b)
 {ys:List PV}{vs:Array Value}(v:Value) (a:ys.length=R.ps.size) (z:vs.size=ys.length) (hv:∀i,i<ys.length->RepP w (Prv (C2.plus V).X (A1 s.regs) rhoA) (vs.getD i undef) (ys.getD i default)) :
 Sat (W6 R C2 s rhoA V H v w) ⟨Lf R.ps.toList ys s.env,ins R.gh (.ghost (s.env.map (·.2))) s.regs⟩ { tmps:=(R.ps.toList.zip vs.toList).foldl (fun tmps (q:Nat×Value)=>tmps.setIfInBounds q.1 q.2) R.act.tmps,defers:=[] } w
  (fun i=>if i=R.gh then .tuple (Fj R.ts R.act.tmps)else rhoA i):=by
 have c:(s.env.map (·.1)).Nodup:=by rw[h.keys];exact x
 have g:(W6 R C2 s rhoA V H v w).X=(C2.plus V).X:=by funext b o;show (C2.X b o \/ (V b o/\¬H b))=(C2.X b o \/ V b o);simp[y b]
 have a0:SatE (W6 R C2 s rhoA V H v w) s.regs w rhoA:=⟨by rw[g];exact m1.hp,Ext.refl _,AQ8 _,fun _ _ _=>rfl,by
  refine Keeps.of_imp ?_;rintro b o (hp|hp)
  .exact .inl hp
  exact .inr (.inl hp),fun b hb=>.inl (.inl hb),m1.yld⟩
 obtain⟨g1,g2,g3⟩:=a0.add (R':=ins R.gh (.ghost (s.env.map (·.2))) s.regs) h.ng (o:=.ghost (s.env.map (·.2))) (v:=.tuple (Fj R.ts R.act.tmps)) (fun u b h=>by cases h)
  (fun i=>by rw[A2];by_cases e:i=R.gh<;>simp[e,eq_comm])
  (fun hk hl=>⟨_,rfl,by rw[OZ,<- h.keys];simp,fun i hi=>by
   have hi' : i<(s.env.map (·.1)).length:=by simpa using hi
   obtain⟨t,ht⟩:∃t,(s.env.map (·.1))[i]? = some t:=⟨_,AQ5 hi'⟩;have ht' : R.ts[i]? = some t:=by rw[<- h.keys];exact ht
   rw[IG ht', <- (Qm s.env t c).1 i ht];rw[g]at hk;exact (m1.env t).keeps (by rw[g];exact hk) hl⟩)
  (fun r b he=>by cases he)
 have hk:Keeps w (Prv (C2.plus V).X (A1 s.regs) rhoA) w (Prv (W6 R C2 s rhoA V H v w).X (A1 (ins R.gh (.ghost (s.env.map (·.2))) s.regs)) (fun i=>if i=R.gh then .tuple (Fj R.ts R.act.tmps)else rhoA i)):=
  Keeps.of_imp fun b o hp=>by rw[<- g];exact (g2 b o).1 hp
 refine⟨g1,?_,?_,AX5,fun d hd=>by simp at hd⟩
 .refine Mm R.ps.toList ys vs.toList s.env R.act.tmps (by simp[a]) (by simp[z,a]) (fun t ht=>by rw[f];exact l t ht) (fun t=>(m1.env t).keeps hk g3) (fun i hi=>?_)
  have:=(hv i hi).keeps hk
  simpa[AQ0,AQ1]using this
 intro j hj hl;show (if j=R.gh then Value.tuple (Fj R.ts R.act.tmps)else rhoA j)=R.rR v j;unfold RP.rR;by_cases e:j=R.gh
 .simp[e]
 simp only[e,Lp,m];have hl' : Lv (A1 s.regs) j:=by simp only[Lv,A2]at hl;rw[Lm (AV5 e)]at hl;exact hl
 rw[m1.pin j hj hl'];show C2.rho0 j=R.rA j;rw[h.r2]
theorem Ss (a8:R.act.tmps.size=R.n)(hps:∀t∈R.ps.toList,t<R.n)(hgl:R.gh<1000){jl:Nat}(a9:R.jl=some jl)(a2:jl≠R.gh)(hjs:A1 s.regs jl=none)(hts:R.ts.Nodup){rest:List (List PV)}{live:Bool}{lo:Loop}(h:InG R C C2 s rhoA XI rest live lo)(m1:Sat (C2.plus V) s R.act w rhoA)(hR:Rel C w O V){H:Nat->Prop}(hH:∀b,H b->O b/\∀o,V b o)
 {v:Value}{e:TypeId}{k n:Nat}{f:Nat->List PV}(a4:R.ps.size=1) (z:∀b,H b↔K9 v (.vec e k n f false)=some b) (hv:HoldsC w (fun b o=>C.X b o \/ V b o) (fun _=>False) (fun _=>undef) v (.vec e k n f false)) :
 Sat (W6 R C2 s rhoA V H v w) ⟨ins (R.ps.getD 0 0) (.vec jl) s.env,ins jl (.vec e k n f false) (ins R.gh (.ghost (s.env.map (·.2))) s.regs)⟩ { tmps:=(R.ps.toList.zip (#[v]:Array Value).toList).foldl (fun tmps (q:Nat×Value)=>tmps.setIfInBounds q.1 q.2) R.act.tmps,defers:=[] } w
  (fun i=>if i=R.gh then .tuple (Fj R.ts R.act.tmps)else if i=jl then v else rhoA i):=by
 have a5:(s.env.map (·.1)).Nodup:=by rw[h.keys];exact hts
 have g:∀i o,A1 (ins jl (.vec e k n f false) s.regs) i=some o->(i=jl/\o=.vec e k n f false) \/ (i≠jl/\A1 s.regs i=some o):=by
  intro i o a;rw[A2]at a;split at a
  .rename_i e;cases a;exact .inl ⟨e.symm,rfl⟩
  rename_i e;exact .inr ⟨fun e'=>e e'.symm,a⟩
 have x:∀i,Lv (A1 s.regs) i->Lv (A1 (ins jl (.vec e k n f false) s.regs)) i/\(if i=jl then v else rhoA i)=rhoA i:=by
  intro i a;have e:i≠jl:=by rintro rfl;simp[Lv,hjs]at a
  simp only[Lv,A2,Lm (AV5 e),Lm e];exact⟨a,trivial⟩
 have b0:∀b off,Prv (W6 R C2 s rhoA V H v w).X (A1 (ins jl (.vec e k n f false) s.regs)) (fun i=>if i=jl then v else rhoA i) b off->Prv (C2.plus V).X (A1 s.regs) rhoA b off:=by
  rintro b off ((y|y)|⟨i,o,a,hb,hp⟩)
  .exact .inl (.inl y)
  .exact .inl (.inr y.1)
  rcases g i o a with⟨rfl,rfl⟩ | ⟨m,a⟩
  .simp only[Lo]at hb;exact .inl (.inr ((hH b ((z b).2 hb)).2 off))
  simp only[Lm m]at hb;exact .inr ⟨i,o,a,hb,hp⟩
 have a6:=Keeps.of_imp (w:=w) b0;have b1:∀i o b,A1 s.regs i=some o->D6 (rhoA i) o b->¬H b:=fun i o b a hb hh=>m1.hp.out i o b 0 a hb (.inr ((hH b hh).2 0));have hE0:SatE (W6 R C2 s rhoA V H v w) (ins jl (.vec e k n f false) s.regs) w (fun i=>if i=jl then v else rhoA i):=by
  refine⟨⟨?_,?_,?_,?_⟩,Ext.refl _,AQ8 _,fun _ _ _=>rfl,Keeps.of_imp ?_,?_,?_⟩
  .intro i o a;rcases g i o a with⟨rfl,rfl⟩ | ⟨m,a⟩
   .simp only[Lo];refine hv.vec (Keeps.of_imp fun b o hp=>?_) fun _ _=>rfl;rw[h.X];rcases b0 b o hp with (hp|hp)|hp
    .exact .inl (.inl hp)
    .exact .inr hp
    exact .inl (.inr hp)
   simp only[Lm m];exact (m1.hp.holds i o a).keeps a6 x fun b _=>rfl
  .intro i i' oi oj b a a3 hb a0;rcases g i oi a with⟨h1,h2⟩ | ⟨m,b2⟩
   .rcases g i' oj a3 with⟨h3,h4⟩ | ⟨a1,a7⟩
    .rw[h1,h3]
    rw[Ll h1,h2]at hb;rw[Lm a1]at a0;exact Ln ((z b).2 hb) (b1 i' oj b a7 a0)
   rw[Lm m]at hb;rcases g i' oj a3 with⟨h3,h4⟩ | ⟨a1,a7⟩
   .rw[Ll h3,h4]at a0;exact Ln ((z b).2 a0) (b1 i oi b b2 hb)
   rw[Lm a1]at a0;exact m1.hp.sep i i' oi oj b b2 a7 hb a0
  .intro i o b off a hb y;rcases g i o a with⟨rfl,rfl⟩ | ⟨m,a⟩
   .simp only[Lo]at hb;have hh:=(z b).2 hb;rcases y with y|y
    .exact hR.out b off (hH b hh).1 (by rw[h.X];exact .inl y)
    exact y.2 hh
   simp only[Lm m]at hb;refine m1.hp.out i o b off a hb ?_;rcases y with y|y
   .exact .inl y
   exact .inr y.1
  .rintro b off (y|y)
   .exact m1.hp.bound b off (.inl y)
   exact m1.hp.bound b off (.inr y.1)
  .rintro b off (y|⟨i,o,a,hb,hp⟩)
   .exact .inl y
   rcases g i o a with⟨rfl,rfl⟩ | ⟨m,a⟩
   .simp only[Lo]at hb;exact .inr (.inr ((z b).2 hb))
   simp only[Lm m]at hb;exact .inr (.inl ⟨i,o,a,hb,hp⟩)
  .rintro b ⟨i,o,a,hb⟩;rcases g i o a with⟨rfl,rfl⟩ | ⟨m,a⟩
   .simp only[Lo]at hb;exact .inl (.inr ((z b).2 hb))
   simp only[Lm m]at hb;exact .inl (.inl ⟨i,o,a,hb⟩)
  intro i r b a;rcases g i _ a with⟨_,he⟩ | ⟨m,a⟩
  .cases he
  simp only[Lm m];exact m1.yld i r b a
 obtain⟨g1,g2,g3⟩:=hE0.add (R':=ins jl (.vec e k n f false) (ins R.gh (.ghost (s.env.map (·.2))) s.regs)) (j:=R.gh) (by rw[A2,Lm a2];exact h.ng) (o:=.ghost (s.env.map (·.2))) (v:=.tuple (Fj R.ts R.act.tmps)) (fun u b h=>by cases h)
  (fun i=>by
   rw[A2,A2,A2];by_cases e1:i=R.gh
   .subst e1;simp[a2]
   by_cases e2:i=jl
   .subst e2;simp[a2]
   simp[e1,AV5 e1,AV5 e2])
  (fun hk hl=>⟨_,rfl,by rw[OZ,<- h.keys];simp,fun i a=>by
   have a3 : i<(s.env.map (·.1)).length:=by simpa using a
   obtain⟨t,ht⟩:∃t,(s.env.map (·.1))[i]? = some t:=⟨_,AQ5 a3⟩;have ht' : R.ts[i]? = some t:=by rw[<- h.keys];exact ht
   rw[IG ht', <- (Qm s.env t a5).1 i ht];exact ((m1.env t).keeps a6 x).keeps hk hl⟩)
  (fun r b he=>by cases he)
 have hk1:Keeps w (Prv (C2.plus V).X (A1 s.regs) rhoA) w (Prv (W6 R C2 s rhoA V H v w).X (A1 (ins jl (.vec e k n f false) (ins R.gh (.ghost (s.env.map (·.2))) s.regs))) (fun i=>if i=R.gh then .tuple (Fj R.ts R.act.tmps)else if i=jl then v else rhoA i)):=
  a6.trans (Keeps.of_imp fun b o hp=>(g2 b o).1 hp)
 have hl1:∀i,Lv (A1 s.regs) i->Lv (A1 (ins jl (.vec e k n f false) (ins R.gh (.ghost (s.env.map (·.2))) s.regs))) i/\(if i=R.gh then Value.tuple (Fj R.ts R.act.tmps)else if i=jl then v else rhoA i)=rhoA i:=fun i a=>
  ⟨(g3 i (x i a).1).1,(g3 i (x i a).1).2.trans (x i a).2⟩
 refine⟨g1,?_,?_,AX5,fun d hd=>by simp at hd⟩
 .obtain⟨p,hp⟩:∃p,R.ps = #[p]:=by
   generalize R.ps=ps at a4;obtain⟨l⟩:=ps
   match l,a4 with
   |[p],_=>exact⟨p,rfl⟩
  intro t;show RepA w _ _ _ (Array.getD _ t undef) (get (ins (R.ps.getD 0 0) (.vec jl) s.env) t);have hpn:p<R.act.tmps.size:=by rw[a8];exact hps p (by simp[hp])
  simp only[hp,Bj2,List.zip_nil_right,Bd3,List.foldl_nil];rw[JC];by_cases e1:p=t
  .subst e1;rw[Ll (by simp)];have e2:(R.act.tmps.setIfInBounds p v).getD p undef=v:=by simp[AQ0,hpn]
   rw[e2];have b3:Lv (A1 (ins jl (.vec e k n f false) (ins R.gh (.ghost (s.env.map (·.2))) s.regs))) jl:=by simp[Lv,A2]
   have b4:(if jl=R.gh then Value.tuple (Fj R.ts R.act.tmps)else if jl=jl then v else rhoA jl)=v:=by simp[a2]
   rcases hv with⟨rfl,_⟩ | ⟨b,cap,c,rfl,_⟩
   .exact .vec jl none 0 0 b3 b4
   exact .vec jl _ _ _ b3 b4
  rw[Lm (by simpa using e1)];have e2:(R.act.tmps.setIfInBounds p v).getD t undef=R.act.tmps.getD t undef:=by simp[AQ0,e1]
  rw[e2];exact (m1.env t).keeps hk1 hl1
 intro j hj hl;show (if j=R.gh then Value.tuple (Fj R.ts R.act.tmps)else if j=jl then v else rhoA j)=R.rR v j;unfold RP.rR;by_cases e1:j=R.gh
 .simp[e1]
 by_cases e2:j=jl
 .simp[e1,e2,a9]
 simp only[e1,e2,Lp,a9,AQ2,AV5 e2];have hl' : Lv (A1 s.regs) j:=by simp only[Lv,A2]at hl;rw[Lm (AV5 e2),Lm (AV5 e1)]at hl;exact hl
 rw[m1.pin j hj hl'];show C2.rho0 j=R.rA j;rw[h.r2]
theorem InG.marks {rest:List (List PV)}{live:Bool}{lo:Loop}(h:InG R C C2 s rhoA XI rest live lo)(hR:Rel C w O V){w2:World}{OS:Nat->Prop}(a:∀b,R.OS OS b->b≠R.l->w2.heap[b]? = w.heap[b]?):R.act.defers.Nodup/\∀d∈R.act.defers,∃r,d={ target:=.collected r,args:=#[] }/\w2.heap[r]? = some (.deferred (some [])):=by
 refine⟨h.sat.marks.1,fun d c=>?_⟩;obtain⟨r,h1,_,f,_⟩:=h.sat.marks.2 d c;have hm:Qe R.act.defers r:=by unfold Qe;rw[<- h1];exact c
 refine⟨r,h1,?_⟩;rw[a r (.inr (.inr hm)) (by rintro rfl;exact h.sat.loop_not_own h.rl (.inr hm)),hR.same r (AR1.1 f).1 (fun g=>h.dis r g (.inr hm))];exact f
def RP.nx (R:RP P)(rest:List (List PV))(e:Hf)(s:St):Prop:=match e with
 |.normal=>R.I rest s
 |e=>R.Q e s
theorem Pa (casg:FX P R.n R.asg)(cbody:FX P R.n R.body){H:Nat->Prop}(hH:∀b,H b->O b/\∀o,V b o){v:Value}{QQ:I8}{En:Hf->St->Prop}{s0:St}{rho0:Nat->Value}{tm:Array Value}
 {ys:List PV}{rest:List (List PV)}{vs:Array Value}(h:InG R C C2 s rhoA XI (ys::rest) true (R.lo .ready none)) (hlens:∀z∈rest,AH5 R.jl R.ps.size z) (hR:Rel C w O V) (m1:Sat (C2.plus V) s R.act w rhoA) (hl:w.heap[R.l]? = some (.loop (R.lo .ready none)))
 (hT:∀b o,Prv (C2.plus V).X (A1 s.regs) rhoA b o↔(C.X b o \/ V b o)) (hsz:vs.size=R.ps.size) (htm:tm=(R.ps.toList.zip vs.toList).foldl (fun tmps (q:Nat×Value)=>tmps.setIfInBounds q.1 q.2) R.act.tmps) (hact:R.act.tmps.size=R.n)
 (hs0:Sat (W6 R C2 s rhoA V H v w) s0 { tmps:=tm,defers:=[] } w rho0)
 (hrun:awp (Ga P) P R.asg (fun e s'=>match e with | .normal=>semUp s' fun s'=>awp (Ga P) P R.body QQ s' | _=>False) s0)
 (u:∀e s',QQ e s' -> match e with | .panic _=>False|e=>semUp s' (En e))
 (hfin:∀(e:Hf) (w2:World) (TS:Nat->Nat->Prop) (C3 C2' : Ctx) (V0:Nat->Nat->Prop) (s4:St) (a3:Act) (w3:World) (rho4:Nat->Value),LiftG R.pr R.rA (R.rR v) w2 TS (R.OS fun b=>O b/\¬H b) (fun b o=>V b o/\¬H b) C3 C2' V0->Sat C3 s4 a3 w3 rho4 ->
  (R.act.defers.Nodup/\∀d∈R.act.defers,∃r,d={ target:=.collected r,args:=#[] }/\w2.heap[r]? = some (.deferred (some [])))->Keeps w (fun b o=>C.X b o \/ V b o) w3 (fun b o=>C3.X b o \/ PvR s4.regs rho4 b o)->En e s4 ->
  ∃s5,Sat (C2'.plus V) s5 R.act w3 rho4/\s5.env.map (·.1)=R.ts/\A1 s5.regs R.gh=none/\(∀i o,A1 s5.regs i=some o->A1 s4.regs i=some o)/\(∀b,Own (A1 s5.regs) rho4 b->¬H b) /\
   (∀b,H b->∃i o,A1 s4.regs i=some o/\D6 (rho4 i) o b/\∀off,Hr o off)/\YArg w3 (fun b o=>C3.X b o \/ PvR s4.regs rho4 b o) vs ys H/\R.nx rest e s5) :
 Ay7 P C.yv vs w fun b w'=>∃C',(∃C2 s rhoA XI rest live lo,InG R C' C2 s rhoA XI rest live lo)/\C'.yv=C.yv/\C'.rho0=C.rho0/\C'.Y (if b then rest else []) b/\C'.w0=w' /\ C'.E0=O/\(C'.Pi0=fun b o=>C'.X b o \/ V b o)/\Rel C' w' O V /\
  (∀b,O b->¬H b->w'.heap[b]? = w.heap[b]?)/\Keeps w (fun b o=>C.X b o \/ V b o) w' (fun b o=>C'.X b o \/ V b o)/\w.heap.size<=w'.heap.size/\Ext w w' /\ YArg w' (fun b o=>C'.X b o \/ V b o) vs ys H:=by
 have f:∀b o,V b o/\¬H b->R.OS (fun b=>O b/\¬H b) b:=fun b o hv=>.inl ⟨hR.vo b o hv.1,hv.2⟩;refine⟨R.l,R.fn,_,R.asg,R.body,h.yv,run_yield hl (by simp[RP.lo];omega),?_⟩;refine roundIn_of_wpIn trivial ?_;show R.asg.wpIn (FW (some R.l)) 0 P _ { tmps:=(R.ps.zip vs).foldl (fun tmps (x:Tmp×Value)=>match x with|(t,a)=>tmps.setIfInBounds t a) R.act.tmps,defers:=[] } w;rw[Az1,<- htm];have htms:tm.size=R.n:=by rw[htm];exact (Wi _ _).trans hact
 have hL0:=XM h hR hH v m1;have hro1:AG1 (R.pr.lift R.rA (R.rR v) w (W6 R C2 s rhoA V H v w).Pi0 (R.OS fun b=>O b/\¬H b) (fun b o=>V b o/\¬H b) f) (some R.l):=by rintro l' hl' C' ⟨C2',V0,hL⟩;cases hl';exact⟨_,(hL.os R.l (.inr (.inl rfl))).trans hl,hL.dis R.l (.inr (.inl rfl))⟩
 refine wpIn_mono (casg (R.pr.lift R.rA (R.rR v) w (W6 R C2 s rhoA V H v w).Pi0 (R.OS fun b=>O b/\¬H b) (fun b o=>V b o/\¬H b) f) (some R.l) hro1 _ _ _ _ w _ ⟨C2,_,hL0⟩ hs0 htms hrun) ?_;intro e a1 w1 m;cases e with
 |exit id=>obtain⟨_,_,_,_,_,_,hf⟩:=m;exact hf.elim
 |goto t=>obtain⟨_,_,_,_,_,_,hf⟩:=m;exact hf.elim
 |ret=>obtain⟨_,_,_,_,_,_,hf⟩:=m;exact hf.elim
 |panic ch=>obtain⟨_,_,_,_,_,_,_,_,_,_,hf⟩:=m;exact hf.elim
 |outgrown=>exact m.elim
 |normal=>
  obtain⟨C1,s1',rho1',⟨C2',V1,j⟩,hs1',hsz1,hu⟩:=m;obtain⟨s1,rho1,hw1,_,hs1⟩:=hu C1 a1 w1 rho1' hs1';obtain⟨j1,j2,j3,j4,j5,j6⟩:=j.joint f hs1.rel;have y:w1.heap[R.l]? = some (.loop (R.lo .ready none)):=(j2 R.l (.inr (.inl rfl))).trans hl;refine⟨w1.putObj R.l (.loop (R.lo .busy none)),run_beginRound y rfl,?_⟩;have hsB:=hs1.pokeFresh y (.loop (R.lo .busy none));have hl2:(w1.putObj R.l (.loop (R.lo .busy none))).heap[R.l]? = some (.loop (R.lo .busy none)):=Bg9 (AR1.1 y).1;have hLB:LiftG R.pr R.rA (R.rR v) (w1.putObj R.l (.loop (R.lo .busy none))) (Prv C1.X (A1 s1.regs) rho1) (R.OS fun b=>O b/\¬H b) (fun b o=>V b o/\¬H b) (C1.fresh (w1.putObj R.l (.loop (R.lo .busy none))) (RK s1.regs rho1 a1.defers) (Prv C1.X (A1 s1.regs) rho1)) C2' (PvR s1.regs rho1):=
   ⟨j.g,j.r2,j.X,j.Y,j.yv,j.rho,rfl,j1.poke y (.inl (.inr (.inl rfl))) _,fun b _=>rfl,Keeps.refl _ _,j4,AQ8 _,Ext.refl _⟩
  have hro2:AG1 (R.pr.lift R.rA (R.rR v) (w1.putObj R.l (.loop (R.lo .busy none))) (Prv C1.X (A1 s1.regs) rho1) (R.OS fun b=>O b/\¬H b) (fun b o=>V b o/\¬H b) f) (some R.l):=by rintro l' hl' C' ⟨C2',V0,hL⟩;cases hl';exact⟨_,(hL.os R.l (.inr (.inl rfl))).trans hl2,hL.dis R.l (.inr (.inl rfl))⟩
  have hk2:Keeps w (fun b o=>C.X b o \/ V b o) (w1.putObj R.l (.loop (R.lo .busy none))) (Prv C1.X (A1 s1.regs) rho1):=by
   refine (Keeps.of_imp fun b o hp=>?_:Keeps w _ w (W6 R C2 s rhoA V H v w).Pi0).trans (j3.trans fun b o v hp hc=>⟨?_,hp⟩)
   .rcases hp with (hp|hp)|hp|hp
    .exact (hT b o).1 (.inl (.inl hp))
    .exact .inr hp.1
    .exact (hT b o).1 (.inr hp)
    exact .inr ((hH b hp).2 o)
   rw[<- hc];refine AV4 (AV8 ?_);rintro rfl;simp[World.cell?,y]at hc
  have hb2:∀b,R.OS (fun b=>O b/\¬H b) b->b≠R.l->(w1.putObj R.l (.loop (R.lo .busy none))).heap[b]? = w.heap[b]?:=fun b hb hne=>(AV8 hne).trans (j2 b hb);have hs2:w.heap.size<=(w1.putObj R.l (.loop (R.lo .busy none))).heap.size:=by rw[AV1];exact j5
  have hx2:Ext w (w1.putObj R.l (.loop (R.lo .busy none))):=j6.trans ⟨rfl,rfl⟩;have hmk:=h.marks hR hb2;show R.body.wpIn (FW (some R.l)) 0 P _ a1 _;refine wpIn_mono (cbody (R.pr.lift R.rA (R.rR v) (w1.putObj R.l (.loop (R.lo .busy none))) (Prv C1.X (A1 s1.regs) rho1) (R.OS fun b=>O b/\¬H b) (fun b o=>V b o/\¬H b) f) (some R.l) hro2 _ _ _ _ _ _ ⟨C2',_,hLB⟩ hsB hsz1 hw1) ?_;have fin:∀(e:Hf) (rest1:List (List PV)) (live1:Bool) (pe:Option Code) (lo1:Loop) (a3:Act) (w3:World),(∀s5,R.nx rest e s5->R.stOk s5 rest1 live1 lo1)->(∀w3:World,w3.heap[R.l]? = some (.loop (R.lo .busy none))->(Instr.endRound R.l pe).run P w3=.ok (.bool live1) (w3.putObj R.l (.loop lo1))) ->
   (rest1=if live1 then rest else [])->NextOk (R.pr.lift R.rA (R.rR v) (w1.putObj R.l (.loop (R.lo .busy none))) (Prv C1.X (A1 s1.regs) rho1) (R.OS fun b=>O b/\¬H b) (fun b o=>V b o/\¬H b) f) R.n (fun s=>semUp s (En e)) a3 w3 ->
   ∃v w',(Instr.endRound R.l pe).run P w3=.ok v w' /\ ∃b:Bool,Ending.returned v=.returned (.bool b)/\∃C',(∃C2 s rhoA XI rest live lo,InG R C' C2 s rhoA XI rest live lo)/\C'.yv=C.yv/\C'.rho0=C.rho0/\C'.Y (if b then rest else []) b/\C'.w0=w' /\ C'.E0=O/\(C'.Pi0=fun b o=>C'.X b o \/ V b o)/\Rel C' w' O V /\
    (∀b,O b->¬H b->w'.heap[b]? = w.heap[b]?)/\Keeps w (fun b o=>C.X b o \/ V b o) w' (fun b o=>C'.X b o \/ V b o)/\w.heap.size<=w'.heap.size/\Ext w w' /\ YArg w' (fun b o=>C'.X b o \/ V b o) vs ys H:=by
   rintro e rest1 live1 pe lo1 a3 w3 hst hrunE hrest ⟨C3,s3,rho3,⟨C2f,V3,hL3⟩,hs3,hsz3,hu3⟩;obtain⟨s4,rho4,hEn,_,hs4⟩:=hu3 C3 a3 w3 rho3 hs3;obtain⟨_,_,k3,_,_,_⟩:=hL3.joint f hs4.rel;obtain⟨s5,q1,q2,q3,q4,q5,q6,q7,q8⟩:=hfin e _ _ C3 C2f V3 s4 a3 w3 rho4 hL3 hs4 hmk (hk2.trans k3) hEn;obtain⟨C',f1,f2,f3,f4,f5,f6,f7,f8,f9,f10,f11,f12,f13,f14⟩:=AJ0 h hR hH hL3 hs4 q1 q2 q3 q4 q5 q6 q7 hk2 hb2 hs2 hx2 hl2 (hst s5 q8);exact⟨.bool live1,_,hrunE w3 f12,live1,rfl,C',⟨_,_,_,_,_,_,_,f1⟩,f2,f3,hrest ▸ f4,f5,f6,f7,f8,f9,f10,f11,f13,f14⟩
  have jmp:∀(e:Hf) (c:Code) (a3:Act) (w3:World),At3 e c->(∀s5,R.nx rest e s5->R.Q e s5)->NextOk (R.pr.lift R.rA (R.rR v) (w1.putObj R.l (.loop (R.lo .busy none))) (Prv C1.X (A1 s1.regs) rho1) (R.OS fun b=>O b/\¬H b) (fun b o=>V b o/\¬H b) f) R.n (fun s=>semUp s (En e)) a3 w3->_:=
   fun e c a3 w3 hj hq hn=>fin e [] false (some c) (R.lo .done (some c)) a3 w3 (fun s5 hs5=>.inr ⟨rfl,rfl,c,e,rfl,hj,hq s5 hs5⟩) (fun w3 hw=>run_endRound (some c) hw) rfl hn
  intro e a3 w3 m;have up:∀e',(∀s',QQ e' s' -> semUp s' (En e'))->NextOk (R.pr.lift R.rA (R.rR v) (w1.putObj R.l (.loop (R.lo .busy none))) (Prv C1.X (A1 s1.regs) rho1) (R.OS fun b=>O b/\¬H b) (fun b o=>V b o/\¬H b) f) R.n (QQ e') a3 w3->NextOk (R.pr.lift R.rA (R.rR v) (w1.putObj R.l (.loop (R.lo .busy none))) (Prv C1.X (A1 s1.regs) rho1) (R.OS fun b=>O b/\¬H b) (fun b o=>V b o/\¬H b) f) R.n (fun s=>semUp s (En e')) a3 w3:=
   fun e' hq ⟨C3,s3,rho3,hg,hs3,hsz3,hu3⟩=>⟨C3,s3,rho3,hg,hs3,hsz3,hq _ hu3⟩
  cases e with
  |normal=>exact fin .normal rest true none (R.lo .ready none) a3 w3 (fun s5 hs5=>.inl ⟨rfl,rfl,hs5,hlens⟩) (fun w3 hw=>run_endRound none hw) rfl (up .normal (fun s' hq=>u .normal s' hq) m)
  |ret=>exact jmp .ret .ret a3 w3 rfl (fun _ h=>h) (up .ret (fun s' hq=>u .ret s' hq) m)
  |exit id=>exact jmp (.exit id) (.exit id) a3 w3 rfl (fun _ h=>h) (up (.exit id) (fun s' hq=>u (.exit id) s' hq) m)
  |goto t=>exact jmp (.goto t) (.goto t) a3 w3 rfl (fun _ h=>h) (up (.goto t) (fun s' hq=>u (.goto t) s' hq) m)
  |panic ch=>obtain⟨_,s3,_,_,x,_,_,_,_,_,hf⟩:=m;exact (u (.panic _) _ hf).elim
  |outgrown=>exact m.elim
theorem Qn {ys:List PV}{m:Nat}(h:Ah ys=some m):YU ys=none/\ys.length=m:=by
 unfold Ah at h;split at h
 .rename_i a;exact⟨a,by simpa using h⟩
 cases h
theorem Uy (q:R.act.tmps.size=R.n)(hps:∀t∈R.ps.toList,t<R.n)(a1:R.gh<1000)(a2:R.ts.Nodup)(casg:FX P R.n R.asg)(cbody:FX P R.n R.body)
 (a4:∀ys rest s,s.env.map (·.1)=R.ts->A1 s.regs R.gh=none->R.I (ys::rest) s->YV (Ga P) R.jl R.gh R.ts R.ps (awp (Ga P) P R.asg) (awp (Ga P) P R.body) (R.I rest) R.Q ys s)
 {ys:List PV}{rest:List (List PV)}{lo:Loop}{vs:Array Value}{H:Nat->Prop}(h:InG R C C2 s rhoA XI (ys::rest) true lo) (hR:Rel C w O V) (hH:∀b,H b->O b/\∀o,V b o) (r:YArg w (fun b o=>C.X b o \/ V b o) vs ys H) :
 Ay7 P C.yv vs w fun b w'=>∃C',(∃C2 s rhoA XI rest live lo,InG R C' C2 s rhoA XI rest live lo)/\C'.yv=C.yv/\C'.rho0=C.rho0/\C'.Y (if b then rest else []) b/\C'.w0=w' /\ C'.E0=O/\(C'.Pi0=fun b o=>C'.X b o \/ V b o)/\Rel C' w' O V /\
  (∀b,O b->¬H b->w'.heap[b]? = w.heap[b]?)/\Keeps w (fun b o=>C.X b o \/ V b o) w' (fun b o=>C'.X b o \/ V b o)/\w.heap.size<=w'.heap.size/\Ext w w' /\ YArg w' (fun b o=>C'.X b o \/ V b o) vs ys H:=by
 obtain⟨a9,hI,a⟩:lo=R.lo .ready none/\R.I (ys::rest) s/\∀z∈ys::rest,AH5 R.jl R.ps.size z:=by
  rcases h.st with⟨_,a9,hI,a⟩ | ⟨hf,_⟩
  .exact⟨a9,hI,a⟩
  cases hf
 subst a9;have a5:=a ys (by simp);have u : ∀z∈rest,AH5 R.jl R.ps.size z:=fun z hz=>a z (AT2 _ hz);obtain⟨m1,m2,m3⟩:=h.sat.moves rfl h.X h.pi hR h.dis h.oc;have hllt:R.l<C.w0.heap.size:=(AR1.1 h.rl).1;have hl:w.heap[R.l]? = some (.loop (R.lo .ready none)):=(m3 R.l hllt h.lE).trans h.rl;have hT:∀b o,Prv (C2.plus V).X (A1 s.regs) rhoA b o↔(C.X b o \/ V b o):=by
  intro b o;rw[h.X];show ((C2.X b o \/ V b o) \/ PvR s.regs rhoA b o)↔((C2.X b o \/ PvR s.regs rhoA b o) \/ V b o);constructor
  .rintro ((h|h)|h)
   .exact .inl (.inl h)
   .exact .inr h
   exact .inl (.inr h)
  rintro ((h|h)|h)
  .exact .inl (.inl h)
  .exact .inr h
  exact .inl (.inr h)
 have x:=a4 ys rest s h.keys h.ng hI;have hOF:=(h.disO hR).1;have hmV:∀b off,Qe R.act.defers b->¬(V b off/\¬H b):=fun b off hm r=>hOF b (hR.vo b off r.1) (.inr hm);have hVO:∀b o,V b o/\¬H b->R.OS (fun b=>O b/\¬H b) b:=fun b o r=>.inl ⟨hR.vo b o r.1,r.2⟩;cases m:R.jl with
 |none=>
  rw[m]at a5 x;obtain⟨hnl,g⟩:=Qn a5;rcases r with⟨hn,b0,r⟩ | ⟨v,e,k,n,f,rfl,rfl,_⟩
  .have hVe:(fun b o=>V b o/\¬H b)=V:=by funext b o;simp[hn b]
   refine Pa casg cbody hH (v:=undef) (En:=fun e s4=>∃cs,A1 s4.regs R.gh=some (.ghost cs)/\cs.length=R.ts.length/\A1 (del R.gh s4.regs) R.gh=none/\R.nx rest e ⟨S5 R.ts cs,del R.gh s4.regs⟩) h u hR m1 hl hT (b0.trans g) rfl q
    (Ux q hps a1 m a2 h m1 hn undef g b0 (fun i d=>(r i d).keeps (Keeps.of_imp fun b o hp=>(hT b o).1 hp))) x (fun e s' hq=>?_) ?_
   .cases e<;>exact hq
   rintro e w2 TS C3 C2' V0 s4 a3 w3 rho4 hL3 a6 hmk hkk ⟨cs,hgh,a7,y,hq⟩;have hres:=AI9 hVO hL3 a6 hgh a7 y a1 a2 (a':=R.act) (by simp[RP.rR]) (fun j hj=>by simp[RP.rR,hj,m]) hmk (fun b hm=>.inr (.inr hm)) hmV;rw[hVe]at hres;refine⟨_,hres,JK _ _ a7.symm,y,fun i o d=>?_,fun b _=>hn b,fun b hb=>Ln hb (hn b),.inl ⟨hn,b0,fun i d=>(r i d).keeps hkk⟩,?_⟩
   .have e:i≠R.gh:=by rintro rfl;rw[y]at d;cases d
    rw[<- Fi e];exact d
   exact hq
  simp[YU,Dp]at hnl
 |some jl=>
  rw[m]at a5 x;obtain⟨g,e,k,n,f,rfl⟩:=a5;obtain⟨⟨hj1,hj2,hj3⟩,x⟩:=x;rcases r with⟨_,_,r⟩ | ⟨v,e',k',n',f',rfl,hy,a0,r⟩
  .have h0:=r 0 (by simp[Dp]);simp only[Dp,Bc8]at h0;exfalso;generalize vs.getD 0 undef=vv at h0;cases h0 with
   |agg vs cs hs h1 h2=>
    have h3:=h2 0 (by simp);simp only[Bc8]at h3;generalize Array.getD _ 0 undef=v3 at h3;cases h3 with
    |sl _ b off cap _ _ _ c hn hk hc h sp hsp=>have:=hk 0 (by omega);simp at this
  simp only[Dp,AV7,PV.agg.injEq,PV.iface.injEq,PV.sl.injEq,and_true,true_and]at hy;obtain⟨rfl,rfl,rfl,rfl⟩:=hy;refine Pa casg cbody hH (v:=v) (En:=fun e' s4=>∃cs,endL R.gh jl R.ts (.vec e k n f false) s4 cs/\R.nx rest e' ⟨S5 R.ts cs,del jl (del R.gh s4.regs)⟩) h u hR m1 hl hT (by simp[g]) rfl q
   (Ss q hps a1 m hj2 hj3 a2 h m1 hR hH g a0 r) (x e k n f rfl) (fun e s' hq=>?_) ?_
  .cases e<;>exact hq
  rintro e' w2 TS C3 C2' V0 s4 a3 w3 rho4 hL3 a6 hmk hkk ⟨cs,a8,hq⟩;have hrr:∀j,j≠R.gh->j≠jl->R.rR v j=R.rA j:=fun j h1 h2=>by simp[RP.rR,h1,m,AV5 h2]
  obtain⟨hres,hrj,hh⟩:=Az0 hVO hL3 a6 a8 a1 hj1 hj2 a2 (a':=R.act) (v:=v) (V1:=V) (fun b o=>by
   rw[<- a0 b];constructor
   .intro hx;by_cases hb:H b
    .exact .inr hb
    exact .inl ⟨hx,hb⟩
   rintro (hx|hx)
   .exact hx.1
   exact (hH b hx).2 o) (by simp[RP.rR]) (by simp[RP.rR,hj2,m]) hrr hmk (fun b hm=>.inr (.inr hm)) hmV
  have hend':=a8;obtain⟨⟨hgh,a7,hj⟩,⟨hd1,hd2⟩,_⟩:=hend';have h5:∀i o,A1 (del jl (del R.gh s4.regs)) i=some o->i≠jl/\A1 s4.regs i=some o:=by
   intro i o d;have e1:i≠R.gh:=by rintro rfl;rw[hd1]at d;cases d
   have e2:i≠jl:=by rintro rfl;rw[hd2]at d;cases d
   exact⟨e2,by rw[<- Fi e1,<- Fi e2];exact d⟩
  refine⟨_,hres,JK _ _ a7.symm,hd1,fun i o d=>(h5 i o d).2,?_,fun b hb=>⟨jl,_,hj,by rw[hrj];exact (a0 b).1 hb,fun _=>trivial⟩,.inr ⟨v,e,k,n,f,rfl,rfl,a0,hh⟩,?_⟩
  .rintro b ⟨i,o,d,hb⟩ hh;exact (h5 i o d).1 (a6.hp.sep i jl o _ b (h5 i o d).2 hj hb (by rw[hrj];exact (a0 b).1 hh))
  exact hq
end
end Go.AM
namespace Go.AM
section
variable {P:Program}{C:Ctx}{st:St}{a:Act}{w:World}{rho:Nat->Value}{𝒢 : Prot P}{n:Nat}{Q:I8}{ro:Option Nat}
def RP.prot (R:RP P)(c:R.act.tmps.size=R.n)(d:∀t∈R.ps.toList,t<R.n)(f:R.gh<1000)(i:R.ts.Nodup)(casg:FX P R.n R.asg)(cbody:FX P R.n R.body)
 (a:∀ys rest s,s.env.map (·.1)=R.ts->A1 s.regs R.gh=none->R.I (ys::rest) s->YV (Ga P) R.jl R.gh R.ts R.ps (awp (Ga P) P R.asg) (awp (Ga P) P R.body) (R.I rest) R.Q ys s):Prot P where
 G:=fun C=>∃C2 s rhoA XI rest live lo,InG R C C2 s rhoA XI rest live lo
 tab:=by
  rintro C ⟨C2,s,rhoA,XI,rest,live,lo,h⟩;refine ((R.pr.tab C2 h.g).keeps h.sat.keep).keeps (Keeps.of_imp fun b o hp=>?_);rw[h.pi,h.X]at hp;rcases hp with (hp|hp)|hp
  .exact .inl (.inl hp)
  .exact .inr hp
  .exact .inl (.inr hp)
 call:=by rintro C w O V ys rest vs H ⟨C2,s,rhoA,XI,rest0,live,lo,h⟩ hR j l m;rw[h.Y]at j;obtain⟨rfl,rfl⟩:=j;exact Uy c d f i casg cbody a h hR l m
theorem Sat.mark (h:Sat C st a w rho){w' : World}(i:w.heap.size<=w'.heap.size)(c:∀b,b<w.heap.size->w'.heap[b]? = w.heap[b]?)(j:Ext w w'){mk:List Deferred}
 (hm:mk=[] \/ ∃r,mk=[{ target:=.collected r,args:=#[] }]/\w.heap.size<=r/\w'.heap[r]? = some (.deferred (some []))):Sat C st { a with defers:=mk++a.defers } w' rho:=by
 obtain⟨h1,_⟩:=h.grow i c j;rcases hm with rfl|⟨r,rfl,l,m⟩
 .exact h1
 refine⟨h1.toSatE,h1.env,h1.pin,?_,?_⟩
 .refine AW0.2 ⟨fun g=>?_,h.marks.1⟩;obtain⟨r',e1,_,e2,_⟩:=h.marks.2 _ g;cases e1
  have:=(AR1.1 e2).1;omega
 intro d f;rcases AT9.1 f with rfl|f
 .exact⟨r,rfl,.inr (AW5 h.size l),m,fun off n=>by have:=h.hp.bound r off n;omega⟩
 exact h1.marks.2 d f
theorem Su {f:FuncId}{vs:Array Value}{fn:Func}(d:P.funcs[f]? = some fn)(hb:fn.body.isSome=true)(a:(fn.name == "runtime.NumGoroutine")=false):(callFunc f vs).run P w=.ok (.enter f vs) w:=by
 have b : ¬fn.name = "runtime.NumGoroutine" := by simpa using a
 obtain⟨c,hc⟩:=AR8.1 hb;simp[callFunc,d,b,hc]
def NH (D:List Deferred)(a:Act):Act:={ a with defers:=a.defers++D }
set_option maxHeartbeats 2000000 in
theorem Sv (DD:List Deferred){g:Operand}{ps:Array Tmp}{asg body:Code}(hps:(ps.toList.all fun t=>Nat.blt t n)=true)(casg:FX P n asg)(cbody:FX P n body){𝒢 : Prot P}{ro:Option Nat}(hro:AG1 𝒢 ro){Q:I8}(hG : 𝒢.G C)(h:Sat C st a w rho)(hsz:a.tmps.size=n)
 (hw:awp (Ga P) P (.rangeFunc g ps asg body) Q st):(Code.rangeFunc g ps asg body).wpIn (FW ro) 0 P (fun e a' w'=>∃a0,a' = NH DD a0/\WP 𝒢 n Q e a0 w') (NH DD a) w:=by
 obtain⟨f,first,caps,as,bs,objs,ids,ts,gh,jl,L,I,Fin,h1,⟨fn,hfn,hfb,hfname⟩,hny,hd,hr1,hr2,hob,hgl,hng,hids,hts,hlens,hup,hround,hend,hF⟩:=hw;refine wpIn_rangeFunc ?_;intro fid _;obtain⟨l,mk,D,w1,hent,hxt,hl,hlsz,hwsz,hheap,hmk⟩:∃(l:Nat) (mk:List Deferred) (D:Nat) (w1:World),(Instr.enterLoop fid a.tmps ps asg body ro).run P w=.ok (l,mk) w1/\Ext w w1 /\
  w1.heap[l]? = some (.loop { state:=.ready,pending:=none,fn:=fid,tmps:=a.tmps,params:=ps,assign:=asg,body:=body,defers:=D })/\w.heap.size<=l/\w.heap.size<=w1.heap.size/\(∀b,b<w.heap.size->w1.heap[b]? = w.heap[b]?) /\
  (mk=[] \/ ∃r,mk=[{ target:=.collected r,args:=#[] }]/\w.heap.size<=r/\w1.heap[r]? = some (.deferred (some []))):=by
  cases ro with
  |none=>
   refine⟨_,_,w.heap.size,_,run_enterLoop_outer fid a.tmps ps asg body,⟨rfl,rfl⟩,?_,by omega,by simp;omega,?_,.inr ⟨w.heap.size,rfl,AQ8 _,?_⟩⟩
   .have:=Be8 (w.alloc (.deferred (some []))) (.loop { state:=.ready,pending:=none,fn:=fid,tmps:=a.tmps,params:=ps,assign:=asg,body:=body,defers:=w.heap.size })
    simpa using this
   .intro b hb;rw[heap_alloc_old _ _ b (by simp;omega),heap_alloc_old _ _ b hb]
   rw[heap_alloc_old _ _ _ (by simp)];exact Be8 w _
  |some l0=>
   obtain⟨r,hr,hE⟩:=hro l0 rfl C hG;have hr' : w.heap[l0]? = some (.loop r):=by rw[h.same l0 (AR1.1 hr).1 hE];exact hr
   refine⟨w.heap.size,[],r.defers,w.alloc (.loop { state:=.ready,pending:=none,fn:=fid,tmps:=a.tmps,params:=ps,assign:=asg,body:=body,defers:=r.defers }),?_,⟨rfl,rfl⟩,Be8 w _,AQ8 _,by simp,fun b hb=>heap_alloc_old _ _ b hb,.inl rfl⟩;unfold Instr.enterLoop;simp only[AT7,run_getLoop hr',Result.andThen,AV3,run_newObj_alloc]
 have hA:=h.mark hwsz hheap hxt hmk;obtain⟨act,hact⟩:∃act:Act,act={ a with defers:=mk++a.defers }:=⟨_,rfl⟩;have a3:act.tmps.size=n:=by rw[hact];exact hsz
 rw[<- hact]at hA;obtain⟨x,y,hx,hrx,hry⟩:=Uv hA h1;have hxy:=RepV.append hrx hry;obtain⟨hobl,hobg⟩:=Al hob;obtain⟨args0,hargs0,hrl⟩:∃args0,CS ids (first++caps)=some args0/\args0=as++bs:=by
  have:∀(l m l' m' : List AV),CS ids l=some l' -> CS ids m=some m' -> CS ids (l++m)=some (l' ++ m'):=by
   intro l
   induction l with
   |nil=>intro m l' m' hl hm;simp only[CS,AQ2]at hl;subst hl;simpa using hm
   |cons z l ih=>
    intro m l' m' hl hm;simp only[CS]at hl;split at hl
    .rename_i z' l2 hz hl2;cases hl;simp only[AV2,CS,hz,ih m l2 m' hl2 hm]
    cases hl
  exact⟨_,this _ _ _ _ hr1 hr2,rfl⟩
 subst hrl;have hS1:=KF hA hd hob hny trivial hargs0 (vs:=x++y) hxy.1 hxy.2;have hidx:∀j∈ids,Lv (A1 st.regs) j:=by intro j hj;obtain⟨p,hp⟩:=AW7.1 hj;obtain⟨o,_,ho,_⟩:=hobg p j hp;simp[Lv,ho]
 obtain⟨VI,a4⟩:∃VI:Nat->Nat->Prop,VI=fun b off=>∃j o,j∈ids/\A1 st.regs j=some o/\D6 (rho j) o b/\Hr o off:=⟨_,rfl⟩;obtain⟨hsus,hsuspi⟩:=hA.suspend hd (E:=S5 ts (ts.map (get st.env))) (V:=VI) (fun t=>by
  obtain⟨e1,e2⟩:=IF ts (ts.map (get st.env)) t (by simp) hts;by_cases hm:t∈ts
  .obtain⟨i,hi⟩:=AW7.1 hm;exact .inl (by rw[e1 i hi,AQ1,AQ9,hi];rfl)
  exact .inr (e2 hm)) (fun b off=>by rw[a4]) hidx
 obtain⟨s1,rho1,⟨hk1,hn1,hI1⟩,hup1,hs1⟩:=hup _ act w1 rho hsus;obtain⟨rI,hrI⟩:∃rI:Nat->Value,rI=fun p=>if p=ids.length then .func (.yield l) #[] #[]else rho (ids.getD p 0):=⟨_,rfl⟩
 obtain⟨R,q⟩:∃R:RP P,R={ pr:=𝒢,n:=n,Q:=Q,act:=act,l:=l,fn:=fid,D:=D,rA:=C.rho0,r0:=rI,ts:=ts,gh:=gh,jl:=jl,I:=I,ps:=ps,asg:=asg,body:=body }:=⟨_,rfl⟩;obtain⟨CI,a1⟩:∃CI:Ctx,CI={ X:=fun b o=>C.X b o \/ PvR s1.regs rho1 b o,w0:=w1,E0:=fun b=>∃j o,j∈ids/\A1 st.regs j=some o/\D6 (rho j) o b,Pi0:=fun b o=>(C.X b o \/ PvR s1.regs rho1 b o) \/ VI b o,rho0:=rI,Y:=fun r b=>r=L/\b=true,yv:=.func (.yield l) #[] #[] }:=⟨_,rfl⟩;have hlC:C.E0 l \/ C.w0.heap.size<=l:=.inr (AW5 h.size hlsz);have hVIx:∀b,CI.E0 b->∃off,VI b off:=by
  intro b hb;subst a1;obtain⟨j,o,hj,ho,a2⟩:=hb;cases o with
  |vec e k m f vw=>
   refine⟨m*k,?_⟩;rw[a4];refine⟨j,_,hj,ho,a2,?_⟩;cases vw
   .trivial
   exact AQ8 _
  |cells cs=>exact⟨0,by rw[a4];exact⟨j,_,hj,ho,a2,trivial⟩⟩
  |map es=>exact⟨0,by rw[a4];exact⟨j,_,hj,ho,a2,trivial⟩⟩
  |arr n f=>exact⟨0,by rw[a4];exact⟨j,_,hj,ho,a2,trivial⟩⟩
  |fam=>exact⟨0,by rw[a4];exact⟨j,_,hj,ho,a2,trivial⟩⟩
  |rows=>exact⟨0,by rw[a4];exact⟨j,_,hj,ho,a2,trivial⟩⟩
  |ghost cs=>simp[D6,K9]at a2
  |yld r b=>simp[D6,K9]at a2
  |dead=>simp[D6,K9]at a2
 have hEl:∀b,CI.E0 b->b<w1.heap.size/\b<w.heap.size:=by
  intro b hb;subst a1;obtain⟨j,o,hj,ho,a2⟩:=hb
  have:=(h.hp.holds j o ho).lt a2
  exact⟨by omega,this⟩
 have hin:InG R CI C s1 rho1 VI L true (R.lo .ready none):=by
  subst q;refine⟨hG,rfl,by subst a1;exact hs1,by subst a1;rfl,by subst a1;rfl,?_,?_,?_,?_,hlC,fun off hX=>?_,?_,by subst a1;rfl,by subst a1;rfl,by subst a1;rfl,hk1,hn1,.inl ⟨rfl,rfl,hI1,hlens⟩⟩
  .rintro b hb (hF|hF)
   .obtain⟨off,hv⟩:=hVIx b hb;obtain⟨i,oi,hi,hbi⟩:=hF;exact hs1.hp.out i oi b off hi hbi (.inr hv)
   subst a1;obtain⟨j,o,hj,ho,a2⟩:=hb;obtain⟨r,e1,_,e2,_⟩:=hA.marks.2 _ hF;cases e1;exact (hA.hp.holds j o ho).nd a2 e2
  .intro b hb;subst a1;obtain⟨j,o,hj,ho,a2⟩:=hb;exact h.own b ⟨j,o,ho,a2⟩
  .intro b hb
   have:=(hEl b hb).1
   subst a1;exact this
  .have e:RP.lo { pr:=𝒢,n:=n,Q:=Q,act:=act,l:=l,fn:=fid,D:=D,rA:=C.rho0,r0:=rI,ts:=ts,gh:=gh,jl:=jl,I:=I,ps:=ps,asg:=asg,body:=body } .ready none={ state:=.ready,pending:=none,fn:=fid,tmps:=a.tmps,params:=ps,assign:=asg,body:=body,defers:=D }:=by simp[RP.lo,hact]
   rw[e];subst a1;exact hl
  .have:=h.hp.bound l off hX;omega
  intro hE
  have:=(hEl l hE).2;omega
 have hne:ids.length ∉ List.range ids.length:=by simp
 have hrgI:∀p,A1 (objRegs (objs++[.yld L true])) p=if p=ids.length then some (.yld L true)else A1 (objRegs objs) p:=by
  intro p;rw[D3,D3];by_cases e:p=ids.length
  .subst e;rw[Ll rfl,<- hobl];simp
  rw[Lm e];by_cases hlt:p<objs.length
  .rw[AW4 hlt]
  rw[AU8 (by simp;omega),AU8 (by omega)]
 have hT:∀b o,(CI.X b o \/ VI b o)->Prv C.X (A1 st.regs) rho b o:=by
  intro b o hp;refine (hsuspi b o).1 (hup1 b o ?_);subst a1;rcases hp with (hp|hp)|hp
  .exact .inl (.inl hp)
  .exact .inr hp
  exact .inl (.inr hp)
 have hprI:∀b off,Prv CI.X (A1 (objRegs objs)) (fun p=>rho (ids.getD p 0)) b off↔(CI.X b off \/ VI b off):=by
  intro b off;refine or_congr AZ7 ?_;rw[a4];constructor
  .rintro⟨p,o',hp,hb,hpr⟩;rw[D3]at hp;have hlt:p<ids.length:=by rw[<- hobl];exact (AR7.1 hp).1
   obtain⟨o,o2,e1,e2,e3⟩:=hobg p _ (AQ5 hlt);rw[hp]at e3;cases e3;simp only[CT (AQ5 hlt),Aj e2]at hb;exact⟨_,o,Bb3 hlt,e1,hb,(IC e2 off).1 hpr⟩
  rintro⟨j,o,hj,ho,hb,hpr⟩;obtain⟨p,hp⟩:=AW7.1 hj;obtain⟨o1,o2,e1,e2,e3⟩:=hobg p j hp;rw[ho]at e1;cases e1;refine⟨p,o2,by rw[D3];exact e3,?_,(IC e2 off).2 hpr⟩;simp only[CT hp,Aj e2];exact hb
 have hkI:Keeps w1 (Prv (C.callee st.regs w1 rho ids).X (A1 (objRegs objs)) (fun p=>rho (ids.getD p 0))) w1 (Prv CI.X (A1 (objRegs objs)) (fun p=>rho (ids.getD p 0))):=
  Keeps.of_imp fun b o hp=>(OQ hob b o).2 (hT b o ((hprI b o).1 hp))
 have hEI:SatE CI (objRegs objs) w1 (fun p=>rho (ids.getD p 0)):=by
  refine⟨⟨fun p o hp=>(hS1.hp.holds p o hp).keeps hkI (fun j hj=>⟨hj,rfl⟩) fun b _=>rfl,hS1.hp.sep,?_,?_⟩,by subst a1;exact Ext.refl _,by subst a1;exact AQ8 _,by subst a1;exact fun b _ _=>rfl,?_,?_,?_⟩
  .intro p o b off hp hb hX;have hE:CI.E0 b:=by
    rcases hS1.own b ⟨p,o,hp,hb⟩with h1|h1
    .subst a1;exact h1
    have:=(hS1.hp.holds p o hp).lt hb
    have h1:w1.heap.size<=b:=h1;omega
   have hd':=hin.dis b hE;obtain⟨off',hv⟩:=hVIx b hE;subst a1;rcases hX with hX|⟨i,oi,hi,hbi,_⟩
   .rw[a4]at hv;obtain⟨j,oj,hj,ho,a2,_⟩:=hv;exact h.hp.out j oj b off ho a2 hX
   exact hd' (.inl ⟨i,oi,hi,hbi⟩)
  .intro b off hX;subst a1;rcases hX with hX|⟨i,oi,hi,hbi,_⟩
   .have:=h.hp.bound b off hX;omega
   exact (hs1.hp.holds i oi hi).lt hbi
  .have:CI.Pi0=fun b o=>CI.X b o \/ VI b o:=by subst a1;rfl
   rw[this];have hw0:CI.w0=w1:=by subst a1;rfl
   rw[hw0];exact Keeps.of_imp fun b o hp=>(hprI b o).1 hp
  .intro b hb;rcases hS1.own b hb with h1|h1
   .exact .inl (by subst a1;exact h1)
   exact .inr (by subst a1;exact h1)
  intro p r b hp;exact Ln (hS1.yld p r b hp).1 (fun h=>h)
 obtain⟨g1,g2,g3⟩:=hEI.add (R':=objRegs (objs++[.yld L true])) (j:=ids.length) (by rw[D3,AU8 (by omega)]) (o:=.yld L true) (v:=.func (.yield l) #[] #[]) (fun u b h=>by cases h) hrgI
  (fun _ _=>⟨l,rfl⟩) (fun r b he=>by cases he;subst a1;exact⟨⟨rfl,rfl⟩,rfl⟩)
 have hrIeq:(fun i=>if i=ids.length then Value.func (.yield l) #[] #[]else rho (ids.getD i 0))=rI:=by rw[hrI]
 rw[hrIeq]at g1 g2;have g3' : ∀i,Lv (A1 (objRegs objs)) i->Lv (A1 (objRegs (objs++[.yld L true]))) i/\rI i=rho (ids.getD i 0):=fun i hi=>by
  have:=g3 i hi
  rw[hrI];exact this
 have hyvI:rI ids.length=.func (.yield l) #[] #[]:=by rw[hrI];simp
 have hkA:Keeps w1 (PiS C st rho) w1 (Prv CI.X (A1 (objRegs (objs++[.yld L true]))) rI):=Keeps.of_imp fun b o hp=>hT b o ((hprI b o).1 ((g2 b o).1 hp));have hrenI:∀p j:Nat,ids[p]? = some j->Lv (A1 st.regs) j->Lv (A1 (objRegs (objs++[.yld L true]))) p/\rI p=rho j:=by intro p j hp _;obtain⟨o,o2,e1,e2,e3⟩:=hobg p j hp;obtain⟨q1,q2⟩:=g3' p (by simp[Lv,D3,e3]);exact⟨q1,by rw[q2,CT hp]⟩
 have hlvI:Lv (A1 (objRegs (objs++[.yld L true]))) ids.length:=by simp[Lv,hrgI]
 have ren:∀{vs:Array Value}{l l' : List AV},RepV w1 (PiS C st rho) (Lv (A1 st.regs)) rho vs l->CS ids l=some l' -> RepV w1 (Prv CI.X (A1 (objRegs (objs++[.yld L true]))) rI) (Lv (A1 (objRegs (objs++[.yld L true])))) rI vs l':=by intro vs l l' hv hr;obtain⟨e1,e2⟩:=Cw hr;exact⟨hv.1.trans e1,fun i hi=>(hv.2 i (by omega)).ren hkA hrenI (e2 i (by omega))⟩
 have hvals:RepV w1 (Prv CI.X (A1 (objRegs (objs++[.yld L true]))) rI) (Lv (A1 (objRegs (objs++[.yld L true])))) rI (x ++ #[.func (.yield l) #[] #[]]++y) (as++[.yf ids.length]++bs):=
  RepV.append (RepV.append (ren hrx hr1) ⟨rfl,fun i hi=>by
   simp only[AW2]at hi;obtain rfl:i=0:=by omega
   exact .yf ids.length l hlvI hyvI⟩) (ren hry hr2)
 have hvals' : as++[.yf ids.length]++bs=as ++ .yf ids.length::bs:=by simp
 rw[hvals']at hvals;have hSI:Sat CI ⟨argEnv (as ++ .yf ids.length::bs),objRegs (objs++[.yld L true])⟩ ⟨x ++ #[.func (.yield l) #[] #[]]++y,[]⟩ w1 rI:=by
  refine⟨g1,fun t=>?_,fun j _ _=>by subst a1;rfl,AX5,fun d hd=>by simp at hd⟩;show RepA w1 _ _ rI _ (get (argEnv (as ++ .yf ids.length::bs)) t);rw[Ak];by_cases ht:t<(as ++ .yf ids.length::bs).length
  .exact hvals.2 t ht
  rw[AQ1,AU8 (by omega)];exact .top _
 have hpsn:∀t∈R.ps.toList,t<R.n:=by
  subst q;intro t ht;rw[AR4]at hps
  have:=hps t ht
  simpa using this
 have hRact:R.act=act:=by subst q;rfl
 have hRl:R.l=l:=by subst q;rfl
 have hcall:=hF (RP.prot R (by subst q;exact a3) hpsn (by subst q;exact hgl) (by subst q;exact hts) (by subst q;exact casg) (by subst q;exact cbody) (by subst q;exact hround)) CI w1 _ rI ⟨C,s1,rho1,VI,L,true,_,hin⟩ hSI hvals.1;obtain⟨nx,w2,hrun,hcall⟩:=hcall;rw[Su hfn hfb hfname]at hrun;cases hrun;have hev:a.eval g=.func (.func f) x y:=by rw[hact]at hx;exact hx
 have hres:(resolve a.eval (rangeCall g l) 0).run P w1=.ok { target:=.fn (.func f) y,args:=x ++ #[.func (.yield l) #[] #[]] } w1:=by
  have e1:(rangeCall g l).args.map a.eval = #[.func (.yield l) #[] #[]]:=by simp[Act.eval]
  have e2:resolve a.eval (rangeCall g l) 0=Deferred.ofValue (a.eval g) #[.func (.yield l) #[] #[]]:=by rw[<- e1];rfl
  rw[e2,hev];simp[Deferred.ofValue]
 have hinv:(invoke (.fn (.func f) y) (x ++ #[.func (.yield l) #[] #[]])).run P w1=.ok (.enter f (x ++ #[.func (.yield l) #[] #[]]++y)) w1:=by simp only[invoke];exact Su hfn hfb hfname
 have hcall2:CallsIn (FW ro) (0-1) P f (x ++ #[.func (.yield l) #[] #[]]++y) w1 (rangePost (FW ro) 0 P l (fun e a' w'=>∃a0,a' = NH DD a0/\WP 𝒢 n Q e a0 w') { NH DD a with defers:=mk++(NH DD a).defers }):=by
  have ha:({ NH DD a with defers:=mk++(NH DD a).defers }:Act)=NH DD { a with defers:=mk++a.defers }:=by simp[NH]
  rw[ha];refine (OV hcall).mono ?_;rintro e w' ⟨C',r,objs',ks,rho',⟨C2,s2,rhoA2,XI2,rest2,live2,lo2,s⟩,⟨b,hb1,_,hFin,hb2⟩,hE,hend',_⟩;rw[<- hact];obtain⟨hY,_⟩:=hE.yld ids.length [] b (by rw[D3];exact hb1);rw[s.Y]at hY;obtain⟨hr2',hb'⟩:=hY;subst hb';have hrel:Rel C' w' (Own (A1 (objRegs objs')) rho') (PvR (objRegs objs') rho'):=
   ⟨hE.ext,hE.size,hE.same,hE.keep,hE.own,fun b off ⟨j,o,hj,hb⟩=>hE.hp.out j o b off hj hb,fun b hb=>hE.hp.lt hb,hE.hp.bound,fun b o ⟨j,oj,hj,hb,_⟩=>⟨j,oj,hj,hb⟩⟩
  obtain⟨n1,_,n3⟩:=s.sat.moves rfl s.X s.pi hrel s.dis s.oc;obtain⟨n4,n5⟩:=n1.minus;have hl' : w'.heap[R.l]? = some (.loop lo2):=(n3 R.l (AR1.1 s.rl).1 s.lE).trans s.rl;rw[hRl]at hl';have hG2 : 𝒢.G C2:=by have:=s.g;subst q;exact this
  have hlown:C2.E0 l \/ C2.w0.heap.size<=l:=by have:=s.lown;rw[hRl]at this;exact this
  rw[hRact]at n4;cases r with
  |ret v'=>
   obtain⟨v,rfl,_⟩:=hend';rcases s.st with⟨hlv1,hlo,hI2,_⟩ | ⟨_,_,c,e,hlo,hj,hQ⟩
   .refine⟨none,w'.putObj l (.loop { lo2 with state:=.exhausted }),?_,?_⟩
    .rw[run_endLoop hl' (by rw[hlo];simp[RP.lo])];rw[hlo];rfl
    refine⟨act,rfl,C2,s2,rhoA2,hG2,(n4.poke hl' _ hlown).1,a3,?_⟩;rw[<- hr2']at hI2;exact hend s2 (.ret v') (by have:=s.keys;subst q;exact this) (by have:=s.ng;subst q;exact this) (by subst q;exact hI2) (hlv1 ▸ hFin)
   refine⟨some c,w'.putObj l (.loop { lo2 with state:=.exhausted }),?_,?_⟩
   .rw[run_endLoop hl' (by rw[hlo];simp[RP.lo])];rw[hlo];rfl
   have hnx:NextOk 𝒢 n (Q e) act (w'.putObj l (.loop { lo2 with state:=.exhausted })):=⟨C2,s2,rhoA2,hG2,(n4.poke hl' _ hlown).1,a3,by subst q;exact hQ⟩;cases e with
   |ret=>cases hj;exact wpIn_ret ⟨act,rfl,hnx⟩
   |exit id=>cases hj;exact wpIn_exit ⟨act,rfl,hnx⟩
   |goto t=>cases hj;exact wpIn_goto ⟨act,rfl,hnx⟩
   |normal=>exact hj.elim
   |panic x=>exact hj.elim
  |panic x=>
   obtain⟨v,rfl,hv⟩:=hend';rcases s.st with⟨hlv1,hlo,hI2,_⟩ | ⟨hlv,_⟩
   .refine⟨act,rfl,C2,s2,rhoA2,v,x,rfl,hG2,n4,a3,hv.keeps (Keeps.of_imp ?_),?_⟩
    .intro b o hp;exact .inl (by rw[s.X];exact hp)
    rw[<- hr2']at hI2;exact hend s2 (.panic x) (by have:=s.keys;subst q;exact this) (by have:=s.ng;subst q;exact this) (by subst q;exact hI2) (hlv1 ▸ hFin)
   obtain⟨z,hz⟩:=hb2 hlv;cases hz
 exact⟨l,mk,w1,_,w1,f,_,w1,hent,hres,fun _ _=>trivial,hinv,fun h=>by simp[FW,Fence.wide]at h,hcall2⟩
theorem Uz {g:Operand}{ps:Array Tmp}{asg body:Code}(b:(ps.toList.all fun t=>Nat.blt t n)=true)(casg:FX P n asg)(cbody:FX P n body):FX P n (.rangeFunc g ps asg body):=by
 intro 𝒢 ro c Q C st a w rho f h d hw;have e:∀a:Act,NH [] a=a:=fun a=>by simp[NH]
 have:=Sv [] b casg cbody c f h d hw
 rw[e]at this;refine wpIn_mono this ?_;rintro e' a' w' ⟨a0,rfl,i⟩;rw[e];exact i
theorem XN (n:Nat)(c:Code)(a:AT n c=true):FX P n c:=Uw (fun _ _ _ _ b=>Uz b) c a
theorem AF8 (P:Program):G8 (Ga P) P where
 refl:=fun s K h=>semUp.refl h
 trans:=fun s K h=>semUp.trans h
 mono:=fun s K K' hk h=>semUp.mono hk h
 bool:=fun st t b K hg h=>semUp.bool hg h
 nil:=fun st t k n f K hg h1 i=>semUp.nil hg h1 i
 frz:=fun st j ps K hj d=>semUp.frz hj d
 trunc:=fun st j j' n N k e f K h1 i h3 h4 d=>semUp.trunc h1 i h3 h4 d
 toArr:=fun st j n f K hj d=>semUp.toArr hj d
 ofArr:=fun st j n f K hj d=>semUp.ofArr hj d
 pq:=fun st t x y K hg u h=>semUp.pq hg u h
 vecq:=fun st j n k e f g vw K hj u d=>semUp.vecq hj u d
 le:=fun ids s t K hle d=>semUp.le hle d
 fam:=fun op s t c K h hc d=>semUp.famAll h hc d
 less:=fun s t K h1 i d=>semUp.less h1 i d
 eqv:=fun s t K h1 i d=>semUp.eqv h1 i d
 func:=fun f fn code args objs Q hf hb o hok hn ho hw=>XL (fun c=>XN _ c) hf hb o rfl hok hn ho hw
 argLe:=fun f args args' objs Q hle h 𝒢 C w vs rho hG hS q=>by
  have z:∀{l m:List AV},RV l m->l.length=m.length:=by
   intro l
   induction l with
   |nil=>intro m h;cases m with
    |nil=>rfl
    |cons=>exact h.elim
   |cons a r ih=>intro m h;cases m with
    |nil=>exact h.elim
    |cons b s=>simp only[AT5,ih h.2]
  have a0:∀{w:World}{Pi:Nat->Nat->Prop}{live:Nat->Prop}{rho:Nat->Value}{v:Value}{l m:List AV},RV l m->∀t,RepA w Pi live rho v (l.getD t .top)->RepA w Pi live rho v (m.getD t .top):=by
   intro w Pi live rho v l
   induction l with
   |nil=>intro m h t ht;cases m with
    |nil=>exact ht
    |cons=>exact h.elim
   |cons a r ih=>intro m h t ht;cases m with
    |nil=>exact h.elim
    |cons b s=>
     cases t with
     |zero=>
      rcases h.1 with rfl|⟨x,y,rfl,rfl,hl⟩
      .exact ht
      exact .p _ _ (ht.toP.leQ hl)
     |succ t=>exact ih h.2 t ht
  exact h 𝒢 C w vs rho hG ⟨hS.toSatE,fun t=>by
   have:=hS.env t
   rw[Ak]at this⊢;exact a0 hle t this,hS.pin,hS.marks⟩ (q.trans (z hle))
 monoF:=fun f args objs Q Q' u h 𝒢 C w vs rho hG hS q=>(h 𝒢 C w vs rho hG hS q).mono fun e w' ⟨C',r,objs',ks,rho',h1,i,h3⟩=>⟨C',r,objs',ks,rho',h1,u _ _ _ i,h3⟩
end
end Go.AM
namespace Go.AM
inductive Cls where
 |n|r|w
 |l (js:List Nat)|a (js:List Nat)
 |b (js:List Nat)
 deriving DecidableEq,Inhabited
def Az2:Cls->Cls->Bool
 |.n,_|_,.n | .r,.r | .r,.l _ | .l _,.r | .l _,.l _=>false
 |.l i,.a j | .a i,.l j | .a i,.a j | .l i,.b j | .b i,.l j=>i.any fun q=>j.contains q
 |_,_=>true
def Dv (q:Nat):Cls->Bool
 |.w=>true
 |.a js | .b js=>js.contains q
 |_=>false
def XO (q:Nat):Cls->Bool
 |.n=>false
 |.l js | .a js=>js.contains q
 |_=>true
theorem Fk {q:Nat}{c d:Cls}(h:Dv q c=true)(h' : XO q d=true):Az2 c d=true/\Az2 d c=true:=by
 have hm:∀{i j:List Nat},i.contains q=true->j.contains q=true->(i.any fun q=>j.contains q)=true:=fun f hj=>List.any_eq_true.2 ⟨q,by simpa using f,hj⟩;cases c with
 |w=>cases d<;>first|(cases h';done)|exact⟨rfl,rfl⟩
 |a i=>
  cases d with
  |n=>cases h'
  |l j=>exact⟨hm h h',hm h' h⟩
  |a j=>exact⟨hm h h',hm h' h⟩
  |_=>exact⟨rfl,rfl⟩
 |b i=>
  cases d with
  |n=>cases h'
  |l j=>exact⟨hm h h',hm h' h⟩
  |_=>exact⟨rfl,rfl⟩
 |_=>cases h
theorem HS {q:Nat}{c:Cls}(h:Dv q c=true):XO q c=true:=by cases c<;>first|(cases h;done)|rfl|exact h
def AG2:List Nat->List Nat
 |[]=>[]
 |x::r=>if (AG2 r).contains x then AG2 r else x::AG2 r
theorem Qo {x:Nat}:∀{l:List Nat},x∈AG2 l->x∈l
 |[],h=>h
 |y::r,h=>by
  unfold AG2 at h;split at h
  .exact AT2 _ (Qo h)
  rcases AT9.1 h with rfl|h
  .exact AY6
  exact AT2 _ (Qo h)
def XP (acc:List (List Nat))(o:Oper):List Nat:=AG2 ((o.after.toList.filter Es).flatMap fun e=>e.on::acc.getD e.on [])
def Qp:List Oper->List (List Nat)->List (List Nat)
 |[],acc=>acc
 |o::r,acc=>Qp r (acc++[XP acc o])
def AP3 (ops:List Oper):List (List Nat):=Qp ops []
def UA:Operand->List Nat
 |.tmp t=>[t]
 |_=>[]
def reads (ops:List Oper)(o:Oper):List Nat:=o.op.operands.toList.flatMap UA++match o.guard with
 |some (j,_)=>[FV ops j]
 |none=>[]
def Gg (ops:List Oper)(ci cj:Cls)(oi oj:Oper):Bool:=
 !Az2 ci cj &&
 (match oi.dst with|some d=>!(reads ops oj).contains d&&decide (oj.dst≠some d)|none=>true) &&
 (match oj.dst with|some d=>!(reads ops oi).contains d|none=>true)
def Mn (ops:List Oper)(cls:List Cls):Bool:=
 KA ops&&(cls.length==ops.length) &&
 (List.range ops.length).all fun j=>(List.range j).all fun i=>
  match ops[i]?,ops[j]? with
  |some oi,some oj=>((AP3 ops).getD j []).contains i||Gg ops (cls.getD i .n) (cls.getD j .n) oi oj
  |_,_=>true
def isP:AV->Bool
 |.p _=>true
 |_=>false
def isN (env:Env):Op->Bool
 |.move _ | .assign _ | .pick .. | .build .. | .nilCheck _ | .binOp .. | .unOp .. | .fieldAddr .. | .field .. | .index .. | .extract .. | .makeFunc ..=>true
 |.load _ a=>isP (aev env a)
 |.convert _ _ x=>isP (aev env x)
 |.makeInterface _ x=>isP (aev env x)
 |.indexAddr _ x _=>isP (aev env x)
 |.slice _ x _ _ _=>isP (aev env x)
 |.lookup _ m k _=>isP (aev env m)&&isP (aev env k)
 |.call { callee:=.builtin .len,args,.. }=>args.toList.all fun x=>isP (aev env x)
 |.call { callee:=.builtin .min,.. } | .call { callee:=.builtin .max,.. }=>true
 |_=>false
section
variable {P:Program}
theorem Qq {env:Env}{R R' : B5}{d:Nat}{o:Op}{c:List Prop}{v:AV}(hn:isN env o=true)(h:aop P env R d o=some ⟨c,v,R'⟩):R' = R/\∀R2,aop P env R2 d o=some ⟨c,v,R2⟩:=by
 cases o with
 |move x=>simp only[aop,AQ2,Out.mk.injEq]at h⊢;obtain⟨rfl,rfl,rfl⟩:=h;simp
 |assign x=>simp only[aop,AQ2,Out.mk.injEq]at h⊢;obtain⟨rfl,rfl,rfl⟩:=h;simp
 |pick x y z=>simp only[aop]at h⊢;split at h<;>simp_all
 |build t ps=>
  simp only[aop]at h⊢;split at h
  .split at h<;>simp_all
  cases h
 |nilCheck x=>simp only[aop]at h⊢;split at h<;>simp_all
 |binOp op t x y yt=>simp only[aop]at h⊢;split at h<;>simp_all
 |unOp op t x=>simp only[aop]at h⊢;split at h<;>simp_all
 |fieldAddr t x f=>simp only[aop]at h⊢;split at h<;>simp_all
 |field t x f=>simp only[aop]at h⊢;split at h<;>simp_all
 |index t x i=>
  simp only[aop]at h⊢;split at h
  .split at h<;>simp_all
  cases h
 |extract x i=>
  simp only[aop]at h⊢;split at h
  .split at h<;>simp_all
  cases h
 |makeFunc f a b=>cases f<;>simp only[aop]at h⊢<;>simp_all
 |load t a=>simp only[isN]at hn;simp only[aop]at h⊢;cases hx:aev env a<;>simp only[hx,isP,AR0]at hn;simp only[hx]at h⊢;rename_i x;cases x<;>simp only[load]at h⊢<;>first|(cases h;done)|(split at h<;>simp_all)
 |convert s t x=>
  simp only[isN]at hn;cases hx:aev env x<;>simp only[hx,isP,AR0]at hn;simp only[aop,hx]at h⊢;rename_i x;have j:∀R R2 k,elems R k (.p x)=elems R2 k (.p x):=by intro R R2 k;unfold elems;split<;>simp_all
  split at h
  .split at h<;>simp_all
  .split at h<;>simp_all
  .split at h<;>simp_all
  .split at h
   .split at h
    .rename_i n f w h3;simp only[AQ2,Out.mk.injEq]at h;obtain⟨rfl,rfl,rfl⟩:=h;refine⟨rfl,fun R2=>?_⟩;rw[j R R2]at h3
     simp_all
    cases h
   cases h
  cases h
 |makeInterface t x=>
  simp only[isN]at hn;cases hx:aev env x<;>simp only[hx,isP,AR0]at hn;simp only[aop,hx,Eo]at h⊢;split at h
  .rename_i h1 w;simp only[AQ2,AR3]at h1;obtain⟨rfl,rfl⟩:=h1;split at h<;>simp_all
  cases h
 |indexAddr t x i=>
  simp only[isN]at hn;cases hx:aev env x<;>simp only[hx,isP,AR0]at hn;rename_i y;simp only[aop,hx]at h⊢;split at h
  .rename_i n l;have j:∀R R2,EB P R t (.p y) n=EB P R2 t (.p y) n:=by intro R R2;unfold EB;split<;>simp_all
   split at h
   .rename_i g;simp only[AQ2,Out.mk.injEq]at h;obtain⟨rfl,rfl,rfl⟩:=h;refine⟨rfl,fun R2=>?_⟩;rw[j R R2]at g;simp[g]
   cases h
  cases h
 |slice t x lo l mx=>
  cases mx with
  |some _=>simp[aop]at h
  |none=>
   simp only[isN]at hn;cases hx:aev env x<;>simp only[hx,isP,AR0]at hn;rename_i y;have j:∀R R2 lo l c a R',EC P R t (.p y) lo l=some (c,a,R')->R' = R/\EC P R2 t (.p y) lo l=some (c,a,R2):=by
    intro R R2 lo l c a R' h;unfold EC at h⊢;split at h
    .split at h<;>simp_all
    .split at h
     .split at h<;>simp_all
     cases h
    .split at h<;>simp_all
    .split at h<;>simp_all
    .simp_all
    simp_all
   have fin:∀lo l,(match EC P R t (.p y) lo l with|some (c,a,regs)=>some (Out.mk c a regs)|none=>none)=some ⟨c,v,R'⟩ ->
    R' = R/\∀R2,(match EC P R2 t (.p y) lo l with|some (c,a,regs)=>some (Out.mk c a regs)|none=>none)=some ⟨c,v,R2⟩:=by
    intro lo l h;cases g:EC P R t (.p y) lo l with
    |none=>rw[g]at h;cases h
    |some q=>obtain⟨c',a',r'⟩:=q;rw[g]at h;simp only[AQ2,Out.mk.injEq]at h;obtain⟨rfl,rfl,rfl⟩:=h;refine⟨(j _ R _ _ _ _ _ g).1,fun R2=>?_⟩;simp only[(j _ R2 _ _ _ _ _ g).2]
   simp only[aop,hx]at h⊢;split at h<;>first|exact fin _ _ h|cases h
 |lookup t m k ok=>
  simp only[isN,AQ7]at hn;cases hm:aev env m<;>simp only[hm,isP,AR0,false_and]at hn;rename_i y;cases hk:aev env k<;>simp only[hk,AR0,and_false]at hn;rename_i z;have j:∀R R2 k,Ep P R t (.p y) k ok=Ep P R2 t (.p y) k ok:=by
   intro R R2 k;unfold Ep;split
   .rename_i kt e ht;cases Ip P kt k with
    |false=>rfl
    |true=>
     cases y with
     |v u=>cases u<;>first|rfl|(rename_i r;cases r<;>rfl)
     |_=>rfl
   rfl
  simp only[aop,hm,hk,Eo]at h⊢;split at h
  .rename_i g;simp only[AQ2,Out.mk.injEq]at h;obtain⟨rfl,rfl,rfl⟩:=h;refine⟨rfl,fun R2=>?_⟩;rw[j R R2]at g;simp[g]
  cases h
 |call c=>
  obtain⟨callee,args,types⟩:=c;cases callee with
  |builtin b=>
   cases b with
   |len=>
    simp only[aop]at h⊢;split at h
    .rename_i x t hx ht;simp only[isN,hx,AZ5,Bk2,Be9]at hn;have j:∀R R2,YG P R t (aev env x)=YG P R2 t (aev env x):=by intro R R2;cases hy:aev env x<;>simp only[hy,isP,AR0]at hn;unfold YG;split<;>simp_all
     cases g:YG P R t (aev env x)with
     |none=>rw[g]at h;cases h
     |some q=>rw[g]at h;simp only[AQ2,Out.mk.injEq]at h;obtain⟨rfl,rfl,rfl⟩:=h;refine⟨rfl,fun R2=>?_⟩;rw[j R R2]at g;simp[g]
    cases h
   |min=>simp only[aop]at h⊢;split at h<;>simp_all
   |max=>simp only[aop]at h⊢;split at h<;>simp_all
   |_=>simp[isN]at hn
  |_=>simp[isN]at hn
 |_=>simp[isN]at hn
theorem ZC {env env' : Env}{x:Operand}(h:∀t∈UA x,get env t=get env' t):aev env x=aev env' x:=by
 cases x with
 |tmp t=>exact h t (by simp[UA])
 |_=>rfl
theorem KJ {env env' : Env}{place:Nat->Option (Nat×Nat)}:∀(l:List (Nat×Operand)) (cs:List AV),(∀q∈l,aev env q.2=aev env' q.2)->Kx env place l cs=Kx env' place l cs
 |[],cs,_=>rfl
 |(i,x)::r,cs,h=>by
  have hx:aev env x=aev env' x:=h (i,x) (by simp);simp only[Kx,hx];split
  .split
   .exact KJ r _ fun q a=>h q (AT2 _ a)
   rfl
  rfl
theorem EI {env env' : Env}{R:B5}{d:Nat}{o:Op}(h:∀x∈o.operands.toList,aev env x=aev env' x):aop P env R d o=aop P env' R d o:=by
 cases o with
 |build t ps=>
  have:∀q∈ps.toList,aev env q.2=aev env' q.2:=fun q g=>h q.2 (by simp only[Op.operands];simpa using ⟨q.1,by simpa using g⟩)
  simp only[aop,KJ ps.toList _ this]
 |buildSlice t n ps=>
  have:(ps.toList.map fun q=>aev env q.2)=ps.toList.map fun q=>aev env' q.2:=AS5 fun q g=>h q.2 (by simp only[Op.operands];simpa using ⟨q.1,by simpa using g⟩)
  have j:(ps.toList.map fun q=>(q.1,aev env q.2))=ps.toList.map fun q=>(q.1,aev env' q.2):=AS5 fun q g=>by rw[h q.2 (by simp only[Op.operands];simpa using ⟨q.1,by simpa using g⟩)]
  simp only[aop,this,j]
 |makeFunc f a b=>have h1:a.toList.map (aev env)=a.toList.map (aev env'):=AS5 fun q g=>h q (by simp[Op.operands];exact .inl (by simpa using g));have j:b.toList.map (aev env)=b.toList.map (aev env'):=AS5 fun q g=>h q (by simp[Op.operands];exact .inr (by simpa using g));cases f<;>simp only[aop,h1,j]
 |makeMap t r=>cases r<;>simp only[aop]
 |slice t x lo hi mx=>
  have hx:=h x (by simp[Op.operands]);have hl:lo.map (fun o=>asInt (aev env o))=lo.map (fun o=>asInt (aev env' o)):=by
   cases lo with
   |none=>rfl
   |some l=>simp only[AR5];rw[h l (by simp[Op.operands])]
  have u:hi.map (fun o=>asInt (aev env o))=hi.map (fun o=>asInt (aev env' o)):=by
   cases hi with
   |none=>rfl
   |some l=>simp only[AR5];rw[h l (by simp[Op.operands])]
  cases mx<;>simp only[aop,hx,hl,u]
 |call c=>
  obtain⟨callee,args,types⟩:=c;cases callee with
  |builtin b=>
   have h1:args.toList.map (aev env)=args.toList.map (aev env'):=AS5 fun q g=>h q (by simp[Op.operands,Call.operands];simpa using g);cases b with
   |len=>
    simp only[aop];cases hl:args.toList with
    |nil=>rfl
    |cons x r=>
     rw[hl]at h1;simp only[AR9,AV7]at h1;cases r with
     |nil=>cases types.toList with
      |nil=>rfl
      |cons t r=>cases r<;>simp only[h1.1]
     |cons _ _=>rfl
   |clear=>
    simp only[aop];cases hl:args.toList with
    |nil=>rfl
    |cons x r=>
     rw[hl]at h1;simp only[AR9,AV7]at h1;cases r with
     |nil=>cases types.toList with
      |nil=>rfl
      |cons t r=>cases r<;>simp only[h1.1]
     |cons _ _=>rfl
   |append=>
    simp only[aop];cases hl:args.toList with
    |nil=>rfl
    |cons x r=>
     rw[hl]at h1;simp only[AR9,AV7]at h1;cases r with
     |nil=>rfl
     |cons y r=>
      simp only[AR9,AV7]at h1;cases r with
      |nil=>
       cases types.toList with
       |nil=>rfl
       |cons t r=>
        cases r with
        |nil=>rfl
        |cons t2 r=>cases r<;>first|rfl|simp only[h1.1,h1.2.1]
      |cons _ _=>rfl
   |min=>simp only[aop,h1]
   |max=>simp only[aop,h1]
   |_=>first|rfl|simp only[aop]
  |_=>first|rfl|simp only[aop]
 |move x=>simp only[aop,h x (by simp[Op.operands])]
 |assign x=>simp only[aop,h x (by simp[Op.operands])]
 |pick x y z=>simp only[aop,h x (by simp[Op.operands]),h y (by simp[Op.operands]),h z (by simp[Op.operands])]
 |box t x=>simp only[aop,h x (by simp[Op.operands])]
 |load t x=>simp only[aop,h x (by simp[Op.operands])]
 |store t x y=>simp only[aop,h x (by simp[Op.operands]),h y (by simp[Op.operands])]
 |nilCheck x=>simp only[aop,h x (by simp[Op.operands])]
 |binOp op t x y yt=>simp only[aop,h x (by simp[Op.operands]),h y (by simp[Op.operands])]
 |unOp op t x=>simp only[aop,h x (by simp[Op.operands])]
 |convert s t x=>simp only[aop,h x (by simp[Op.operands])]
 |makeInterface t x=>simp only[aop,h x (by simp[Op.operands])]
 |makeSlice t l c=>simp only[aop,h l (by simp[Op.operands]),h c (by simp[Op.operands])]
 |fieldAddr t x f=>simp only[aop,h x (by simp[Op.operands])]
 |field t x f=>simp only[aop,h x (by simp[Op.operands])]
 |indexAddr t x i=>simp only[aop,h x (by simp[Op.operands]),h i (by simp[Op.operands])]
 |index t x i=>simp only[aop,h x (by simp[Op.operands]),h i (by simp[Op.operands])]
 |lookup t m k ok=>simp only[aop,h m (by simp[Op.operands]),h k (by simp[Op.operands])]
 |mapUpdate t m k x=>simp only[aop,h m (by simp[Op.operands]),h k (by simp[Op.operands]),h x (by simp[Op.operands])]
 |mapEntry t m k=>simp only[aop,h m (by simp[Op.operands]),h k (by simp[Op.operands])]
 |entryStore t m s x=>simp only[aop,h m (by simp[Op.operands]),h s (by simp[Op.operands]),h x (by simp[Op.operands])]
 |extract x i=>simp only[aop,h x (by simp[Op.operands])]
 |_=>first|rfl|simp only[aop]
end
end Go.AM
namespace Go.AM
section
variable (S:W8) (P:Program)
def CY (all:List Oper)(env:Env)(o:Oper):Option Bool:=
 match o.guard with
 |none=>some true
 |some (j,want)=>(yv (get env (FV all j))).map fun b=>decide (b=some want)
def ZD:AV->Bool
 |.vec _ | .vecp _ _=>false
 |_=>true
def Aj3 (env:Env)(o:Op)(r:AV):Prop:= ∃c f fn as' args r',o=.call c/\c.callee=.value f/\((c.args.toList.map (aev env)).all ZD)=true/\NG env f (c.args.toList.map (aev env))=some (fn,as')/\CS [] as' = some args/\Ah3 S fn args r' /\ r=unA [] r'
def ZE (env:Env)(regs:B5)(d:Nat)(o:Op)(r:AV)(regs' : B5):Prop:= ∃c f as regs1 fn as' args objs objs' ks r' ids,o=.call c/\c.callee=.value f/\Hg regs (c.args.toList.map (aev env))=some (as,regs1)/\NG env f as=some (fn,as')/\CS ids as' = some args/\J6 ids regs1 ids=some objs /\ FunO S fn args objs r' objs' ks/\G0 ids=true/\DS objs=true/\Y1 regs1 ids ks d objs'.length=true /\ r=unA (G4 d ids ks objs'.length) r' /\ regs' = back (G4 d ids ks objs'.length) (G4 d ids ks objs'.length) objs' (M0 ids ks regs1)
def Az3 (env:Env)(regs:B5)(d:Nat)(o:Op)(r:AV)(regs' : B5):Prop:= ∃c f fn as cs xs e m n g,o=.call c/\c.callee=.value f/\NG env f (c.args.toList.map (aev env))=some (fn,as)/\Ir (HK regs 9) as=some (cs,xs)/\D0 cs/\FunO S fn (xs.map .p) [] (.vec 0) [.vec e m n g false] [] /\ (∀i l,i<n->l<m->RR ((g i).getD l default)=true)/\A1 regs (nid d 0)=none/\r=.vec (nid d 0)/\regs' = ins (nid d 0) (.vec e m n g false) regs
def clsF (cl:Cls)(a b:Prop):Prop:=match cl with
 |.n=>a
 |.r=>b
 |_=>True
def clsX (cl:Cls)(env:Env)(regs:B5)(d:Nat)(o:Op)(c:List Prop)(v:AV)(regs' : B5):Prop:=match cl with
 |.l js=>regs' = regs/\∀R2,(∀q∈js,A1 R2 q=A1 regs q)->aop P env R2 d o=some ⟨c,v,R2⟩
 |.a js=>∀R2,(∀q∈js,A1 R2 q=A1 regs q)->∃R3,aop P env R2 d o=some ⟨c,v,R3⟩/\(∀q∈js,A1 R3 q=A1 regs' q)/\∀q,q ∉ js->A1 R3 q=A1 R2 q
 |.b js=>∀q,q ∉ js->A1 regs' q=A1 regs q
 |_=>True
def Aj4 (cl:Cls)(env:Env)(regs:B5)(d:Nat)(o:Op)(v:AV)(regs' : B5):Prop:= (∃c,aop P env regs d o=some ⟨c,v,regs'⟩/\D0 c/\clsF cl (isN env o=true) (regs' = regs)/\clsX P cl env regs d o c v regs') \/ (Aj3 S env o v/\regs' = regs) \/ ((cl=.w \/ ∃js,cl=.b js/\∀q,q ∉ js->A1 regs' q=A1 regs q)/\ZE S env regs d o v regs') \/ (∃c x,OE P env o=some (c,x)/\D0 c/\v=.p x/\regs' = regs) \/ ∃js,cl=.a js/\(∀q,q ∉ js->A1 regs' q=A1 regs q)/\∀R2,(∀q∈js,A1 R2 q=A1 regs q)->∃R3,(ZE S env R2 d o v R3 \/ Az3 S env R2 d o v R3)/\(∀q∈js,A1 R3 q=A1 regs' q)/\∀q,q ∉ js->A1 R3 q=A1 R2 q
def NP (d:Option Nat)(a:AV)(env:Env):Env:=match d with
 |some d=>ins d a env
 |none=>env
def LD (all:List Oper):List Cls->List Oper->Env->B5->(Env->B5->Prop)->Prop
 |cl::cls,o::rest,env,regs,k=>∃b,CY all env o=some b /\
  if b then ∃v regs',Aj4 S P cl env regs (o.dst.getD 0) o.op v regs' /\ LD all cls rest (NP o.dst v env) regs' k
  else LD all cls rest (NP o.dst By env) regs k
 |_,[],env,regs,k=>k env regs
 |[],_::_,_,_,_=>False
end
section
variable {S:W8}{P:Program}
structure Aj5 (S:W8) (P:Program) (all:List Oper) (cls:List Cls) (E:Nat->Env) (R:Nat->B5) (V:Nat->AV):Prop where
 step:∀i o,all[i]? = some o->∃b,CY all (E i) o=some b /\
  (if b then Aj4 S P (cls.getD i .n) (E i) (R i) (o.dst.getD 0) o.op (V i) (R (i+1))else V i=By/\R (i+1)=R i)/\E (i+1)=NP o.dst (V i) (E i)
theorem Wj (all:List Oper):∀(rest:List Oper) (cls:List Cls) (i:Nat) (env:Env) (regs:B5) (k:Env->B5->Prop),LD S P all cls rest env regs k->cls.length=rest.length ->
 ∃(E:Nat->Env) (R:Nat->B5) (V:Nat->AV),E 0=env/\R 0=regs/\k (E rest.length) (R rest.length) /\
  ∀j o,rest[j]? = some o->∃b,CY all (E j) o=some b /\
   (if b then Aj4 S P (cls.getD j .n) (E j) (R j) (o.dst.getD 0) o.op (V j) (R (j+1))else V j=By/\R (j+1)=R j)/\E (j+1)=NP o.dst (V j) (E j)
 |[],[],i,env,regs,k,h,_=>⟨fun _=>env,fun _=>regs,fun _=>.top,rfl,rfl,h,fun j o hj=>by simp at hj⟩
 |[],_::_,i,env,regs,k,h,hl=>by simp at hl
 |_::_,[],i,env,regs,k,h,hl=>by simp at hl
 |o::rest,cl::cls,i,env,regs,k,h,hl=>by
  obtain⟨b,hb,h⟩:=h;have key:∃v regs',(if b then Aj4 S P cl env regs (o.dst.getD 0) o.op v regs' else v=By/\regs' = regs)/\LD S P all cls rest (NP o.dst v env) regs' k:=by
   cases b with
   |true=>simp only[Lo]at h⊢;exact h
   |false=>simp only[AR0,Lp]at h⊢;exact⟨_,_,⟨rfl,rfl⟩,h⟩
  obtain⟨v,regs',hs,a⟩:=key;obtain⟨E,R,V,h1,c,d,f⟩:=Wj all rest cls (i+1) _ _ k a (by simpa using hl);refine⟨fun j=>match j with|0=>env|j+1=>E j,fun j=>match j with|0=>regs|j+1=>R j,fun j=>match j with|0=>v|j+1=>V j,rfl,rfl,d,?_⟩;intro j o' hj;cases j with
  |zero=>simp only[AW9,AQ2]at hj;subst hj;refine⟨b,hb,?_,h1⟩;simp only[Bc8,c];exact hs
  |succ j=>
   have:=f j o' (by simpa using hj)
   simpa using this
def Hh (all:List Oper)(V:Nat->AV)(env:Env)(D:Nat->Bool)(x:Nat):Nat->AV
 |0=>get env x
 |m+1=>if D m=true/\(all[m]?).bind (·.dst)=some x then V m else Hh all V env D x m
theorem Dw {all:List Oper}{V:Nat->AV}{env:Env}{D D' : Nat->Bool}{x:Nat}:∀{m:Nat},(∀j,j<m->(all[j]?).bind (·.dst)=some x->D j=D' j)->Hh all V env D x m=Hh all V env D' x m
 |0,_=>rfl
 |m+1,h=>by
  simp only[Hh];rw[Dw (m:=m) fun j hj a=>h j (by omega) a];by_cases a:(all[m]?).bind (·.dst)=some x
  .rw[h m (by omega) a]
  simp[a]
theorem Sw {all:List Oper}{V:Nat->AV}{env:Env}{D:Nat->Bool}{x i:Nat}(a:D i=true)(hx:(all[i]?).bind (·.dst)=some x):∀{m:Nat},i<m->(∀j,i<j->j<m->(all[j]?).bind (·.dst)=some x->D j=false)->Hh all V env D x m=V i
 |0,h,_=>by omega
 |m+1,h,hno=>by
  simp only[Hh];by_cases e:i=m
  .subst e;rw[Ll ⟨a,hx⟩]
  rw[Lm]
  .exact Sw a hx (by omega) fun j h1 b=>hno j h1 (by omega)
  rintro⟨h1,b⟩;rw[hno m (by omega) (by omega) b]at h1;cases h1
theorem Dg (env:Env)(d t:Nat)(x:AV):get (ins d x env) t=if d=t then x else get env t:=by
 induction env with
 |nil=>simp[ins,get]
 |cons p r ih=>
  obtain⟨i,b⟩:=p;simp only[ins];split
  .simp only[get]
  split
  .rename_i h;subst h;simp only[get];split<;>rfl
  rename_i h1 a;simp only[get,ih];by_cases h:i=t
  .simp only[h,Lo];rw[Lm (by omega)]
  simp only[h,Lp]
theorem Wk (env:Env)(d:Option Nat)(t:Nat)(x:AV):get (NP d x env) t=if d=some t then x else get env t:=by
 cases d with
 |none=>simp[NP]
 |some d=>simp[NP,Dg]
theorem Sx {all:List Oper}{cls:List Cls}{E:Nat->Env}{R:Nat->B5}{V:Nat->AV}(h:Aj5 S P all cls E R V)(x:Nat):∀m,m<=all.length->get (E m) x=Hh all V (E 0) (fun j=>decide (j<m)) x all.length:=by
 have h1:∀m,m<=all.length->get (E m) x=Hh all V (E 0) (fun _=>true) x m:=by
  intro m
  induction m with
  |zero=>intro _;rfl
  |succ m ih=>intro hm;obtain⟨o,a⟩:∃o,all[m]? = some o:=⟨_,AQ5 (by omega)⟩;obtain⟨b,_,_,c⟩:=h.step m o a;rw[c,Wk];simp only[Hh,a,AQ6,true_and];rw[ih (by omega)]
 have d:∀m n,m<=n->Hh all V (E 0) (fun j=>decide (j<m)) x n=Hh all V (E 0) (fun _=>true) x m:=by
  intro m n
  induction n with
  |zero=>
   intro h;obtain rfl:m=0:=by omega
   rfl
  |succ n ih=>
   intro f;by_cases e:m=n+1
   .subst e;exact Dw fun j hj _=>by simp[hj]
   simp only[Hh];rw[Lm (by simp;intro g;omega),ih (by omega)]
 intro m hm;rw[h1 m hm,d m _ hm]
theorem ZF {all:List Oper}{cls:List Cls}{E:Nat->Env}{R:Nat->B5}{V:Nat->AV}(h:Aj5 S P all cls E R V){i o q}(s:all[i]? = some o)(hc:Dv q (cls.getD i .n)=false):A1 (R (i+1)) q=A1 (R i) q:=by
 obtain⟨b,_,g,_⟩:=h.step i o s;cases b with
 |false=>simp only[AR0,Lp]at g;rw[g.2]
 |true=>
  simp only[Lo]at g;rcases g with⟨c,ha,_,f,hx⟩ | ⟨_,d⟩ | ⟨d,_⟩ | ⟨_,_,_,_,_,d⟩ | ⟨js,hk,d,_⟩
  .cases hk:cls.getD i .n with
   |n=>rw[hk]at f;rw[(Qq f ha).1]
   |r=>rw[hk]at f;rw[show R (i+1)=R i from f]
   |w=>rw[hk]at hc;cases hc
   |l j=>rw[hk]at hx;rw[hx.1]
   |a j=>rw[hk]at hx hc;obtain⟨R3,m,_,t⟩:=hx (R i) fun _ _=>rfl;rw[m]at ha;cases ha;exact t q (by simpa[Dv]using hc)
   |b j=>rw[hk]at hx hc;exact hx q (by simpa[Dv]using hc)
  .rw[d]
  .rcases d with d|⟨js,d,m⟩
   .rw[d]at hc;cases hc
   rw[d]at hc;exact m q (by simpa[Dv]using hc)
  .rw[d]
  rw[hk]at hc;exact d q (by simpa[Dv]using hc)
theorem UB {all:List Oper}{cls:List Cls}{E:Nat->Env}{R:Nat->B5}{V:Nat->AV}(h:Aj5 S P all cls E R V)(q:Nat):∀(a b:Nat),a<=b->b<=all.length->(∀j,a<=j->j<b->Dv q (cls.getD j .n)=false)->A1 (R b) q=A1 (R a) q:=by
 intro a b
 induction b with
 |zero=>
  intro h1 _ _;obtain rfl:a=0:=by omega
  rfl
 |succ b ih=>
  intro h1 g c;by_cases e:a=b+1
  .rw[e]
  obtain⟨o,d⟩:∃o,all[b]? = some o:=⟨_,AQ5 (by omega)⟩;rw[ZF h d (c b (by omega) (by omega)),ih (by omega) (by omega) fun j f i=>c j f (by omega)]
theorem JL {o:Oper}{k:St->Prop}{Q:I8}{st:St}{c:List Prop}{v:AV}{R' : B5}(h:aop P st.env st.regs (o.dst.getD 0) o.op=some ⟨c,v,R'⟩)(hc:D0 c)(hk:k (put { st with regs:=R' } o.dst v)):wOp S P o k Q st:=by
 unfold wOp;split
 .rename_i a;rw[a]at h;simp[aop]at h
 .rename_i a;rw[a]at h;simp[aop]at h
 .rename_i a;rw[a]at h;simp[aop]at h
 exact .inl ⟨_,h,hc,hk⟩
theorem Aj6 {o:Oper}{k:St->Prop}{Q:I8}{st:St}{c:List Prop}{x:PV}(h:OE P st.env o.op=some (c,x))(hc:D0 c)(hk:k (put st o.dst (.p x))):wOp S P o k Q st:=by
 unfold wOp;split
 .rename_i a;rw[a]at h;simp[OE]at h
 .rename_i a;rw[a]at h;simp[OE]at h
 .rename_i a;rw[a]at h;simp[OE]at h
 exact .inr ⟨_,_,h,hc,hk⟩
theorem XQ {env env' : Env}{o:Op}(h:∀x∈o.operands.toList,aev env x=aev env' x):OE P env o=OE P env' o:=by
 cases o with
 |buildSlice t n parts=>
  have:(parts.toList.map fun q=>aev env q.2)=parts.toList.map fun q=>aev env' q.2:=AS5 fun q a=>h q.2 (by simp only[Op.operands];simpa using ⟨q.1,by simpa using a⟩)
  simp only[OE,this]
 |makeSlice t l c=>have h1:aev env l=aev env' l:=h l (by simp[Op.operands]);have b:aev env c=aev env' c:=h c (by simp[Op.operands]);simp only[OE,h1,b]
 |_=>rfl
theorem Sy (ops:List Oper):∀(rest:List Oper) (acc:List (List Nat)),acc.length+rest.length=ops.length->ops.drop acc.length=rest->∀i,(i<acc.length->(Qp rest acc).getD i []=acc.getD i []) /\
 (acc.length<=i->i<ops.length->∃o,ops[i]? = some o/\∃pre,(Qp rest acc).getD i []=XP pre o/\∀j,j<i->pre.getD j []=(Qp rest acc).getD j [])
 |[],acc,hl,hd,i=>⟨fun _=>rfl,fun h1 c=>by simp at hl;omega⟩
 |o::rest,acc,hl,hd,i=>by
  have d:ops[acc.length]? = some o:=by
   have:(ops.drop acc.length)[0]? = some o:=by rw[hd];rfl
   simpa using this
  have b : ops.drop (acc++[XP acc o]).length=rest:=by
   have:(ops.drop acc.length).drop 1=rest:=by rw[hd];rfl
   rw[Bc3]at this;simpa using this
  have ih:=fun i=>Sy ops rest (acc++[XP acc o]) (by simp at hl⊢;omega) b i;have a:∀j,j<acc.length->(Qp (o::rest) acc).getD j []=acc.getD j []:=by intro j hj;simp only[Qp];rw[(ih j).1 (by simp;omega)];simp[AQ1,AW4 hj]
  refine⟨a i,fun h1 c=>?_⟩;by_cases e:i=acc.length
  .subst e;refine⟨o,d,acc,?_,fun j hj=>(a j hj).symm⟩;simp only[Qp];rw[(ih acc.length).1 (by simp)];simp[AQ1]
  simp only[Qp];exact (ih i).2 (by simp;omega) c
theorem Pb {ops:List Oper}(a:KA ops=true){D:Nat->Bool}(r:∀i o,D i=true->ops[i]? = some o->∀e∈o.after.toList,Es e=true->D e.on=true) :∀(i:Nat) (o:Oper),ops[i]? = some o->(∀e∈o.after.toList,Es e=true->D e.on=true)->∀j∈(AP3 ops).getD i [],D j=true:=by
 intro i
 induction i using Nat.strongRecOn with
 |_ i ih=>
  intro o q b j hj;have c:i<ops.length:=(AR7.1 q).1;obtain⟨o',d,pre,h1,s⟩:=(Sy ops ops [] (by simp) (by simp) i).2 (by simp) c;rw[q]at d;cases d;have h1:(AP3 ops).getD i []=XP pre o:=h1;rw[h1]at hj;unfold XP at hj;have hj:=Qo hj;rw[Be2]at hj;obtain⟨e,f,hj⟩:=hj;rw[Bd6]at f;obtain⟨f,hb⟩:=f;have g:e.on<i:=by
   unfold KA at a;rw[AR4]at a
   have:=a i (by simpa using c)
   simp only[q,AR4,AS6,AS7,decide_eq_true_eq]at this;rcases this e f with n|n
   .rw[hb]at n;cases n
   exact n
  have l:=b e f hb;rcases AT9.1 hj with rfl|hj
  .exact l
  rw[s e.on g]at hj;obtain⟨oe,m⟩:∃oe,ops[e.on]? = some oe:=⟨_,AQ5 (by omega)⟩;exact ih e.on g oe m (r e.on oe l m) j hj
end
end Go.AM
namespace Go.AM
section
variable {S:W8}{P:Program}
theorem Pc {regs:B5}:∀{l:List AV},l.all ZD=true->Hg regs l=some (l,regs)
 |[],_=>rfl
 |a::r,h=>by simp only[AZ5,AQ7]at h;have ih:=Pc (regs:=regs) h.2;cases a<;>simp only[Hg,ih]<;>simp[ZD]at h
theorem GV {env env' : Env}{f:Operand}{as:List AV}(h:aev env f=aev env' f):NG env f as=NG env' f as:=by unfold NG;rw[h]
theorem Pd {all:List Oper}{V:Nat->AV}{env:Env}{x:Nat}:∀m,Hh all V env (fun _=>false) x m=get env x
 |0=>rfl
 |m+1=>by simp only[Hh];rw[Lm (by simp),Pd m]
theorem ZG (hS:G8 S P){F:I8}{K:List It}{id:Nat}{ops:Array Oper}{env:Env}{regs:B5}(cls:List Cls)(hmix:P.follows .mixedOrders=true)(hok:Mn ops.toList cls=true)
 (h:LD S P ops.toList cls ops.toList env regs fun env regs=>G S P F (.pop .normal K ⟨env,regs⟩)):G S P F (.code (.region id ops true) K ⟨env,regs⟩):=by
 simp only[G,awp,Lo];generalize ops.toList=all at hok h;simp only[Mn,AQ7,beq_iff_eq,AR4,AU9]at hok;obtain⟨⟨hdep,hlen⟩,hpair⟩:=hok;obtain⟨E,R,V,hE0,hR0,hk,hstep⟩:=Wj all all cls 0 env regs _ h hlen;have T:Aj5 S P all cls E R V:=⟨hstep⟩;have hpr:∀(i j:Nat) (oi oj:Oper),i<j->all[i]? = some oi->all[j]? = some oj->i∈(AP3 all).getD j [] \/ Gg all (cls.getD i .n) (cls.getD j .n) oi oj=true:=by
  intro i j oi oj hij hi hj
  have:=hpair j (AR7.1 hj).1 i hij
  simp only[hi,hj,AS6,AU6,decide_eq_true_eq]at this;exact this
 let down:(Nat->Bool)->Prop:=fun D=>∀i o,D i=true->all[i]? = some o->∀e∈o.after.toList,Es e=true->D e.on=true
 let Inv:(Nat->Bool)->St->Prop:=fun D s=>down D/\(∀x,get s.env x=Hh all V env D x all.length) /\
  ∀q,∃k,k<=all.length/\(∀i,i<all.length->Dv q (cls.getD i .n)=true->(D i=true↔i<k))/\A1 s.regs q=A1 (R k) q
 refine⟨hmix,hdep,Inv,⟨fun i o hi=>(by cases hi),fun x=>(Pd _).symm,fun q=>⟨0,AZ8 _,fun i _ _=>by simp,by rw[hR0]⟩⟩,?_,?_⟩
 .intro D i s o ⟨hD,henv,hreg⟩ ho hDi hready;have hin:i<all.length:=(AR7.1 ho).1;have hanc:=Pb hdep hD i o ho hready;have hbef:∀j oj,j<i->all[j]? = some oj->D j=true \/ Gg all (cls.getD j .n) (cls.getD i .n) oj o=true:=fun j oj hj d=>
   (hpr j i oj o hj d ho).imp (hanc j) fun h=>h
  have haft:∀j oj,i<j->all[j]? = some oj->D j=true->Gg all (cls.getD i .n) (cls.getD j .n) o oj=true:=by
   intro j oj hj d z;rcases hpr i j o oj hj ho d with h1|h1
   .have:=Pb hdep hD j oj d (hD j oj z d) i h1
    rw[hDi]at this;cases this
   exact h1
  have hrd:∀x∈reads all o,get s.env x=get (E i) x:=by
   intro x hx;rw[henv x,Sx T x i (by omega),hE0];refine Dw fun j hj hd=>?_;obtain⟨oj,d⟩:∃oj,all[j]? = some oj:=⟨_,AQ5 hj⟩;simp only[d,AQ6]at hd;by_cases e:j<i
   .simp only[e,decide_true];rcases hbef j oj e d with h1|h1
    .exact h1
    simp only[Gg,hd,AQ7,AS7,AU6,decide_eq_false_iff_not]at h1;exact Ln hx h1.1.2.1
   simp only[e,decide_false];by_cases e2:j=i
   .subst e2;exact hDi
   cases z:D j with
   |false=>rfl
   |true=>have h1:=haft j oj (by omega) d z;simp only[Gg,hd,AQ7,AS7,AU6,decide_eq_false_iff_not]at h1;exact Ln hx h1.2
  have g:∀x∈o.op.operands.toList,aev s.env x=aev (E i) x:=fun x hx=>ZC fun t ht=>hrd t (AT3 _ (Be2.2 ⟨x,hx,ht⟩));have hq:∀q,XO q (cls.getD i .n)=true->A1 s.regs q=A1 (R i) q:=by
   intro q hn;obtain⟨k,hkn,hW,hr⟩:=hreg q;rw[hr];by_cases hki:k<=i
   .refine (UB T q k i hki (by omega) fun j h1 h2=>?_).symm;cases hw:Dv q (cls.getD j .n)with
    |false=>rfl
    |true=>
     obtain⟨oj,d⟩:∃oj,all[j]? = some oj:=⟨_,AQ5 (by omega)⟩;rcases hbef j oj h2 d with h3|h3
     .have:=(hW j (by omega) hw).1 h3;omega
     simp only[Gg,(Fk hw hn).1,Bd2,Bb4,AR0]at h3
   refine UB T q i k (by omega) hkn fun j h1 h2=>?_;cases hw:Dv q (cls.getD j .n)with
   |false=>rfl
   |true=>
    have z:D j=true:=(hW j (by omega) hw).2 h2;by_cases e:j=i
    .subst e;rw[hDi]at z;cases z
    obtain⟨oj,d⟩:∃oj,all[j]? = some oj:=⟨_,AQ5 (by omega)⟩;have h3:=haft j oj (by omega) d z;simp only[Gg,(Fk hw hn).2,Bd2,Bb4,AR0]at h3
  obtain⟨b,hb,hs,hEi⟩:=hstep i o ho;have hdown:down fun j=>if j=i then true else D j:=by
   intro j oj hj d e he hbe;by_cases e1:j=i
   .subst e1;rw[ho]at d;cases d
    have:=hready e he hbe
    show (if e.on=j then true else D e.on)=true;split
    .rfl
    exact this
   have hj' : D j=true:=by
    have hj:(if j=i then true else D j)=true:=hj
    rwa [Lm e1]at hj
   have:=hD j oj hj' d e he hbe
   show (if e.on=i then true else D e.on)=true;split
   .rfl
   exact this
  have henv' : ∀x,get (NP o.dst (V i) s.env) x=Hh all V env (fun j=>if j=i then true else D j) x all.length:=by
   intro x;rw[Wk];by_cases hd:o.dst=some x
   .rw[Ll hd];refine (Sw (by simp) (by simp[ho,hd]) hin fun j h1 h2 h3=>?_).symm;have hne:j≠i:=by omega
    simp only[hne,Lp];obtain⟨oj,d⟩:∃oj,all[j]? = some oj:=⟨_,AQ5 h2⟩;simp only[d,AQ6]at h3;cases z:D j with
    |false=>rfl
    |true=>have h4:=haft j oj h1 d z;simp[Gg,hd,h3]at h4
   rw[Lm hd,henv x];refine Dw fun j hj h3=>?_;have hne:j≠i:=by rintro rfl;rw[ho]at h3;exact hd h3
   simp[hne]
  have a0:∀R',(∀q,Dv q (cls.getD i .n)=true->A1 R' q=A1 (R (i+1)) q)->(∀q,Dv q (cls.getD i .n)=false->A1 R' q=A1 s.regs q)->Inv (fun j=>if j=i then true else D j) (put ⟨s.env,R'⟩ o.dst (V i)):=by
   intro R' h1 h2;refine⟨hdown,?_,fun q=>?_⟩
   .intro x
    have:=henv' x
    cases hd:o.dst<;>simp only[hd,put,NP]at this⊢<;>exact this
   have hput:(put ⟨s.env,R'⟩ o.dst (V i)).regs=R':=by cases o.dst<;>rfl
   rw[hput];cases hw:Dv q (cls.getD i .n)with
   |false=>
    obtain⟨k,hkn,hW,hr⟩:=hreg q;refine⟨k,hkn,fun j hj hwj=>?_,(h2 q hw).trans hr⟩;have hne:j≠i:=by rintro rfl;rw[hw]at hwj;cases hwj
    simp only[hne,Lp];exact hW j hj hwj
   |true=>
    refine⟨i+1,by omega,fun j hj hwj=>?_,h1 q hw⟩;by_cases e:j=i
    .simp[e]
    simp only[e,Lp];obtain⟨oj,d⟩:∃oj,all[j]? = some oj:=⟨_,AQ5 hj⟩;constructor
    .intro z;by_cases hlt:i<j
     .have h3:=haft j oj hlt d z;simp only[Gg,(Fk hw (HS hwj)).1,Bd2,Bb4,AR0]at h3
     omega
    intro hlt;rcases hbef j oj (by omega) d with h3|h3
    .exact h3
    simp only[Gg,(Fk hwj (HS hw)).1,Bd2,Bb4,AR0]at h3
  obtain⟨RT,a1,hRT2⟩:∃RT,(∀q,A1 s.regs q=A1 RT q)/\((cls.getD i .n=.r \/ cls.getD i .n=.w \/ ∃js,cls.getD i .n=.b js)->RT=R i):=by
   by_cases hall:cls.getD i .n=.r \/ cls.getD i .n=.w \/ ∃js,cls.getD i .n=.b js
   .exact⟨R i,fun q=>hq q (by rcases hall with h1|h1|⟨js,h1⟩<;>rw[h1]<;>rfl),fun _=>rfl⟩
   exact⟨s.regs,fun _=>rfl,fun h=>Ln h hall⟩
  have y:R (i+1)=R i->Inv (fun j=>if j=i then true else D j) (put ⟨s.env,RT⟩ o.dst (V i)):=fun hRi=>
   a0 RT (fun q hw=>by rw[<- a1 q,hq q (HS hw),hRi]) fun q _=>(a1 q).symm
  have hrun:b=true->wOp S P o (Inv fun j=>if j=i then true else D j) (kp S P K F) ⟨s.env,RT⟩:=by
   intro hbt;rw[hbt,Ll rfl]at hs;rcases hs with⟨c,ha,hc,hcl,hcx⟩ | ⟨hp,hRi⟩ | ⟨hw,hdet⟩ | ⟨c,x,ha,hc,hvx,hRi⟩ | ⟨js,u,_,hx⟩
   .cases u : cls.getD i .n with
    |n=>rw[u]at hcl;have h1:=Qq hcl ha;have ha':=h1.2 RT;rw[<- EI g]at ha';exact JL ha' hc (y h1.1)
    |r=>rw[u]at hcl;rw[<- EI g,<- hRT2 (.inl u)]at ha;refine JL ha hc ?_;have hcl:R (i+1)=R i:=hcl;rw[hcl,<- hRT2 (.inl u)];exact y hcl
    |w=>rw[<- EI g,<- hRT2 (.inr (.inl u))]at ha;exact JL ha hc (a0 _ (fun _ _=>rfl) fun q hw=>by rw[u]at hw;cases hw)
    |b js=>
     rw[u]at hcx;rw[<- EI g,<- hRT2 (.inr (.inr ⟨js,u⟩))]at ha;exact JL ha hc (a0 _ (fun _ _=>rfl) fun q hw=>by rw[u]at hw;rw[hcx q (by simpa[Dv]using hw),a1 q,hRT2 (.inr (.inr ⟨js,u⟩))])
    |l js=>
     rw[u]at hcx;have ha':=hcx.2 RT fun q hj=>by rw[<- a1 q];exact hq q (by rw[u];simpa[XO]using hj)
     rw[<- EI g]at ha';exact JL ha' hc (y hcx.1)
    |a js=>
     rw[u]at hcx;obtain⟨R3,ha',h3,h4⟩:=hcx RT fun q hj=>by rw[<- a1 q];exact hq q (by rw[u];simpa[XO]using hj)
     rw[<- EI g]at ha';refine JL ha' hc (a0 R3 (fun q hw=>?_) fun q hw=>?_)
     .rw[u]at hw;exact h3 q (by simpa[Dv]using hw)
     rw[u]at hw;rw[h4 q (by simpa[Dv]using hw),a1 q]
   .obtain⟨c,f,fn,as',args,r',e1,e2,e3,e4,e5,e6,e7⟩:=hp;obtain⟨callee,cargs,types⟩:=c;simp only at e2 e3 e4;subst e2;have v:cargs.toList.map (aev s.env)=cargs.toList.map (aev (E i)):=AS5 fun x hx=>g x (by rw[e1];simp[Op.operands,Call.operands];exact .inr (by simpa using hx));have hf:aev s.env f=aev (E i) f:=g f (by rw[e1];simp[Op.operands,Call.operands]);unfold wOp;rw[e1];refine .inl ⟨_,RT,fn,as',by rw[v];exact .inl (Pc e3),by rw[GV hf];exact e4,[],args,[],rfl,e5,rfl,rfl,hS.monoF _ _ _ _ _ ?_ e6⟩;rintro _ _ _ ⟨rfl,rfl,rfl⟩;refine⟨rfl,?_⟩
    have:(G4 (o.dst.getD 0) [] [] ([]:List Obj).length)=[]:=rfl
    rw[this];show Inv _ (put ⟨s.env,RT⟩ o.dst (unA [] r'));rw[<- e7];exact y hRi
   .obtain⟨c,f,as,regs1,fn,as',args,objs,objs',ks,r',ids,e1,e2,e3,e4,e5,e6,e7,e8,e9,e10,e11,e12⟩:=hdet;obtain⟨callee,cargs,types⟩:=c;simp only at e2 e3;subst e2;have v:cargs.toList.map (aev s.env)=cargs.toList.map (aev (E i)):=AS5 fun x hx=>g x (by rw[e1];simp[Op.operands,Call.operands];exact .inr (by simpa using hx));have hf:aev s.env f=aev (E i) f:=g f (by rw[e1];simp[Op.operands,Call.operands]);unfold wOp;rw[e1];have hRTi:RT=R i:=hRT2 (hw.elim (fun h=>.inr (.inl h)) fun⟨js,h,_⟩=>.inr (.inr ⟨js,h⟩));refine .inl ⟨as,regs1,fn,as',by rw[v,hRTi];exact .inl e3,by rw[GV hf];exact e4,ids,args,objs,e8,e5,e6,e9,hS.monoF _ _ _ _ _ ?_ e7⟩;rintro _ _ _ ⟨rfl,rfl,rfl⟩;refine⟨e10,?_⟩;show Inv _ (put ⟨s.env,_⟩ o.dst (unA _ r'));rw[<- e11,<- e12];exact a0 _ (fun _ _=>rfl) fun q h=>by
     rcases hw with hw|⟨js,hw,h4⟩
     .rw[hw]at h;cases h
     rw[hw]at h;rw[h4 q (by simpa[Dv]using h),a1 q,hRTi]
   .rw[<- XQ g]at ha;have hfin:=y hRi;rw[hvx]at hfin;exact Aj6 ha hc hfin
   obtain⟨R3,⟨c,f,as,regs1,fn,as',args,objs,objs',ks,r',ids,e1,e2,e3,e4,e5,e6,e7,e8,e9,e10,e11,e12⟩ | ⟨c,f,fn,as,cs,xs,e0,m,n,g0,e1,e2,e3,e4,e5,e6,e7,e8,e9,e10⟩,h3,h4⟩:=hx RT fun q hj=>by rw[<- a1 q];exact hq q (by rw[u];simpa[XO]using hj)
   .obtain⟨callee,cargs,types⟩:=c;simp only at e2 e3;subst e2;have v:cargs.toList.map (aev s.env)=cargs.toList.map (aev (E i)):=AS5 fun x hx=>g x (by rw[e1];simp[Op.operands,Call.operands];exact .inr (by simpa using hx));have hf:aev s.env f=aev (E i) f:=g f (by rw[e1];simp[Op.operands,Call.operands]);unfold wOp;rw[e1];refine .inl ⟨as,regs1,fn,as',by rw[v];exact .inl e3,by rw[GV hf];exact e4,ids,args,objs,e8,e5,e6,e9,hS.monoF _ _ _ _ _ ?_ e7⟩;rintro _ _ _ ⟨rfl,rfl,rfl⟩;refine⟨e10,?_⟩;show Inv _ (put ⟨s.env,_⟩ o.dst (unA _ r'));rw[<- e11,<- e12];exact a0 R3 (fun q hw=>by rw[u]at hw;exact h3 q (by simpa[Dv]using hw)) fun q hw=>by rw[u]at hw;rw[h4 q (by simpa[Dv]using hw),a1 q]
   obtain⟨callee,cargs,types⟩:=c;simp only at e2 e3;subst e2;have v:cargs.toList.map (aev s.env)=cargs.toList.map (aev (E i)):=AS5 fun x hx=>g x (by rw[e1];simp[Op.operands,Call.operands];exact .inr (by simpa using hx));have hf:aev s.env f=aev (E i) f:=g f (by rw[e1];simp[Op.operands,Call.operands]);unfold wOp;rw[e1];refine .inr (.inr (.inl ⟨fn,as,cs,xs,by rw[v,GV hf];exact e3,e4,e5,hS.monoF _ _ _ _ _ ?_ e6⟩));rintro _ _ _ ⟨rfl,rfl,rfl⟩;refine .inr ⟨e0,m,n,g0,rfl,rfl,e7,e8,?_⟩;show Inv _ (put ⟨s.env,_⟩ o.dst _);rw[<- e9,<- e10];exact a0 R3 (fun q hw=>by rw[u]at hw;exact h3 q (by simpa[Dv]using hw)) fun q hw=>by rw[u]at hw;rw[h4 q (by simpa[Dv]using hw),a1 q]
  have hskip:b=false->Inv (fun j=>if j=i then true else D j) (put ⟨s.env,RT⟩ o.dst By):=by intro hbf;rw[hbf]at hs;simp only[AR0,Lp]at hs;obtain⟨hv,hRi⟩:=hs;rw[<- hv];exact y hRi
  refine hS.eqv s ⟨s.env,RT⟩ _ (fun _=>rfl) a1 ?_;cases hg:o.guard with
  |none=>simp only[CY,hg,AQ2]at hb;exact hrun hb.symm
  |some q=>
   obtain⟨j,want⟩:=q;simp only[CY,hg,AS2]at hb;obtain⟨b0,hy,hb0⟩:=hb;have hsl:get s.env (FV all j)=get (E i) (FV all j):=hrd _ (AS0 _ (by simp[hg]));refine⟨b0,by rw[hsl];exact hy,?_⟩;by_cases hbw:b0=some want
   .rw[Ll hbw];exact hrun (by rw[<- hb0];simp[hbw])
   rw[Lm hbw];exact hskip (by rw[<- hb0];simp[hbw])
 intro D s ⟨hD,henv,hreg⟩ hall;refine hS.eqv s ⟨E all.length,R all.length⟩ _ (fun x=>?_) (fun q=>?_) hk
 .show get s.env x=get (E all.length) x;rw[henv x,Sx T x _ (AQ8 _),hE0];exact Dw fun j hj _=>by simp[hall j hj,hj]
 obtain⟨k,hkn,hW,hr⟩:=hreg q;rw[hr];refine (UB T q k all.length hkn (AQ8 _) fun j h1 h2=>?_).symm;cases hw:Dv q (cls.getD j .n)with
 |false=>rfl
 |true=>have:=(hW j h2 hw).1 (hall j h2);omega
end
end Go.AM
namespace Go.AM
def clsOf:Op->Cls
 |.store .. | .alloc _ | .box .. | .buildSlice .. | .makeMap .. | .makeSlice .. | .mapUpdate .. | .entryStore .. | .mapEntry ..=>.w
 |.load .. | .indexAddr .. | .lookup ..=>.r
 |.call { callee:=.builtin .len,.. } | .call { callee:=.builtin .cap,.. }=>.r
 |.call { callee:=.builtin .min,.. } | .call { callee:=.builtin .max,.. }=>.n
 |.call _=>.w
 |_=>.n
def isR (env:Env):Op->Bool
 |.load .. | .indexAddr ..=>true
 |.lookup _ _ k _=>isP (aev env k)
 |.call { callee:=.builtin .len,.. }=>true
 |o=>isN env o
def inJ (js:List Nat):AV->Bool
 |.p _=>true
 |.vec i=>js.contains i
 |.vecp i _=>js.contains i
 |_=>false
def adJ (js:List Nat):AV->Bool
 |.reg i _=>js.contains i
 |.elt i _ _ _=>js.contains i
 |_=>false
def mrJ (js:List Nat):AV->Bool
 |.mref i=>js.contains i
 |_=>false
def isL (js:List Nat)(env:Env):Op->Bool
 |.lookup _ m k _=>mrJ js (aev env m)&&isP (aev env k)
 |.load _ a=>adJ js (aev env a)
 |.indexAddr _ x _=>adJ js (aev env x)||inJ js (aev env x)
 |.call { callee:=.builtin .len,args,.. }=>args.toList.all fun x=>inJ js (aev env x)
 |_=>false
def isA (js:List Nat)(env:Env)(d:Nat):Op->Bool
 |.alloc _=>js.contains (nid d 0)
 |.box _ _=>js.contains (nid d 0)
 |.store _ a _=>adJ js (aev env a)
 |.call { callee:=.builtin .append,args,.. }=>js.contains (nid d 0)&&args.toList.all fun x=>inJ js (aev env x)
 |.buildSlice _ _ parts=>js.contains (nid d 0)&&parts.toList.all fun q=>isP (aev env q.2)
 |.makeMap _ none=>js.contains (nid d 0)
 |.mapEntry _ m k=>mrJ js (aev env m)&&isP (aev env k)
 |.entryStore _ m _ x=>mrJ js (aev env m)&&isP (aev env x)
 |_=>false
def isB (js:List Nat)(env:Env)(d:Nat):Op->Bool
 |.buildSlice _ _ parts=>js.contains (nid d 0)&&parts.toList.all fun q=>inJ js (aev env q.2)
 |_=>false
def Az4 (cl:Cls)(env:Env)(d:Nat)(o:Op):Bool:=match cl with
 |.n=>isN env o
 |.r=>isR env o
 |.w=>true
 |.l j=>isL j env o
 |.a j=>isA j env d o
 |.b j=>isB j env d o
structure SRes:Type 1 where
 conds:List Prop
 cls:List Cls
 rest:List Oper
 env:Env
 regs:B5
def AJ1 (kn:List Nat)(all:List Oper)(env:Env)(o:Oper):Bool:=match o.guard with
 |none=>false
 |some (j,_)=>match kn.contains j with
  |true=>false
  |false=>match get env (FV all j)with
   |.p (.bb _)=>true
   |_=>false
def NI (P:Program)(kn:List Nat)(all:List Oper):List Cls->List Oper->List Prop->Env->B5->SRes
 |cl::cls,o::rest,c,env,regs=>
  match AJ1 kn all env o with
  |true=>⟨c,cl::cls,o::rest,env,regs⟩
  |false=>match CY all env o with
  |some true=>match As6 o.op&&Az4 cl env (o.dst.getD 0) o.op with
   |true=>match aop P env regs (o.dst.getD 0) o.op with
    |none=>⟨c,cl::cls,o::rest,env,regs⟩
    |some ⟨p,v,regs'⟩=>fA v fun v=>fR regs' fun regs'=>fC p c fun c=>
     match o.dst with
     |some d=>YY d v env fun env=>NI P kn all cls rest c env regs'
     |none=>NI P kn all cls rest c env regs'
   |false=>⟨c,cl::cls,o::rest,env,regs⟩
  |some false=>match o.dst with
   |some d=>YY d By env fun env=>NI P kn all cls rest c env regs
   |none=>NI P kn all cls rest c env regs
  |none=>⟨c,cl::cls,o::rest,env,regs⟩
 |cls,rest,c,env,regs=>⟨c,cls,rest,env,regs⟩
section
variable {S:W8}{P:Program}
theorem Aj7 {env:Env}{R R' : B5}{d:Nat}{o:Op}{c:List Prop}{v:AV}(f:isR env o=true)(h:aop P env R d o=some ⟨c,v,R'⟩):R' = R:=by
 have gen:isN env o=true->R' = R:=fun hn=>(Qq hn h).1;cases o with
 |load t a=>
  simp only[aop]at h;split at h
  .simp only[AQ2,Out.mk.injEq]at h;exact h.2.2.symm
  cases h
 |indexAddr t x i=>
  simp only[aop]at h;split at h
  .split at h
   .simp only[AQ2,Out.mk.injEq]at h;exact h.2.2.symm
   cases h
  cases h
 |lookup t m k ok=>
  simp only[isR]at f;cases hk:aev env k<;>simp only[hk,isP,AR0]at f;simp only[aop,hk,Eo]at h;split at h
  .simp only[AQ2,Out.mk.injEq]at h;exact h.2.2.symm
  cases h
 |call cc=>
  obtain⟨callee,args,types⟩:=cc;cases callee with
  |builtin b=>
   cases b with
   |len=>
    simp only[aop]at h;split at h
    .split at h
     .simp only[AQ2,Out.mk.injEq]at h;exact h.2.2.symm
     cases h
    cases h
   |_=>exact gen f
  |_=>exact gen f
 |_=>exact gen f
theorem Y3 (regs:B5)(d t:Nat)(x:Obj):A1 (ins d x regs) t=if d=t then some x else A1 regs t:=by
 induction regs with
 |nil=>simp[ins,A1]
 |cons p r ih=>
  obtain⟨i,b⟩:=p;simp only[ins];split
  .simp only[A1]
  split
  .rename_i h;subst h;simp only[A1];split<;>rfl
  rename_i h1 a;simp only[A1,ih];by_cases h:i=t
  .simp only[h,Lo];rw[Lm (by omega)]
  simp only[h,Lp]
theorem Wl {js:List Nat}{a:AV}(h:adJ js a=true):∃i∈js,(∃off,a=.reg i off) \/ ∃k n off,a=.elt i k n off:=by
 cases a with
 |reg i off=>exact⟨i,by simpa[adJ]using h,.inl ⟨off,rfl⟩⟩
 |elt i k n off=>exact⟨i,by simpa[adJ]using h,.inr ⟨k,n,off,rfl⟩⟩
 |_=>cases h
section
variable {js:List Nat}{R R2:B5}(hR:∀q∈js,A1 R2 q=A1 R q)
include hR
theorem Aj8 {t:TypeId}{a:AV}(ha:adJ js a=true):load P R2 t a=load P R t a:=by obtain⟨i,b,⟨off,rfl⟩ | ⟨k,n,off,rfl⟩⟩:=Wl ha<;>simp only[load,hR i b]
theorem XR {t:TypeId}{x:AV}{n:Int}(ha:(adJ js x||inJ js x)=true):EB P R2 t x n=EB P R t x n:=by
 cases x with
 |vec i=>
  have a:i∈js:=by simpa[adJ,inJ]using ha
  unfold EB;cases tk P t with
  |none=>rfl
  |some k=>cases k<;>first|rfl|simp only[hR i a]
 |vecp i m=>
  have a:i∈js:=by simpa[adJ,inJ]using ha
  unfold EB;cases tk P t with
  |none=>rfl
  |some k=>cases k<;>first|rfl|simp only[hR i a]
 |reg i off=>unfold EB;cases tk P t with
  |none=>rfl
  |some k=>cases k<;>rfl
 |p y=>unfold EB;cases tk P t with
  |none=>rfl
  |some k=>cases k<;>cases y<;>rfl
 |elt i k n off=>unfold EB;cases tk P t with
  |none=>rfl
  |some k=>cases k<;>rfl
 |_=>cases ha
theorem Aj9 {t:TypeId}{x:AV}(ha:inJ js x=true):YG P R2 t x=YG P R t x:=by
 cases x with
 |vec i=>
  have a:i∈js:=by simpa[inJ]using ha
  unfold YG;cases tk P t with
  |none=>rfl
  |some k=>cases k<;>first|rfl|simp only[hR i a]
 |vecp i m=>unfold YG;cases tk P t with
  |none=>rfl
  |some k=>cases k<;>rfl
 |p y=>unfold YG;split<;>simp_all
 |_=>cases ha
theorem Sz {k:Nat}{x:AV}(ha:inJ js x=true):elems R2 k x=elems R k x:=by
 cases x with
 |vec i=>
  have a:i∈js:=by simpa[inJ]using ha
  simp only[elems,hR i a]
 |vecp i m=>
  have a:i∈js:=by simpa[inJ]using ha
  simp only[elems,hR i a]
 |p y=>unfold elems;split<;>simp_all
 |_=>cases ha
theorem ZH {e:TypeId}{k:Nat}{x:AV}{q:Nat×(Nat->List PV)×Bool×B5}(ha:inJ js x=true)(h:PQ R e k x=some q) :(PQ R2 e k x=some (q.1,q.2.1,q.2.2.1,R2)/\q.2.2.2=R) \/ ∃j∈js,PQ R2 e k x=some (q.1,q.2.1,q.2.2.1,ins j .dead R2)/\q.2.2.2=ins j .dead R:=by
 cases x with
 |vec i=>
  have b:i∈js:=by simpa[inJ]using ha
  simp only[PQ]at h⊢;rw[hR i b]
  right
  refine⟨i,b,?_⟩;cases a:A1 R i with
  |none=>simp[a]at h
  |some o=>
   cases o with
   |vec e' m n f vw=>
    simp only[a]at h⊢;split at h
    .rename_i hc;cases h;exact⟨by rw[Ll hc],rfl⟩
    cases h
   |_=>simp[a]at h
 |vecp i m=>
  have b:i∈js:=by simpa[inJ]using ha
  simp only[PQ]at h⊢;rw[hR i b]
  right
  refine⟨i,b,?_⟩;cases a:A1 R i with
  |none=>simp[a]at h
  |some o=>
   cases o with
   |vec e' m n f vw=>
    cases vw with
    |true=>simp[a]at h
    |false=>
     simp only[a]at h⊢;split at h
     .rename_i hc;cases h;exact⟨by rw[Ll hc],rfl⟩
     cases h
   |_=>simp[a]at h
 |p y=>
  left
  unfold PQ at h⊢;split at h
  .cases h;exact⟨rfl,rfl⟩
  .rename_i h1;cases h1
  .rename_i h1;cases h1
  cases h
 |_=>cases ha
theorem ZI {t:TypeId}{a x:AV}{c:List Prop}{R' : B5}(ha:adJ js a=true)(h:store P R t a x=some (c,R')):∃i∈js,∃o,R' = ins i o R/\store P R2 t a x=some (c,ins i o R2):=by
 obtain⟨i,s,g⟩:=Wl ha;refine⟨i,s,?_⟩;have r:=hR i s;have fin:∀(p:Prop) [Decidable p] (c0:List Prop) (o:Obj),(if p then some (c0,ins i o R)else none)=some (c,R')->∃o',R' = ins i o' R/\(if p then some (c0,ins i o R2)else none)=some (c,ins i o' R2):=by
  intro p _ c0 o h;split at h
  .rename_i hc;simp only[AQ2,AR3]at h;obtain⟨rfl,rfl⟩:=h;exact⟨o,rfl,by rw[Ll hc]⟩
  cases h
 cases b:tsz P t with
 |none=>simp[store,b]at h
 |some m=>
  cases d:Cu x with
  |false=>simp[store,b,d]at h
  |true=>
   cases j:A1 R i with
   |none=>rcases g with⟨off,rfl⟩ | ⟨k,n,off,rfl⟩<;>simp[store,b,d,j]at h
   |some o=>
    rw[j]at r;rcases g with⟨off,rfl⟩ | ⟨k,n,off,rfl⟩
    .simp only[store,b,d,j,r]at h⊢;cases o with
     |cells cs=>exact fin _ _ _ h
     |arr n f=>
      cases x with
      |p y=>cases y with
       |agg ps=>exact fin _ _ _ h
       |_=>exact fin _ _ _ h
      |_=>simp at h
     |_=>simp at h
    simp only[store,b,d,j,r]at h⊢;cases o with
    |vec e k' n' f vw=>
     cases vw with
     |true=>simp at h
     |false=>cases x with
      |p y=>exact fin _ _ _ h
      |_=>simp at h
    |fam e n' jr x0=>
     cases x0 with
     |none=>simp at h
     |some q=>
      cases hl:cellsOf x with
      |nil=>simp[hl]at h
      |cons y l=>cases l with
       |nil=>simp only[hl]at h⊢;exact fin _ _ _ h
       |cons=>simp[hl]at h
    |_=>simp at h
end
theorem Ak0 {js:List Nat}{env:Env}{R R' : B5}{d:Nat}{o:Op}{c:List Prop}{v:AV}(f:isL js env o=true)(h:aop P env R d o=some ⟨c,v,R'⟩):R' = R/\∀R2,(∀q∈js,A1 R2 q=A1 R q)->aop P env R2 d o=some ⟨c,v,R2⟩:=by
 cases o with
 |lookup t m k ok=>
  simp only[isL,AQ7]at f;obtain⟨hm,hk⟩:=f;simp only[aop]at h⊢;cases ek:aev env k<;>simp only[ek,isP,AR0]at hk;cases em:aev env m<;>simp only[em,mrJ,AR0]at hm;rename_i x j;simp only[ek,em,Eo]at h⊢;cases hl:Ep P R t (.mref j) (nP x) ok with
  |none=>simp[hl]at h
  |some q=>
   obtain⟨c',a'⟩:=q;simp only[hl,AQ2,Out.mk.injEq]at h;obtain⟨rfl,rfl,rfl⟩:=h;refine⟨rfl,fun R2 g=>?_⟩;have e:Ep P R2 t (.mref j) (nP x) ok=Ep P R t (.mref j) (nP x) ok:=by
    unfold Ep;cases tk P t with
    |none=>rfl
    |some q=>
     cases q with
     |map kt e=>have e2:=g j (by simpa using hm);cases l:Ip P kt (nP x)<;>simp only[l,e2]
     |_=>rfl
   rw[e,hl]
 |load t a=>
  simp only[isL]at f;simp only[aop]at h⊢;cases hl:load P R t (aev env a)with
  |none=>simp[hl]at h
  |some q=>obtain⟨c',a'⟩:=q;simp only[hl,AQ2,Out.mk.injEq]at h;obtain⟨rfl,rfl,rfl⟩:=h;exact⟨rfl,fun R2 g=>by rw[Aj8 g f,hl]⟩
 |indexAddr t x i=>
  simp only[isL]at f;simp only[aop]at h⊢;cases r:asInt (aev env i)with
  |none=>simp[r]at h
  |some n=>
   simp only[r]at h⊢;cases hl:EB P R t (aev env x) n with
   |none=>simp[hl]at h
   |some q=>obtain⟨c',a'⟩:=q;simp only[hl,AQ2,Out.mk.injEq]at h;obtain⟨rfl,rfl,rfl⟩:=h;exact⟨rfl,fun R2 g=>by rw[XR g f,hl]⟩
 |call cc=>
  obtain⟨callee,args,types⟩:=cc;cases callee with
  |builtin b=>
   cases b with
   |len=>
    simp only[isL]at f;simp only[aop]at h⊢;split at h
    .rename_i x t hx ht;simp only[hx,AZ5,Bk2,Be9]at f;cases hl:YG P R t (aev env x)with
     |none=>simp[hl]at h
     |some n=>simp only[hl,AQ2,Out.mk.injEq]at h;obtain⟨rfl,rfl,rfl⟩:=h;exact⟨rfl,fun R2 g=>by simp only[Aj9 g f,hl]⟩
    cases h
   |_=>cases f
  |_=>cases f
 |_=>cases f
theorem At4:∀{xs:List AV},xs.all isP=true->∃ys,∀R,EA R xs=some (ys,R)
 |[],_=>⟨[],fun _=>rfl⟩
 |.p x::xs,h=>by obtain⟨ys,hy⟩:=At4 (xs:=xs) (by simpa[isP]using h);exact⟨nP x::ys,fun R=>by simp only[EA,Eo,hy]⟩
 |.reg .. :: _,h | .elt .. :: _,h | .vec _::_,h | .vecp .. :: _,h | .mref _::_,h | .clo .. :: _,h | .tup _::_,h | .agr _::_,h | .yf _::_,h | .rsl .. :: _,h | .top::_,h=>by simp[isP]at h
theorem Az5 {n:Nat}:∀{L:List (Nat×AV)},(∀p∈L,isP p.2=true)->∀R,Hn R n L=none:=by
 intro L h R;unfold Hn;split
 .rename_i j
  have:=h (0,.vec j) (by simp)
  cases this
 rfl
theorem Az6 {n:Nat}:∀{L:List (Nat×AV)},(∀p∈L,isP p.2=true)->Io n L=none:=by
 intro L h;unfold Io;split
 .rename_i j o i q
  have:=h (0,.reg j o) (by simp)
  cases this
 rfl
theorem Wm {js:List Nat}{x:AV}(h:mrJ js x=true):∃j,j∈js/\x=.mref j:=by
 cases x with
 |mref j=>exact⟨j,by simpa[mrJ]using h,rfl⟩
 |_=>cases h
theorem Ak1 {js:List Nat}{env:Env}{R R' : B5}{d:Nat}{o:Op}{c:List Prop}{v:AV}(u:isA js env d o=true)(h:aop P env R d o=some ⟨c,v,R'⟩) :∀R2,(∀q∈js,A1 R2 q=A1 R q)->∃R3,aop P env R2 d o=some ⟨c,v,R3⟩/\(∀q∈js,A1 R3 q=A1 R' q)/\∀q,q ∉ js->A1 R3 q=A1 R2 q:=by
 intro R2 w;have up:∀{A B:B5}(i:Nat) (x:Obj),i∈js->(∀q∈js,A1 A q=A1 B q)->(∀q,q ∉ js->A1 A q=A1 R2 q)->(∀q∈js,A1 (ins i x A) q=A1 (ins i x B) q)/\∀q,q ∉ js->A1 (ins i x A) q=A1 R2 q:=by intro A B i x hi h1 w;refine⟨fun q hq=>by rw[Y3,Y3,h1 q hq],fun q hq=>?_⟩;rw[Y3,Lm (by rintro rfl;exact hq hi),w q hq]
 have one:=fun {i:Nat}(x:Obj) (hi:i∈js)=>up i x hi w fun _ _=>rfl;cases o with
 |buildSlice t n parts=>
  simp only[isA,AQ7]at u;have hj:nid d 0∈js:=by simpa using u.1
  obtain⟨ys,hys⟩:=At4 (xs:=parts.toList.map fun q=>aev env q.2) (by simpa[AZ4,AX0]using u.2);have hrl:=Az5 (n:=n) (L:=parts.toList.map fun q=>(q.1,aev env q.2)) (fun p hp=>by obtain⟨q,hq,rfl⟩:=AU2.1 hp;exact AR4.1 u.2 q hq)
  have hrf:=Az6 (n:=n) (L:=parts.toList.map fun q=>(q.1,aev env q.2)) (fun p hp=>by obtain⟨q,hq,rfl⟩:=AU2.1 hp;exact AR4.1 u.2 q hq)
  simp only[aop,hrl,hrf,hys,w _ hj]at h⊢;split at h
  .split at h
   .rename_i l0 regs0 m0 z0 a3 a4 a5;simp only[AQ2,AR3]at a3;obtain⟨rfl,rfl⟩:=a3;split at h
    .rename_i hc;simp only[AQ2,Out.mk.injEq]at h;obtain⟨rfl,rfl,rfl⟩:=h;refine⟨ins (nid d 0) _ R2,?_,one _ hj⟩;simp only[a4,a5];rw[Ll hc]
    cases h
   cases h
  cases h
 |alloc t=>
  have hj:nid d 0∈js:=by simpa[isA]using u
  simp only[aop,w _ hj]at h⊢;split at h
  .rename_i z h1 h3;split at h
   .rename_i hz;simp only[AQ2,Out.mk.injEq]at h;obtain⟨rfl,rfl,rfl⟩:=h;exact⟨_,by simp only[h1,h3,hz,Lo],one _ hj⟩
   cases h
  cases h
 |box t x=>
  have hj:nid d 0∈js:=by simpa[isA]using u
  simp only[aop,w _ hj]at h⊢;split at h
  .rename_i h1 h3;simp only[AQ2,Out.mk.injEq]at h;obtain⟨rfl,rfl,rfl⟩:=h;exact⟨_,by simp only[h1,h3],one _ hj⟩
  cases h
 |makeMap t r=>cases r with
  |some r=>cases u
  |none=>
   have hj:nid d 0∈js:=by simpa[isA]using u
   simp only[aop,w _ hj]at h⊢;split at h
   .rename_i h1;simp only[AQ2,Out.mk.injEq]at h;obtain⟨rfl,rfl,rfl⟩:=h;exact⟨_,by simp only[h1],one _ hj⟩
   cases h
 |mapEntry t m k=>
  simp only[isA,AQ7]at u;obtain⟨j,hj,hm⟩:=Wm u.1;simp only[aop,hm]at h⊢;split at h
  .rename_i kt e j1 y hk hm2 hy;cases hm2;split at h
   .rename_i es z hes hz;split at h
    .rename_i q h5 h6;simp only[AQ2,Out.mk.injEq]at h;obtain⟨rfl,rfl,rfl⟩:=h;exact⟨_,by simp only[hk,hy,w j hj,hes,hz,h5,h6],one _ hj⟩
    cases h
   cases h
  cases h
 |entryStore t m s x=>
  simp only[isA,AQ7]at u;obtain⟨j,hj,hm⟩:=Wm u.1;obtain⟨xx,hx⟩:∃xx,aev env x=.p xx:=by
   cases hx:aev env x with
   |p xx=>exact⟨xx,rfl⟩
   |_=>rw[hx]at u;cases u.2
  simp only[aop,hm,hx,Eo]at h⊢;split at h
  .rename_i j1 s1 y R1 hm2 hs hy;cases hm2;simp only[AQ2,AR3]at hy;obtain⟨rfl,rfl⟩:=hy;split at h
   .rename_i es hes;simp only[AQ2,Out.mk.injEq]at h;obtain⟨rfl,rfl,rfl⟩:=h;exact⟨_,by simp only[hs,w j hj,hes],one _ hj⟩
   cases h
  cases h
 |store t a x=>
  simp only[isA]at u;simp only[aop]at h⊢;split at h
  .rename_i hs;simp only[AQ2,Out.mk.injEq]at h;obtain⟨rfl,rfl,rfl⟩:=h;obtain⟨i,hi,o,rfl,hs2⟩:=ZI w u hs;exact⟨_,by simp only[hs2],one _ hi⟩
  cases h
 |call cc=>
  obtain⟨callee,args,types⟩:=cc;cases callee with
  |builtin b=>
   cases b with
   |append=>
    simp only[isA,AQ7]at u;have hj:nid d 0∈js:=by simpa using u.1
    have u:=u.2;simp only[aop,w _ hj]at h⊢;split at h
    .rename_i s x t t2 hx ht;simp only[hx,AZ5,Bk2,Be9,AQ7]at u;split at h
     .rename_i e k2 hk1 hk2;split at h
      .rename_i m z hz1 hz2 hz3;split at h
       .rename_i n g l f vw regs1 hn he htk;split at h
        .rename_i hc;simp only[AQ2,Out.mk.injEq]at h;obtain⟨rfl,rfl,rfl⟩:=h;rcases ZH w u.1 htk with⟨h3,h4⟩ | ⟨j,hjj,h3,h4⟩
         .simp only at h3 h4;subst h4;refine⟨ins (nid d 0) (.vec e m (l+n) (Cb l f g) vw) R2,?_,one _ hj⟩;simp only[Sz w u.2,hz1,hz2,hz3,hn,he,h3];rw[Ll hc]
         simp only at h3 h4;subst h4;have h5:=one (i:=j) .dead hjj;refine⟨ins (nid d 0) (.vec e m (l+n) (Cb l f g) vw) (ins j .dead R2),?_,up _ _ hj h5.1 h5.2⟩;simp only[Sz w u.2,hz1,hz2,hz3,hn,he,h3];rw[Ll hc]
        cases h
       split at h
       .rename_i c1 v1 R1 hF;simp only[AQ2,Out.mk.injEq]at h;obtain⟨rfl,rfl,rfl⟩:=h;simp only[Im]at hF;split at hF
        .rename_i j l hs hx';have hjj:j∈js:=by have:=u.1;rw[hs]at this;simpa[inJ]using this
         have hll:l∈js:=by have:=u.2;rw[hx']at this;simpa[inJ]using this
         split at hF
         .rename_i e1 n jr e2 jz y h1 h3 h4;split at hF
          .rename_i hc;simp only[AQ2,AR3]at hF;obtain⟨rfl,rfl,rfl⟩:=hF;have a1:=one (i:=j) .dead hjj;have a2:=up l .dead hll a1.1 a1.2;refine⟨ins (nid d 0) (.fam e (n+1) jr (some (n,y))) (ins l .dead (ins j .dead R2)),?_,up _ _ hj a2.1 a2.2⟩;have el:elems R2 m (.vec l)=none:=by simp only[elems,w l hll,h4]
           simp only[hz1,hz2,hz3,hs,hx',el,h1];simp only[Im,w _ hj,w j hjj,w l hll,h1,h3,h4];rw[Ll hc]
          cases hF
         cases hF
        cases hF
       cases h
      cases h
     cases h
    cases h
   |_=>cases u
  |_=>cases u
 |_=>cases u
theorem Qr {js:List Nat}{R R' : B5}{x:AV}{y:PV}(hx:inJ js x=true)(h:Eo R x=some (y,R')):∀q,q ∉ js->A1 R' q=A1 R q:=by
 intro q a;have up:∀(j:Nat) (o:Obj),j∈js->A1 (ins j o R) q=A1 R q:=fun j o hj=>by rw[Y3,Lm (by rintro rfl;exact a hj)]
 cases x with
 |p x=>simp only[Eo,AQ2,AR3]at h;rw[<- h.2]
 |vec j=>
  have hj:j∈js:=by simpa[inJ]using hx
  simp only[Eo]at h;split at h
  .simp only[AQ2,AR3]at h;rw[<- h.2];exact up _ _ hj
  cases h
 |vecp j m=>
  have hj:j∈js:=by simpa[inJ]using hx
  simp only[Eo]at h;split at h
  .simp only[AQ2,AR3]at h;rw[<- h.2];exact up _ _ hj
  cases h
 |_=>cases hx
theorem SA {js:List Nat}:∀{xs:List AV}{R R' : B5}{l:List PV},(xs.all fun x=>inJ js x)=true->EA R xs=some (l,R')->∀q,q ∉ js->A1 R' q=A1 R q
 |[],R,R',l,_,h,q,_=>by simp only[EA,AQ2,AR3]at h;rw[<- h.2]
 |x::xs,R,R',l,hx,h,q,hq=>by
  simp only[AZ5,AQ7]at hx;simp only[EA]at h;cases h1:Eo R x with
  |none=>simp[h1]at h
  |some p=>
   obtain⟨y,R1⟩:=p;simp only[h1]at h;cases a:EA R1 xs with
   |none=>simp[a]at h
   |some p=>obtain⟨l1,R2⟩:=p;simp only[a,AQ2,AR3]at h;rw[<- h.2,SA hx.2 a q hq,Qr hx.1 h1 q hq]
theorem Ak2 {js:List Nat}{env:Env}{R R' : B5}{d:Nat}{o:Op}{c:List Prop}{v:AV}(a:isB js env d o=true)(h:aop P env R d o=some ⟨c,v,R'⟩):∀q,q ∉ js->A1 R' q=A1 R q:=by
 intro q b;cases o with
 |buildSlice t n parts=>
  simp only[isB,AQ7]at a;have hj:nid d 0∈js:=by simpa using a.1
  have up:∀(R1:B5) (o:Obj),A1 (ins (nid d 0) o R1) q=A1 R1 q:=fun R1 o=>by rw[Y3,Lm (by rintro rfl;exact b hj)]
  simp only[aop]at h;split at h
  .split at h
   .split at h
    .split at h
     .simp only[AQ2,Out.mk.injEq]at h;rw[<- h.2.2];exact up _ _
     cases h
    cases h
   cases h
  split at h
  .split at h
   .split at h
    .split at h
     .simp only[AQ2,Out.mk.injEq]at h;rw[<- h.2.2];exact up _ _
     cases h
    cases h
   cases h
  split at h
  .split at h
   .rename_i f _ _;split at h
    .simp only[AQ2,Out.mk.injEq]at h;rw[<- h.2.2,up];exact SA (by simpa[AZ4,AX0]using a.2) f q b
    cases h
   cases h
  cases h
 |_=>cases a
theorem XS {cl:Cls}{env:Env}{R R' : B5}{d:Nat}{o:Op}{c:List Prop}{v:AV}(f:Az4 cl env d o=true)(h:aop P env R d o=some ⟨c,v,R'⟩):clsF cl (isN env o=true) (R' = R)/\clsX P cl env R d o c v R':=by
 cases cl with
 |n=>exact⟨f,trivial⟩
 |r=>exact⟨Aj7 f h,trivial⟩
 |w=>exact⟨trivial,trivial⟩
 |l j=>exact⟨trivial,Ak0 f h⟩
 |a j=>exact⟨trivial,Ak1 f h⟩
 |b j=>exact⟨trivial,Ak2 f h⟩
variable {kn:List Nat}{all:List Oper}{k:Env->B5->Prop}
theorem Mo:∀(cls:List Cls) (rest:List Oper) (c:List Prop) (env:Env) (regs:B5),D0 (NI P kn all cls rest c env regs).conds ->
 D0 c/\(LD S P all (NI P kn all cls rest c env regs).cls (NI P kn all cls rest c env regs).rest (NI P kn all cls rest c env regs).env (NI P kn all cls rest c env regs).regs k->LD S P all cls rest env regs k)
 |[],[],c,env,regs,h=>⟨h,fun h=>h⟩
 |[],_::_,c,env,regs,h=>⟨h,fun h=>h⟩
 |_::_,[],c,env,regs,h=>⟨h,fun h=>h⟩
 |cl::cls,o::rest,c,env,regs,h=>by
  simp only[NI]at h⊢;cases f:AJ1 kn all env o with
  |true=>simp only[f]at h⊢;exact⟨h,fun h=>h⟩
  |false=>
  simp only[f]at h⊢;cases hg:CY all env o with
  |none=>simp only[hg]at h⊢;exact⟨h,fun h=>h⟩
  |some b=>
   cases b with
   |true=>
    simp only[hg]at h⊢;cases ha:(As6 o.op&&Az4 cl env (o.dst.getD 0) o.op)with
    |false=>simp only[ha]at h⊢;exact⟨h,fun h=>h⟩
    |true=>
     simp only[ha]at h⊢;simp only[AQ7]at ha;cases hp:aop P env regs (o.dst.getD 0) o.op with
     |none=>simp only[hp]at h⊢;exact⟨h,fun h=>h⟩
     |some q=>
      obtain⟨p,v,regs'⟩:=q;simp only[hp,Xt,Ax1,AH7]at h⊢;have fin:∀(env' : Env),env' = NP o.dst v env->(D0 (p++c)/\(LD S P all (NI P kn all cls rest (p++c) env' regs').cls (NI P kn all cls rest (p++c) env' regs').rest (NI P kn all cls rest (p++c) env' regs').env (NI P kn all cls rest (p++c) env' regs').regs k->LD S P all cls rest env' regs' k)) ->
       D0 c/\(LD S P all (NI P kn all cls rest (p++c) env' regs').cls (NI P kn all cls rest (p++c) env' regs').rest (NI P kn all cls rest (p++c) env' regs').env (NI P kn all cls rest (p++c) env' regs').regs k->LD S P all (cl::cls) (o::rest) env regs k):=by
       rintro env' rfl ⟨h1,g⟩;obtain⟨i,j⟩:=(Cd _ _).1 h1;exact⟨i,fun hs=>⟨true,hg,by rw[Ll rfl];exact⟨v,regs', .inl ⟨p,hp,j,XS ha.2 hp⟩,g hs⟩⟩⟩
      cases a:o.dst with
      |some d=>simp only[a,HL]at h⊢;exact fin _ (by simp[a,NP]) (Mo cls rest _ _ _ h)
      |none=>simp only[a]at h⊢;exact fin _ (by simp[a,NP]) (Mo cls rest _ _ _ h)
   |false=>
    simp only[hg]at h⊢;cases a:o.dst with
    |some d=>simp only[a,HL]at h⊢;obtain⟨h1,g⟩:=Mo cls rest _ _ _ h;exact⟨h1,fun hs=>⟨false,hg,by simp only[AR0,Lp,a,NP];exact g hs⟩⟩
    |none=>simp only[a]at h⊢;obtain⟨h1,g⟩:=Mo cls rest _ _ _ h;exact⟨h1,fun hs=>⟨false,hg,by simp only[AR0,Lp,a,NP];exact g hs⟩⟩
theorem s_go {cls cls' : List Cls}{rest rest' : List Oper}{c:List Prop}{env env' : Env}{regs regs' : B5}(h:NI P kn all cls rest [] env regs=⟨c,cls',rest',env',regs'⟩)(hc:D0 c)(hk:LD S P all cls' rest' env' regs' k):LD S P all cls rest env regs k:=by
 have:=Mo (S:=S) (kn:=kn) (k:=k) cls rest [] env regs (by rw[h];exact hc)
 rw[h]at this;exact this.2 hk
theorem s_end {cls:List Cls}{env:Env}{regs:B5}(h:k env regs):LD S P all cls [] env regs k:=by cases cls<;>exact h
theorem AJ2 {cl:Cls}{cls:List Cls}{o:Oper}{rest:List Oper}{env:Env}{regs:B5}{c:Call}{f:Operand}{fn:FuncId}{as' args:List AV}{r:AV}(hg:CY all env o=some true)(a:o.op=.call c)(b:c.callee=.value f)
 (ha:((c.args.toList.map (aev env)).all ZD)=true) (hw:NG env f (c.args.toList.map (aev env))=some (fn,as')) (d:CS [] as' = some args) (g:Ah3 S fn args r)
 (hk:LD S P all cls rest (NP o.dst (unA [] r) env) regs k):LD S P all (cl::cls) (o::rest) env regs k:=
 ⟨true,hg,by rw[Ll rfl];exact⟨_,regs,.inr (.inl ⟨⟨c,f,fn,as',args,r,a,b,ha,hw,d,g,rfl⟩,rfl⟩),hk⟩⟩
theorem LF {m:List Nat}:∀{ids:List Nat}{objs:List Obj}{R:B5}{q:Nat},q ∉ ids->A1 (back m ids objs R) q=A1 R q
 |[],_,R,q,_=>rfl
 |j::ids,[],R,q,_=>rfl
 |j::ids,o::objs,R,q,h=>by simp only[AT9,not_or]at h;show A1 (back m ids objs (ins j (unO m o) R)) q=_;rw[LF h.2,Y3,Lm (AV5 h.1)]
theorem ZJ {cl:Cls}{cls:List Cls}{o:Oper}{rest:List Oper}{env:Env}{regs regs1:B5}{c:Call}{f:Operand}{as:List AV}{fn:FuncId}{as' args:List AV}{objs objs' : List Obj}{ks:List Bool}{r:AV}(ids:List Nat)(a:cl=.w \/ ∃js,cl=.b js/\∀q,q ∉ js->A1 (back (G4 (o.dst.getD 0) ids ks objs'.length) (G4 (o.dst.getD 0) ids ks objs'.length) objs' (M0 ids ks regs1)) q=A1 regs q)(hg:CY all env o=some true)(g:o.op=.call c)(i:c.callee=.value f)
 (ha:Hg regs (c.args.toList.map (aev env))=some (as,regs1)) (hw:NG env f as=some (fn,as')) (j:CS ids as' = some args) (d:J6 ids regs1 ids=some objs) (l:FunO S fn args objs r objs' ks)
 (m:G0 ids=true) (hy:DS objs=true) (hn:Y1 regs1 ids ks (o.dst.getD 0) objs'.length=true)
 (hk:LD S P all cls rest (NP o.dst (unA (G4 (o.dst.getD 0) ids ks objs'.length) r) env) (back (G4 (o.dst.getD 0) ids ks objs'.length) (G4 (o.dst.getD 0) ids ks objs'.length) objs' (M0 ids ks regs1)) k) :
 LD S P all (cl::cls) (o::rest) env regs k:=
 ⟨true,hg,by rw[Ll rfl];exact⟨_,_,.inr (.inr (.inl ⟨a,c,f,as,regs1,fn,as',args,objs,objs',ks,r,ids,g,i,ha,hw,j,d,l,m,hy,hn,rfl,rfl⟩)),hk⟩⟩
theorem Ak3 {cl:Cls}{cls:List Cls}{o:Oper}{rest:List Oper}{env:Env}{regs:B5}{c:List Prop}{x:PV}(hg:CY all env o=some true)(ha:OE P env o.op=some (c,x))(hc:D0 c)
 (hk:LD S P all cls rest (NP o.dst (.p x) env) regs k):LD S P all (cl::cls) (o::rest) env regs k:=
 ⟨true,hg,by rw[Ll rfl];exact⟨_,regs,.inr (.inr (.inr (.inl ⟨c,x,ha,hc,rfl,rfl⟩))),hk⟩⟩
def AP4 (o:Op):Cls:=match o with
 |.buildSlice ..=>.n
 |o=>clsOf o
theorem Ak4 (hS:G8 S P){F:I8}{K:List It}{id:Nat}{ops:Array Oper}{st:St}{cls:List Cls}(a:P.follows .mixedOrders=true)(c:ops.toList.map (fun o=>AP4 o.op)=cls)(b:Mn ops.toList cls=true)
 (h:LD S P ops.toList cls ops.toList st.env st.regs fun env regs=>G S P F (.pop .normal K ⟨env,regs⟩)):G S P F (.code (.region id ops true) K st):=
 ZG hS cls a b h
end
end Go.AM
namespace Go.AM
section
variable {S:W8}{P:Program}{F:I8}{K:List It}{st:St}
theorem JM (hS:G8 S P){f:FuncId}{fn:Func}{code:Code}{args:List AV}{objs:List Obj}{Q:Lz->List Obj->List Bool->Prop}{rs:List ResultVar}(d:P.funcs[f]? = some fn)(hc:fn.body=some code)(hn:args.length<=fn.ntmps)(g:objs.length<1000)
 (a:fn.results.toList=rs) (b:AT fn.ntmps code=true) (c:(fn.name == "runtime.NumGoroutine")=false)
 (h:G S P (Cz S P objs.length rs Q) (.code code [] { env:=argEnv args,regs:=objRegs objs })):S.F f args objs Q:=by
 subst a;exact hS.func f fn code args objs _ d hc c b hn g (hS.refl _ _ h)
theorem Az7 (hS:G8 S P){all rest:List Oper}{o:Oper}{c:Call}{f:Operand}{j:Nat}{xs ys:List PV}{regs:B5}{rest0:List (List PV)}
 (hg:Bs all st.env o=some true) (i:o.op=.call c) (d:c.callee=.value f) (hy:aev st.env f=.yf j) (g:EA st.regs (c.args.toList.map (aev st.env))=some (xs,regs))
 (l:A1 regs j=some (.yld (ys::rest0) true)) (a:Dn j regs=true) (hle:Aw9 xs ys)
 (hk:∀b:Bool,G S P F (.ops all rest K (put { st with regs:=ins j (.yld (if b then rest0 else []) b) regs } o.dst (.p (.bb b))))):G S P F (.ops all (o::rest) K st):=by
 refine Bz hS hg ?_;unfold wOp;obtain⟨callee,cargs,types⟩:=c;simp only at d g;subst d;rw[i];exact .inr (.inl ⟨j,xs,regs,ys,rest0,hy,g,l,a,hle,hk⟩)
theorem Ak5 (hS:G8 S P){all rest:List Oper}{o:Oper}{c:Call}{rv:Operand}{m:String}{as:List AV}{regs:B5}{t:TypeId}{y:PV}{fn:FuncId}{args:List AV}{r:AV}
 (hg:Bs all st.env o=some true) (d:o.op=.call c) (b:c.callee=.invoke rv m) (ha:Hg st.regs (c.args.toList.map (aev st.env))=some (as,regs)) (a:aev st.env rv=.p (.iface t y)) (hm:RQ P t m=some fn)
 (f:CS [] (.p y::as)=some args) (g:Ah3 S fn args r)
 (hk:G S P F (.ops all rest K (put { env:=st.env,regs:=regs } o.dst (unA [] r)))):G S P F (.ops all (o::rest) K st):=by
 refine Bz hS hg ?_;unfold wOp;obtain⟨callee,cargs,types⟩:=c;simp only at b ha;subst b;rw[d];refine⟨as,regs,t,y,fn,ha,a,hm,[],args,[],rfl,f,rfl,rfl,hS.monoF _ _ _ _ _ ?_ g⟩;rintro _ _ _ ⟨rfl,rfl,rfl⟩;exact⟨rfl,hk⟩
theorem Az8 (hS:G8 S P){all rest:List Oper}{o:Oper}{x:Operand}{t:TypeId}{y:PV}(hg:Bs all st.env o=some true)(a:o.op=.panic x)(hx:aev st.env x=.p (.iface t y))(hk:G S P F (.pop (.panic (.iface t y)) K st)):G S P F (.ops all (o::rest) K st):=by refine Bz hS hg ?_;unfold wOp;rw[a];exact⟨t,y,hx,hk⟩
def Dh (S:W8)(f:FuncId)(first caps:List AV)(objs:List Obj)(L:List (List PV)):Prop:= S.F f (first ++ .yf objs.length::caps) (objs++[.yld L true]) fun r objs' ks=>∃b,objs'[objs.length]? = some (.yld [] b)/\ks[objs.length]? = some true/\∃a,r=.ret a
def BC (S:W8)(P:Program)(body:Code)(gh:Nat)(ts:List Nat)(next:St->Prop)(Q:I8):I8
 |.normal,s=>S.up s fun s=>awp S P body (Fe S gh ts next Q) s
 |_,_=>False
theorem G_asg (hS:G8 S P){body:Code}{gh:Nat}{ts:List Nat}{next:St->Prop}{Q:I8}(h:G S P (Fe S gh ts next Q) (.code body [] st)):G S P (BC S P body gh ts next Q) (.pop .normal [] st):=
 hS.refl _ _ h
def Wn {X:Type}(s:X->St)(J:List (List PV)->X->Prop)(rest:List (List PV))(t:St):Prop:=∃x,t=s x/\J rest x
theorem ZK (hS:G8 S P){g:Operand}{ps:Array Tmp}{asg body:Code}{f:FuncId}{first caps as bs:List AV}{objs:List Obj}(ids ts:List Nat)(gh:Nat)(L:List (List PV)){X:Type}(s:X->St)(J:List (List PV)->X->Prop)(x0:X)(idl:List (Nat×Nat))
 (hp:Er st.env g=some (f,first,caps)) (m:∃fn,P.funcs[f]? = some fn/\fn.body.isSome=true/\(fn.name == "runtime.NumGoroutine")=false) (n:J6 ids st.regs ids=some objs) (q:DS objs=true) (hd:G0 ids=true) (t:CS ids first=some as) (u:CS ids caps=some bs) (v:objs.length=ids.length)
 (w:gh<1000) (y:A1 st.regs gh=none) (z:ids.length<1000) (a0:G0 ts=true) (d:∀ys∈L,Ah ys=some ps.size)
 (hF:Dh S f as bs objs L) (hle:Le idl ⟨S5 ts (ts.map (get st.env)),M0 ids (ids.map fun _=>false) st.regs⟩ (s x0)) (h0:J L x0) (hk:∀x,(s x).env.map (·.1)=ts) (hn:∀x,A1 (s x).regs gh=none)
 (c:∀ys rest x,J (ys::rest) x->G S P (BC S P body gh ts (Wn s J rest) (kp S P K F)) (.code asg [] ⟨Lf ps.toList ys (s x).env,ins gh (.ghost ((s x).env.map (·.2))) (s x).regs⟩))
 (i:∀x,J [] x->G S P F (.pop .normal K (s x))):G S P F (.code (.rangeFunc g ps asg body) K st):=by
 have j:∀{l:List Nat},G0 l=true->l.Nodup:=by
  intro l
  induction l with
  |nil=>intro _;exact AX5
  |cons a r ih=>intro h;simp only[G0,AQ7,AS7,AU6,decide_eq_false_iff_not]at h;exact AW0.2 ⟨h.1,ih h.2⟩
 refine⟨f,first,caps,as,bs,objs,ids,ts,gh,none,L,Wn s J,fun _ r=>∃a,r=.ret a,hp,m,q,hd,t,u,n,w,y,z,j a0,d,hS.le idl _ _ _ hle ⟨hk x0,hn x0,x0,rfl,h0⟩,?_,?_,?_⟩
 .rintro ys rest _ _ _ ⟨x,rfl,hJ⟩;have h:=c ys rest x hJ;have e:BC S P body gh ts (Wn s J rest) (kp S P K F)=fun e s'=>match e with
   |.normal=>S.up s' fun s'=>awp S P body (Fe S gh ts (Wn s J rest) (kp S P K F)) s'
   |_=>False:=by funext e s';cases e<;>rfl
  rw[e]at h;exact h
 .rintro _ r _ _ ⟨x,rfl,hJ⟩ ⟨a,rfl⟩;exact i x hJ
 rw[<- v];refine hS.monoF _ _ _ _ _ ?_ hF;rintro r o ks ⟨b,h1,h2,h3⟩;exact⟨b,h1,h2,h3,fun _=>h3⟩
theorem UC (hS:G8 S P){gh:Nat}{ts:List Nat}{X:Type}{s:X->St}{J:List (List PV)->X->Prop}{rest:List (List PV)}{Q:I8}(st1:St){cs:List AV}(x:X)(idl:List (Nat×Nat))(hle:Le idl st st1)(hg:A1 st1.regs gh=some (.ghost cs))(hl:cs.length=ts.length)(a:A1 (del gh st1.regs) gh=none)
 (b:(⟨S5 ts cs,del gh st1.regs⟩:St)=s x) (c:J rest x):G S P (Fe S gh ts (Wn s J rest) Q) (.pop .normal [] st):=
 hS.le idl _ _ _ hle ⟨cs,hg,hl,a,x,b,c⟩
theorem Wo (hS:G8 S P){gh:Nat}{ts:List Nat}{next:St->Prop}{e:Hf}(b:match e with | .normal | .panic _=>False|_=>True)(st1:St){cs:List AV}(idl:List (Nat×Nat))(hle:Le idl st st1)(hg:A1 st1.regs gh=some (.ghost cs))(hl:cs.length=ts.length)(a:A1 (del gh st1.regs) gh=none)
 (hk:G S P F (.pop e K ⟨S5 ts cs,del gh st1.regs⟩)):G S P (Fe S gh ts next (kp S P K F)) (.pop e [] st):=by
 cases e with
 |normal=>exact b.elim
 |panic x=>exact b.elim
 |exit id=>exact hS.le idl _ _ _ hle ⟨cs,hg,hl,a,hk⟩
 |goto t=>exact hS.le idl _ _ _ hle ⟨cs,hg,hl,a,hk⟩
 |ret=>exact hS.le idl _ _ _ hle ⟨cs,hg,hl,a,hk⟩
end
end Go.AM
namespace Go.AM
def Qs {n:Nat}(h:n<2 ^ 32):IntKind.u32.wrap (n:Int)=n:=by have h1:((n:Int) % (2 ^ 32:Int))=n:=Ba5 (by omega) (by omega);unfold IntKind.wrap;simp only[IntKind.bits,IntKind.signed,h1,Bb4,AR0,Lp]
abbrev u32 (x:BitVec 32):PV:=.v (.int .u32 x.toNat)
def HT (x:BitVec 32):BitVec.ofInt 32 (x.toNat:Int)=x:=by
 apply AV0;rw[Bj3]
 have:=x.isLt
 omega
def Fl (x y:BitVec 32):G7 .and .u32 x.toNat y.toNat=((x &&& y).toNat:Int):=by simp only[G7,IntKind.bits,HT];exact Qs (x &&& y).isLt
def KK (x y:BitVec 32):G7 .or .u32 x.toNat y.toNat=((x ||| y).toNat:Int):=by simp only[G7,IntKind.bits,HT];exact Qs (x ||| y).isLt
def EJ (x y:BitVec 32):G7 .andNot .u32 x.toNat y.toNat=((x &&& ~~~ y).toNat:Int):=by simp only[G7,IntKind.bits,HT];exact Qs (x &&& ~~~ y).isLt
def At5 (x:BitVec 32)(n:Nat):shI .shr .u32 x.toNat n=((x >>> n).toNat:Int):=by
 simp only[shI,IntKind.bits,AQ4];have hx:=x.isLt;rw[Bd0,Bc4];have e:((2:Int) ^ (min n 32))=((2 ^ (min n 32):Nat):Int):=by norm_cast
 rw[e,Bf5 _ (Bj4 _),<- Int.natCast_ediv];congr 1;by_cases h:n<=32
 .rw[AY1 h]
 rw[Be3 (by omega),AY8 hx,AY8];exact AT0 hx (Ba1 (by omega) (by omega))
def AJ3 (x:BitVec 32)(n:Nat):shI .shl .u32 x.toNat n=((x <<< n).toNat:Int):=by
 simp only[shI,IntKind.bits,AQ4];rw[Bh0,Nat.shiftLeft_eq];unfold IntKind.wrap;simp only[IntKind.bits,IntKind.signed,Bb4,AR0,Lp];by_cases h:n<=32
 .rw[AY1 h]
  norm_cast
 rw[Be3 (by omega)];have h1:x.toNat*2 ^ n % 2 ^ 32=0:=by obtain⟨d,rfl⟩:∃d,n=32+d:=⟨n-32,by omega⟩;rw[Nat.pow_add,<- Nat.mul_assoc,Nat.mul_right_comm,Nat.mul_mod_left]
 have a:x.toNat*2 ^ 32 % 2 ^ 32=0:=Nat.mul_mod_left _ _;rw[h1];simp
end Go.AM
namespace Go.AM
def Hv {P:Program}{f:FuncId}{args:List PV}{r:AV}(c:∀as w,(callFunc f as).run P w=.ok (.enter f as) w)
 (h:∀(w:World) (Pi:Nat->Nat->Prop) (vs:Array Value),TabOk P w Pi->(∀b off,Pi b off->b<w.heap.size)->vs.size=args.length->(∀i,i<args.length->RepP w Pi (vs.getD i undef) (args.getD i default)) ->
  Calls P f vs w fun e w'=>∃v,e=.returned v/\RowKit.Below w.heap.size w w' /\ ∀live rho,RepA w' Pi live rho v r):Ah3 (Ga P) f (args.map .p) r:=by
 intro 𝒢 C w vs rho n hs g;have q:=h w (Prv C.X (A1 (objRegs [])) rho) vs ((𝒢.tab C n).keeps hs.keep) (fun b off hp=>by
  rcases hp with hp|⟨j,o,hj,_⟩
  .exact hs.hp.bound b off hp
  .simp[objRegs,objRegs.go,A1]at hj) (by simpa using g) (fun i l=>by
  have:=hs.env i
  rw[Ak]at this;have e:(args.map AV.p).getD i .top=.p (args.getD i default):=by simp[l]
  rw[e]at this;exact this.toP)
 refine⟨_,_,c _ _,callsIn_wide.2 (q.mono ?_)⟩;rintro e w' ⟨v,rfl,hb,s⟩;have hk:Keeps w (Prv C.X (A1 (objRegs [])) rho) w' (Prv C.X (A1 (objRegs [])) rho):=fun b o v hp hc=>⟨by rw[<- hc];exact AV4 (hb.block b (AY9 w ⟨b,o,none⟩ hc)),hp⟩
 refine⟨C,.ret r,[],[],rho,n,⟨rfl,rfl,rfl⟩,?_,⟨v,rfl,s _ _⟩,fun i l=>by simp at l⟩;have a:∀j,A1 (objRegs []) j=none:=fun j=>by simp[objRegs,objRegs.go,A1]
 refine⟨⟨fun j o hj=>by simp[a]at hj,fun i j oi oj b hj=>by simp[a]at hj,fun j o b off hj=>by simp[a]at hj,fun b off hp=>AT0 (hs.hp.bound b off hp) hb.size⟩,hs.ext.trans ⟨hb.os,hb.output⟩,AW5 hs.size hb.size,fun b d t=>?_,hs.keep.trans hk,fun b m=>?_,fun j r b hj=>by simp[a]at hj⟩
 .rw[hb.block b (AT0 d hs.size)];exact hs.same b d t
 obtain⟨j,o,hj,_⟩:=m;simp[a]at hj
def Qt {P:Program}{f:FuncId}{args:List PV}{r:AV}(a:∀as w,(callFunc f as).run P w=.ok (.enter f as) w)
 (h:∀(w:World) (Pi:Nat->Nat->Prop) (vs:Array Value),(∀b off,Pi b off->b<w.heap.size)->vs.size=args.length->(∀i,i<args.length->RepP w Pi (vs.getD i undef) (args.getD i default)) ->
  Calls P f vs w fun e w'=>∃v,e=.returned v/\RowKit.Below w.heap.size w w' /\ ∀live rho,RepA w' Pi live rho v r):Ah3 (Ga P) f (args.map .p) r:=
 Hv a fun w Pi vs _=>h w Pi vs
end Go.AM
namespace Go.AM
open Go.RowKit Go.ChangeShapes
def AP5 (W:World):Ctx:={ X:=fun _ _=>False,w0:=W,E0:=fun _=>False,Pi0:=fun _ _=>False,rho0:=fun _=>undef,Y:=fun _ _=>False,yv:=undef }
theorem Az9 {W:World}{vs:Array Value}{args:List PV}(f:vs.size=args.length)(g:∀i,i<args.length->RepP W (fun _ _=>False) (vs.getD i undef) (args.getD i default)) :Sat (AP5 W) ⟨argEnv (args.map .p),objRegs []⟩ ⟨vs,[]⟩ W (fun _=>undef):=by
 have a:∀j,A1 (objRegs []) j=none:=fun j=>by simp[objRegs,objRegs.go,A1]
 have c:∀b o,¬Prv (AP5 W).X (A1 (objRegs [])) (fun _=>undef) b o:=fun b o h=>by
  rcases h with h|⟨j,o',hj,_⟩
  .exact h
  simp[a]at hj
 refine⟨⟨⟨fun j o hj=>by simp[a]at hj,fun i j oi oj b hj=>by simp[a]at hj,fun j o b off hj=>by simp[a]at hj,fun b off hp=>hp.elim⟩,Ext.refl _,AQ8 _,fun _ _ _=>rfl,fun b o v _ hc=>⟨hc,c b o⟩,fun b hb=>?_,fun j r b hj=>by simp[a]at hj⟩,fun t=>?_,fun j _ hl=>?_,AX5,fun d l=>by cases l⟩
 .obtain⟨j,o,hj,_⟩:=hb;simp[a]at hj
 .show RepA W _ _ _ (vs.getD t undef) (get (argEnv (args.map .p)) t);rw[Ak];by_cases ht:t<args.length
  .have e:(args.map AV.p).getD t .top=.p (args.getD t default):=by simp[ht]
   rw[e];exact .p _ _ ((g t ht).keeps fun b o v _ hc=>⟨hc,c b o⟩)
  have e:(args.map AV.p).getD t .top=.top:=by simp[Bb2 ht]
  rw[e];exact .top _
 obtain⟨o,m⟩:=hl
structure AJ4 (W w' : World):Prop where
 os:w'.os=W.os
 output:w'.output=W.output
 size:W.heap.size<=w'.heap.size
 block:∀b,b<W.heap.size->w'.heap[b]? = W.heap[b]?
theorem PO {P:Program}{f:FuncId}{args:List PV}(a:∀as w,(callFunc f as).run P w=.ok (.enter f as) w)(h:Ah3 (Ga P) f (args.map .p) (.p (.bb true)))
 {W:World}{vs:Array Value}(g:TabOk P W fun _ _=>False) (c:vs.size=args.length) (j:∀i,i<args.length->RepP W (fun _ _=>False) (vs.getD i undef) (args.getD i default)) :
 Calls P f vs W fun e w'=>e=.returned (.bool true)/\AJ4 W w':=by
 obtain⟨nx,w1,h1,l⟩:=h (Prot.triv P (AP5 W) (fun _ _ h=>h) g) (AP5 W) W vs _ rfl (Az9 c j) (by simpa using c);rw[a]at h1;cases h1;refine (callsIn_wide.1 l).mono ?_;rintro e w' ⟨C',r,objs',ks,rho',rfl,⟨rfl,rfl,rfl⟩,d,⟨v,rfl,m⟩,_⟩;cases m with
 |p _ _ hp=>cases hp;exact⟨rfl,d.ext.1,d.ext.2,d.size,fun b hb=>d.same b hb fun h=>h⟩
section
variable {H:Type}{enc:TypeId×Value->H}{P:Program}
theorem Ak6 {W w' : World}(h:AJ4 W w')(may:MemPlace->Prop):W.keptBut w' may:=by
 refine⟨h.os,h.output,fun i a=>?_⟩;rw[h.block i a];generalize W.heap[i]? = o;cases o with
 |none=>trivial
 |some o=>cases o<;>first|exact⟨rfl,rfl,rfl,fun _ _=>rfl⟩ | exact .inr ⟨rfl,rfl⟩ | rfl
theorem ZL {W w' : World}(h:AJ4 W w'){p:MemPlace}(hp:p.block<W.heap.size):W.sameAt w' p:=by have hb:RowKit.Below W.heap.size W { w' with tape:=W.tape }:=⟨h.os,rfl,h.output,h.size,fun k hk=>h.block k hk⟩;exact hb.same hp
theorem KL {W w' : World}(hk:AJ4 W w')(hl:laidOutB P=true){sp:Nat->Bool}:∀{ts:List TypeId}{vs:List Value}{ds:List (DataW H)}{ps:List MemPlace},(∀t∈ts,P.readableRec t=true/\t<P.types.size) ->
 (∀p∈ps,p.block<W.heap.size)->(∀p∈ps,sp p.block=true)->DataW.TrodAll enc P W 0 (fun _=>true) true ts vs ds ps->DataW.TrodAll enc P w' 0 sp true ts vs ds ps
 |[],[],[],_,_,_,_,h=>h
 |t::ts,v::vs,d::ds,_,hr,hlt,hs,⟨p,q,h1,h2,e⟩=>by subst e;refine⟨p,q,?_,KL hk hl (fun t ht=>hr t (AT9.2 (.inr ht))) (fun x hx=>hlt x (AS0 _ hx)) (fun x hx=>hs x (AS0 _ hx)) h2,rfl⟩;exact WideElems.Trod_stays hl (hr t (by simp)).1 (hr t (by simp)).2 h1 (fun x hx=>ZL hk (hlt x (AT3 _ hx))) (fun x hx=>hs x (AT3 _ hx))
theorem Ag5 {f:Func}{s:ChangeSpec}{tb:TypeId}{W W' : World}{args:Array Value}{ds gs:List (DataW H)}{before:List MemPlace}(a:s.vars=[])(hres:f.resultTypes = #[tb])(i:P.underlying tb=some .bool)(hl:laidOutB P=true)
 (d:∀t∈f.params.toList,P.readableRec t=true/\t<P.types.size) (o:DataW.Whole enc P f.params.toList s.vars false W args.toList ds gs before)
 (g:s.fn H ds={ results:=[.lit (.bool true)],args:=ds,vars:=[] }) (hk:AJ4 W W'):s.post enc P f false true false false W args (.bool true) W':=by
 have c:∀p∈before,p.block<W.heap.size:=fun p hp=>o.lt p hp;have j:=o;obtain⟨p,q,v,r,rfl,w,hn⟩:=o;rw[a]at r;obtain⟨rfl,rfl⟩:=trodVars_none r;simp only[Ba3]at c j;have l : ∀sp:Nat->Bool,(∀x∈p,sp x.block=true)->DataW.TrodAll enc P W' 0 sp true f.params.toList args.toList (s.fn H (ds++[])).args p:=fun sp hsp=>by rw[Ba3,g];exact KL hk hl d c hsp v
 have hR:∀(b:Nat) (sp:Nat->Bool) (u:Bool),DataW.TrodAll enc P W' b sp u f.resultTypes.toList ((Value.bool true).resultList f.resultTypes.size) (s.fn H (ds++[])).results []:=fun b sp u=>by rw[Ba3,g,hres];exact⟨[],[],shut_bool i _,rfl,rfl⟩
 have m : ∀sp:Nat->Bool,DataW.TrodVars enc P W' sp s.vars (s.fn H (ds++[])).vars []:=fun sp=>by rw[Ba3,g,a];rfl
 refine⟨ds,[],p,[],p,[],j,hR _ _ _,l _ (fun x hx=>by simpa using c x hx),m _,Ak6 hk _,fun _=>?_⟩;refine⟨ok_one hres rfl (by simp[Value.okWide,i,Cell.okWide,Cell.ok]),_,_,([]++p)++[],⟨[]++p,[],trodAll_append (l _ fun _ _=>rfl) (hR _ _ _),m _,rfl,?_,?_⟩,?_⟩
 .intro b off hp;have n : MemPlace.cell b off∈p:=by simpa using hp
  have:=w b off (by simpa using n)
  have hb:=c _ n;simp only[MemPlace.block]at hb;simp only[World.frozen?,hk.block b hb]at this⊢;exact this
 .intro ha
  have:=hn ha
  simpa using this
 intro p' hp _;simpa using hp
end
end Go.AM
namespace Go.AM
open Go.RowKit Go.ChangeShapes Go.Deep
def Ue (l:List Nat):Nat:=l.foldr (· + ·) 0
theorem SB (a:Nat)(l:List Nat):Ue (a::l)=a+Ue l:=rfl
structure Bulk {H:Type}(B:DataW H->Nat):Prop where
 int:∀k n,1<=B (.lit (.int k n))
 bool:∀b,1<=B (.lit (.bool b))
 str:∀l,l.length+1<=B (.lit (.string l))
 nil:1<=B .nil
 slice:∀es sp,Ue (es.map B)+1<=B (.slice es sp)
 agg:∀ps,Ue (ps.map B)+1<=B (.agg ps)
mutual
inductive HU (P:Program):Nat->TypeId->List PV->Prop
 |int {m:Nat}{t:TypeId}{k:IntKind}{n:Int}(ht:P.underlying t=some (.int k)) (hw:(Lit.int k n).wf=true) (hm:1<=m):HU P m t [.v (.int k n)]
 |bool {m:Nat}{t:TypeId}{b:Bool}(ht:P.underlying t=some .bool) (hm:1<=m):HU P m t [.bb b]
 |str {m:Nat}{t:TypeId}{l:List UInt8}(ht:P.underlying t=some .string) (hm:l.length+1<=m):HU P m t [.str l]
 |slice {m:Nat}{t e:TypeId}{n:Nat}{f:Nat->List PV}(ms:Nat->Nat) (ht:P.underlying t=some (.slice e)) (hl:∀i,i<n->(f i).length=P.cellsOf e) (h:∀i,i<n->HU P (ms i) e (f i))
  (hm:Ue ((List.range n).map ms)+1<=m):HU P m t [.sl false (P.cellsOf e) n f]
 |arr {m m' : Nat}{t e:TypeId}{n:Nat}{pvs:List PV}(ht:P.underlying t=some (.array n e)) (h:Gh P m (List.replicate n e) pvs) (hm:m+1<=m'):HU P m' t pvs
 |struct {m m' : Nat}{t:TypeId}{fs:Array Field}{pvs:List PV}(ht:P.underlying t=some (.struct fs)) (h:Gh P m (fs.toList.map (·.type)) pvs) (hm:m+1<=m'):HU P m' t pvs
inductive Gh (P:Program):Nat->List TypeId->List PV->Prop
 |nil {m:Nat}:Gh P m [] []
 |cons {a b m:Nat}{t:TypeId}{ts:List TypeId}{p q:List PV}(h:HU P a t p) (h' : Gh P b ts q) (hm:a+b<=m):Gh P m (t::ts) (p++q)
end
def CRep (W:World)(cs:List Value)(pvs:List PV):Prop:= cs.length=pvs.length/\∀i,i<pvs.length->RepP W (fun _ _=>False) (cs.getD i undef) (pvs.getD i default)/\(cs.getD i undef).oneCell' = true
theorem SD {α : Type}(a b:List α)(d : α){i:Nat}(h:i<a.length):(a++b).getD i d=a.getD i d:=by simp[AQ1,AW4 h]
theorem SF {α : Type}(a b:List α)(d : α){i:Nat}(h:a.length<=i):(a++b).getD i d=b.getD (i-a.length) d:=by simp[AQ1,Bc1 h]
theorem CRep.append {W:World}{a b:List Value}{p q:List PV}(h:CRep W a p)(h' : CRep W b q):CRep W (a++b) (p++q):=by
 refine⟨by simp[h.1,h'.1],fun i f=>?_⟩;by_cases c:i<p.length
 .rw[SD _ _ _ (by rw[h.1];exact c),SD _ _ _ c];exact h.2 i c
 have d : i-p.length<q.length:=by simp at f;omega
 rw[SF _ _ _ (by rw[h.1];omega),SF _ _ _ (by omega),h.1];exact h'.2 _ d
theorem CRep.one {W:World}{v:Value}{x:PV}(h:RepP W (fun _ _=>False) v x)(h1:v.oneCell' = true):CRep W [v] [x]:=by
 refine⟨rfl,fun i a=>?_⟩;obtain rfl:i=0:=by simpa using a
 exact⟨h,h1⟩
def Ar7 (P:Program)(T:List TypeId):Bool:=T.all fun t=>match P.underlying t with
 |some (.int _)|some .bool|some .string=>true
 |some (.slice e)=>T.contains e&&decide (0<P.cellsOf e)
 |some (.array _ e)=>T.contains e
 |some (.struct fs)=>fs.toList.all fun f=>T.contains f.type
 |_=>false
section
variable {H:Type}{enc:TypeId×Value->H}{P:Program}{W:World}
theorem Pe {B:DataW H->Nat}{r:TypeId->List Value->Option (DataW H×List MemPlace)}(T:TypeId->Prop)
 (ih:∀t cs x,T t->r t cs=some x->∃pvs,CRep W cs pvs/\HU P (B x.1) t pvs) :
 ∀(fs:List Field) (xs:List (DataW H×List MemPlace)) (cs:List Value) (base:Nat),(∀f∈fs,T f.type)->cs.length=(fs.map fun f=>P.cellsOf f.type).sum ->
  (∀(j:Nat) f,fs[j]? = some f->f.offset=base+((fs.take j).map fun f=>P.cellsOf f.type).sum)->xs.length=fs.length ->
  (∀(i:Nat) f,fs[i]? = some f->r f.type ((cs.drop (f.offset-base)).take (P.cellsOf f.type))=xs[i]?) ->
  ∃pvs,CRep W cs pvs/\Gh P (Ue (xs.map fun x=>B x.1)) (fs.map (·.type)) pvs
 |[],xs,cs,base,_,hl,_,hx,_=>by obtain rfl:xs=[]:=AV6 hx;obtain rfl:cs=[]:=AV6 (by simpa using hl);exact⟨[],⟨rfl,fun i l=>Ln l (by simp)⟩,.nil⟩
 |f::fs,xs,cs,base,hT,hl,ho,hx,hr=>by
  cases xs with
  |nil=>simp at hx
  |cons x xs=>
   have d:=ho 0 f rfl;simp only[Bf8,AY3,List.sum_nil,AX6]at d;have a:=hr 0 f rfl;rw[d,Nat.sub_self,Bf9]at a;obtain⟨p,hp,hs⟩:=ih _ _ _ (hT f (by simp)) a;simp only[AR9,Bj5]at hl;obtain⟨q,m,b⟩:=Pe T ih fs xs (cs.drop (P.cellsOf f.type)) (base+P.cellsOf f.type) (fun g hg=>hT g (by simp[hg])) (by simp[hl])
    (fun j g hg=>by
     have:=ho (j+1) g (by simpa using hg)
     simp only[Bb0,AR9,Bj5]at this;omega) (by simpa using hx)
    (fun i g hg=>by
     have:=hr (i+1) g (by simpa using hg)
     have c:=ho (i+1) g (by simpa using hg);simp only[Bb0,AR9,Bj5]at c;rw[Bc3,show P.cellsOf f.type+(g.offset-(base+P.cellsOf f.type))=g.offset-base by omega];simpa using this)
   refine⟨p++q,?_,.cons hs b (AQ8 _)⟩
   have:=hp.append m
   rwa [Bb8]at this
theorem Wp {B:DataW H->Nat}{r:TypeId->List Value->Option (DataW H×List MemPlace)}{e:TypeId}(ih:∀cs x,r e cs=some x->∃pvs,CRep W cs pvs/\HU P (B x.1) e pvs) :∀(n:Nat) (xs:List (DataW H×List MemPlace)) (cs:List Value),cs.length=n*P.cellsOf e->xs.length=n->(∀i,i<n->r e ((cs.drop (i*P.cellsOf e)).take (P.cellsOf e))=xs[i]?) ->
  ∃pvs,CRep W cs pvs/\Gh P (Ue (xs.map fun x=>B x.1)) (List.replicate n e) pvs
 |0,xs,cs,hl,hx,_=>by obtain rfl:xs=[]:=AV6 hx;obtain rfl:cs=[]:=AV6 (by simpa using hl);exact⟨[],⟨rfl,fun i c=>Ln c (by simp)⟩,.nil⟩
 |n+1,xs,cs,hl,hx,hr=>by
  cases xs with
  |nil=>simp at hx
  |cons x xs=>
   have a:=hr 0 (by omega);rw[Nat.zero_mul,Bf9]at a;obtain⟨p,hp,hs⟩:=ih _ _ a;rw[Be1]at hl;obtain⟨q,d,b⟩:=Wp ih n xs (cs.drop (P.cellsOf e)) (by simp[hl]) (by simpa using hx) (fun i c=>by
    have:=hr (i+1) (by omega)
    rw[Bc3,show P.cellsOf e+i*P.cellsOf e=(i+1)*P.cellsOf e by rw[Be1];omega];simpa using this)
   refine⟨p++q,?_,.cons hs b (AQ8 _)⟩
   have:=hp.append d
   rwa [Bb8]at this
theorem JB (K:Kids P (· < P.types.size)){B:DataW H->Nat}(o:Bulk B){T:List TypeId}(hT:Ar7 P T=true)(a0:∀t∈T,t<P.types.size):∀(fuel:Nat) (t:TypeId) (cs:List Value) (x:DataW H×List MemPlace),t∈T ->
 DataW.trod enc P W 0 (fun _=>true) true fuel t cs=some x->∃pvs,CRep W cs pvs/\HU P (B x.1) t pvs:=by
 intro fuel
 induction fuel with
 |zero=>intro t cs x _ h;simp[DataW.trod]at h
 |succ n ih=>
  intro t cs x ht h;have hp:=AR4.1 hT t ht;cases c:P.underlying t with
  |none=>simp[c]at hp
  |some d=>
   cases d with
   |bool=>obtain⟨b,rfl,rfl⟩:=DataW.trod_bool c h;exact⟨[.bb b],.one (.bb b) rfl,.bool c (o.bool b)⟩
   |int k=>obtain⟨m,rfl,rfl,hw⟩:=DataW.trod_int c h;exact⟨[.v (.int k m)],.one (.v _) rfl,.int c hw (o.int _ _)⟩
   |string=>
    obtain⟨s,rfl,rfl,_⟩:=DataW.trod_string c h;refine⟨[.str s.data.toList],.one ?_ rfl,.str c (o.str _)⟩
    have:=RepP.str (w:=W) (Pi:=fun _ _=>False) s.data.toList
    simpa using this
   |slice e=>
    simp only[c,AQ7,AU6,decide_eq_true_eq]at hp;obtain⟨hpe,hpk⟩:=hp;rcases DataW.trod_slice c h with⟨rfl,rfl⟩ | ⟨a,len,cap,elems,rest,n',hn,rfl,rfl,_,a1,_,hel,a2,_⟩
    .exact⟨[.sl false (P.cellsOf e) 0 fun _=>[]],.one (.slnil _ _) rfl,.slice (fun _=>0) c (fun i g=>Ln g (by omega)) (fun i g=>Ln g (by omega)) (by simpa[Ue]using o.nil)⟩
    obtain rfl:n' = n:=by omega
    have each:∀i,i<len->∃z:List PV×(Nat×(Nat->Value)),z.1.length=P.cellsOf e/\HU P z.2.1 e z.1/\z.2.1=B (elems.getD i (.nil,[])).1 /\
     ∀j,j<P.cellsOf e->W.cell? ((a.add (i*P.cellsOf e)).add j)=some (z.2.2 j)/\RepP W (fun _ _=>False) (z.2.2 j) (z.1.getD j default)/\(z.2.2 j).oneCell' = true:=by
     intro i g;have hk:=a2 i g;have a3 : i<elems.length:=by omega
     rw[AQ5 a3]at hk;obtain⟨cs',h1,y⟩:=AZ0.1 hk;obtain⟨pvs,hc,hs⟩:=ih _ _ _ hpe y;obtain⟨_,q,u⟩:=World.cells?_some h1;refine⟨(pvs,(_,fun j=>cs'.getD j undef)),by rw[<- hc.1,q],hs,?_,fun j hj=>⟨?_,(hc.2 j (by rw[<- hc.1,q];exact hj)).1,(hc.2 j (by rw[<- hc.1,q];exact hj)).2⟩⟩
     .simp[AQ1,AQ5 a3]
     rw[u j hj];simp[AQ5 (show j<cs'.length by omega)]
    obtain⟨z,l⟩:=choose_lt (α:=List PV×(Nat×(Nat->Value))) each;obtain⟨b,off,sp⟩:=a;have hsp:0<len->sp=none:=fun h0=>by
     have:=((l 0 h0).2.2.2 0 hpk).1
     simpa[Addr.add]using World.cell?_spot this
    refine⟨[.sl false (P.cellsOf e) len fun i=>(z i).1],.one (.sl false b off cap (P.cellsOf e) len _ (fun i j=>(z i).2.2 j) a1 (fun i g=>(l i g).1) (fun i j g hj=>?_) (fun i j g hj=>((l i g).2.2.2 j hj).2.1) sp hsp) rfl,
     .slice (fun i=>(z i).2.1) c (fun i g=>(l i g).1) (fun i g=>(l i g).2.1) ?_⟩
    .have:=((l i g).2.2.2 j hj).1
     obtain rfl:=hsp (by omega);refine⟨?_,fun h=>h,((l i g).2.2.2 j hj).2.2⟩;rw[<- this,Bi5,Bi5]
    refine AW5 (Nat.succ_le_succ (Nat.le_of_eq (congrArg Ue ?_))) (o.slice (elems.map (·.1)) (rest.map (·.1)));apply List.ext_getElem
    .simp[hel]
    intro i h1 y;simp only[AU1,List.length_range]at h1
    have:=(l i h1).2.2.1
    simp only[List.getElem_map,Bj6,this];simp[AQ1,AQ5 (show i<elems.length by omega)]
   |array k e=>
    simp only[c,AU6,decide_eq_true_eq]at hp;obtain⟨xs,n',hn,rfl,hl,hx,hr⟩:=DataW.trod_array c h;obtain⟨_,y⟩:=K.array (a0 t ht) c;obtain rfl:n' = n:=by omega
    obtain⟨pvs,hc,hs⟩:=Wp (B:=B) (W:=W) (r:=DataW.trod enc P W 0 (fun _=>true) true n') (fun cs x hx=>ih e cs x hp hx) k xs cs (by rw[hl,y]) hx hr;refine⟨pvs,hc,.arr c hs ?_⟩
    have:=o.agg (xs.map (·.1))
    simpa[AX8,AX0]using this
   |struct fs=>
    simp only[c]at hp;obtain⟨xs,n',hn,rfl,hl,hx,hr⟩:=DataW.trod_struct c h;obtain⟨h1,y,h3⟩:=K.struct (a0 t ht) c;obtain rfl:n' = n:=by omega
    obtain⟨pvs,hc,hs⟩:=Pe (B:=B) (W:=W) (r:=DataW.trod enc P W 0 (fun _=>true) true n') (· ∈ T) ih fs.toList xs cs 0 (fun f hf=>by have:=AR4.1 hp f hf;simpa using this) (by rw[hl,y])
     (fun j f hf=>by rw[h3 j f hf];omega) (by simpa using hx) (fun i f hf=>by rw[Nat.sub_zero];exact hr i f (by simpa using hf))
    refine⟨pvs,hc,.struct c hs ?_⟩
    have:=o.agg (xs.map (·.1))
    simpa[AX8,AX0]using this
   |_=>simp[c]at hp
end
end Go.AM
namespace Go.AM
section
variable {S:W8}{P:Program}
theorem UD {d:Option Nat}{k k' : St->Prop}{Q Q' : I8}(hk:∀s,k s->k' s)(b:∀e s,Q e s->Q' e s)(r:Lz)(s:St)(h:Iq d k Q r s):Iq d k' Q' r s:=by
 cases r with
 |ret a=>exact hk _ h
 |panic x=>exact b _ _ h
theorem LG (hS:G8 S P){o:Oper}{k k' : St->Prop}{Q Q' : I8}(hk:∀s,k s->k' s)(z:∀e s,Q e s->Q' e s){st:St}(h:wOp S P o k Q st):wOp S P o k' Q' st:=by
 have q:∀d ids f args st,YS S d ids f args st (Iq o.dst k Q)->YS S d ids f args st (Iq o.dst k' Q'):=by rintro d ids f args st ⟨a,ob,h1,i,l,u,v⟩;exact⟨a,ob,h1,i,l,u,hS.monoF _ _ _ _ _ (fun r o ks ⟨w,h7⟩=>⟨w,UD hk z _ _ h7⟩) v⟩
 unfold wOp at h⊢;split at h
 .rcases h with⟨as,regs,f',as',h1,i,ids,l⟩ | ⟨j,xs,regs,ys,rest,h1,i,l,u,v,w⟩ | ⟨f',as',c,xs,h1,i,l,u⟩ | ⟨j,jw,e,m,n,g,rest,h1,i,l,u⟩
  .exact .inl ⟨as,regs,f',as',h1,i,ids,q _ _ _ _ _ l⟩
  .exact .inr (.inl ⟨j,xs,regs,ys,rest,h1,i,l,u,v,fun b=>hk _ (w b)⟩)
  .exact .inr (.inr (.inl ⟨f',as',c,xs,h1,i,l,hS.monoF _ _ _ _ _ (fun r o ks e=>e.imp (fun⟨a,e1,e2,e3⟩=>⟨a,e1,e2,hk _ e3⟩) fun⟨e0,m,n,g,e1,e2,e3,e4,e5⟩=>⟨e0,m,n,g,e1,e2,e3,e4,hk _ e5⟩) u⟩))
  exact .inr (.inr (.inr ⟨j,jw,e,m,n,g,rest,h1,i,l,fun b=>hk _ (u b)⟩))
 .obtain⟨as,regs,t,y,f',h1,i,l,ids,u⟩:=h;exact⟨as,regs,t,y,f',h1,i,l,ids,q _ _ _ _ _ u⟩
 .obtain⟨t,y,h1,i⟩:=h;exact⟨t,y,h1,z _ _ i⟩
 rcases h with⟨out,h1,i,l⟩ | ⟨c,x,h1,i,l⟩
 .exact .inl ⟨out,h1,i,hk _ l⟩
 exact .inr ⟨c,x,h1,i,hk _ l⟩
theorem Gi (hS:G8 S P){all:List Oper}{Q Q' : I8}(a:∀e s,Q e s->Q' e s):∀(rest:List Oper) {st:St},JA S P all rest Q st->JA S P all rest Q' st
 |[],st,h=>a _ _ h
 |o::rest,st,h=>by
  simp only[JA]at h⊢;refine hS.mono _ _ _ (fun t h=>?_) h;split at h
  .exact LG hS (fun s=>Gi hS a rest) a h
  obtain⟨b,h1,c⟩:=h;refine⟨b,h1,?_⟩;split
  .rename_i hb;rw[Ll hb]at c;exact LG hS (fun s=>Gi hS a rest) a c
  rename_i hb;rw[Lm hb]at c;exact Gi hS a rest c
theorem Pf (hS:G8 S P){all:List Oper}{o:Oper}{k k' : St->Prop}{Q Q' : I8}(hk:∀s,k s->k' s)(c:∀e s,Q e s->Q' e s){st:St}(h:NJ S P all o k Q st):NJ S P all o k' Q' st:=by
 unfold NJ at h⊢;refine hS.mono _ _ _ (fun t h=>?_) h;split at h
 .exact LG hS hk c h
 obtain⟨b,h1,a⟩:=h;refine⟨b,h1,?_⟩;split
 .rename_i hb;rw[Ll hb]at a;exact LG hS hk c a
 rename_i hb;rw[Lm hb]at a;exact hk _ a
theorem Ak7 (hS:G8 S P){ops:List Oper}{Q:I8}{st:St}(hm:P.follows .mixedOrders=true)(m:KA ops=true)(h:S.up st fun s=>Ag8 S P ops Q s):Ag8 S P ops Q st:=by
 refine⟨hm,m,fun D s=>S.up s fun s'=>∃Inv:(Nat->Bool)->St->Prop,Inv D s' /\
  (∀D i s o,Inv D s->ops[i]? = some o->D i=false->(∀e∈o.after.toList,Es e=true->D e.on=true) ->
   NJ S P ops o (Inv fun j=>if j=i then true else D j) Q s) /\
  ∀D s,Inv D s->(∀i,i<ops.length->D i=true)->S.up s (Q .normal),?_,?_,?_⟩
 .refine hS.mono _ _ _ (fun s hs=>?_) h;obtain⟨_,_,Inv,h1,b,c⟩:=hs;exact⟨Inv,h1,b,c⟩
 .intro D i s o f n g l
  have:S.up s fun s'=>NJ S P ops o (fun t=>S.up t fun t'=>∃Inv:(Nat->Bool)->St->Prop,Inv (fun j=>if j=i then true else D j) t' /\
   (∀D i s o,Inv D s->ops[i]? = some o->D i=false->(∀e∈o.after.toList,Es e=true->D e.on=true) ->
    NJ S P ops o (Inv fun j=>if j=i then true else D j) Q s) /\
   ∀D s,Inv D s->(∀i,i<ops.length->D i=true)->S.up s (Q .normal)) Q s':=by
   refine hS.mono _ _ _ (fun s' a=>?_) f;obtain⟨Inv,h1,b,c⟩:=a;exact Pf hS (fun t ht=>hS.refl _ _ ⟨Inv,ht,b,c⟩) (fun _ _ h=>h) (b D i s' o h1 n g l)
  unfold NJ at this⊢;exact hS.trans _ _ this
 intro D s f d;refine hS.trans _ _ (hS.mono _ _ _ (fun s' a=>?_) f);obtain⟨Inv,h1,b,c⟩:=a;exact c D s' h1 d
theorem Qu (hS:G8 S P){k k' : St->Prop}{Q Q' : I8}(hk:∀s,k s->k' s)(a:∀e s,Q e s->Q' e s)(e:Hf)(s:St)(h:thn S k Q e s):thn S k' Q' e s:=by
 cases e with
 |normal=>exact hS.mono _ _ _ hk h
 |_=>exact a _ _ h
theorem XT (hS:G8 S P){g:Nat}{ts:List Nat}{next:St->Prop}{Q Q' : I8}(a:∀e s,Q e s->Q' e s)(e:Hf)(s:St)(h:Fe S g ts next Q e s):Fe S g ts next Q' e s:=by
 cases e with
 |normal=>exact h
 |panic x=>exact h
 |_=>exact hS.mono _ _ _ (fun t ⟨cs,h1,b,c,d⟩=>⟨cs,h1,b,c,a _ _ d⟩) h
theorem UE (hS:G8 S P){g j:Nat}{ts:List Nat}{o:Obj}{next:St->Prop}{Q Q' : I8}(a:∀e s,Q e s->Q' e s)(e:Hf)(s:St)(h:KB S g j ts o next Q e s):KB S g j ts o next Q' e s:=by
 cases e with
 |normal=>exact h
 |panic x=>exact h
 |_=>exact hS.mono _ _ _ (fun t ⟨cs,h1,b⟩=>⟨cs,h1,a _ _ b⟩) h
theorem Am (hS:G8 S P):∀(c:Code) {Q Q' : I8},(∀e s,Q e s->Q' e s)->∀{st:St},awp S P c Q st->awp S P c Q' st
 |.skip,Q,Q',hq,st,h=>hq _ _ h
 |.label _,Q,Q',hq,st,h=>hq _ _ h
 |.region _ ops draw,Q,Q',hq,st,h=>by
  unfold awp at h⊢;split
  .rename_i hb;rw[Ll hb]at h;obtain⟨h1,q,Inv,u,w,y⟩:=h;exact⟨h1,q,Inv,u,fun D i s o a b c d=>Pf hS (fun _ h=>h) hq (w D i s o a b c d),fun D s a b=>hS.mono _ _ _ (fun t=>hq _ t) (y D s a b)⟩
  rename_i hb;rw[Lm hb]at h;exact Gi hS hq _ h
 |.seq a b,Q,Q',hq,st,h=>Am hS a (Qu hS (fun s=>Am hS b hq) hq) h
 |.cond c t e,Q,Q',hq,st,h=>by
  obtain⟨b,h1,q⟩:=h;refine⟨b,h1,?_⟩;split
  .rename_i hb;rw[Ll hb]at q;exact Am hS t hq q
  rename_i hb;rw[Lm hb]at q;exact Am hS e hq q
 |.block id b,Q,Q',hq,st,h=>Am hS b (fun e s h=>by
  cases e with
  |exit i=>simp only[blk]at h⊢;split at h<;>simp_all
  |_=>exact hq _ _ h) h
 |.loop b,Q,Q',hq,st,h=>by
  obtain⟨X,s,J,m,h1,q⟩:=h;refine⟨X,s,J,m,h1,fun x hx=>Am hS b (fun e t h=>?_) (q x hx)⟩;cases e with
  |normal=>exact h
  |_=>exact hq _ _ h
 |.scope b,Q,Q',hq,st,h=>Am hS b (fun e s h=>by
  cases e with
  |goto l=>exact h
  |_=>exact hq _ _ h) h
 |.exit id,Q,Q',hq,st,h=>hq _ _ h
 |.goto l,Q,Q',hq,st,h=>hq _ _ h
 |.ret,Q,Q',hq,st,h=>hq _ _ h
 |.rangeFunc g ps asg body,Q,Q',hq,st,h=>by
  obtain⟨f,first,caps,as,bs,objs,ids,ts,gh,jl,L,I,Fin,h1,q,u,w,y,h6,h7,h8,h9,z,a0,a1,a2,a3,a4,a5⟩:=h;refine⟨f,first,caps,as,bs,objs,ids,ts,gh,jl,L,I,Fin,h1,q,u,w,y,h6,h7,h8,h9,z,a0,a1,a2,?_,?_,a5⟩
  .intro ys rest s a b c;have h:=a3 ys rest s a b c;cases jl with
   |none=>
    refine Am hS asg (fun e t h=>?_) h;cases e with
    |normal=>exact hS.mono _ _ _ (fun t h=>Am hS body (XT hS hq) h) h
    |_=>exact h
   |some j=>
    refine⟨h.1,fun e' k n f hy=>Am hS asg (fun e t h=>?_) (h.2 e' k n f hy)⟩;cases e with
    |normal=>exact hS.mono _ _ _ (fun t h=>Am hS body (UE hS hq) h) h
    |_=>exact h
  intro s r a b c d
  have:=a4 s r a b c d
  cases r with
  |ret v=>exact hq _ _ this
  |panic x=>exact hq _ _ this
 |.refuse _,Q,Q',hq,st,h=>h
theorem Ak8 (hS:G8 S P){F:I8}(a:∀s,S.up s (F .normal)->F .normal s):∀(K:List It) (s:St),S.up s (kp S P K F .normal)->kp S P K F .normal s
 |[],s,h=>a s h
 |.code c::K,s,h=>hS.trans _ _ (hS.mono _ _ _ (fun t h=>h) h)
 |.blk id::K,s,h=>Ak8 hS a K s h
 |.lp X s' J m n::K,s,h=>hS.trans _ _ h
 |.mid M::K,s,h=>hS.trans _ _ h
 |.scp::K,s,h=>Ak8 hS a K s h
theorem AJ5 (hS:G8 S P){F:I8}(a:∀s,S.up s (F .normal)->F .normal s){K:List It}{M:St->Prop}(b:∀t,M t->G S P F (.pop .normal K t))(e:Hf)(s:St)(h:kp S P (.mid M::K) F e s):kp S P K F e s:=by
 cases e with
 |normal=>exact Ak8 hS a K s (hS.mono _ _ _ b h)
 |_=>exact h
end
end Go.AM
namespace Go.AM
section
variable {S:W8}{P:Program}{F:I8}{K:List It}{st:St}
theorem Wq (hS:G8 S P){all rest:List Oper}{o:Oper}{t:TypeId}{m k:Operand}{ok:Bool}{key:PV}{regs:B5}{j:Nat}{es:List (PV×PV)}{kt e:TypeId}{x:PV}{b:Bool}{fd:Option PV}
 (hg:Bs all st.env o=some true) (f:o.op=.lookup t m k ok) (i:Eo st.regs (aev st.env k)=some (key,regs)) (hm:aev st.env m=.mref j) (l:A1 regs j=some (.map es))
 (ht:tk P t=some (.map kt e)) (hk:Ip P kt key=true) (n:find (NF P kt) key es=some fd) (hx:(match fd with|some x=>some (x,true)|none=>(Kz P e).map fun z=>(z,false))=some (x,b)) (hc:D0 (OC P kt))
 (hn:G S P F (.ops all rest K (put { st with regs:=regs } o.dst (if ok then .tup [.p x,.bool b]else .p x)))):G S P F (.ops all (o::rest) K st):=by
 refine As7 hS (out:=⟨OC P kt,if ok then .tup [.p x,.bool b]else .p x,regs⟩) hg ?_ (fun c a=>by rw[f]at a;cases a) (fun x d=>by rw[f]at d;cases d) hc hn;rw[f];simp only[aop,i,hm,Ep,ht,hk,l,n];cases fd with
 |some y=>simp only[AQ2,AR3]at hx;obtain⟨rfl,rfl⟩:=hx;rfl
 |none=>
  simp only at hx⊢;cases g:Kz P e with
  |none=>simp[g]at hx
  |some z=>simp only[g,AR5,AQ2,AR3]at hx;obtain⟨rfl,rfl⟩:=hx;rfl
theorem UF (hS:G8 S P){all rest:List Oper}{o:Oper}{t:TypeId}{m k x:Operand}{key y:PV}{regs:B5}{j:Nat}{es es' : List (PV×PV)}{kt e:TypeId}
 (hg:Bs all st.env o=some true) (d:o.op=.mapUpdate t m k x) (f:aev st.env k=.p key) (g:Eo st.regs (aev st.env x)=some (y,regs)) (hm:aev st.env m=.mref j) (i:A1 regs j=some (.map es))
 (ht:tk P t=some (.map kt e)) (hk:Ip P kt (nP key)=true) (l:upd (NF P kt) (nP key) y es=some es') (hc:D0 (OC P kt))
 (hn:G S P F (.ops all rest K (put { st with regs:=ins j (.map es') regs } o.dst PP))):G S P F (.ops all (o::rest) K st):=by
 refine As7 hS (out:=⟨OC P kt,PP,ins j (.map es') regs⟩) hg ?_ (fun c a=>by rw[d]at a;cases a) (fun x b=>by rw[d]at b;cases b) hc hn;rw[d];simp only[aop,g,hm,f,ht,hk,i,l]
end
end Go.AM
namespace Go.AM
variable {N:Nat}
abbrev Str:=List UInt8
structure Sl (α : Type) where
 n:Nat
 g:Nat -> α
instance {α : Type} [Inhabited α]:Inhabited (Sl α):=⟨⟨0,fun _=>default⟩⟩
namespace Sl
variable {α : Type}
def toList (s:Sl α):List α:=(List.range s.n).map s.g
abbrev nil [Inhabited α]:Sl α:=⟨0,fun _=>default⟩
abbrev rep (n:Nat)(a : α):Sl α:=⟨n,fun _=>a⟩
abbrev sub (s:Sl α)(a b:Nat):Sl α:=⟨b-a,fun i=>s.g (a+i)⟩
abbrev drop (s:Sl α)(a:Nat):Sl α:=⟨s.n-a,fun i=>s.g (a+i)⟩
abbrev take (s:Sl α)(b:Nat):Sl α:=⟨b,s.g⟩
abbrev push (s:Sl α)(a : α):Sl α:=⟨s.n+1,fun i=>if i<s.n then s.g i else a⟩
abbrev app (s t:Sl α):Sl α:=⟨s.n+t.n,fun i=>if i<s.n then s.g i else t.g (i-s.n)⟩
abbrev upd (s:Sl α)(k:Nat)(a : α):Sl α:=⟨s.n,fun i=>if i=k then a else s.g i⟩
abbrev of [Inhabited α](l:List α):Sl α:=⟨l.length,fun i=>l.getD i default⟩
end Sl
abbrev vSl {α : Type}(k:Nat)(c : α -> List PV)(s:Sl α):PV:=.sl false k s.n fun i=>c (s.g i)
abbrev pI (k:IntKind)(n:Int):PV:=.v (.int k n)
abbrev CB (l:Str)(i:Int):Int:=(((l.getD i.toNat 0).toNat:Nat):Int)
abbrev pN (n:Int):AV:=.p (.v (.int .i64 n))
abbrev pU (n:Int):AV:=.p (.v (.int .u32 n))
abbrev pB (b:Bool):AV:=.p (.bb b)
abbrev AH:PV:=.v (.slice none 0 0)
section
variable {R:Type}
def S3 {A:Type}(N:Nat)(body:(A->Option R)->A->Option R):A->Option R:=match N with
 |0=>fun _=>none
 |N+1=>fun a=>body (S3 N body) a
variable {A B C D E F G H:Type}
def W9 (N:Nat)(body:(A->B->Option R)->A->B->Option R)(a:A)(b:B):Option R:=S3 N (fun c x=>body (fun a b=>c (a,b)) x.1 x.2) (a,b)
def Ak9 (N:Nat)(body:(A->B->C->Option R)->A->B->C->Option R)(a:A)(b:B)(c:C):Option R:=S3 N (fun d x=>body (fun a b c=>d (a,b,c)) x.1 x.2.1 x.2.2) (a,b,c)
def Al0 (N:Nat)(body:(A->B->C->D->Option R)->A->B->C->D->Option R)(a:A)(b:B)(c:C)(d:D):Option R:=S3 N (fun f x=>body (fun a b c d=>f (a,b,c,d)) x.1 x.2.1 x.2.2.1 x.2.2.2) (a,b,c,d)
theorem BD {body:(A->Option R)->A->Option R}{a:A}:S3 (N+1) body a=body (S3 N body) a:=rfl
theorem M4 {body:(A->B->Option R)->A->B->Option R}{a:A}{b:B}:W9 (N+1) body a b=body (W9 N body) a b:=rfl
theorem U3 {body:(A->B->C->D->Option R)->A->B->C->D->Option R}{a:A}{b:B}{c:C}{d:D}:Al0 (N+1) body a b c d=body (Al0 N body) a b c d:=rfl
def lt {K:Type}(k:K)(f:K->Option R):Option R:=f k
end
section
variable {R X Y:Type}{r:R}
theorem itT {b:Bool}{x y:Option R}(hb:b=true)(h:(if b then x else y)=some r):x=some r:=by rwa [Ll hb]at h
theorem itF {b:Bool}{x y:Option R}(hb:b=false)(h:(if b then x else y)=some r):y=some r:=by rwa [Lm (by simp[hb])]at h
theorem I5 {p:Prop}[Decidable p]{x:Option R}(h:(if p then x else none)=some r):p/\x=some r:=by
 split at h
 .exact⟨by assumption,h⟩
 cases h
theorem D1 {x:Option X}{f:X->Option R}(h:x.bind f=some r):∃a,x=some a/\f a=some r:=AZ0.1 h
theorem B9 {a b:R}(h:some a=some b):a=b:=AS8 h
end
section
variable {S:W8}{P:Program}{F:I8}{K:List It}{st:St}
theorem B2 (hS:G8 S P){n:Nat}{rs:List ResultVar}{Q:Lz->List Obj->List Bool->Prop}(s:St)(h:S.up s (Cz S P n rs Q .normal)):Cz S P n rs Q .normal s:=hS.trans _ _ h
theorem AJ6 (hS:G8 S P){b:Code}{R A:Type}{body:(A->Option R)->A->Option R}{N:Nat}{a0:A}{r:R}(h:S3 N body a0=some r)(s:A->St)(ids:List (Nat×Nat))(hle:Le ids st (s a0))
 (d:∀(X:Type) (s' : X->St) (J:X->Prop) (m:X->Nat) (n:Nat) (c:A->Option R) (a:A),(∀st ids a,Le ids st (s a)->c a=some r->G S P F (.pop .normal (.lp X s' J m n::K) st))->body c a=some r->G S P F (.code b (.lp X s' J m n::K) (s a))) :
 G S P F (.code (.loop b) K st):=by
 refine As8 hS (X:=Nat×A) (fun x=>s x.2) (fun x=>S3 x.1 body x.2=some r) (fun x=>x.1) (N,a0) ids hle h ?_;rintro⟨n,a⟩ hx;cases n with
 |zero=>cases hx
 |succ n=>exact d _ _ _ _ _ (S3 n body) a (fun st ids a hle h=>Zb hS (n,a) ids hle h (Nat.lt_succ_self n)) hx
theorem ZM (hS:G8 S P){all rest:List Oper}{o:Oper}(t:St)(ids:List (Nat×Nat))(hle:Le ids st t)(h:G S P F (.ops all (o::rest) K t)):G S P F (.ops all (o::rest) K st):=
 RY hS (hS.le ids _ _ _ hle h)
end
theorem pm:(∀b,(true||b)=true)/\(∀b,(b||true)=true)/\(∀b,(false||b)=b)/\(∀b,(b||false)=b)/\(∀b,(true&&b)=b)/\(∀b,(b&&true)=b)/\(∀b,(false&&b)=false)/\(∀b,(b&&false)=false)/\((!true)=false)/\((!false)=true)/\((false=true)=False)/\((true=true)=True):=by refine⟨?_,?_,?_,?_,?_,?_,?_,?_,?_,?_,?_,?_⟩<;>simp
section
variable {regs:B5}{ids:List (Nat×Nat)}
variable {env r:Env}{t:Nat}{a b:AV}{x y:PV}
theorem eP (hg:get env t=a)(h:viewP regs a=some y)(h' : LR regs ids env r):LR regs ids env ((t,.p y)::r):=As9 hg (le_p h) h'
theorem eM {i j:Nat}(hg:get env t=.mref i)(h:lk ids j=some i)(h' : LR regs ids env r):LR regs ids env ((t,.mref j)::r):=As9 hg (Zc h) h'
theorem Uf {α : Type}{c : α -> List PV}{n:Nat}{v:Sl α}{f:Nat->List PV}{z cs:List PV}{x : α}(h:∀i,i<n->f i=c (v.g i))(hn:n=v.n)(hx:cs=c x):∀i,i<n+1->Cb n f (J5 z [(0,cs)]) i=c ((v.push x).g i):=by
 subst hn hx;intro i a;show (if i<v.n then f i else J5 z [(0,c x)] (i-v.n))=c (if i<v.n then v.g i else x);split
 .exact h i ‹_›
 obtain rfl:i=v.n:=by omega
 simp[J5]
theorem appL {α : Type}{c : α -> List PV}{n m:Nat}{v w:Sl α}{f g:Nat->List PV}(h:∀i,i<n->f i=c (v.g i))(hn:n=v.n)(h' : ∀i,i<m->g i=c (w.g i))(hm:m=w.n):∀i,i<n+m->Cb n f g i=c ((v.app w).g i):=by
 subst hn hm;intro i a;show (if i<v.n then f i else g (i-v.n))=c (if i<v.n then v.g i else w.g (i-v.n));split
 .exact h i ‹_›
 exact h' _ (by omega)
theorem At6 {α : Type}{c : α -> List PV}{n k:Nat}{v:Sl α}{f:Nat->List PV}{e:Nat->List PV}{x : α}(h:∀i,i<n->f i=c (v.g i))(hx:k<n->e k=c x):∀i,i<n->(fun l=>if l=k then e l else f l) i=c ((v.upd k x).g i):=by
 intro i a;show (if i=k then e i else f i)=c (if i=k then x else v.g i);split
 .subst_vars;exact hx a
 exact h i a
theorem same {n:Nat}{f:Nat->List PV}:∀i,i<n->f i=f i:=fun _ _=>rfl
end
end Go.AM
namespace Go.AM
abbrev cI (k:IntKind)(n:Int):List PV:=[.v (.int k n)]
abbrev cB (b:Bool):List PV:=[.bb b]
abbrev cS (s:Str):List PV:=[.str s]
abbrev cL {α : Type}(k:Nat)(c : α -> List PV)(s:Sl α):List PV:=[vSl k c s]
section
variable {S:W8}{P:Program}{F:I8}{K:List It}{st:St}
end
section
variable {regs:B5}{ids:List (Nat×Nat)}
theorem le_yf {i j:Nat}(h:lk ids j=some i):leA regs ids (.yf i) (.yf j):=by unfold leA;exact⟨i,h,rfl⟩
theorem AJ7 {l m:List AV}(h:leL regs ids l m):leA regs ids (.tup l) (.tup m):=by unfold leA;exact⟨l,rfl,h⟩
theorem AJ8 {l m:List AV}(h:leL regs ids l m):leA regs ids (.agr l) (.agr m):=by unfold leA;exact⟨l,rfl,h⟩
end
end Go.AM
namespace Go.AM
def Pg {κ ν : Type}(kP : κ -> PV)(vP : ν -> PV)(es:List (κ × ν)):List (PV×PV):=es.map fun p=>(kP p.1,vP p.2)
def Dx {κ ν : Type}(eq : κ -> κ -> Bool)(k : κ):List (κ × ν)->Option ν
 |[]=>none
 |(a,v)::es=>if eq k a then some v else Dx eq k es
def Qv {κ ν : Type}(eq : κ -> κ -> Bool)(k : κ)(v : ν):List (κ × ν)->List (κ × ν)
 |[]=>[(k,v)]
 |(a,x)::es=>if eq k a then (k,v)::es else (a,x)::Qv eq k v es
theorem UG {κ ν : Type}(kP : κ -> PV)(vP : ν -> PV)(es:List (κ × ν)):(Pg kP vP es).length=es.length:=by simp[Pg]
theorem Gj {κ ν : Type}{kP : κ -> PV}{vP : ν -> PV}{cmp:PV->PV->Option Bool}{eq : κ -> κ -> Bool}(hc:∀a b,cmp (kP a) (kP b)=some (eq a b))(k : κ):∀es:List (κ × ν),find cmp (kP k) (Pg kP vP es)=some ((Dx eq k es).map vP)
 |[]=>rfl
 |(a,v)::es=>by
  show (match cmp (kP k) (kP a)with|some true=>some (some (vP v))|some false=>find cmp (kP k) (Pg kP vP es)|none=>none)=some ((Dx eq k ((a,v)::es)).map vP);rw[hc];simp only[Dx];cases h:eq k a
  .simpa using Gj hc k es
  rfl
theorem LH {κ ν : Type}{kP : κ -> PV}{vP : ν -> PV}{cmp:PV->PV->Option Bool}{eq : κ -> κ -> Bool}(hc:∀a b,cmp (kP a) (kP b)=some (eq a b))(k : κ)(x : ν):∀es:List (κ × ν),upd cmp (kP k) (vP x) (Pg kP vP es)=some (Pg kP vP (Qv eq k x es))
 |[]=>rfl
 |(a,v)::es=>by
  show (match cmp (kP k) (kP a)with|some true=>some ((kP k,vP x)::Pg kP vP es)|some false=>(upd cmp (kP k) (vP x) (Pg kP vP es)).map ((kP a,vP v) :: ·)|none=>none)=some (Pg kP vP (Qv eq k x ((a,v)::es)));rw[hc];simp only[Qv];cases h:eq k a
  .simp only[LH hc k x es,AR5,Lp,AR0];rfl
  rfl
abbrev eqS (a b:Str):Bool:=a==b
def At7 {X Y:Type}(o:Option X)(a:Y)(f:X->Y):Y:=match o with
 |none=>a
 |some x=>f x
theorem optN {X R:Type}{r:R}{o:Option X}{a:Option R}{f:X->Option R}(b:o=none)(h:At7 o a f=some r):a=some r:=by subst b;exact h
theorem optS {X R:Type}{r:R}{o:Option X}{x:X}{a:Option R}{f:X->Option R}(b:o=some x)(h:At7 o a f=some r):f x=some r:=by subst b;exact h
theorem SH {X Y:Type}(a:Y)(f:X->Y):At7 none a f=a:=rfl
theorem ZN {X Y:Type}(x:X)(a:Y)(f:X->Y):At7 (some x) a f=f x:=rfl
section
variable {R T A B C D:Type}
def iter0 (L:List T)(body:Option R->T->Option R)(k:Option R):Option R:=match L with
 |[]=>k
 |t::L=>body (iter0 L body k) t
def O1 (L:List T)(body:(A->Option R)->T->A->Option R)(k:A->Option R)(a:A):Option R:=match L with
 |[]=>k a
 |t::L=>body (O1 L body k) t a
end
section
variable {S:W8}{P:Program}{F:I8}{K:List It}{st:St}
theorem AA0 (hS:G8 S P){g:Operand}{ps:Array Tmp}{asg body:Code}{f:FuncId}{first caps as bs:List AV}{objs:List Obj}{R T A:Type}{enc:T->List PV}{L:List T}{mb:(A->Option R)->T->A->Option R}{mk:A->Option R}{a0:A}{r:R}
 (ids ts:List Nat) (gh:Nat) (s:A->St) (idl:List (Nat×Nat)) (h:O1 L mb mk a0=some r) (y:Dh S f as bs objs (L.map enc))
 (hp:Er st.env g=some (f,first,caps)) (j:∃fn,P.funcs[f]? = some fn/\fn.body.isSome=true/\(fn.name == "runtime.NumGoroutine")=false) (l:J6 ids st.regs ids=some objs) (m:DS objs=true) (z:G0 ids=true) (n:CS ids first=some as) (o:CS ids caps=some bs) (q:objs.length=ids.length)
 (u:Nat.blt gh 1000=true) (v:A1 st.regs gh=none) (w:Nat.blt ids.length 1000=true) (x:G0 ts=true) (d:∀t:T,Ah (enc t)=some ps.size)
 (hle:Le idl ⟨S5 ts (ts.map (get st.env)),M0 ids (ids.map fun _=>false) st.regs⟩ (s a0)) (hk:∀a,(s a).env.map (·.1)=ts) (hn:∀a,A1 (s a).regs gh=none)
 (b:∀(t:T) (next:St->Prop) (c:A->Option R) (a:A),(∀(st st1:St) (cs:List AV) (idl:List (Nat×Nat)) (a:A),Le idl st st1->A1 st1.regs gh=some (.ghost cs)->cs.length=ts.length->A1 (del gh st1.regs) gh=none->(⟨S5 ts cs,del gh st1.regs⟩:St)=s a->c a=some r->G S P (Fe S gh ts next (kp S P K F)) (.pop .normal [] st)) ->
  mb c t a=some r->G S P (BC S P body gh ts next (kp S P K F)) (.code asg [] ⟨Lf ps.toList (enc t) (s a).env,ins gh (.ghost ((s a).env.map (·.2))) (s a).regs⟩))
 (i:∀a,mk a=some r->G S P F (.pop .normal K (s a))):G S P F (.code (.rangeFunc g ps asg body) K st):=by
 refine ZK hS ids ts gh (L.map enc) s (fun rest a=>∃L',rest=L'.map enc/\O1 L' mb mk a=some r) a0 idl hp j l m z n o q (by simpa[AZ3]using u) v (by simpa[AZ3]using w) x (fun ys hy=>?_) y hle ⟨L,rfl,h⟩ hk hn ?_ ?_
 .obtain⟨t,_,rfl⟩:=AU2.1 hy;exact d t
 .rintro ys rest a ⟨L',hL,hx⟩;cases L' with
  |nil=>cases hL
  |cons t L'=>simp only[AR9,AV7]at hL;obtain⟨rfl,rfl⟩:=hL;refine b t _ (O1 L' mb mk) a (fun st st1 cs idl a hle h1 h2 h3 h4 h5=>?_) hx;exact UC hS st1 a idl hle h1 h2 h3 h4 ⟨L',rfl,h5⟩
 rintro a ⟨L',hL,hx⟩;cases L' with
 |nil=>exact i a hx
 |cons t L'=>cases hL
theorem Al1 (hS:G8 S P){g:Operand}{ps:Array Tmp}{asg body:Code}{f:FuncId}{first caps as bs:List AV}{objs:List Obj}{R T A:Type}{enc:T->List PV}{L:List T}{mb:(A->Option R)->T->A->Option R}{mk:A->Option R}{a0:A}{r0:R}
 (ids ts:List Nat) (gh:Nat) (s:A->R->St) (idl:List (Nat×Nat)) (h:O1 L mb mk a0=some r0) (z:Dh S f as bs objs (L.map enc))
 (hp:Er st.env g=some (f,first,caps)) (j:∃fn,P.funcs[f]? = some fn/\fn.body.isSome=true/\(fn.name == "runtime.NumGoroutine")=false) (l:J6 ids st.regs ids=some objs) (m:DS objs=true) (hd:G0 ids=true) (n:CS ids first=some as) (o:CS ids caps=some bs) (q:objs.length=ids.length)
 (u:Nat.blt gh 1000=true) (v:A1 st.regs gh=none) (w:Nat.blt ids.length 1000=true) (y:G0 ts=true) (d:∀t:T,Ah (enc t)=some ps.size)
 (hle:Le idl ⟨S5 ts (ts.map (get st.env)),M0 ids (ids.map fun _=>false) st.regs⟩ (s a0 r0)) (hk:∀a r,(s a r).env.map (·.1)=ts) (hn:∀a r,A1 (s a r).regs gh=none)
 (b:∀(t:T) (next:St->Prop) (c:A->Option R) (a:A) (r:R),(∀(st st1:St) (cs:List AV) (idl:List (Nat×Nat)) (a:A) (r:R),Le idl st st1->A1 st1.regs gh=some (.ghost cs)->cs.length=ts.length->A1 (del gh st1.regs) gh=none->(⟨S5 ts cs,del gh st1.regs⟩:St)=s a r->c a=some r->G S P (Fe S gh ts next (kp S P K F)) (.pop .normal [] st)) ->
  mb c t a=some r->G S P (BC S P body gh ts next (kp S P K F)) (.code asg [] ⟨Lf ps.toList (enc t) (s a r).env,ins gh (.ghost ((s a r).env.map (·.2))) (s a r).regs⟩))
 (i:∀a r,mk a=some r->G S P F (.pop .normal K (s a r))):G S P F (.code (.rangeFunc g ps asg body) K st):=by
 refine ZK hS ids ts gh (L.map enc) (fun x:A×R=>s x.1 x.2) (fun rest x=>∃L',rest=L'.map enc/\O1 L' mb mk x.1=some x.2) (a0,r0) idl hp j l m hd n o q (by simpa[AZ3]using u) v (by simpa[AZ3]using w) y (fun ys hy=>?_) z hle ⟨L,rfl,h⟩ (fun x=>hk x.1 x.2) (fun x=>hn x.1 x.2) ?_ ?_
 .obtain⟨t,_,rfl⟩:=AU2.1 hy;exact d t
 .rintro ys rest ⟨a,r⟩ ⟨L',hL,hx⟩;cases L' with
  |nil=>cases hL
  |cons t L'=>simp only[AR9,AV7]at hL;obtain⟨rfl,rfl⟩:=hL;refine b t _ (O1 L' mb mk) a r (fun st st1 cs idl a r hle h1 h2 h3 h4 h5=>?_) hx;exact UC hS st1 (a,r) idl hle h1 h2 h3 h4 ⟨L',rfl,h5⟩
 rintro⟨a,r⟩ ⟨L',hL,hx⟩;cases L' with
 |nil=>exact i a r hx
 |cons t L'=>cases hL
end
end Go.AM
namespace Go.AM
section
variable {S:W8}{P:Program}{all:List Oper}{k:Env->B5->Prop}
end
end Go.AM
