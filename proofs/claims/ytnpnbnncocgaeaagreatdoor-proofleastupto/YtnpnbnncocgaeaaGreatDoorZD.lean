/- Part 4. -/
import Derived.Test.YtnpnbnncocgaeaaGreatDoorZC
import Derived.Test.YtnpnbnncocgaeaaGreatDoorZA
import Derived.Test.YtnpnbnncocgaeaaGreatDoorZB
import Derived.ProofKit
import Derived.WideKeyArgs
import Derived.Deep.Slices
import Derived.OpenShut
import Derived.KernelRfl
set_option linter.defProp false
set_option linter.unusedSimpArgs false
set_option linter.unusedVariables false
set_option linter.unusedSectionVars false
namespace Go.AM
def BS9:=@Int.toNat_natCast
def BX9:=@BitVec.eq_of_toNat_eq
def BY5:=@Nat.le_of_ble_eq_true
def BZ1:=@List.mem_map
def BZ6:=@List.tail_cons
def Ca7:=@List.mem_cons_self
def Ca8:=@List.mem_singleton
def Cc3:=@Nat.pow_le_pow_right
def Cd9:=@Bool.false_and
def Ce4:=@List.take_append_drop
def Ce6:=@Nat.blt_eq
def Ce9:=@Nat.shiftRight_eq_div_pow
def Cf2:=@BitVec.toNat_ushiftRight
def Cg1:=@BitVec.toNat_shiftLeft
def Cg4:=@Nat.min_eq_right
def Cg6:=@Go.World.alloc_heap_new
def Cg7:=@Bool.and_true
def Ch0:=@Int.fdiv_eq_ediv_of_nonneg
def Ch2:=@List.drop_zero
def Ci3:=@List.getElem_mem
def Ci4:=@Nat.shiftLeft_eq
def Ci5:=@Nat.lt_succ_self
def Ci6:=@List.isEmpty_iff
def Ck3:=@Int.natCast_nonneg
def Ck8:=@List.all_nil
def Ck9:=@Nat.le_of_eq
section
variable {P:Program}{C:Ctx}{st:St}{a:Act}{w:World}{rho:Nat->Value}{𝒢 : Prot P}{n:Nat}{Q:M0}{ro:Option Nat}
def RP.prot (R:RP P)(c:R.act.tmps.size=R.n)(d:∀t∈R.ps.toList,t<R.n)(f:R.gh<1000)(i:R.ts.Nodup)(casg:KR P R.n R.asg)(cbody:KR P R.n R.body)
 (a:∀ys rest s,s.env.map (·.1)=R.ts->A2 s.Qg R.gh=none->R.I (ys::rest) s->awp (HP P) P R.asg (λe s'=>match e with | .normal=>semUp s' λs'=>awp (HP P) P R.body (Ha (HP P) R.gh R.ts (R.I rest) R.Q) s' | _=>False) ⟨MI R.ps.toList ys s.env,ins R.gh (.ghost (s.env.map (·.2))) s.Qg⟩):Prot P where
 G:=λC=>∃C2 s rhoA XI rest live lo,InG R C C2 s rhoA XI rest live lo
 tab:=by
  rintro C ⟨C2,s,rhoA,XI,rest,live,lo,h⟩;refine ((R.pr.tab C2 h.g).keeps h.sat.keep h.sat.same (E':=C.E0) λb hb m=>(h.oc b m).resolve_right (Nat.not_le.2 hb)).keeps (S0.of_imp λb o hp=>?_) (λ_ _ _=>rfl) λ_ _ q=>q;rw[h.pi,h.X]at hp;rcases hp with (hp|hp)|hp
  .exact .inl (.inl hp)
  .exact .inr hp
  .exact .inl (.inr hp)
 call:=by rintro C w O V ys rest vs ⟨C2,s,rhoA,XI,rest0,live,lo,h⟩ hR l j r;rw[h.Y]at l;obtain⟨rfl,rfl⟩:=l;exact Ak9 c d f i casg cbody a h hR j r
def Sat.mark (h:Sat C st a w rho){w' : World}(i:w.heap.size<=w'.heap.size)(c:∀b,b<w.heap.size->w'.heap[b]? = w.heap[b]?)(j:Ext w w'){mk:List Deferred}
 (hm:mk=[] \/ ∃r,mk=[{ target:=.collected r,args:=#[] }]/\w.heap.size<=r/\w'.heap[r]? = some (.deferred (some []))):Sat C st { a with defers:=mk++a.defers } w' rho:=by
 obtain⟨h1,_⟩:=h.grow i c j;rcases hm with rfl|⟨r,rfl,l,m⟩
 .exact h1
 refine⟨h1.toSatE,h1.env,h1.pin,?_,?_⟩
 .refine BY2.2 ⟨λg=>?_,h.marks.1⟩;obtain⟨r',e1,_,e2,_⟩:=h.marks.2 _ g
  grind
 intro d f;rcases BX5.1 f with rfl|f
 .exact⟨r,rfl,.inr (BX7 h.size l),m,λoff n=>by have:=h.hp.bound r off n;omega⟩
 exact h1.marks.2 d f
def Zc {f:FuncId}{vs:Array Value}{fn:Func}(d:P.funcs[f]? = some fn)(hb:fn.body.isSome=true)(a:(fn.name == "runtime.NumGoroutine")=false):(callFunc f vs).run P w=.ok (.enter f vs) w:=by
 have b : ¬fn.name = "runtime.NumGoroutine" := by grind
 obtain⟨c,hc⟩:=BU6.1 hb
 simp_all[callFunc]
def Tt (D:List Deferred)(a:Act):Act:={ a with defers:=a.defers++D }
set_option maxHeartbeats 2000000 in
theorem Zd (DD:List Deferred){g:Operand}{ps:Array Tmp}{asg body:Code}(hps:(ps.toList.all λt=>Nat.blt t n)=true)(casg:KR P n asg)(cbody:KR P n body){𝒢 : Prot P}{ro:Option Nat}(hro:BH0 𝒢 ro){Q:M0}(hG : 𝒢.G C)(h:Sat C st a w rho)(hsz:a.tmps.size=n)
 (hw:awp (HP P) P (.rangeFunc g ps asg body) Q st):(Code.rangeFunc g ps asg body).wpIn (FW ro) 0 P (λe a' w'=>∃a0,a' = Tt DD a0/\WP 𝒢 n Q e a0 w') (Tt DD a) w:=by
 obtain⟨f,first,caps,as,bs,objs,ids,ts,gh,L,I,Fin,h1,⟨fn,hfn,hfb,hfname⟩,hny,hd,hr1,hr2,hob,hgl,hng,hids,hts,hlens,hup,hround,hend,hF⟩:=hw;refine wpIn_rangeFunc ?_;intro fid _;obtain⟨l,mk,D,w1,hent,hxt,hl,hlsz,hwsz,hheap,hmk⟩:∃(l:Nat) (mk:List Deferred) (D:Nat) (w1:World),(Instr.enterLoop fid a.tmps ps asg body ro).run P w=.ok (l,mk) w1/\Ext w w1 /\
  w1.heap[l]? = some (.loop { state:=.ready,pending:=none,fn:=fid,tmps:=a.tmps,params:=ps,assign:=asg,body:=body,defers:=D })/\w.heap.size<=l/\w.heap.size<=w1.heap.size/\(∀b,b<w.heap.size->w1.heap[b]? = w.heap[b]?) /\
  (mk=[] \/ ∃r,mk=[{ target:=.collected r,args:=#[] }]/\w.heap.size<=r/\w1.heap[r]? = some (.deferred (some []))):=by
  cases ro with
  |none=>
   refine⟨_,_,w.heap.size,_,run_enterLoop_outer fid a.tmps ps asg body,⟨rfl,rfl⟩,?_,by omega,by simp;omega,?_,.inr ⟨w.heap.size,rfl,BT8 _,?_⟩⟩
   .have:=Cg6 (w.alloc (.deferred (some []))) (.loop { state:=.ready,pending:=none,fn:=fid,tmps:=a.tmps,params:=ps,assign:=asg,body:=body,defers:=w.heap.size })
    simpa using this
   .intro b hb;rw[heap_alloc_old _ _ (by simp;omega),heap_alloc_old _ _ hb]
   rw[heap_alloc_old _ _ (by simp)];exact Cg6 w _
  |some l0=>
   obtain⟨r,hr,hE⟩:=hro l0 rfl C hG;have hr' : w.heap[l0]? = some (.loop r):=by rw[h.same l0 (BV3.1 hr).1 hE];exact hr
   refine⟨w.heap.size,[],r.defers,w.alloc (.loop { state:=.ready,pending:=none,fn:=fid,tmps:=a.tmps,params:=ps,assign:=asg,body:=body,defers:=r.defers }),?_,⟨rfl,rfl⟩,Cg6 w _,BT8 _,by simp,λb hb=>heap_alloc_old _ _ hb,.inl rfl⟩;unfold Instr.enterLoop;simp only[BV4,run_getLoop hr',Result.andThen,BX4,run_newObj_alloc]
 have hA:=h.mark hwsz hheap hxt hmk;obtain⟨act,hact⟩:∃act:Act,act={ a with defers:=mk++a.defers }:=⟨_,rfl⟩;have hacts:act.tmps.size=n:=by rw[hact];exact hsz
 rw[<- hact]at hA;obtain⟨x,y,hx,hrx,hry⟩:=Ak6 hA h1;have hxy:=RepV.append hrx hry;obtain⟨hobl,hobg⟩:=Bh hob;obtain⟨args0,hargs0,hrl⟩:∃args0,ES ids (first++caps)=some args0/\args0=as++bs:=by
  have:∀(l m l' m' : List AV),ES ids l=some l' -> ES ids m=some m' -> ES ids (l++m)=some (l' ++ m'):=by
   intro l
   induction l with
   |nil=>intro m l' m' hl hm;simp only[ES,BT2]at hl;subst hl;simpa using hm
   |cons z l ih=>
    intro m l' m' hl hm;simp only[ES]at hl;split at hl
    .rename_i z' l2 hz hl2;cases hl;simp only[BU1,ES,hz,ih m l2 m' hl2 hm]
    cases hl
  exact⟨_,this _ _ _ _ hr1 hr2,rfl⟩
 subst hrl;have hS1:=OZ hA hd hob hny trivial hargs0 (vs:=x++y) hxy.1 hxy.2;have hidx:∀j∈ids,Lv (A2 st.Qg) j:=by intro j hj;obtain⟨p,hp⟩:=BZ5.1 hj;obtain⟨o,_,ho,_⟩:=hobg p j hp;simp[Lv,ho]
 obtain⟨VI,hVI⟩:∃VI:Nat->Nat->Prop,VI=λb off=>∃j o,j∈ids/\A2 st.Qg j=some o/\G1 (rho j) o b/\MF o off:=⟨_,rfl⟩;obtain⟨hsus,hsuspi⟩:=hA.suspend hd (E:=AC ts (ts.map (get st.env))) (V:=VI) (λt=>by
  obtain⟨e1,e2⟩:=Rg ts (ts.map (get st.env)) t (by simp) hts;by_cases hm:t∈ts
  .obtain⟨i,hi⟩:=BZ5.1 hm;exact .inl (by rw[e1 i hi,BT0,BT7,hi];rfl)
  exact .inr (e2 hm)) (λb off=>by rw[hVI]) hidx
 obtain⟨s1,rho1,⟨hk1,hn1,hI1⟩,hup1,hs1⟩:=hup _ act w1 rho hsus;obtain⟨rI,hrI⟩:∃rI:Nat->Value,rI=λp=>if p=ids.length then .func (.yield l) #[] #[]else rho (ids.getD p 0):=⟨_,rfl⟩
 obtain⟨R,q⟩:∃R:RP P,R={ pr:=𝒢,n:=n,Q:=Q,act:=act,l:=l,fn:=fid,D:=D,rA:=C.rho0,r0:=rI,ts:=ts,gh:=gh,I:=I,ps:=ps,asg:=asg,body:=body }:=⟨_,rfl⟩;obtain⟨CI,a1⟩:∃CI:Ctx,CI={ X:=λb o=>C.X b o \/ PvR s1.Qg rho1 b o,w0:=w1,E0:=λb=>∃j o,j∈ids/\A2 st.Qg j=some o/\G1 (rho j) o b,Pi0:=λb o=>(C.X b o \/ PvR s1.Qg rho1 b o) \/ VI b o,rho0:=rI,Y:=λr b=>r=L/\b=true,yv:=.func (.yield l) #[] #[] }:=⟨_,rfl⟩;have hlC:C.E0 l \/ C.w0.heap.size<=l:=.inr (BX7 h.size hlsz);have hVIx:∀b,CI.E0 b->∃off,VI b off:=by
  intro b hb;subst a1;obtain⟨j,o,hj,ho,a2⟩:=hb;cases o with
  |vec e k m f vw=>
   refine⟨m*k,?_⟩;rw[hVI];refine⟨j,_,hj,ho,a2,?_⟩;cases vw
   .trivial
   exact BT8 _
  |cells cs=>exact⟨0,by rw[hVI];exact⟨j,_,hj,ho,a2,trivial⟩⟩
  |map es=>exact⟨0,by rw[hVI];exact⟨j,_,hj,ho,a2,trivial⟩⟩
  |arr n f=>exact⟨0,by rw[hVI];exact⟨j,_,hj,ho,a2,trivial⟩⟩
  |blk=>exact⟨0,by rw[hVI];exact⟨j,_,hj,ho,a2,trivial⟩⟩
  |fam=>exact⟨0,by rw[hVI];exact⟨j,_,hj,ho,a2,trivial⟩⟩
  |rows=>exact⟨0,by rw[hVI];exact⟨j,_,hj,ho,a2,trivial⟩⟩
  |ghost cs=>simp[G1,Q9]at a2
  |yld r b=>simp[G1,Q9]at a2
  |dead=>simp[G1,Q9]at a2
 have hEl:∀b,CI.E0 b->b<w1.heap.size/\b<w.heap.size:=by
  intro b hb;subst a1;obtain⟨j,o,hj,ho,a2⟩:=hb
  have:=(h.hp.holds j o ho).lt a2
  exact⟨by omega,this⟩
 have hin:InG R CI C s1 rho1 VI L true (R.lo .ready none):=by
  subst q;refine⟨hG,rfl,by subst a1;exact hs1,by subst a1;rfl,by subst a1;rfl,?_,?_,?_,?_,hlC,λoff hX=>?_,?_,by subst a1;rfl,by subst a1;rfl,by subst a1;rfl,hk1,hn1,.inl ⟨rfl,rfl,hI1,hlens⟩⟩
  .rintro b hb (hF|hF)
   .obtain⟨off,hv⟩:=hVIx b hb;obtain⟨i,oi,hi,hbi⟩:=hF;exact hs1.hp.out i oi b off hi hbi (.inr hv)
   subst a1;obtain⟨j,o,hj,ho,a2⟩:=hb;obtain⟨r,e1,_,e2,_⟩:=hA.marks.2 _ hF;cases e1;exact (hA.hp.holds j o ho).nd a2 e2
  .intro b hb;subst a1;obtain⟨j,o,hj,ho,a2⟩:=hb;exact h.own b ⟨j,o,ho,a2⟩
  .intro b hb
   have:=(hEl b hb).1
   subst a1;exact this
  .have e:RP.lo { pr:=𝒢,n:=n,Q:=Q,act:=act,l:=l,fn:=fid,D:=D,rA:=C.rho0,r0:=rI,ts:=ts,gh:=gh,I:=I,ps:=ps,asg:=asg,body:=body } .ready none={ state:=.ready,pending:=none,fn:=fid,tmps:=a.tmps,params:=ps,assign:=asg,body:=body,defers:=D }:=by simp[RP.lo,hact]
   rw[e];subst a1;exact hl
  .have:=h.hp.bound l off hX;omega
  intro hE
  have:=(hEl l hE).2;omega
 have hne:ids.length ∉ List.range ids.length:=by simp
 have hrgI:∀p,A2 (Qh (objs++[.yld L true])) p=if p=ids.length then some (.yld L true)else A2 (Qh objs) p:=by
  intro p;rw[F6,F6];by_cases e:p=ids.length
  .subst e;rw[Fg rfl,<- hobl];simp
  rw[Gb e];by_cases hlt:p<objs.length
  .rw[BZ3 hlt]
  rw[BX2 (by simp;omega),BX2 (by omega)]
 have hT:∀b o,(CI.X b o \/ VI b o)->Prv C.X (A2 st.Qg) rho b o:=by
  intro b o hp;refine (hsuspi b o).1 (hup1 b o ?_);subst a1;rcases hp with (hp|hp)|hp
  .exact .inl (.inl hp)
  .exact .inr hp
  exact .inl (.inr hp)
 have hprI:∀b off,Prv CI.X (A2 (Qh objs)) (λp=>rho (ids.getD p 0)) b off↔(CI.X b off \/ VI b off):=by
  intro b off;refine or_congr Ce2 ?_;rw[hVI];constructor
  .rintro⟨p,o',hp,hb,hpr⟩;rw[F6]at hp;have hlt:p<ids.length:=by rw[<- hobl];exact (BV1.1 hp).1
   obtain⟨o,o2,e1,e2,e3⟩:=hobg p _ (BT4 hlt);rw[hp]at e3;cases e3;simp only[ET (BT4 hlt),Bg e2]at hb;exact⟨_,o,Ci3 hlt,e1,hb,(MU e2 off).1 hpr⟩
  rintro⟨j,o,hj,ho,hb,hpr⟩;obtain⟨p,hp⟩:=BZ5.1 hj;obtain⟨o1,o2,e1,e2,e3⟩:=hobg p j hp;rw[ho]at e1;cases e1;refine⟨p,o2,by rw[F6];exact e3,?_,(MU e2 off).2 hpr⟩;simp only[ET hp,Bg e2];exact hb
 have hkI:S0 w1 (Prv (C.callee st.Qg w1 rho ids).X (A2 (Qh objs)) (λp=>rho (ids.getD p 0))) w1 (Prv CI.X (A2 (Qh objs)) (λp=>rho (ids.getD p 0))):=
  S0.of_imp λb o hp=>(US hob b o).2 (hT b o ((hprI b o).1 hp))
 have hEI:SatE CI (Qh objs) w1 (λp=>rho (ids.getD p 0)):=by
  refine⟨⟨λp o hp=>(hS1.hp.holds p o hp).keeps hkI (λj hj=>⟨hj,rfl⟩) λb _=>rfl,hS1.hp.sep,?_,?_⟩,by subst a1;exact Ext.refl _,by subst a1;exact BT8 _,by subst a1;exact λb _ _=>rfl,?_,?_,?_⟩
  .intro p o b off hp hb hX;have hE:CI.E0 b:=by
    rcases hS1.own b ⟨p,o,hp,hb⟩with h1|h1
    .subst a1;exact h1
    have:=(hS1.hp.holds p o hp).lt hb
    have h1:w1.heap.size<=b:=h1;omega
   have hd':=hin.dis b hE;obtain⟨off',hv⟩:=hVIx b hE;subst a1;rcases hX with hX|⟨i,oi,hi,hbi,_⟩
   .rw[hVI]at hv;obtain⟨j,oj,hj,ho,a2,_⟩:=hv;exact h.hp.out j oj b off ho a2 hX
   exact hd' (.inl ⟨i,oi,hi,hbi⟩)
  .intro b off hX;subst a1;rcases hX with hX|⟨i,oi,hi,hbi,_⟩
   .have:=h.hp.bound b off hX;omega
   exact (hs1.hp.holds i oi hi).lt hbi
  .have:CI.Pi0=λb o=>CI.X b o \/ VI b o:=by subst a1;rfl
   rw[this];have hw0:CI.w0=w1:=by subst a1;rfl
   rw[hw0];exact S0.of_imp λb o hp=>(hprI b o).1 hp
  .intro b hb;rcases hS1.own b hb with h1|h1
   .exact .inl (by subst a1;exact h1)
   exact .inr (by subst a1;exact h1)
  intro p r b hp;exact Hc (hS1.yld p r b hp).1 (λh=>h)
 obtain⟨g1,g2,g3⟩:=hEI.add (R':=Qh (objs++[.yld L true])) (j:=ids.length) (by rw[F6,BX2 (by omega)]) (o:=.yld L true) (v:=.func (.yield l) #[] #[]) (λu b h=>by cases h) hrgI
  (λ_ _=>⟨l,rfl⟩) (λr b he=>by cases he;subst a1;exact⟨⟨rfl,rfl⟩,rfl⟩)
 have hrIeq:(λi=>if i=ids.length then Value.func (.yield l) #[] #[]else rho (ids.getD i 0))=rI:=by rw[hrI]
 rw[hrIeq]at g1 g2;have g3' : ∀i,Lv (A2 (Qh objs)) i->Lv (A2 (Qh (objs++[.yld L true]))) i/\rI i=rho (ids.getD i 0):=λi hi=>by
  have:=g3 i hi
  rw[hrI];exact this
 have hyvI:rI ids.length=.func (.yield l) #[] #[]:=by rw[hrI];simp
 have hkA:S0 w1 (PiS C st rho) w1 (Prv CI.X (A2 (Qh (objs++[.yld L true]))) rI):=S0.of_imp λb o hp=>hT b o ((hprI b o).1 ((g2 b o).1 hp));have hrenI:∀p j:Nat,ids[p]? = some j->Lv (A2 st.Qg) j->Lv (A2 (Qh (objs++[.yld L true]))) p/\rI p=rho j:=by intro p j hp _;obtain⟨o,o2,e1,e2,e3⟩:=hobg p j hp;obtain⟨q1,q2⟩:=g3' p (by simp[Lv,F6,e3]);exact⟨q1,by rw[q2,ET hp]⟩
 have hlvI:Lv (A2 (Qh (objs++[.yld L true]))) ids.length:=by simp[Lv,hrgI]
 have ren:∀{vs:Array Value}{l l' : List AV},RepV w1 (PiS C st rho) (Lv (A2 st.Qg)) rho vs l->ES ids l=some l' -> RepV w1 (Prv CI.X (A2 (Qh (objs++[.yld L true]))) rI) (Lv (A2 (Qh (objs++[.yld L true])))) rI vs l':=by intro vs l l' hv hr;obtain⟨e1,e2⟩:=Ei hr;exact⟨hv.1.trans e1,λi hi=>(hv.2 i (by omega)).ren hkA hrenI (e2 i (by omega))⟩
 have hvals:RepV w1 (Prv CI.X (A2 (Qh (objs++[.yld L true]))) rI) (Lv (A2 (Qh (objs++[.yld L true])))) rI (x ++ #[.func (.yield l) #[] #[]]++y) (as++[.yf ids.length]++bs):=
  RepV.append (RepV.append (ren hrx hr1) ⟨rfl,λi hi=>by
   simp only[Ca4]at hi;obtain rfl:i=0:=by omega
   exact .yf ids.length l hlvI hyvI⟩) (ren hry hr2)
 have hvals' : as++[.yf ids.length]++bs=as ++ .yf ids.length::bs:=by simp
 rw[hvals']at hvals;have hSI:Sat CI ⟨Uf (as ++ .yf ids.length::bs),Qh (objs++[.yld L true])⟩ ⟨x ++ #[.func (.yield l) #[] #[]]++y,[]⟩ w1 rI:=by
  refine⟨g1,λt=>?_,λj _ _=>by subst a1;rfl,Cc1,λd hd=>by simp at hd⟩;show Ud w1 _ _ rI _ (get (Uf (as ++ .yf ids.length::bs)) t);rw[CW];by_cases ht:t<(as ++ .yf ids.length::bs).length
  .exact hvals.2 t ht
  rw[BT0,BX2 (by omega)];exact .top _
 have hpsn:∀t∈R.ps.toList,t<R.n:=by
  subst q;intro t ht;rw[BU0]at hps
  have:=hps t ht
  simpa using this
 have hRact:R.act=act:=by subst q;rfl
 have hRl:R.l=l:=by subst q;rfl
 have hcall:=hF (RP.prot R (by subst q;exact hacts) hpsn (by subst q;exact hgl) (by subst q;exact hts) (by subst q;exact casg) (by subst q;exact cbody) (by subst q;exact hround)) CI w1 _ rI ⟨C,s1,rho1,VI,L,true,_,hin⟩ hSI hvals.1;obtain⟨nx,w2,hrun,hcall⟩:=hcall;rw[Zc hfn hfb hfname]at hrun;cases hrun;have hev:a.eval g=.func (.func f) x y:=by rw[hact]at hx;exact hx
 have hres:(resolve a.eval (rangeCall g l) 0).run P w1=.ok { target:=.fn (.func f) y,args:=x ++ #[.func (.yield l) #[] #[]] } w1:=by
  have e1:(rangeCall g l).args.map a.eval = #[.func (.yield l) #[] #[]]:=by simp[Act.eval]
  have e2:resolve a.eval (rangeCall g l) 0=Deferred.ofValue (a.eval g) #[.func (.yield l) #[] #[]]:=by rw[<- e1];rfl
  rw[e2,hev];simp[Deferred.ofValue]
 have hinv:(invoke (.fn (.func f) y) (x ++ #[.func (.yield l) #[] #[]])).run P w1=.ok (.enter f (x ++ #[.func (.yield l) #[] #[]]++y)) w1:=by simp only[invoke];exact Zc hfn hfb hfname
 have hcall2:CallsIn (FW ro) (0-1) P f (x ++ #[.func (.yield l) #[] #[]]++y) w1 (rangePost (FW ro) 0 P l (λe a' w'=>∃a0,a' = Tt DD a0/\WP 𝒢 n Q e a0 w') { Tt DD a with defers:=mk++(Tt DD a).defers }):=by
  have ha:({ Tt DD a with defers:=mk++(Tt DD a).defers }:Act)=Tt DD { a with defers:=mk++a.defers }:=by simp[Tt]
  rw[ha];refine (UV hcall).mono ?_;rintro e w' ⟨C',r,objs',ks,rho',⟨C2,s2,rhoA2,XI2,rest2,live2,lo2,s⟩,⟨b,hb1,_,hFin,hb2⟩,hE,hend',_⟩;rw[<- hact];obtain⟨hY,_⟩:=hE.yld ids.length [] b (by rw[F6];exact hb1);rw[s.Y]at hY;obtain⟨hr2',hb'⟩:=hY;subst hb';have hrel:Rel C' w' (Own (A2 (Qh objs')) rho') (PvR (Qh objs') rho'):=
   ⟨hE.ext,hE.size,hE.same,hE.keep,hE.own,λb off ⟨j,o,hj,hb⟩=>hE.hp.out j o b off hj hb,λb hb=>hE.hp.lt hb,hE.hp.bound,λb o ⟨j,oj,hj,hb,_⟩=>⟨j,oj,hj,hb⟩⟩
  obtain⟨n1,_,n3⟩:=s.sat.moves rfl s.X s.pi hrel s.dis s.oc;obtain⟨n4,n5⟩:=n1.minus;have hl' : w'.heap[R.l]? = some (.loop lo2):=(n3 R.l (BV3.1 s.rl).1 s.lE).trans s.rl;rw[hRl]at hl';have hG2 : 𝒢.G C2:=by have:=s.g;subst q;exact this
  have hlown:C2.E0 l \/ C2.w0.heap.size<=l:=by have:=s.lown;rw[hRl]at this;exact this
  rw[hRact]at n4;cases r with
  |ret v'=>
   obtain⟨v,rfl,_⟩:=hend';rcases s.st with⟨hlv1,hlo,hI2,_⟩ | ⟨_,_,c,e,hlo,hj,hQ⟩
   .refine⟨none,w'.putObj l (.loop { lo2 with state:=.exhausted }),?_,?_⟩
    .rw[run_endLoop hl' (by rw[hlo];simp[RP.lo])];rw[hlo];rfl
    refine⟨act,rfl,C2,s2,rhoA2,hG2,(n4.poke hl' _ hlown).1,hacts,?_⟩;rw[<- hr2']at hI2;exact hend s2 (.ret v') (by have:=s.keys;subst q;exact this) (by have:=s.ng;subst q;exact this) (by subst q;exact hI2) (hlv1 ▸ hFin)
   refine⟨some c,w'.putObj l (.loop { lo2 with state:=.exhausted }),?_,?_⟩
   .rw[run_endLoop hl' (by rw[hlo];simp[RP.lo])];rw[hlo];rfl
   have hnx:NextOk 𝒢 n (Q e) act (w'.putObj l (.loop { lo2 with state:=.exhausted })):=⟨C2,s2,rhoA2,hG2,(n4.poke hl' _ hlown).1,hacts,by subst q;exact hQ⟩;cases e with
   |ret=>cases hj;exact wpIn_ret ⟨act,rfl,hnx⟩
   |exit id=>cases hj;exact wpIn_exit ⟨act,rfl,hnx⟩
   |goto t=>cases hj;exact wpIn_goto ⟨act,rfl,hnx⟩
   |normal=>exact hj.elim
   |panic x=>exact hj.elim
  |panic x=>
   obtain⟨v,rfl,hv⟩:=hend';rcases s.st with⟨hlv1,hlo,hI2,_⟩ | ⟨hlv,_⟩
   .refine⟨act,rfl,C2,s2,rhoA2,v,x,rfl,hG2,n4,hacts,hv.keeps (S0.of_imp ?_),?_⟩
    .intro b o hp;exact .inl (by rw[s.X];exact hp)
    rw[<- hr2']at hI2;exact hend s2 (.panic x) (by have:=s.keys;subst q;exact this) (by have:=s.ng;subst q;exact this) (by subst q;exact hI2) (hlv1 ▸ hFin)
   obtain⟨z,hz⟩:=hb2 hlv;cases hz
 exact⟨l,mk,w1,_,w1,f,_,w1,hent,hres,λ_ _=>trivial,hinv,λh=>by simp[FW,Fence.wide]at h,hcall2⟩
def Al0 {g:Operand}{ps:Array Tmp}{asg body:Code}(b:(ps.toList.all λt=>Nat.blt t n)=true)(casg:KR P n asg)(cbody:KR P n body):KR P n (.rangeFunc g ps asg body):=by
 intro 𝒢 ro c Q C st a w rho f h d hw;have e:∀a:Act,Tt [] a=a:=λa=>by simp[Tt]
 have:=Zd [] b casg cbody c f h d hw
 rw[e]at this
 simp_all
def AG5 (n:Nat)(c:Code)(a:BL n c=true):KR P n c:=Ak7 (λ_ _ _ _ b=>Al0 b) c a
def Ai7 (P:Program):H6 (HP P) P where
 refl:=λs K h=>semUp.refl h
 trans:=λs K h=>semUp.trans h
 mono:=λs K K' hk h=>semUp.mono hk h
 bool:=λst t b K z h=>semUp.bool z h
 nil:=λst t k n f K z h1 i=>semUp.nil z h1 i
 frz:=λst j ps K o d=>semUp.frz o d
 trunc:=λst j j' n N k e f K h1 i h3 h4 d=>semUp.trunc h1 i h3 h4 d
 toArr:=λst j n f K o d=>semUp.toArr o d
 ofArr:=λst j n f K o d=>semUp.ofArr o d
 pq:=λst t x y K z hq h=>semUp.pq z hq h
 vecq:=λst j n k e f g vw K o hq d=>semUp.vecq o hq d
 le:=λids s t K hle d=>semUp.le hle d
 fam:=λop s t c K h hc d=>semUp.famAll h hc d
 less:=λs t K h1 i d=>semUp.less h1 i d
 eqv:=λs t K h1 i d=>semUp.eqv h1 i d
 func:=λf fn code args objs Q hf hb q hok hn ho hw=>AG2 (λc=>AG5 _ c) hf hb q rfl hok hn ho hw
 argLe:=λf args args' objs Q hle h 𝒢 C w vs rho hG hS u=>by
  have a0:∀{l m:List AV},YC l m->l.length=m.length:=by
   intro l
   induction l with
   |nil=>intro m h;cases m with
    |nil=>rfl
    |cons=>exact h.elim
   |cons a r ih=>intro m h;cases m with
    |nil=>exact h.elim
    |cons b s=>simp only[BW3,ih h.2]
  have hget:∀{w:World}{Pi:Nat->Nat->Prop}{live:Nat->Prop}{rho:Nat->Value}{v:Value}{l m:List AV},YC l m->∀t,Ud w Pi live rho v (l.getD t .top)->Ud w Pi live rho v (m.getD t .top):=by
   intro w Pi live rho v l
   induction l with
   |nil=>grind
   |cons a r ih=>intro m h t ht;cases m with
    |nil=>grind
    |cons b s=>
     cases t with
     |zero=>
      rcases h.1 with rfl|⟨x,y,rfl,rfl,hl⟩
      .grind
      exact .p _ _ (ht.toP.leQ hl)
     |succ t=>exact ih h.2 t ht
  exact h 𝒢 C w vs rho hG ⟨hS.toSatE,λt=>by
   have:=hS.env t
   rw[CW]at this⊢
   grind,hS.pin,hS.marks⟩ (u.trans (a0 hle))
 monoF:=λf args objs Q Q' hq h 𝒢 C w vs rho hG hS u=>(h 𝒢 C w vs rho hG hS u).mono (by grind)
end
inductive Cls where
 |n|r|w
 |l (js:List Nat)|a (js:List Nat)
 |b (js:List Nat)
 deriving DecidableEq,Inhabited
def By8:Cls->Cls->Bool
 |.n,_|_,.n | .r,.r | .r,.l _ | .l _,.r | .l _,.l _=>false
 |.l i,.a j | .a i,.l j | .a i,.a j | .l i,.b j | .b i,.l j=>i.any λq=>j.contains q
 |_,_=>true
def HY (q:Nat):Cls->Bool
 |.w=>true
 |.a js | .b js=>js.contains q
 |_=>false
def AG6 (q:Nat):Cls->Bool
 |.n=>false
 |.l js | .a js=>js.contains q
 |_=>true
def HZ {q:Nat}{c d:Cls}(h:HY q c=true)(h' : AG6 q d=true):By8 c d=true/\By8 d c=true:=by
 have hm:∀{i j:List Nat},i.contains q=true->j.contains q=true->(i.any λq=>j.contains q)=true:=λf g=>List.any_eq_true.2 ⟨q,by simpa using f,g⟩;cases c with
 |w=>cases d<;>first|(cases h';done)|exact⟨rfl,rfl⟩
 |a i=>
  cases d with
  |n=>cases h'
  |l j=>exact⟨hm h h',hm h' h⟩
  |a j=>exact⟨hm h h',hm h' h⟩
  |_=>exact⟨rfl,rfl⟩
 |b i=>
  cases d with
  |n=>cases h'
  |l j=>exact⟨hm h h',hm h' h⟩
  |_=>exact⟨rfl,rfl⟩
 |_=>cases h
def Mf {q:Nat}{c:Cls}(h:HY q c=true):AG6 q c=true:=by cases c<;>first|(cases h;done)|rfl|exact h
def BH1:List Nat->List Nat
 |[]=>[]
 |x::r=>if (BH1 r).contains x then BH1 r else x::BH1 r
def WF {x:Nat}:∀{l:List Nat},x∈BH1 l->x∈l
 |[],h=>h
 |y::r,h=>by
  unfold BH1 at h;split at h
  .exact BX1 _ (WF h)
  rcases BX5.1 h with rfl|h
  .exact Ca7
  exact BX1 _ (WF h)
def AG7 (acc:List (List Nat))(o:Oper):List Nat:=BH1 ((o.after.toList.filter FK).flatMap λe=>e.on::acc.getD e.on [])
def WG:List Oper->List (List Nat)->List (List Nat)
 |[],acc=>acc
 |o::r,acc=>WG r (acc++[AG7 acc o])
def BK3 (ops:List Oper):List (List Nat):=WG ops []
def Al1:Operand->List Nat
 |.tmp t=>[t]
 |_=>[]
def reads (ops:List Oper)(o:Oper):List Nat:=o.op.operands.toList.flatMap Al1++match o.guard with
 |some (j,_)=>[HS ops j]
 |none=>[]
def Jl (ops:List Oper)(ci cj:Cls)(oi oj:Oper):Bool:=
 !By8 ci cj &&
 (match oi.dst with|some d=>!(reads ops oj).contains d&&decide (oj.dst≠some d)|none=>true) &&
 (match oj.dst with|some d=>!(reads ops oi).contains d|none=>true)
def MW (ops:List Oper)(cls:List Cls):Bool:=
 Jg ops&&(cls.length==ops.length) &&
 (List.range ops.length).all λj=>(List.range j).all λi=>
  match ops[i]?,ops[j]? with
  |some oi,some oj=>((BK3 ops).getD j []).contains i||Jl ops (cls.getD i .n) (cls.getD j .n) oi oj
  |_,_=>true
def isP:AV->Bool
 |.p _=>true
 |_=>false
def isN (env:Env):Op->Bool
 |.move _ | .assign _ | .pick .. | .build .. | .nilCheck _ | .binOp .. | .unOp .. | .fieldAddr .. | .field .. | .index .. | .extract .. | .makeFunc ..=>true
 |.load _ a=>isP (aev env a)
 |.convert _ _ x=>isP (aev env x)
 |.makeInterface _ x=>isP (aev env x)
 |.indexAddr _ x _=>isP (aev env x)
 |.slice _ x _ _ _=>isP (aev env x)
 |.lookup _ m k _=>isP (aev env m)&&isP (aev env k)
 |.call { callee:=.builtin .len,args,.. }=>args.toList.all λx=>isP (aev env x)
 |.call { callee:=.builtin .min,.. } | .call { callee:=.builtin .max,.. }=>true
 |_=>false
section
variable {P:Program}
def WH {env:Env}{R R' : C8}{d:Nat}{o:Op}{c:List Prop}{v:AV}(hn:isN env o=true)(h:aop P env R d o=some ⟨c,v,R'⟩):R' = R/\∀R2,aop P env R2 d o=some ⟨c,v,R2⟩:=by
 cases o with
 |move x=>simp only[aop,BT2,Out.mk.injEq]at h⊢;obtain⟨rfl,rfl,rfl⟩:=h;simp
 |assign x=>simp only[aop,BT2,Out.mk.injEq]at h⊢;obtain⟨rfl,rfl,rfl⟩:=h;simp
 |pick x y z=>simp only[aop]at h⊢;split at h<;>simp_all
 |build t ps=>
  simp only[aop]at h⊢;split at h
  .split at h<;>simp_all
  cases h
 |nilCheck x=>simp only[aop]at h⊢;split at h<;>simp_all
 |binOp op t x y yt=>simp only[aop]at h⊢;split at h<;>simp_all
 |unOp op t x=>simp only[aop]at h⊢;split at h<;>simp_all
 |fieldAddr t x f=>simp only[aop]at h⊢;split at h<;>simp_all
 |field t x f=>simp only[aop]at h⊢;split at h<;>simp_all
 |index t x i=>
  simp only[aop]at h⊢;split at h
  .split at h<;>simp_all
  cases h
 |extract x i=>
  simp only[aop]at h⊢;split at h
  .split at h<;>simp_all
  cases h
 |makeFunc f a b=>cases f<;>simp only[aop]at h⊢<;>simp_all
 |load t a=>simp only[isN]at hn;simp only[aop]at h⊢;cases hx:aev env a<;>simp only[hx,isP,BT6]at hn;simp only[hx]at h⊢;rename_i x;cases x<;>simp only[load]at h⊢<;>first|(cases h;done)|(split at h<;>simp_all)
 |convert s t x=>
  simp only[isN]at hn;cases hx:aev env x<;>simp only[hx,isP,BT6]at hn;simp only[aop,hx]at h⊢;rename_i x;have j:∀R R2 k,elems R k (.p x)=elems R2 k (.p x):=by intro R R2 k;unfold elems;split<;>simp_all
  split at h
  .split at h<;>simp_all
  .split at h<;>simp_all
  .split at h<;>simp_all
  .repeat' split at h<;>try contradiction
   rename_i n f w h3;simp only[BT2,Out.mk.injEq]at h;obtain⟨rfl,rfl,rfl⟩:=h;refine⟨rfl,λR2=>?_⟩;rw[j R R2]at h3
   simp_all
  cases h
 |makeInterface t x=>
  simp only[isN]at hn;cases hx:aev env x<;>simp only[hx,isP,BT6]at hn;simp only[aop,hx,Fa]at h⊢;split at h
  .rename_i h1 w;simp only[BT2,BU4]at h1;obtain⟨rfl,rfl⟩:=h1;split at h<;>simp_all
  cases h
 |indexAddr t x i=>
  simp only[isN]at hn;cases hx:aev env x<;>simp only[hx,isP,BT6]at hn;rename_i y;simp only[aop,hx]at h⊢;split at h
  .rename_i n l;have j:∀R R2,Hk P R t (.p y) n=Hk P R2 t (.p y) n:=by intro R R2;unfold Hk;split<;>simp_all
   split at h
   .rename_i g;simp only[BT2,Out.mk.injEq]at h;obtain⟨rfl,rfl,rfl⟩:=h;refine⟨rfl,λR2=>?_⟩;rw[j R R2]at g;simp[g]
   cases h
  cases h
 |slice t x lo l mx=>
  cases mx with
  |some _=>simp[aop]at h
  |none=>
   simp only[isN]at hn;cases hx:aev env x<;>simp only[hx,isP,BT6]at hn;rename_i y;have j:∀R R2 lo l c a R',Hl P R t (.p y) lo l=some (c,a,R')->R' = R/\Hl P R2 t (.p y) lo l=some (c,a,R2):=by
    intro R R2 lo l c a R' h;unfold Hl at h⊢;split at h
    .split at h<;>simp_all
    .split at h
     .split at h<;>simp_all
     cases h
    .split at h<;>simp_all
    .split at h<;>simp_all
    .simp_all
    simp_all
   have fin:∀lo l,(match Hl P R t (.p y) lo l with|some (c,a,Qg)=>some (Out.mk c a Qg)|none=>none)=some ⟨c,v,R'⟩ ->
    R' = R/\∀R2,(match Hl P R2 t (.p y) lo l with|some (c,a,Qg)=>some (Out.mk c a Qg)|none=>none)=some ⟨c,v,R2⟩:=by
    intro lo l h;cases g:Hl P R t (.p y) lo l with
    |none=>rw[g]at h;cases h
    |some q=>obtain⟨c',a',r'⟩:=q;rw[g]at h;simp only[BT2,Out.mk.injEq]at h;obtain⟨rfl,rfl,rfl⟩:=h;refine⟨(j _ R _ _ _ _ _ g).1,λR2=>?_⟩;simp only[(j _ R2 _ _ _ _ _ g).2]
   simp only[aop,hx]at h⊢;split at h<;>first|exact fin _ _ h|cases h
 |lookup t m k ok=>
  simp only[isN,BT5]at hn;cases hm:aev env m<;>simp only[hm,isP,BT6,false_and]at hn;rename_i y;cases hk:aev env k<;>simp only[hk,BT6,and_false]at hn;rename_i z;have j:∀R R2 k,FI P R t (.p y) k ok=FI P R2 t (.p y) k ok:=by
   intro R R2 k;unfold FI;split
   .rename_i kt e ht;cases HQ P kt k with
    |false=>rfl
    |true=>
     cases y with
     |v u=>cases u<;>first|rfl|(rename_i r;cases r<;>rfl)
     |_=>rfl
   rfl
  simp only[aop,hm,hk,Fa]at h⊢;split at h
  .rename_i g;simp only[BT2,Out.mk.injEq]at h;obtain⟨rfl,rfl,rfl⟩:=h;refine⟨rfl,λR2=>?_⟩;rw[j R R2]at g;simp[g]
  cases h
 |call c=>
  obtain⟨callee,args,types⟩:=c;cases callee with
  |builtin b=>
   cases b with
   |len=>
    simp only[aop]at h⊢;split at h
    .rename_i x t hx ht;simp only[isN,hx,Cb9,Ck8,Cg7]at hn;have j:∀R R2,AO6 P R t (aev env x)=AO6 P R2 t (aev env x):=by intro R R2;cases hy:aev env x<;>simp only[hy,isP,BT6]at hn;unfold AO6;split<;>simp_all
     cases g:AO6 P R t (aev env x)with
     |none=>rw[g]at h;cases h
     |some q=>rw[g]at h;simp only[BT2,Out.mk.injEq]at h;obtain⟨rfl,rfl,rfl⟩:=h;refine⟨rfl,λR2=>?_⟩;rw[j R R2]at g;simp[g]
    cases h
   |min=>simp only[aop]at h⊢;split at h<;>simp_all
   |max=>simp only[aop]at h⊢;split at h<;>simp_all
   |_=>simp[isN]at hn
  |_=>simp[isN]at hn
 |_=>simp[isN]at hn
def AS7 {env env' : Env}{x:Operand}(h:∀t∈Al1 x,get env t=get env' t):aev env x=aev env' x:=by
 cases x with
 |tmp t=>exact h t (by simp[Al1])
 |_=>rfl
def Pd {env env' : Env}{GY:Nat->Option (Nat×Nat)}:∀(l:List (Nat×Operand)) (cs:List AV),(∀q∈l,aev env q.2=aev env' q.2)->OU env GY l cs=OU env' GY l cs
 |[],cs,_=>rfl
 |(i,x)::r,cs,h=>by
  have hx:aev env x=aev env' x:=h (i,x) (by simp);simp only[OU,hx];split
  .split
   .exact Pd r _ λq a=>h q (BX1 _ a)
   rfl
  rfl
def Hr {env env' : Env}{R:C8}{d:Nat}{o:Op}(h:∀x∈o.operands.toList,aev env x=aev env' x):aop P env R d o=aop P env' R d o:=by
 cases o with
 |build t ps=>
  have:∀q∈ps.toList,aev env q.2=aev env' q.2:=λq g=>h q.2 (by simp only[Op.operands];simpa using ⟨q.1,by simpa using g⟩)
  simp only[aop,Pd ps.toList _ this]
 |buildSlice t n ps=>
  have:(ps.toList.map λq=>aev env q.2)=ps.toList.map λq=>aev env' q.2:=BV6 λq g=>h q.2 (by simp only[Op.operands];simpa using ⟨q.1,by simpa using g⟩)
  have j:(ps.toList.map λq=>(q.1,aev env q.2))=ps.toList.map λq=>(q.1,aev env' q.2):=BV6 λq g=>by rw[h q.2 (by simp only[Op.operands];simpa using ⟨q.1,by simpa using g⟩)]
  simp only[aop,this,j]
 |makeFunc f a b=>have h1:a.toList.map (aev env)=a.toList.map (aev env'):=BV6 λq g=>h q (by simp[Op.operands];exact .inl (by simpa using g));have j:b.toList.map (aev env)=b.toList.map (aev env'):=BV6 λq g=>h q (by simp[Op.operands];exact .inr (by simpa using g));cases f<;>simp only[aop,h1,j]
 |makeMap t r=>cases r<;>simp only[aop]
 |slice t x lo hi mx=>
  have hx:=h x (by simp[Op.operands]);have hl:lo.map (λo=>asInt (aev env o))=lo.map (λo=>asInt (aev env' o)):=by
   cases lo with
   |none=>rfl
   |some l=>simp only[BU2];rw[h l (by simp[Op.operands])]
  have u:hi.map (λo=>asInt (aev env o))=hi.map (λo=>asInt (aev env' o)):=by
   cases hi with
   |none=>rfl
   |some l=>simp only[BU2];rw[h l (by simp[Op.operands])]
  cases mx<;>simp only[aop,hx,hl,u]
 |call c=>
  obtain⟨callee,args,types⟩:=c;cases callee with
  |builtin b=>
   have h1:args.toList.map (aev env)=args.toList.map (aev env'):=BV6 λq g=>h q (by simp[Op.operands,Call.operands];simpa using g);cases b with
   |len=>
    simp only[aop];cases hl:args.toList with
    |nil=>rfl
    |cons x r=>
     rw[hl]at h1;simp only[BU9,Ca5]at h1;cases r with
     |nil=>cases types.toList with
      |nil=>rfl
      |cons t r=>cases r<;>simp only[h1.1]
     |cons _ _=>rfl
   |append=>
    simp only[aop];cases hl:args.toList with
    |nil=>rfl
    |cons x r=>
     rw[hl]at h1;simp only[BU9,Ca5]at h1;cases r with
     |nil=>rfl
     |cons y r=>
      simp only[BU9,Ca5]at h1;cases r with
      |nil=>
       cases types.toList with
       |nil=>rfl
       |cons t r=>
        cases r with
        |nil=>rfl
        |cons t2 r=>cases r<;>first|rfl|simp only[h1.1,h1.2.1]
      |cons _ _=>rfl
   |min=>simp only[aop,h1]
   |max=>simp only[aop,h1]
   |_=>first|rfl|simp only[aop]
  |_=>first|rfl|simp only[aop]
 |move x=>simp only[aop,h x (by simp[Op.operands])]
 |assign x=>simp only[aop,h x (by simp[Op.operands])]
 |pick x y z=>simp only[aop,h x (by simp[Op.operands]),h y (by simp[Op.operands]),h z (by simp[Op.operands])]
 |box t x=>simp only[aop,h x (by simp[Op.operands])]
 |load t x=>simp only[aop,h x (by simp[Op.operands])]
 |store t x y=>simp only[aop,h x (by simp[Op.operands]),h y (by simp[Op.operands])]
 |nilCheck x=>simp only[aop,h x (by simp[Op.operands])]
 |binOp op t x y yt=>simp only[aop,h x (by simp[Op.operands]),h y (by simp[Op.operands])]
 |unOp op t x=>simp only[aop,h x (by simp[Op.operands])]
 |convert s t x=>simp only[aop,h x (by simp[Op.operands])]
 |makeInterface t x=>simp only[aop,h x (by simp[Op.operands])]
 |makeSlice t l c=>simp only[aop,h l (by simp[Op.operands]),h c (by simp[Op.operands])]
 |fieldAddr t x f=>simp only[aop,h x (by simp[Op.operands])]
 |field t x f=>simp only[aop,h x (by simp[Op.operands])]
 |indexAddr t x i=>simp only[aop,h x (by simp[Op.operands]),h i (by simp[Op.operands])]
 |index t x i=>simp only[aop,h x (by simp[Op.operands]),h i (by simp[Op.operands])]
 |lookup t m k ok=>simp only[aop,h m (by simp[Op.operands]),h k (by simp[Op.operands])]
 |mapUpdate t m k x=>simp only[aop,h m (by simp[Op.operands]),h k (by simp[Op.operands]),h x (by simp[Op.operands])]
 |insert t m k x=>simp only[aop,h m (by simp[Op.operands]),h k (by simp[Op.operands]),h x (by simp[Op.operands])]
 |mapEntry t m k=>simp only[aop,h m (by simp[Op.operands]),h k (by simp[Op.operands])]
 |entryStore t m s x=>simp only[aop,h m (by simp[Op.operands]),h s (by simp[Op.operands]),h x (by simp[Op.operands])]
 |extract x i=>simp only[aop,h x (by simp[Op.operands])]
 |range t x=>simp only[aop,h x (by simp[Op.operands])]
 |entry x=>simp only[aop,h x (by simp[Op.operands])]
 |_=>first|rfl|simp only[aop]
end
section
variable (S:W9) (P:Program)
def AE (all:List Oper)(env:Env)(o:Oper):Option Bool:=
 match o.guard with
 |none=>some true
 |some (j,want)=>(yv (get env (HS all j))).map λb=>decide (b=some want)
def AS8:AV->Bool
 |.vec _ | .vecp _ _=>false
 |_=>true
def Bh8 (env:Env)(o:Op)(r:AV):Prop:= ∃c f fn as' args r',o=.call c/\c.callee=.value f/\((c.args.toList.map (aev env)).all AS8)=true/\Yt env f (c.args.toList.map (aev env))=some (fn,as')/\ES [] as' = some args/\YF S fn args r' /\ r=unA [] r'
def AS9 (env:Env)(Qg:C8)(d:Nat)(o:Op)(r:AV)(regs' : C8):Prop:= ∃c f as regs1 fn as' args objs objs' ks r' ids,o=.call c/\c.callee=.value f/\Jf Qg (c.args.toList.map (aev env))=some (as,regs1)/\Yt env f as=some (fn,as')/\ES ids as' = some args/\N5 ids regs1 ids=some objs /\ Qi S fn args objs r' objs' ks/\I1 ids=true/\GH objs=true/\Z0 regs1 ids ks d objs'.length=true /\ r=unA (H9 d ids ks objs'.length) r' /\ regs' = back (H9 d ids ks objs'.length) (H9 d ids ks objs'.length) objs' (K8 ids ks regs1)
def clsF (cl:Cls)(a b:Prop):Prop:=match cl with
 |.n=>a
 |.r=>b
 |_=>True
def clsX (cl:Cls)(env:Env)(Qg:C8)(d:Nat)(o:Op)(c:List Prop)(v:AV)(regs' : C8):Prop:=match cl with
 |.l js=>(∀q,A2 regs' q=A2 Qg q)/\∀R2,(∀q∈js,A2 R2 q=A2 Qg q)->∃R3,aop P env R2 d o=some ⟨c,v,R3⟩/\∀q,A2 R3 q=A2 R2 q
 |.a js=>∀R2,(∀q∈js,A2 R2 q=A2 Qg q)->∃R3,aop P env R2 d o=some ⟨c,v,R3⟩/\(∀q∈js,A2 R3 q=A2 regs' q)/\∀q,q ∉ js->A2 R3 q=A2 R2 q
 |.b js=>∀q,q ∉ js->A2 regs' q=A2 Qg q
 |_=>True
def Bh9 (cl:Cls)(env:Env)(Qg:C8)(d:Nat)(o:Op)(v:AV)(regs' : C8):Prop:= (∃c,aop P env Qg d o=some ⟨c,v,regs'⟩/\E5 c/\clsF cl (isN env o=true) (regs' = Qg)/\clsX P cl env Qg d o c v regs') \/ (Bh8 S env o v/\regs' = Qg) \/ ((cl=.w \/ ∃js,cl=.b js/\∀q,q ∉ js->A2 regs' q=A2 Qg q)/\AS9 S env Qg d o v regs') \/ (∃c x,Tx P env o=some (c,x)/\E5 c/\v=.p x/\regs' = Qg) \/ ∃js,cl=.a js/\(∀q,q ∉ js->A2 regs' q=A2 Qg q)/\∀R2,(∀q∈js,A2 R2 q=A2 Qg q)->∃R3,AS9 S env R2 d o v R3/\(∀q∈js,A2 R3 q=A2 regs' q)/\∀q,q ∉ js->A2 R3 q=A2 R2 q
def Qy (d:Option Nat)(a:AV)(env:Env):Env:=match d with
 |some d=>ins d a env
 |none=>env
def Mg (all:List Oper):List Cls->List Oper->Env->C8->(Env->C8->Prop)->Prop
 |cl::cls,o::rest,env,Qg,k=>∃b,AE all env o=some b /\
  if b then ∃v regs',Bh9 S P cl env Qg (o.dst.getD 0) o.op v regs' /\ Mg all cls rest (Qy o.dst v env) regs' k
  else Mg all cls rest (Qy o.dst Df env) Qg k
 |_,[],env,Qg,k=>k env Qg
 |[],_::_,_,_,_=>False
end
section
variable {S:W9}{P:Program}
structure Bi0 (S:W9) (P:Program) (all:List Oper) (cls:List Cls) (E:Nat->Env) (R:Nat->C8) (V:Nat->AV):Prop where
 step:∀i o,all[i]? = some o->∃b,AE all (E i) o=some b /\
  (if b then Bh9 S P (cls.getD i .n) (E i) (R i) (o.dst.getD 0) o.op (V i) (R (i+1))else V i=Df/\R (i+1)=R i)/\E (i+1)=Qy o.dst (V i) (E i)
def Ay7 (all:List Oper):∀(rest:List Oper) (cls:List Cls) (i:Nat) (env:Env) (Qg:C8) (k:Env->C8->Prop),Mg S P all cls rest env Qg k->cls.length=rest.length ->
 ∃(E:Nat->Env) (R:Nat->C8) (V:Nat->AV),E 0=env/\R 0=Qg/\k (E rest.length) (R rest.length) /\
  ∀j o,rest[j]? = some o->∃b,AE all (E j) o=some b /\
   (if b then Bh9 S P (cls.getD j .n) (E j) (R j) (o.dst.getD 0) o.op (V j) (R (j+1))else V j=Df/\R (j+1)=R j)/\E (j+1)=Qy o.dst (V j) (E j)
 |[],[],i,env,Qg,k,h,_=>⟨λ_=>env,λ_=>Qg,λ_=>.top,rfl,rfl,h,λj o c=>by simp at c⟩
 |[],_::_,i,env,Qg,k,h,hl=>by simp at hl
 |_::_,[],i,env,Qg,k,h,hl=>by simp at hl
 |o::rest,cl::cls,i,env,Qg,k,h,hl=>by
  obtain⟨b,hb,h⟩:=h;have key:∃v regs',(if b then Bh9 S P cl env Qg (o.dst.getD 0) o.op v regs' else v=Df/\regs' = Qg)/\Mg S P all cls rest (Qy o.dst v env) regs' k:=by
   cases b with
   |true=>simp only[Hu]at h⊢;exact h
   |false=>simp only[BT6,Ih]at h⊢;exact⟨_,_,⟨rfl,rfl⟩,h⟩
  obtain⟨v,regs',hs,a⟩:=key;obtain⟨E,R,V,h1,d,f,g⟩:=Ay7 all rest cls (i+1) _ _ k a (by simpa using hl);refine⟨λj=>match j with|0=>env|j+1=>E j,λj=>match j with|0=>Qg|j+1=>R j,λj=>match j with|0=>v|j+1=>V j,rfl,rfl,f,?_⟩;intro j o' c;cases j with
  |zero=>simp only[Cb1,BT2]at c;subst c;refine⟨b,hb,?_,h1⟩;simp only[Cj8,d];exact hs
  |succ j=>
   have:=g j o' (by simpa using c)
   simpa using this
def KS (all:List Oper)(V:Nat->AV)(env:Env)(D:Nat->Bool)(x:Nat):Nat->AV
 |0=>get env x
 |m+1=>if D m=true/\(all[m]?).bind (·.dst)=some x then V m else KS all V env D x m
theorem FP {all:List Oper}{V:Nat->AV}{env:Env}{D D' : Nat->Bool}{x:Nat}:∀{m:Nat},(∀j,j<m->(all[j]?).bind (·.dst)=some x->D j=D' j)->KS all V env D x m=KS all V env D' x m
 |0,_=>rfl
 |m+1,h=>by
  simp only[KS];rw[FP (m:=m) λj b a=>h j (by omega) a];by_cases a:(all[m]?).bind (·.dst)=some x
  .rw[h m (by omega) a]
  simp[a]
def Ze {all:List Oper}{V:Nat->AV}{env:Env}{D:Nat->Bool}{x i:Nat}(a:D i=true)(hx:(all[i]?).bind (·.dst)=some x):∀{m:Nat},i<m->(∀j,i<j->j<m->(all[j]?).bind (·.dst)=some x->D j=false)->KS all V env D x m=V i
 |0,h,_=>by omega
 |m+1,h,hno=>by
  simp only[KS];by_cases e:i=m
  .subst e;rw[Fg ⟨a,hx⟩]
  rw[Gb]
  .exact Ze a hx (by omega) λj h1 b=>hno j h1 (by omega)
  rintro⟨h1,b⟩;rw[hno m (by omega) (by omega) b]at h1;cases h1
def Fl (env:Env)(d t:Nat)(x:AV):get (ins d x env) t=if d=t then x else get env t:=by
 induction env with
 |nil=>simp[ins,get]
 |cons p r ih=>
  obtain⟨i,b⟩:=p;simp only[ins];split
  .simp only[get]
  split
  .rename_i h;subst h;simp only[get];split<;>rfl
  rename_i h1 a;simp only[get,ih];by_cases h:i=t
  .simp only[h,Hu];rw[Dm]
  simp only[h,Ih]
def Ay8 (env:Env)(d:Option Nat)(t:Nat)(x:AV):get (Qy d x env) t=if d=some t then x else get env t:=by
 cases d with
 |none=>simp[Qy]
 |some d=>simp[Qy,Fl]
def Zf {all:List Oper}{cls:List Cls}{E:Nat->Env}{R:Nat->C8}{V:Nat->AV}(h:Bi0 S P all cls E R V)(x:Nat):∀m,m<=all.length->get (E m) x=KS all V (E 0) (λj=>decide (j<m)) x all.length:=by
 have h1:∀m,m<=all.length->get (E m) x=KS all V (E 0) (λ_=>true) x m:=by
  intro m
  induction m with
  |zero=>intro _;rfl
  |succ m ih=>intro hm;obtain⟨o,a⟩:∃o,all[m]? = some o:=⟨_,BT4 (by omega)⟩;obtain⟨b,_,_,c⟩:=h.step m o a;rw[c,Ay8];simp only[KS,a,BT1,true_and];rw[ih (by omega)]
 have d:∀m n,m<=n->KS all V (E 0) (λj=>decide (j<m)) x n=KS all V (E 0) (λ_=>true) x m:=by
  intro m n
  induction n with
  |zero=>
   intro h;obtain rfl:m=0:=by omega
   rfl
  |succ n ih=>
   intro f;by_cases e:m=n+1
   .subst e;exact FP λj g _=>by simp[g]
   simp only[KS];rw[Gb (by simp;intro i;omega),ih (by omega)]
 intro m hm;rw[h1 m hm,d m _ hm]
def AT0 {all:List Oper}{cls:List Cls}{E:Nat->Env}{R:Nat->C8}{V:Nat->AV}(h:Bi0 S P all cls E R V){i o q}(s:all[i]? = some o)(hc:HY q (cls.getD i .n)=false):A2 (R (i+1)) q=A2 (R i) q:=by
 obtain⟨b,_,g,_⟩:=h.step i o s;cases b with
 |false=>simp only[BT6,Ih]at g;rw[g.2]
 |true=>
  simp only[Hu]at g;rcases g with⟨c,ha,_,f,hx⟩ | ⟨_,d⟩ | ⟨d,_⟩ | ⟨_,_,_,_,_,d⟩ | ⟨js,hk,d,_⟩
  .cases hk:cls.getD i .n with
   |n=>rw[hk]at f;rw[(WH f ha).1]
   |r=>rw[hk]at f;rw[show R (i+1)=R i from f]
   |w=>rw[hk]at hc;cases hc
   |l j=>rw[hk]at hx;exact hx.1 q
   |a j=>rw[hk]at hx hc;obtain⟨R3,m,_,t⟩:=hx (R i) λ_ _=>rfl;rw[m]at ha;cases ha;exact t q (by simpa[HY]using hc)
   |b j=>rw[hk]at hx hc;exact hx q (by simpa[HY]using hc)
  .rw[d]
  .rcases d with d|⟨js,d,m⟩
   .rw[d]at hc;cases hc
   rw[d]at hc;exact m q (by simpa[HY]using hc)
  .rw[d]
  rw[hk]at hc;exact d q (by simpa[HY]using hc)
def Al2 {all:List Oper}{cls:List Cls}{E:Nat->Env}{R:Nat->C8}{V:Nat->AV}(h:Bi0 S P all cls E R V)(q:Nat):∀(a b:Nat),a<=b->b<=all.length->(∀j,a<=j->j<b->HY q (cls.getD j .n)=false)->A2 (R b) q=A2 (R a) q:=by
 intro a b
 induction b with
 |zero=>
  intro h1 _ _;obtain rfl:a=0:=by omega
  rfl
 |succ b ih=>
  intro h1 g c;by_cases e:a=b+1
  .rw[e]
  obtain⟨o,d⟩:∃o,all[b]? = some o:=⟨_,BT4 (by omega)⟩;rw[AT0 h d (c b (by omega) (by omega)),ih (by omega) (by omega) λj f i=>c j f (by omega)]
theorem Mh {o:Oper}{k:St->Prop}{Q:M0}{st:St}{c:List Prop}{v:AV}{R' : C8}(h:aop P st.env st.Qg (o.dst.getD 0) o.op=some ⟨c,v,R'⟩)(hc:E5 c)(hk:k (put { st with Qg:=R' } o.dst v)):wOp S P o k Q st:=by
 unfold wOp;split
 .rename_i a;rw[a]at h;simp[aop]at h
 .rename_i a;rw[a]at h;simp[aop]at h
 .rename_i a;rw[a]at h;simp[aop]at h
 .rename_i a;rw[a]at h;simp[aop]at h
 exact .inl ⟨_,h,hc,hk⟩
theorem Bi1 {o:Oper}{k:St->Prop}{Q:M0}{st:St}{c:List Prop}{x:PV}(h:Tx P st.env o.op=some (c,x))(hc:E5 c)(hk:k (put st o.dst (.p x))):wOp S P o k Q st:=by
 unfold wOp;split
 .rename_i a;rw[a]at h;simp[Tx]at h
 .rename_i a;rw[a]at h;simp[Tx]at h
 .rename_i a;rw[a]at h;simp[Tx]at h
 .rename_i a;rw[a]at h;simp[Tx]at h
 exact .inr (.inl ⟨_,_,h,hc,hk⟩)
def AG8 {env env' : Env}{o:Op}(h:∀x∈o.operands.toList,aev env x=aev env' x):Tx P env o=Tx P env' o:=by
 cases o with
 |buildSlice t n parts=>
  have:(parts.toList.map λq=>aev env q.2)=parts.toList.map λq=>aev env' q.2:=BV6 λq a=>h q.2 (by simp only[Op.operands];simpa using ⟨q.1,by simpa using a⟩)
  simp only[Tx,this]
 |makeSlice t l c=>have h1:aev env l=aev env' l:=h l (by simp[Op.operands]);have b:aev env c=aev env' c:=h c (by simp[Op.operands]);simp only[Tx,h1,b]
 |_=>rfl
def Zg (ops:List Oper):∀(rest:List Oper) (acc:List (List Nat)),acc.length+rest.length=ops.length->ops.drop acc.length=rest->∀i,(i<acc.length->(WG rest acc).getD i []=acc.getD i []) /\
 (acc.length<=i->i<ops.length->∃o,ops[i]? = some o/\∃pre,(WG rest acc).getD i []=AG7 pre o/\∀j,j<i->pre.getD j []=(WG rest acc).getD j [])
 |[],acc,hl,hd,i=>⟨λ_=>rfl,λh1 d=>by simp at hl;omega⟩
 |o::rest,acc,hl,hd,i=>by
  have f:ops[acc.length]? = some o:=by
   have:(ops.drop acc.length)[0]? = some o:=by rw[hd];rfl
   simpa using this
  have b : ops.drop (acc++[AG7 acc o]).length=rest:=by
   have:(ops.drop acc.length).drop 1=rest:=by rw[hd];rfl
   rw[Ce8]at this;simpa using this
  have ih:=λi=>Zg ops rest (acc++[AG7 acc o]) (by simp at hl⊢;omega) b i;have a:∀j,j<acc.length->(WG (o::rest) acc).getD j []=acc.getD j []:=by intro j c;simp only[WG];rw[(ih j).1 (by simp;omega)];simp[BT0,BZ3 c]
  refine⟨a i,λh1 d=>?_⟩;by_cases e:i=acc.length
  .subst e;refine⟨o,f,acc,?_,λj c=>(a j c).symm⟩;simp only[WG];rw[(ih acc.length).1 (by simp)];simp[BT0]
  simp only[WG];exact (ih i).2 (by simp;omega) d
def Oo {ops:List Oper}(a:Jg ops=true){D:Nat->Bool}(s:∀i o,D i=true->ops[i]? = some o->∀e∈o.after.toList,FK e=true->D e.on=true) :∀(i:Nat) (o:Oper),ops[i]? = some o->(∀e∈o.after.toList,FK e=true->D e.on=true)->∀j∈(BK3 ops).getD i [],D j=true:=by
 intro i
 induction i using Nat.strongRecOn with
 |_ i ih=>
  intro o r c j b;have d:i<ops.length:=(BV1.1 r).1;obtain⟨o',f,pre,h1,t⟩:=(Zg ops ops [] (by simp) (by simp) i).2 (by simp) d;rw[r]at f;cases f;have h1:(BK3 ops).getD i []=AG7 pre o:=h1;rw[h1]at b;unfold AG7 at b;have b:=WF b;rw[List.mem_flatMap]at b;obtain⟨e,g,b⟩:=b;rw[Cf7]at g;obtain⟨g,hb⟩:=g;have l:e.on<i:=by
   unfold Jg at a;rw[BU0]at a
   have:=a i (by simpa using d)
   simp only[r,BU0,BV9,BU5,decide_eq_true_eq]at this;rcases this e g with q|q
   .rw[hb]at q;cases q
   exact q
  have m:=c e g hb;rcases BX5.1 b with rfl|b
  .exact m
  rw[t e.on l]at b;obtain⟨oe,n⟩:∃oe,ops[e.on]? = some oe:=⟨_,BT4 (by omega)⟩;exact ih e.on l oe n (s e.on oe m n) j b
end
section
variable {S:W9}{P:Program}
def UY {Qg:C8}:∀{l:List AV},l.all AS8=true->Jf Qg l=some (l,Qg)
 |[],_=>rfl
 |a::r,h=>by simp only[Cb9,BT5]at h;have ih:=UY (Qg:=Qg) h.2;cases a<;>simp only[Jf,ih]<;>simp[AS8]at h
def Oq {env env' : Env}{f:Operand}{as:List AV}(h:aev env f=aev env' f):Yt env f as=Yt env' f as:=by grind[Yt]
def UZ {all:List Oper}{V:Nat->AV}{env:Env}{x:Nat}:∀m,KS all V env (λ_=>false) x m=get env x
 |0=>rfl
 |m+1=>by simp only[KS];rw[Gb (by simp),UZ m]
def Zh (hS:H6 S P){F:M0}{K:List It}{id:Nat}{ops:Array Oper}{env:Env}{Qg:C8}(cls:List Cls)(hmix:P.follows .mixedOrders=true)(hok:MW ops.toList cls=true)
 (h:Mg S P ops.toList cls ops.toList env Qg λenv Qg=>G S P F (.pop .normal K ⟨env,Qg⟩)):G S P F (.code (.region id ops true) K ⟨env,Qg⟩):=by
 simp only[G,awp,Hu];generalize ops.toList=all at hok h;simp only[MW,BT5,beq_iff_eq,BU0,BW9]at hok;obtain⟨⟨hdep,hlen⟩,hpair⟩:=hok;obtain⟨E,R,V,hE0,hR0,hk,hstep⟩:=Ay7 all all cls 0 env Qg _ h hlen;have T:Bi0 S P all cls E R V:=⟨hstep⟩;have hpr:∀(i j:Nat) (oi oj:Oper),i<j->all[i]? = some oi->all[j]? = some oj->i∈(BK3 all).getD j [] \/ Jl all (cls.getD i .n) (cls.getD j .n) oi oj=true:=by
  grind
 let down:(Nat->Bool)->Prop:=λD=>∀i o,D i=true->all[i]? = some o->∀e∈o.after.toList,FK e=true->D e.on=true
 let Inv:(Nat->Bool)->St->Prop:=λD s=>down D/\(∀x,get s.env x=KS all V env D x all.length) /\
  ∀q,∃k,k<=all.length/\(∀i,i<all.length->HY q (cls.getD i .n)=true->(D i=true↔i<k))/\A2 s.Qg q=A2 (R k) q
 refine⟨hmix,hdep,Inv,⟨by grind,λx=>(UZ _).symm,by grind⟩,?_,?_⟩
 .intro D i s o ⟨hD,henv,hreg⟩ ho hDi hready;have hin:i<all.length:=(by grind);have hanc:=Oo hdep hD i o ho hready;have hbef:∀j oj,j<i->all[j]? = some oj->D j=true \/ Jl all (cls.getD j .n) (cls.getD i .n) oj o=true:=(by grind);have haft:∀j oj,i<j->all[j]? = some oj->D j=true->Jl all (cls.getD i .n) (cls.getD j .n) o oj=true:=by
   intro j oj hj g z;rcases hpr i j o oj hj ho g with h1|h1
   .have:=Oo hdep hD j oj g (hD j oj z g) i h1
    rw[hDi]at this;grind
   omega
  have hrd:∀x∈reads all o,get s.env x=get (E i) x:=by
   intro x hx;rw[henv x,Zf T x i (by omega),hE0];refine FP λj hj hd=>?_;obtain⟨oj,g⟩:∃oj,all[j]? = some oj:=(by grind);simp only[g,BT1]at hd;by_cases e:j<i
   .simp only[e,decide_true];rcases hbef j oj e g with h1|h1
    .omega
    simp only[Jl,hd,BT5,BU5,BX0,decide_eq_false_iff_not]at h1
    grind
   simp only[e,decide_false];by_cases e2:j=i
   .grind
   cases z:D j with
   |false=>rfl
   |true=>
    have h1:=haft j oj (by omega) g z;simp only[Jl,hd,BT5,BU5,BX0,decide_eq_false_iff_not]at h1
    grind
  have d:∀x∈o.op.operands.toList,aev s.env x=aev (E i) x:=λx hx=>AS7 λt ht=>hrd t (BW5 _ (by grind));have hq:∀q,AG6 q (cls.getD i .n)=true->A2 s.Qg q=A2 (R i) q:=by
   intro q hn;obtain⟨k,hkn,hW,hr⟩:=hreg q;rw[hr];by_cases hki:k<=i
   .refine (Al2 T q k i hki (by omega) λj h1 h2=>?_).symm;cases hw:HY q (cls.getD j .n)with
    |false=>rfl
    |true=>
     obtain⟨oj,g⟩:∃oj,all[j]? = some oj:=(by grind);rcases hbef j oj h2 g with h3|h3
     .have:=(hW j (by omega) hw).1 h3;omega
     simp only[Jl,(HZ hw hn).1,Cd2,Cd9,BT6]at h3
   refine Al2 T q i k (by omega) hkn λj h1 h2=>?_;cases hw:HY q (cls.getD j .n)with
   |false=>rfl
   |true=>
    have z:D j=true:=(by grind);by_cases e:j=i
    .grind
    obtain⟨oj,g⟩:∃oj,all[j]? = some oj:=(by grind);have h3:=haft j oj (by omega) g z;simp only[Jl,(HZ hw hn).2,Cd2,Cd9,BT6]at h3
  obtain⟨b,hb,hs,hEi⟩:=hstep i o ho;have hdown:down λj=>if j=i then true else D j:=by
   intro j oj hj g e he hbe;by_cases e1:j=i
   .grind
   grind
  have henv' : ∀x,get (Qy o.dst (V i) s.env) x=KS all V env (λj=>if j=i then true else D j) x all.length:=by
   intro x;rw[Ay8];by_cases hd:o.dst=some x
   .rw[Fg hd];refine (Ze (by simp) (by grind) hin λj h1 h2 h3=>?_).symm;have hne:j≠i:=by omega
    simp only[hne,Ih]
    grind[List.getElem?_eq_getElem,Jl]
   rw[Gb hd,henv x];refine FP λj hj h3=>?_;have hne:j≠i:=by grind
   grind
  have u:∀R',(∀q,HY q (cls.getD i .n)=true->A2 R' q=A2 (R (i+1)) q)->(∀q,HY q (cls.getD i .n)=false->A2 R' q=A2 s.Qg q)->Inv (λj=>if j=i then true else D j) (put ⟨s.env,R'⟩ o.dst (V i)):=by
   intro R' h1 h2;refine⟨hdown,?_,λq=>?_⟩
   .intro x
    have:=henv' x
    cases hd:o.dst<;>simp only[hd,put,Qy]at this⊢<;>exact this
   have hput:(put ⟨s.env,R'⟩ o.dst (V i)).Qg=R':=by cases o.dst<;>rfl
   rw[hput];cases hw:HY q (cls.getD i .n)with
   |false=>
    obtain⟨k,hkn,hW,hr⟩:=hreg q;refine⟨k,hkn,λj hj hwj=>?_,(h2 q hw).trans hr⟩;have hne:j≠i:=by grind
    grind
   |true=>
    refine⟨i+1,by omega,λj hj hwj=>?_,h1 q hw⟩;by_cases e:j=i
    .grind
    simp only[e,Ih];obtain⟨oj,g⟩:∃oj,all[j]? = some oj:=(by grind);constructor
    .intro z;by_cases hlt:i<j
     .have h3:=haft j oj hlt g z;simp only[Jl,(HZ hw (Mf hwj)).1,Cd2,Cd9,BT6]at h3
     omega
    intro hlt;rcases hbef j oj (by omega) g with h3|h3
    .omega
    simp only[Jl,(HZ hwj (Mf hw)).1,Cd2,Cd9,BT6]at h3
  obtain⟨RT,hRT,y⟩:∃RT,(∀q,A2 s.Qg q=A2 RT q)/\((cls.getD i .n=.r \/ cls.getD i .n=.w \/ ∃js,cls.getD i .n=.b js)->RT=R i):=by
   by_cases hall:cls.getD i .n=.r \/ cls.getD i .n=.w \/ ∃js,cls.getD i .n=.b js
   .exact⟨R i,λq=>hq q (by rcases hall with h1|h1|⟨js,h1⟩<;>rw[h1]<;>rfl),λ_=>rfl⟩
   exact⟨s.Qg,λ_=>rfl,by grind⟩
  have hsame:R (i+1)=R i->Inv (λj=>if j=i then true else D j) (put ⟨s.env,RT⟩ o.dst (V i)):=λhRi=>
   u RT (λq hw=>by rw[<- hRT q,hq q (Mf hw),hRi]) (by grind)
  have hrun:b=true->wOp S P o (Inv λj=>if j=i then true else D j) (kp S P K F) ⟨s.env,RT⟩:=by
   intro hbt;rw[hbt,Fg rfl]at hs;rcases hs with⟨c,ha,hc,hcl,hcx⟩ | ⟨hp,hRi⟩ | ⟨hw,hdet⟩ | ⟨c,x,ha,hc,hvx,hRi⟩ | ⟨js,m,_,hx⟩
   .cases m : cls.getD i .n with
    |n=>
     rw[m]at hcl;have h1:=WH hcl ha;have ha':=h1.2 RT;rw[<- Hr d]at ha'
     grind[Mh]
    |r=>
     rw[m]at hcl;rw[<- Hr d,<- y (.inl m)]at ha;refine Mh ha hc ?_;have hcl:R (i+1)=R i:=hcl;rw[hcl,<- y (.inl m)]
     grind
    |w=>rw[<- Hr d,<- y (.inr (.inl m))]at ha;exact Mh ha hc (u _ (λ_ _=>rfl) λq hw=>by rw[m]at hw;cases hw)
    |b js=>
     rw[m]at hcx;rw[<- Hr d,<- y (by grind)]at ha;exact Mh ha hc (u _ (λ_ _=>rfl) λq hw=>by rw[m]at hw;rw[hcx q (by grind[HY]),hRT q,y (by grind)])
    |l js=>
     rw[m]at hcx;obtain⟨R3,ha',h3⟩:=hcx.2 RT λq hj=>by rw[<- hRT q];grind[AG6]
     rw[<- Hr d]at ha';exact Mh ha' hc (u R3 (λq hw=>by rw[m]at hw;cases hw) (by grind))
    |a js=>
     rw[m]at hcx;obtain⟨R3,ha',h3,h4⟩:=hcx RT λq hj=>by rw[<- hRT q];grind[AG6]
     rw[<- Hr d]at ha';refine Mh ha' hc (u R3 (λq hw=>?_) λq hw=>?_)
     all_goals grind[HY]
   .obtain⟨c,f,fn,as',args,r',e1,e2,e3,e4,e5,e6,e7⟩:=hp;obtain⟨callee,cargs,types⟩:=c;simp only at e2 e3 e4;subst e2;have v:cargs.toList.map (aev s.env)=cargs.toList.map (aev (E i)):=BV6 λx hx=>d x (by rw[e1];grind[Op.operands,Call.operands]);have hf:aev s.env f=aev (E i) f:=d f (by rw[e1];simp[Op.operands,Call.operands]);unfold wOp;rw[e1];refine .inl ⟨_,RT,fn,as',by rw[v];exact .inl (UY e3),by rw[Oq hf];omega,[],args,[],rfl,e5,rfl,rfl,hS.monoF _ _ _ _ _ ?_ e6⟩;rintro _ _ _ ⟨rfl,rfl,rfl⟩;refine⟨rfl,?_⟩
    have:(H9 (o.dst.getD 0) [] [] ([]:List Obj).length)=[]:=rfl
    rw[this];show Inv _ (put ⟨s.env,RT⟩ o.dst (unA [] r'));rw[<- e7]
    grind
   .obtain⟨c,f,as,regs1,fn,as',args,objs,objs',ks,r',ids,e1,e2,e3,e4,e5,e6,e7,e8,e9,e10,e11,e12⟩:=hdet;obtain⟨callee,cargs,types⟩:=c;simp only at e2 e3;subst e2;have v:cargs.toList.map (aev s.env)=cargs.toList.map (aev (E i)):=BV6 λx hx=>d x (by rw[e1];grind[Op.operands,Call.operands]);have hf:aev s.env f=aev (E i) f:=d f (by rw[e1];simp[Op.operands,Call.operands]);unfold wOp;rw[e1];have hRTi:RT=R i:=(by grind);refine .inl ⟨as,regs1,fn,as',by rw[v,hRTi];exact .inl e3,by rw[Oq hf];omega,ids,args,objs,e8,e5,e6,e9,hS.monoF _ _ _ _ _ ?_ e7⟩;rintro _ _ _ ⟨rfl,rfl,rfl⟩;refine⟨e10,?_⟩;show Inv _ (put ⟨s.env,_⟩ o.dst (unA _ r'));rw[<- e11,<- e12];exact u _ (λ_ _=>rfl) λq h=>by
     grind[HY]
   .rw[<- AG8 d]at ha;have hfin:=hsame hRi;rw[hvx]at hfin
    grind[Bi1]
   obtain⟨R3,⟨c,f,as,regs1,fn,as',args,objs,objs',ks,r',ids,e1,e2,e3,e4,e5,e6,e7,e8,e9,e10,e11,e12⟩,h3,h4⟩:=hx RT λq hj=>by rw[<- hRT q];grind[AG6]
   obtain⟨callee,cargs,types⟩:=c;simp only at e2 e3;subst e2;have v:cargs.toList.map (aev s.env)=cargs.toList.map (aev (E i)):=BV6 λx hx=>d x (by rw[e1];grind[Op.operands,Call.operands]);have hf:aev s.env f=aev (E i) f:=d f (by rw[e1];simp[Op.operands,Call.operands]);unfold wOp;rw[e1];refine .inl ⟨as,regs1,fn,as',by rw[v];exact .inl e3,by rw[Oq hf];omega,ids,args,objs,e8,e5,e6,e9,hS.monoF _ _ _ _ _ ?_ e7⟩;rintro _ _ _ ⟨rfl,rfl,rfl⟩;refine⟨e10,?_⟩;show Inv _ (put ⟨s.env,_⟩ o.dst (unA _ r'));rw[<- e11,<- e12];exact u R3 (λq hw=>by rw[m]at hw;grind[HY]) λq hw=>by rw[m]at hw;rw[h4 q (by grind[HY]),hRT q]
  have hskip:b=false->Inv (λj=>if j=i then true else D j) (put ⟨s.env,RT⟩ o.dst Df):=by
   intro hbf;rw[hbf]at hs;simp at hs;obtain⟨hv,hRi⟩:=hs;rw[<- hv]
   grind
  refine hS.eqv s ⟨s.env,RT⟩ _ (λ_=>rfl) hRT ?_;cases hg:o.guard with
  |none=>
   grind[AE,Option.some.injEq]
  |some q=>
   obtain⟨j,want⟩:=q;simp only[AE,hg,BV0]at hb;obtain⟨b0,hy,hb0⟩:=hb;have hsl:get s.env (HS all j)=get (E i) (HS all j):=hrd _ (BW0 _ (by grind))
   grind
 intro D s ⟨hD,henv,hreg⟩ hall;refine hS.eqv s ⟨E all.length,R all.length⟩ _ (λx=>?_) (λq=>?_) hk
 .show get s.env x=get (E all.length) x;rw[henv x,Zf T x _ (BT8 _),hE0]
  grind[FP]
 obtain⟨k,hkn,hW,hr⟩:=hreg q;rw[hr];refine (Al2 T q k all.length hkn (BT8 _) λj h1 h2=>?_).symm
 grind
end
def BK4:Op->Cls
 |.store .. | .alloc _ | .box .. | .buildSlice .. | .makeMap .. | .makeSlice .. | .mapUpdate .. | .insert .. | .entryStore .. | .mapEntry ..=>.w
 |.load .. | .indexAddr .. | .lookup ..=>.r
 |.call { callee:=.builtin .len,.. } | .call { callee:=.builtin .cap,.. }=>.r
 |.call { callee:=.builtin .min,.. } | .call { callee:=.builtin .max,.. }=>.n
 |.call _=>.w
 |_=>.n
def isR (env:Env):Op->Bool
 |.load .. | .indexAddr ..=>true
 |.lookup _ _ k _=>isP (aev env k)
 |.call { callee:=.builtin .len,.. }=>true
 |o=>isN env o
def inJ (js:List Nat):AV->Bool
 |.p _=>true
 |.vec i=>js.contains i
 |.vecp i _=>js.contains i
 |_=>false
def adJ (js:List Nat):AV->Bool
 |.reg i _=>js.contains i
 |.elt i _ _ _=>js.contains i
 |_=>false
def mrJ (js:List Nat):AV->Bool
 |.Sc i=>js.contains i
 |_=>false
def isL (js:List Nat)(env:Env):Op->Bool
 |.lookup _ m k _=>mrJ js (aev env m)&&isP (aev env k)
 |.load _ a=>adJ js (aev env a)
 |.indexAddr _ x _=>adJ js (aev env x)||inJ js (aev env x)
 |.call { callee:=.builtin .len,args,.. }=>args.toList.all λx=>inJ js (aev env x)
 |_=>false
def isA (js:List Nat)(env:Env)(d:Nat):Op->Bool
 |.alloc _=>js.contains (nid d 0)
 |.box _ _=>js.contains (nid d 0)
 |.store _ a _=>adJ js (aev env a)
 |.call { callee:=.builtin .append,args,.. }=>js.contains (nid d 0)&&args.toList.all λx=>inJ js (aev env x)
 |.buildSlice _ _ parts=>js.contains (nid d 0)&&parts.toList.all λq=>isP (aev env q.2)
 |.makeMap _ none=>js.contains (nid d 0)
 |.mapEntry _ m k=>mrJ js (aev env m)&&isP (aev env k)
 |.entryStore _ m _ x=>mrJ js (aev env m)&&isP (aev env x)
 |_=>false
def isB (js:List Nat)(env:Env)(d:Nat):Op->Bool
 |.buildSlice _ _ parts=>js.contains (nid d 0)&&parts.toList.all λq=>inJ js (aev env q.2)
 |_=>false
def Zi (cl:Cls)(env:Env)(d:Nat)(o:Op):Bool:=match cl with
 |.n=>isN env o
 |.r=>isR env o
 |.w=>true
 |.l j=>isL j env o
 |.a j=>isA j env d o
 |.b j=>isB j env d o
structure SRes:Type 1 where
 conds:List Prop
 cls:List Cls
 rest:List Oper
 env:Env
 Qg:C8
def BK5 (kn:List Nat)(all:List Oper)(env:Env)(o:Oper):Bool:=match o.guard with
 |none=>false
 |some (j,_)=>match kn.contains j with
  |true=>false
  |false=>match get env (HS all j)with
   |.p (.bb _)=>true
   |_=>false
def Tu (P:Program)(kn:List Nat)(all:List Oper):List Cls->List Oper->List Prop->Env->C8->SRes
 |cl::cls,o::rest,c,env,Qg=>
  match BK5 kn all env o with
  |true=>⟨c,cl::cls,o::rest,env,Qg⟩
  |false=>match AE all env o with
  |some true=>match Bf4 o.op&&Zi cl env (o.dst.getD 0) o.op with
   |true=>match aop P env Qg (o.dst.getD 0) o.op with
    |none=>⟨c,cl::cls,o::rest,env,Qg⟩
    |some ⟨p,v,regs'⟩=>fA v λv=>fR regs' λregs'=>fC p c λc=>
     match o.dst with
     |some d=>AQ0 d v env λenv=>Tu P kn all cls rest c env regs'
     |none=>Tu P kn all cls rest c env regs'
   |false=>⟨c,cl::cls,o::rest,env,Qg⟩
  |some false=>match o.dst with
   |some d=>AQ0 d Df env λenv=>Tu P kn all cls rest c env Qg
   |none=>Tu P kn all cls rest c env Qg
  |none=>⟨c,cl::cls,o::rest,env,Qg⟩
 |cls,rest,c,env,Qg=>⟨c,cls,rest,env,Qg⟩
section
variable {S:W9}{P:Program}
def Bi2 {env:Env}{R R' : C8}{d:Nat}{o:Op}{c:List Prop}{v:AV}(f:isR env o=true)(h:aop P env R d o=some ⟨c,v,R'⟩):R' = R:=by
 have gen:isN env o=true->R' = R:=λhn=>(WH hn h).1;cases o with
 |load t a=>
  grind[aop,Option.some.injEq,Out.mk.injEq]
 |indexAddr t x i=>
  grind[aop,Option.some.injEq,Out.mk.injEq]
 |lookup t m k ok=>
  simp only[isR]at f;cases hk:aev env k<;>simp only[hk,isP,BT6]at f
  grind[aop,Fa,Option.some.injEq,Out.mk.injEq]
 |call cc=>
  obtain⟨callee,args,types⟩:=cc;cases callee with
  |builtin b=>
   cases b with
   |len=>
    grind[aop,Option.some.injEq,Out.mk.injEq]
   |_=>exact gen f
  |_=>exact gen f
 |_=>exact gen f
theorem O4 (Qg:C8)(d t:Nat)(x:Obj):A2 (ins d x Qg) t=if d=t then some x else A2 Qg t:=by
 induction Qg with
 |nil=>simp[ins,A2]
 |cons p r ih=>
  obtain⟨i,b⟩:=p;simp only[ins];split
  .grind[A2]
  split
  .grind[A2]
  rename_i h1 a;simp only[A2,ih]
  grind
def Ay9 {js:List Nat}{a:AV}(h:adJ js a=true):∃i∈js,(∃off,a=.reg i off) \/ ∃k n off,a=.elt i k n off:=by
 cases a with
 |reg i off=>exact⟨i,by simpa[adJ]using h,.inl ⟨off,rfl⟩⟩
 |elt i k n off=>exact⟨i,by simpa[adJ]using h,.inr ⟨k,n,off,rfl⟩⟩
 |_=>cases h
section
variable {js:List Nat}{R R2:C8}(hR:∀q∈js,A2 R2 q=A2 R q)
include hR
theorem Bi3 {t:TypeId}{a:AV}(ha:adJ js a=true):load P R2 t a=load P R t a:=by obtain⟨i,b,⟨off,rfl⟩ | ⟨k,n,off,rfl⟩⟩:=Ay9 ha<;>simp only[load,hR i b]
theorem AG9 {t:TypeId}{x:AV}{n:Int}(ha:(adJ js x||inJ js x)=true):Hk P R2 t x n=Hk P R t x n:=by
 cases x with
 |vec i=>
  have a:i∈js:=by grind[adJ,inJ]
  unfold Hk;grind
 |vecp i m=>
  have a:i∈js:=by grind[adJ,inJ]
  unfold Hk;grind
 |reg i off=>unfold Hk;grind
 |p y=>unfold Hk;grind
 |elt i k n off=>simp_all[Hk,tk]
 |_=>cases ha
theorem Bi4 {t:TypeId}{x:AV}(ha:inJ js x=true):AO6 P R2 t x=AO6 P R t x:=by
 cases x with
 |vec i=>
  have a:i∈js:=by grind[inJ]
  unfold AO6;grind
 |vecp i m=>unfold AO6;grind
 |p y=>unfold AO6;split<;>simp_all
 |_=>cases ha
theorem Zj {k:Nat}{x:AV}(ha:inJ js x=true):elems R2 k x=elems R k x:=by
 cases x with
 |vec i=>
  have a:i∈js:=by grind[inJ]
  grind[elems]
 |vecp i m=>
  have a:i∈js:=by grind[inJ]
  grind[elems]
 |p y=>unfold elems;split<;>simp_all
 |_=>cases ha
theorem AT1 {e:TypeId}{k:Nat}{x:AV}{q:Nat×(Nat->List PV)×Bool×C8}(ha:inJ js x=true)(h:Wm R e k x=some q) :(Wm R2 e k x=some (q.1,q.2.1,q.2.2.1,R2)/\q.2.2.2=R) \/ ∃j∈js,Wm R2 e k x=some (q.1,q.2.1,q.2.2.1,ins j .dead R2)/\q.2.2.2=ins j .dead R:=by
 cases x with
 |vec i=>
  have a:i∈js:=by grind[inJ]
  simp only[Wm]at h⊢;rw[hR i a]
  grind
 |vecp i m=>
  have a:i∈js:=by grind[inJ]
  simp only[Wm]at h⊢;rw[hR i a]
  grind
 |p y=>
  left
  unfold Wm at h⊢
  grind
 |_=>cases ha
theorem AT2 {t:TypeId}{a x:AV}{c:List Prop}{R' : C8}(ha:adJ js a=true)(h:store P R t a x=some (c,R')):∃i∈js,∃o,R' = ins i o R/\store P R2 t a x=some (c,ins i o R2):=by
 obtain⟨i,r,g⟩:=Ay9 ha;refine⟨i,r,?_⟩;have q:=hR i r;have fin:∀(p:Prop) [Decidable p] (c0:List Prop) (o:Obj),(if p then some (c0,ins i o R)else none)=some (c,R')->∃o',R' = ins i o' R/\(if p then some (c0,ins i o R2)else none)=some (c,ins i o' R2):=by
  grind
 cases b:tsz P t with
 |none=>grind[store]
 |some m=>
  cases d:Eg x with
  |false=>grind[store]
  |true=>
   cases j:A2 R i with
   |none=>rcases g with⟨off,rfl⟩ | ⟨k,n,off,rfl⟩<;>simp[store,b,d,j]at h
   |some o=>
    rw[j]at q;rcases g with⟨off,rfl⟩ | ⟨k,n,off,rfl⟩
    .simp only[store,b,d,j,q]at h⊢;cases o with
     |cells cs=>grind
     |arr n f=>
      grind
     |blk l jr=>match l with
      |0::T::u::l=>cases x with
       |vec jr=>exact fin _ _ _ h
       |_=>simp at h
      |[] | [0] | [0,_] | (_+1)::_=>simp at h
     |_=>simp at h
    simp only[store,b,d,j,q]at h⊢;cases o with
    |vec e k' n' f vw=>
     grind
    |fam e n' jr x0=>
     grind
    |_=>simp at h
end
theorem Bi5 {js:List Nat}{env:Env}{R R' : C8}{d:Nat}{o:Op}{c:List Prop}{v:AV}(f:isL js env o=true)(h:aop P env R d o=some ⟨c,v,R'⟩):R' = R/\∀R2,(∀q∈js,A2 R2 q=A2 R q)->aop P env R2 d o=some ⟨c,v,R2⟩:=by
 cases o with
 |lookup t m k ok=>
  simp only[isL,BT5]at f;obtain⟨hm,hk⟩:=f;simp only[aop]at h⊢;cases ek:aev env k<;>simp only[ek,isP,BT6]at hk;cases em:aev env m<;>simp only[em,mrJ,BT6]at hm;rename_i x j;simp only[ek,em,Fa]at h⊢;cases hl:FI P R t (.Sc j) (nP x) ok with
  |none=>grind
  |some q=>
   obtain⟨c',a'⟩:=q;simp only[hl,BT2,Out.mk.injEq]at h;obtain⟨rfl,rfl,rfl⟩:=h;refine⟨rfl,λR2 g=>?_⟩;have e:FI P R2 t (.Sc j) (nP x) ok=FI P R t (.Sc j) (nP x) ok:=by
    unfold FI
    grind
   rw[e,hl]
 |load t a=>
  simp only[isL]at f;simp only[aop]at h⊢;cases hl:load P R t (aev env a)with
  |none=>grind
  |some q=>obtain⟨c',a'⟩:=q;simp only[hl,BT2,Out.mk.injEq]at h;obtain⟨rfl,rfl,rfl⟩:=h;exact⟨rfl,λR2 g=>by rw[Bi3 g f,hl]⟩
 |indexAddr t x i=>
  simp only[isL]at f;simp only[aop]at h⊢;cases l:asInt (aev env i)with
  |none=>grind
  |some n=>
   simp only[l]at h⊢;cases hl:Hk P R t (aev env x) n with
   |none=>grind
   |some q=>obtain⟨c',a'⟩:=q;simp only[hl,BT2,Out.mk.injEq]at h;obtain⟨rfl,rfl,rfl⟩:=h;exact⟨rfl,λR2 g=>by rw[AG9 g f,hl]⟩
 |call cc=>
  obtain⟨callee,args,types⟩:=cc;cases callee with
  |builtin b=>
   cases b with
   |len=>
    simp only[isL]at f;simp only[aop]at h⊢;split at h
    .rename_i x t hx ht;simp only[hx,Cb9,Ck8,Cg7]at f;cases hl:AO6 P R t (aev env x)with
     |none=>grind
     |some n=>simp only[hl,BT2,Out.mk.injEq]at h;obtain⟨rfl,rfl,rfl⟩:=h;exact⟨rfl,λR2 g=>by grind[Bi4]⟩
    grind
   |_=>cases f
  |_=>cases f
 |_=>cases f
theorem Bt0:∀{xs:List AV},xs.all isP=true->∃ys,∀R,Hj R xs=some (ys,R)
 |[],_=>⟨[],λ_=>rfl⟩
 |.p x::xs,h=>by obtain⟨ys,hy⟩:=Bt0 (xs:=xs) (by simpa[isP]using h);exact⟨nP x::ys,λR=>by simp only[Hj,Fa,hy]⟩
 |.reg .. :: _,h | .elt .. :: _,h | .vec _::_,h | .vecp .. :: _,h | .Sc _::_,h | .clo .. :: _,h | .tup _::_,h | .agr _::_,h | .yf _::_,h | .top::_,h=>by simp[isP]at h
theorem By9 {n:Nat}:∀{L:List (Nat×AV)},(∀p∈L,isP p.2=true)->∀R,MH R n L=none:=by
 intro L h R;unfold MH;split
 .rename_i j
  have:=h (0,.vec j) (by simp)
  cases this
 rfl
theorem Az0 {js:List Nat}{x:AV}(h:mrJ js x=true):∃j,j∈js/\x=.Sc j:=by
 cases x with
 |Sc j=>exact⟨j,by simpa[mrJ]using h,rfl⟩
 |_=>cases h
theorem Bi6 {js:List Nat}{env:Env}{R R' : C8}{d:Nat}{o:Op}{c:List Prop}{v:AV}(u:isA js env d o=true)(h:aop P env R d o=some ⟨c,v,R'⟩) :∀R2,(∀q∈js,A2 R2 q=A2 R q)->∃R3,aop P env R2 d o=some ⟨c,v,R3⟩/\(∀q∈js,A2 R3 q=A2 R' q)/\∀q,q ∉ js->A2 R3 q=A2 R2 q:=by
 intro R2 h2;have up:∀{A B:C8}(i:Nat) (x:Obj),i∈js->(∀q∈js,A2 A q=A2 B q)->(∀q,q ∉ js->A2 A q=A2 R2 q)->(∀q∈js,A2 (ins i x A) q=A2 (ins i x B) q)/\∀q,q ∉ js->A2 (ins i x A) q=A2 R2 q:=by intro A B i x hi h1 h2;refine⟨λq hq=>by rw[O4,O4,h1 q hq],λq hq=>?_⟩;rw[O4,Gb (by rintro rfl;exact hq hi),h2 q hq]
 have one:=λ{i:Nat}(x:Obj) (hi:i∈js)=>up i x hi h2 λ_ _=>rfl;cases o with
 |buildSlice t n parts=>
  simp only[isA,BT5]at u;have w:nid d 0∈js:=by simpa using u.1
  obtain⟨ys,hys⟩:=Bt0 (xs:=parts.toList.map λq=>aev env q.2) (by simpa[Cc7,BY9]using u.2);have hrl:=By9 (n:=n) (L:=parts.toList.map λq=>(q.1,aev env q.2)) (λp hp=>by obtain⟨q,hq,rfl⟩:=BZ1.1 hp;exact BU0.1 u.2 q hq)
  simp only[aop,hrl,hys,h2 _ w]at h⊢;split at h
  .split at h
   .rename_i l0 regs0 m0 z0 a3 a4 a5;simp only[BT2,BU4]at a3;obtain⟨rfl,rfl⟩:=a3;split at h
    .rename_i hc;simp only[BT2,Out.mk.injEq]at h;obtain⟨rfl,rfl,rfl⟩:=h;refine⟨ins (nid d 0) _ R2,?_,one _ w⟩;simp only[a4,a5];rw[Fg hc]
    cases h
   cases h
  cases h
 |alloc t=>
  have w:nid d 0∈js:=by simpa[isA]using u
  simp only[aop,h2 _ w]at h⊢;split at h
  .rename_i z h1 h3;split at h
   .rename_i hz;simp only[BT2,Out.mk.injEq]at h;obtain⟨rfl,rfl,rfl⟩:=h;exact⟨_,by simp only[h1,h3,hz,Hu],one _ w⟩
   cases h
  cases h
 |box t x=>
  have w:nid d 0∈js:=by simpa[isA]using u
  simp only[aop,h2 _ w]at h⊢;split at h
  .rename_i h1 h3;simp only[BT2,Out.mk.injEq]at h;obtain⟨rfl,rfl,rfl⟩:=h;exact⟨_,by simp only[h1,h3],one _ w⟩
  cases h
 |makeMap t r=>cases r with
  |some r=>cases u
  |none=>
   have w:nid d 0∈js:=by simpa[isA]using u
   simp only[aop,h2 _ w]at h⊢;split at h
   .rename_i h1;simp only[BT2,Out.mk.injEq]at h;obtain⟨rfl,rfl,rfl⟩:=h;exact⟨_,by simp only[h1],one _ w⟩
   cases h
 |mapEntry t m k=>
  simp only[isA,BT5]at u;obtain⟨j,w,hm⟩:=Az0 u.1;simp only[aop,hm]at h⊢;split at h
  .rename_i kt e j1 y hk hm2 hy;cases hm2;split at h
   .rename_i es z hes hz;split at h
    .rename_i q h5 h6;simp only[BT2,Out.mk.injEq]at h;obtain⟨rfl,rfl,rfl⟩:=h;exact⟨_,by simp only[hk,hy,h2 j w,hes,hz,h5,h6],one _ w⟩
    cases h
   cases h
  cases h
 |entryStore t m s x=>
  simp only[isA,BT5]at u;obtain⟨j,w,hm⟩:=Az0 u.1;obtain⟨xx,hx⟩:∃xx,aev env x=.p xx:=by
   cases hx:aev env x with
   |p xx=>exact⟨xx,rfl⟩
   |_=>rw[hx]at u;cases u.2
  simp only[aop,hm,hx,Fa]at h⊢;split at h
  .rename_i j1 s1 y R1 hm2 hs hy;cases hm2;simp only[BT2,BU4]at hy;obtain⟨rfl,rfl⟩:=hy;split at h
   .rename_i es hes;simp only[BT2,Out.mk.injEq]at h;obtain⟨rfl,rfl,rfl⟩:=h;exact⟨_,by simp only[hs,h2 j w,hes],one _ w⟩
   cases h
  cases h
 |store t a x=>
  simp only[isA]at u;simp only[aop]at h⊢;split at h
  .rename_i hs;simp only[BT2,Out.mk.injEq]at h;obtain⟨rfl,rfl,rfl⟩:=h;obtain⟨i,hi,o,rfl,hs2⟩:=AT2 h2 u hs;exact⟨_,by simp only[hs2],one _ hi⟩
  cases h
 |call cc=>
  obtain⟨callee,args,types⟩:=cc;cases callee with
  |builtin b=>
   cases b with
   |append=>
    simp only[isA,BT5]at u;have w:nid d 0∈js:=by simpa using u.1
    have u:=u.2;simp only[aop,h2 _ w]at h⊢;split at h
    .rename_i s x t t2 hx ht;simp only[hx,Cb9,Ck8,Cg7,BT5]at u;split at h
     .rename_i e k2 hk1 hk2;split at h
      .rename_i m z hz1 hz2 hz3;split at h
       .rename_i n g l f vw regs1 hn he htk;split at h
        .rename_i hc;simp only[BT2,Out.mk.injEq]at h;obtain⟨rfl,rfl,rfl⟩:=h;rcases AT1 h2 u.1 htk with⟨h3,h4⟩ | ⟨j,hjj,h3,h4⟩
         .simp only at h3 h4;subst h4;refine⟨ins (nid d 0) (.vec e m (l+n) (DF l f g) vw) R2,?_,one _ w⟩;simp only[Zj h2 u.2,hz1,hz2,hz3,hn,he,h3];rw[Fg hc]
         simp only at h3 h4;subst h4;have h5:=one (i:=j) .dead hjj;refine⟨ins (nid d 0) (.vec e m (l+n) (DF l f g) vw) (ins j .dead R2),?_,up _ _ w h5.1 h5.2⟩;simp only[Zj h2 u.2,hz1,hz2,hz3,hn,he,h3];rw[Fg hc]
        cases h
       split at h
       .rename_i c1 v1 R1 hF;simp only[BT2,Out.mk.injEq]at h;obtain⟨rfl,rfl,rfl⟩:=h;simp only[MG]at hF;split at hF
        .rename_i j l hs hx';have hjj:j∈js:=by have:=u.1;rw[hs]at this;simpa[inJ]using this
         have hll:l∈js:=by have:=u.2;rw[hx']at this;simpa[inJ]using this
         split at hF
         .rename_i e1 n jr e2 jz y h1 h3 h4;split at hF
          .rename_i hc;simp only[BT2,BU4]at hF;obtain⟨rfl,rfl,rfl⟩:=hF;have a1:=one (i:=j) .dead hjj;have a2:=up l .dead hll a1.1 a1.2;refine⟨ins (nid d 0) (.fam e (n+1) jr (some (n,y))) (ins l .dead (ins j .dead R2)),?_,up _ _ w a2.1 a2.2⟩;have el:elems R2 m (.vec l)=none:=by simp only[elems,h2 l hll,h4]
           simp only[hz1,hz2,hz3,hs,hx',el,h1];simp only[MG,h2 _ w,h2 j hjj,h2 l hll,h1,h3,h4];rw[Fg hc]
          cases hF
         cases hF
        cases hF
       cases h
      cases h
     cases h
    cases h
   |_=>cases u
  |_=>cases u
 |_=>cases u
theorem WI {js:List Nat}{R R' : C8}{x:AV}{y:PV}(hx:inJ js x=true)(h:Fa R x=some (y,R')):∀q,q ∉ js->A2 R' q=A2 R q:=by
 intro q b;have up:∀(j:Nat) (o:Obj),j∈js->A2 (ins j o R) q=A2 R q:=λj o a=>by rw[O4,Gb (by grind)]
 cases x with
 |p x=>grind[Fa,Option.some.injEq,Prod.mk.injEq]
 |vec j=>
  have a:j∈js:=by grind[inJ]
  grind[Fa,Option.some.injEq,Prod.mk.injEq]
 |vecp j m=>
  have a:j∈js:=by grind[inJ]
  grind[Fa,Option.some.injEq,Prod.mk.injEq]
 |_=>cases hx
theorem Zk {js:List Nat}:∀{xs:List AV}{R R' : C8}{l:List PV},(xs.all λx=>inJ js x)=true->Hj R xs=some (l,R')->∀q,q ∉ js->A2 R' q=A2 R q
 |[],R,R',l,_,h,q,_=>by grind[Hj,Option.some.injEq,Prod.mk.injEq]
 |x::xs,R,R',l,hx,h,q,hq=>by
  simp only[Cb9,BT5]at hx;simp only[Hj]at h;cases h1:Fa R x with
  |none=>grind
  |some p=>
   obtain⟨y,R1⟩:=p;simp only[h1]at h;cases a:Hj R1 xs with
   |none=>grind
   |some p=>obtain⟨l1,R2⟩:=p;simp only[a,BT2,BU4]at h;rw[<- h.2,Zk hx.2 a q hq,WI hx.1 h1 q hq]
theorem Bi7 {js:List Nat}{env:Env}{R R' : C8}{d:Nat}{o:Op}{c:List Prop}{v:AV}(a:isB js env d o=true)(h:aop P env R d o=some ⟨c,v,R'⟩):∀q,q ∉ js->A2 R' q=A2 R q:=by
 intro q b;cases o with
 |buildSlice t n parts=>
  simp only[isB,BT5]at a;have f:nid d 0∈js:=by simpa using a.1
  have up:∀(R1:C8) (o:Obj),A2 (ins (nid d 0) o R1) q=A2 R1 q:=λR1 o=>by rw[O4,Gb (by rintro rfl;exact b f)]
  simp only[aop]at h;split at h
  .split at h
   .split at h
    .split at h
     .simp only[BT2,Out.mk.injEq]at h;rw[<- h.2.2];exact up _ _
     cases h
    cases h
   cases h
  split at h
  .split at h
   .rename_i g _ _;split at h
    .simp only[BT2,Out.mk.injEq]at h;rw[<- h.2.2,up];exact Zk (by simpa[Cc7,BY9]using a.2) g q b
    cases h
   cases h
  cases h
 |_=>cases a
theorem Va {cl:Cls}{env:Env}{R R' : C8}{d:Nat}{o:Op}{c:List Prop}{v:AV}(f:Zi cl env d o=true)(h:aop P env R d o=some ⟨c,v,R'⟩):clsF cl (isN env o=true) (R' = R)/\clsX P cl env R d o c v R':=by
 cases cl with
 |n=>exact⟨f,trivial⟩
 |r=>exact⟨Bi2 f h,trivial⟩
 |w=>exact⟨trivial,trivial⟩
 |l j=>obtain⟨h1,g⟩:=Bi5 f h;exact⟨trivial,λq=>by rw[h1],by grind⟩
 |a j=>exact⟨trivial,Bi6 f h⟩
 |b j=>exact⟨trivial,Bi7 f h⟩
variable {kn:List Nat}{all:List Oper}{k:Env->C8->Prop}
theorem Rj:∀(cls:List Cls) (rest:List Oper) (c:List Prop) (env:Env) (Qg:C8),E5 (Tu P kn all cls rest c env Qg).conds ->
 E5 c/\(Mg S P all (Tu P kn all cls rest c env Qg).cls (Tu P kn all cls rest c env Qg).rest (Tu P kn all cls rest c env Qg).env (Tu P kn all cls rest c env Qg).Qg k->Mg S P all cls rest env Qg k)
 |[],[],c,env,Qg,h=>⟨h,λh=>h⟩
 |[],_::_,c,env,Qg,h=>⟨h,λh=>h⟩
 |_::_,[],c,env,Qg,h=>⟨h,λh=>h⟩
 |cl::cls,o::rest,c,env,Qg,h=>by
  simp only[Tu]at h⊢;cases g:BK5 kn all env o with
  |true=>grind
  |false=>
  simp only[g]at h⊢;cases a:AE all env o with
  |none=>grind
  |some b=>
   cases b with
   |true=>
    simp only[a]at h⊢;cases ha:(Bf4 o.op&&Zi cl env (o.dst.getD 0) o.op)with
    |false=>grind
    |true=>
     simp only[ha]at h⊢;simp at ha;cases hp:aop P env Qg (o.dst.getD 0) o.op with
     |none=>grind
     |some q=>
      obtain⟨p,v,regs'⟩:=q;simp only[hp,AE4,Bw8,BI9]at h⊢;have fin:∀(env' : Env),env' = Qy o.dst v env->(E5 (p++c)/\(Mg S P all (Tu P kn all cls rest (p++c) env' regs').cls (Tu P kn all cls rest (p++c) env' regs').rest (Tu P kn all cls rest (p++c) env' regs').env (Tu P kn all cls rest (p++c) env' regs').Qg k->Mg S P all cls rest env' regs' k)) ->
       E5 c/\(Mg S P all (Tu P kn all cls rest (p++c) env' regs').cls (Tu P kn all cls rest (p++c) env' regs').rest (Tu P kn all cls rest (p++c) env' regs').env (Tu P kn all cls rest (p++c) env' regs').Qg k->Mg S P all (cl::cls) (o::rest) env Qg k):=by
       rintro env' rfl ⟨h1,i⟩;obtain⟨j,l⟩:=(FJ _ _).1 h1;exact⟨j,λhs=>⟨true,a,by rw[Fg rfl];exact⟨v,regs', .inl ⟨p,hp,l,Va ha.2 hp⟩,i hs⟩⟩⟩
      cases f:o.dst with
      |some d=>simp only[f,LZ]at h⊢;exact fin _ (by grind[Qy]) (Rj cls rest _ _ _ h)
      |none=>simp only[f]at h⊢;exact fin _ (by grind[Qy]) (Rj cls rest _ _ _ h)
   |false=>
    simp only[a]at h⊢;cases f:o.dst with
    |some d=>simp only[f,LZ]at h⊢;obtain⟨h1,i⟩:=Rj cls rest _ _ _ h;exact⟨h1,λhs=>⟨false,a,by simp_all[BT6,Ih,Qy]⟩⟩
    |none=>simp only[f]at h⊢;obtain⟨h1,i⟩:=Rj cls rest _ _ _ h;exact⟨h1,λhs=>⟨false,a,by simp_all[BT6,Ih,Qy]⟩⟩
theorem s_go {cls cls' : List Cls}{rest rest' : List Oper}{c:List Prop}{env env' : Env}{Qg regs' : C8}(h:Tu P kn all cls rest [] env Qg=⟨c,cls',rest',env',regs'⟩)(hc:E5 c)(hk:Mg S P all cls' rest' env' regs' k):Mg S P all cls rest env Qg k:=by
 have:=Rj (S:=S) (kn:=kn) (k:=k) cls rest [] env Qg (by rw[h];omega)
 rw[h]at this
 grind
theorem s_end {cls:List Cls}{env:Env}{Qg:C8}(h:k env Qg):Mg S P all cls [] env Qg k:=by cases cls<;>exact h
theorem Az1 {cl:Cls}{cls:List Cls}{o:Oper}{rest:List Oper}{env:Env}{Qg regs' : C8}{c:List Prop}{v:AV}(b:AE all env o=some true)(ha:aop P env Qg (o.dst.getD 0) o.op=some ⟨c,v,regs'⟩)(hc:E5 c)
 (a:Zi cl env (o.dst.getD 0) o.op=true) (hk:Mg S P all cls rest (Qy o.dst v env) regs' k):Mg S P all (cl::cls) (o::rest) env Qg k:=
 ⟨true,b,by rw[Fg rfl];exact⟨v,regs', .inl ⟨c,ha,hc,Va a ha⟩,hk⟩⟩
theorem BK6 {cl:Cls}{cls:List Cls}{o:Oper}{rest:List Oper}{env:Env}{Qg:C8}{c:Call}{f:Operand}{fn:FuncId}{as' args:List AV}{r:AV}(a:AE all env o=some true)(b:o.op=.call c)(d:c.callee=.value f)
 (ha:((c.args.toList.map (aev env)).all AS8)=true) (hw:Yt env f (c.args.toList.map (aev env))=some (fn,as')) (g:ES [] as' = some args) (i:YF S fn args r)
 (hk:Mg S P all cls rest (Qy o.dst (unA [] r) env) Qg k):Mg S P all (cl::cls) (o::rest) env Qg k:=
 ⟨true,a,by rw[Fg rfl];exact⟨_,Qg,.inr (.inl ⟨⟨c,f,fn,as',args,r,b,d,ha,hw,g,i,rfl⟩,rfl⟩),hk⟩⟩
theorem KD {m:List Nat}:∀{ids:List Nat}{objs:List Obj}{R:C8}{q:Nat},q ∉ ids->A2 (back m ids objs R) q=A2 R q
 |[],_,R,q,_=>rfl
 |j::ids,[],R,q,_=>rfl
 |j::ids,o::objs,R,q,h=>by simp at h;show A2 (back m ids objs (ins j (unO m o) R)) q=_;rw[KD h.2,O4,Gb (Cb0 h.1)]
theorem AT3 {cl:Cls}{cls:List Cls}{o:Oper}{rest:List Oper}{env:Env}{Qg regs1:C8}{c:Call}{f:Operand}{as:List AV}{fn:FuncId}{as' args:List AV}{objs objs' : List Obj}{ks:List Bool}{r:AV}(ids:List Nat)(a:cl=.w \/ ∃js,cl=.b js/\∀q,q ∉ js->A2 (back (H9 (o.dst.getD 0) ids ks objs'.length) (H9 (o.dst.getD 0) ids ks objs'.length) objs' (K8 ids ks regs1)) q=A2 Qg q)(g:AE all env o=some true)(i:o.op=.call c)(j:c.callee=.value f)
 (ha:Jf Qg (c.args.toList.map (aev env))=some (as,regs1)) (hw:Yt env f as=some (fn,as')) (l:ES ids as' = some args) (d:N5 ids regs1 ids=some objs) (m:Qi S fn args objs r objs' ks)
 (n:I1 ids=true) (hy:GH objs=true) (hn:Z0 regs1 ids ks (o.dst.getD 0) objs'.length=true)
 (hk:Mg S P all cls rest (Qy o.dst (unA (H9 (o.dst.getD 0) ids ks objs'.length) r) env) (back (H9 (o.dst.getD 0) ids ks objs'.length) (H9 (o.dst.getD 0) ids ks objs'.length) objs' (K8 ids ks regs1)) k) :
 Mg S P all (cl::cls) (o::rest) env Qg k:=
 ⟨true,g,by rw[Fg rfl];exact⟨_,_,.inr (.inr (.inl ⟨a,c,f,as,regs1,fn,as',args,objs,objs',ks,r,ids,i,j,ha,hw,l,d,m,n,hy,hn,rfl,rfl⟩)),hk⟩⟩
theorem Bi8 {cl:Cls}{cls:List Cls}{o:Oper}{rest:List Oper}{env:Env}{Qg:C8}{c:List Prop}{x:PV}(a:AE all env o=some true)(ha:Tx P env o.op=some (c,x))(hc:E5 c)
 (hk:Mg S P all cls rest (Qy o.dst (.p x) env) Qg k):Mg S P all (cl::cls) (o::rest) env Qg k:=
 ⟨true,a,by rw[Fg rfl];exact⟨_,Qg,.inr (by grind),hk⟩⟩
def BR7 (o:Op):Cls:=match o with
 |.buildSlice ..=>.n
 |o=>BK4 o
theorem Bi9 (hS:H6 S P){F:M0}{K:List It}{id:Nat}{ops:Array Oper}{st:St}{cls:List Cls}(a:P.follows .mixedOrders=true)(c:ops.toList.map (λo=>BR7 o.op)=cls)(b:MW ops.toList cls=true)
 (h:Mg S P ops.toList cls ops.toList st.env st.Qg λenv Qg=>G S P F (.pop .normal K ⟨env,Qg⟩)):G S P F (.code (.region id ops true) K st):=
 Zh hS cls a b h
theorem G_drawn (hS:H6 S P){F:M0}{K:List It}{id:Nat}{ops:Array Oper}{st:St}{cls:List Cls}(a:P.follows .mixedOrders=true)(c:ops.toList.map (λo=>BK4 o.op)=cls)(b:MW ops.toList cls=true)
 (h:Mg S P ops.toList cls ops.toList st.env st.Qg λenv Qg=>G S P F (.pop .normal K ⟨env,Qg⟩)):G S P F (.code (.region id ops true) K st):=
 Zh hS cls a b h
end
section
variable {S:W9}{P:Program}{F:M0}{K:List It}{st:St}
def Or (hS:H6 S P){f:FuncId}{fn:Func}{code:Code}{args:List AV}{objs:List Obj}{Q:ARes->List Obj->List Bool->Prop}{rs:List ResultVar}(d:P.funcs[f]? = some fn)(hc:fn.body=some code)(hn:args.length<=fn.ntmps)(g:objs.length<1000)
 (a:fn.results.toList=rs) (b:BL fn.ntmps code=true) (c:(fn.name == "runtime.NumGoroutine")=false)
 (h:G S P (Et S P objs.length rs Q) (.code code [] { env:=Uf args,Qg:=Qh objs })):S.F f args objs Q:=by
 subst a;exact hS.func f fn code args objs _ d hc c b hn g (hS.refl _ _ h)
theorem Bz0 (hS:H6 S P){all rest:List Oper}{o:Oper}{c:Call}{f:Operand}{j:Nat}{xs ys:List PV}{Qg:C8}{rest0:List (List PV)}
 (i:BM all st.env o=some true) (l:o.op=.call c) (d:c.callee=.value f) (hy:aev st.env f=.yf j) (g:Hj st.Qg (c.args.toList.map (aev st.env))=some (xs,Qg))
 (m:A2 Qg j=some (.yld (ys::rest0) true)) (a:HT j Qg=true) (hle:Bw6 xs ys)
 (hk:∀b:Bool,G S P F (.ops all rest K (put { st with Qg:=ins j (.yld (if b then rest0 else []) b) Qg } o.dst (.p (.bb b))))):G S P F (.ops all (o::rest) K st):=by
 refine BN hS i ?_;unfold wOp;obtain⟨callee,cargs,types⟩:=c;simp only at d g;subst d;rw[l];exact .inr ⟨j,xs,Qg,ys,rest0,hy,g,m,a,hle,hk⟩
def Bj0 (hS:H6 S P){all rest:List Oper}{o:Oper}{c:Call}{rv:Operand}{m:String}{as:List AV}{Qg:C8}{t:TypeId}{y:PV}{fn:FuncId}{args:List AV}{r:AV}
 (d:BM all st.env o=some true) (f:o.op=.call c) (b:c.callee=.invoke rv m) (ha:Jf st.Qg (c.args.toList.map (aev st.env))=some (as,Qg)) (a:aev st.env rv=.p (.iface t y)) (hm:Yz P t m=some fn)
 (g:ES [] (.p y::as)=some args) (i:YF S fn args r)
 (hk:G S P F (.ops all rest K (put { env:=st.env,Qg:=Qg } o.dst (unA [] r)))):G S P F (.ops all (o::rest) K st):=by
 refine BN hS d ?_;unfold wOp;obtain⟨callee,cargs,types⟩:=c;simp only at b ha;subst b;rw[f];refine⟨as,Qg,t,y,fn,ha,a,hm,[],args,[],rfl,g,rfl,rfl,hS.monoF _ _ _ _ _ ?_ i⟩;rintro _ _ _ ⟨rfl,rfl,rfl⟩;exact⟨rfl,hk⟩
def Bz1 (hS:H6 S P){all rest:List Oper}{o:Oper}{x:Operand}{t:TypeId}{y:PV}(a:BM all st.env o=some true)(b:o.op=.panic x)(hx:aev st.env x=.p (.iface t y))(hk:G S P F (.pop (.panic (.iface t y)) K st)):G S P F (.ops all (o::rest) K st):=by refine BN hS a ?_;unfold wOp;rw[b];exact⟨t,y,hx,hk⟩
def FQ (S:W9)(f:FuncId)(first caps:List AV)(objs:List Obj)(L:List (List PV)):Prop:= S.F f (first ++ .yf objs.length::caps) (objs++[.yld L true]) λr objs' ks=>∃b,objs'[objs.length]? = some (.yld [] b)/\ks[objs.length]? = some true/\∃a,r=.ret a
def Di (S:W9)(P:Program)(body:Code)(gh:Nat)(ts:List Nat)(next:St->Prop)(Q:M0):M0
 |.normal,s=>S.up s λs=>awp S P body (Ha S gh ts next Q) s
 |_,_=>False
def G_asg (hS:H6 S P){body:Code}{gh:Nat}{ts:List Nat}{next:St->Prop}{Q:M0}(h:G S P (Ha S gh ts next Q) (.code body [] st)):G S P (Di S P body gh ts next Q) (.pop .normal [] st):=
 hS.refl _ _ h
def Bj1 {X:Type}(s:X->St)(J:List (List PV)->X->Prop)(rest:List (List PV))(t:St):Prop:=∃x,t=s x/\J rest x
def AT4 (hS:H6 S P){g:Operand}{ps:Array Tmp}{asg body:Code}{f:FuncId}{first caps as bs:List AV}{objs:List Obj}(ids ts:List Nat)(gh:Nat)(L:List (List PV)){X:Type}(s:X->St)(J:List (List PV)->X->Prop)(x0:X)(idl:List (Nat×Nat))
 (hp:GZ st.env g=some (f,first,caps)) (m:∃fn,P.funcs[f]? = some fn/\fn.body.isSome=true/\(fn.name == "runtime.NumGoroutine")=false) (n:N5 ids st.Qg ids=some objs) (q:GH objs=true) (hd:I1 ids=true) (t:ES ids first=some as) (u:ES ids caps=some bs) (v:objs.length=ids.length)
 (w:gh<1000) (y:A2 st.Qg gh=none) (z:ids.length<1000) (a0:I1 ts=true) (d:∀ys∈L,ys.length=ps.size)
 (hF:FQ S f as bs objs L) (hle:Le idl ⟨AC ts (ts.map (get st.env)),K8 ids (ids.map λ_=>false) st.Qg⟩ (s x0)) (h0:J L x0) (hk:∀x,(s x).env.map (·.1)=ts) (hn:∀x,A2 (s x).Qg gh=none)
 (c:∀ys rest x,J (ys::rest) x->G S P (Di S P body gh ts (Bj1 s J rest) (kp S P K F)) (.code asg [] ⟨MI ps.toList ys (s x).env,ins gh (.ghost ((s x).env.map (·.2))) (s x).Qg⟩))
 (i:∀x,J [] x->G S P F (.pop .normal K (s x))):G S P F (.code (.rangeFunc g ps asg body) K st):=by
 have j:∀{l:List Nat},I1 l=true->l.Nodup:=by
  intro l
  induction l with
  |nil=>intro _;exact Cc1
  |cons a r ih=>intro h;simp only[I1,BT5,BU5,BX0,decide_eq_false_iff_not]at h;exact BY2.2 ⟨h.1,ih h.2⟩
 refine⟨f,first,caps,as,bs,objs,ids,ts,gh,L,Bj1 s J,λ_ r=>∃a,r=.ret a,hp,m,q,hd,t,u,n,w,y,z,j a0,d,hS.le idl _ _ _ hle ⟨hk x0,hn x0,x0,rfl,h0⟩,?_,?_,?_⟩
 .rintro ys rest _ _ _ ⟨x,rfl,hJ⟩;have h:=c ys rest x hJ;have e:Di S P body gh ts (Bj1 s J rest) (kp S P K F)=λe s'=>match e with
   |.normal=>S.up s' λs'=>awp S P body (Ha S gh ts (Bj1 s J rest) (kp S P K F)) s'
   |_=>False:=by funext e s';cases e<;>rfl
  rw[e]at h;exact h
 .rintro _ r _ _ ⟨x,rfl,hJ⟩ ⟨a,rfl⟩;exact i x hJ
 rw[<- v];refine hS.monoF _ _ _ _ _ ?_ hF;rintro r o ks ⟨b,h1,h2,h3⟩;exact⟨b,h1,h2,h3,λ_=>h3⟩
def Al3 (hS:H6 S P){gh:Nat}{ts:List Nat}{X:Type}{s:X->St}{J:List (List PV)->X->Prop}{rest:List (List PV)}{Q:M0}(st1:St){cs:List AV}(x:X)(idl:List (Nat×Nat))(hle:Le idl st st1)(a:A2 st1.Qg gh=some (.ghost cs))(hl:cs.length=ts.length)(b:A2 (del gh st1.Qg) gh=none)
 (c:(⟨AC ts cs,del gh st1.Qg⟩:St)=s x) (d:J rest x):G S P (Ha S gh ts (Bj1 s J rest) Q) (.pop .normal [] st):=
 hS.le idl _ _ _ hle ⟨cs,a,hl,b,x,c,d⟩
def Az2 (hS:H6 S P){gh:Nat}{ts:List Nat}{next:St->Prop}{e:QL}(c:match e with | .normal | .panic _=>False|_=>True)(st1:St){cs:List AV}(idl:List (Nat×Nat))(hle:Le idl st st1)(a:A2 st1.Qg gh=some (.ghost cs))(hl:cs.length=ts.length)(b:A2 (del gh st1.Qg) gh=none)
 (hk:G S P F (.pop e K ⟨AC ts cs,del gh st1.Qg⟩)):G S P (Ha S gh ts next (kp S P K F)) (.pop e [] st):=by
 cases e with
 |normal=>grind
 |panic x=>grind
 |exit id=>exact hS.le idl _ _ _ hle ⟨cs,a,hl,b,hk⟩
 |goto t=>exact hS.le idl _ _ _ hle ⟨cs,a,hl,b,hk⟩
 |ret=>exact hS.le idl _ _ _ hle ⟨cs,a,hl,b,hk⟩
end
def MX {n:Nat}(h:n<2 ^ 32):IntKind.u32.wrap (n:Int)=n:=by have h1:((n:Int) % (2 ^ 32:Int))=n:=Int.emod_eq_of_lt (by omega) (by omega);unfold IntKind.wrap;simp only[IntKind.bits,IntKind.signed,h1,Cd9,BT6,Ih]
abbrev u32 (x:BitVec 32):PV:=.v (.int .u32 x.toNat)
def DM (x:BitVec 32):BitVec.ofInt 32 (x.toNat:Int)=x:=by
 apply BX9;rw[BitVec.toNat_ofInt]
 have:=x.isLt
 omega
def DN (x y:BitVec 32):E6 .and .u32 x.toNat y.toNat=((x &&& y).toNat:Int):=by simp only[E6,IntKind.bits,DM];exact MX (x &&& y).isLt
def IK (x y:BitVec 32):E6 .or .u32 x.toNat y.toNat=((x ||| y).toNat:Int):=by simp only[E6,IntKind.bits,DM];exact MX (x ||| y).isLt
def CX (x y:BitVec 32):E6 .andNot .u32 x.toNat y.toNat=((x &&& ~~~ y).toNat:Int):=by simp only[E6,IntKind.bits,DM];exact MX (x &&& ~~~ y).isLt
def Bt1 (x:BitVec 32)(n:Nat):shI .shr .u32 x.toNat n=((x >>> n).toNat:Int):=by
 simp only[shI,IntKind.bits,BS9];have hx:=x.isLt;rw[Cf2,Ce9];have e:((2:Int) ^ (min n 32))=((2 ^ (min n 32):Nat):Int):=by norm_cast
 rw[e,Ch0 _ (Ck3 _),<- Int.natCast_ediv];congr 1;by_cases h:n<=32
 .rw[Ca2 h]
 rw[Cg4 (by omega),Cb4 hx,Cb4];exact BU8 hx (Cc3 (by omega) (by omega))
def Bt2 (x:BitVec 32)(n:Nat):shI .shl .u32 x.toNat n=((x <<< n).toNat:Int):=by
 simp only[shI,IntKind.bits,BS9];rw[Cg1,Ci4];unfold IntKind.wrap;simp only[IntKind.bits,IntKind.signed,Cd9,BT6,Ih];by_cases h:n<=32
 .rw[Ca2 h]
  norm_cast
 rw[Cg4 (by omega)];have h1:x.toNat*2 ^ n % 2 ^ 32=0:=by obtain⟨d,rfl⟩:∃d,n=32+d:=⟨n-32,by omega⟩;rw[Nat.pow_add,<- Nat.mul_assoc,Nat.mul_right_comm,Nat.mul_mod_left]
 have a:x.toNat*2 ^ 32 % 2 ^ 32=0:=Nat.mul_mod_left _ _;rw[h1];simp
abbrev snd (p m:BitVec 32):PV:=.agg [u32 p,u32 m]
def Lj {P:Program}{f:FuncId}{args:List PV}{r:AV}(a:∀as w,(callFunc f as).run P w=.ok (.enter f as) w)
 (h:∀(w:World) (Pi:Nat->Nat->Prop) (vs:Array Value),TabE P w Pi (λ_=>False)->(∀b off,Pi b off->b<w.heap.size)->vs.size=args.length->(∀i,i<args.length->Sb w Pi (vs.getD i undef) (args.getD i default)) ->
  Calls P f vs w λe w'=>∃v,e=.returned v/\RowKit.Below w.heap.size w w' /\ ∀live rho,Ud w' Pi live rho v r):YF (HP P) f (args.map .p) r:=by
 intro 𝒢 C w vs rho g hs l;have m:=h w (Prv C.X (A2 (Qh [])) rho) vs ((𝒢.tab C g).keeps hs.keep hs.same (E':=λ_=>False) λ_ _ n=>n.elim) (λb off hp=>by
  rcases hp with hp|⟨j,o,q,_⟩
  .exact hs.hp.bound b off hp
  grind[Qh,Qh.go,A2]) (by grind) (λi x=>by
  have:=hs.env i
  rw[CW]at this;have e:(args.map AV.p).getD i .top=.p (args.getD i default):=by grind
  rw[e]at this;exact this.toP)
 refine⟨_,_,a _ _,callsIn_wide.2 (m.mono ?_)⟩;rintro e w' ⟨v,rfl,hb,s⟩;have hk:S0 w (Prv C.X (A2 (Qh [])) rho) w' (Prv C.X (A2 (Qh [])) rho):=λb o v hp hc=>⟨by rw[<- hc];exact BW4 (hb.block b (BY8 w ⟨b,o,none⟩ hc)),hp⟩
 refine⟨C,.ret r,[],[],rho,g,⟨rfl,rfl,rfl⟩,?_,⟨v,rfl,s _ _⟩,by grind⟩;have t:∀j,A2 (Qh []) j=none:=λj=>by simp[Qh,Qh.go,A2]
 refine⟨⟨by grind,by grind,by grind,λb off hp=>BU8 (hs.hp.bound b off hp) hb.size⟩,hs.ext.trans ⟨hb.os,hb.output⟩,BX7 hs.size hb.size,λb c u=>?_,hs.keep.trans hk,λb d=>?_,by grind⟩
 .rw[hb.block b (BU8 c hs.size)];exact hs.same b c u
 obtain⟨j,o,q,_⟩:=d;grind
def Lk {P:Program}{f:FuncId}{args:List PV}{r:AV}(a:∀as w,(callFunc f as).run P w=.ok (.enter f as) w)
 (h:∀(w:World) (Pi:Nat->Nat->Prop) (vs:Array Value),TabOk P w Pi->(∀b off,Pi b off->b<w.heap.size)->vs.size=args.length->(∀i,i<args.length->Sb w Pi (vs.getD i undef) (args.getD i default)) ->
  Calls P f vs w λe w'=>∃v,e=.returned v/\RowKit.Below w.heap.size w w' /\ ∀live rho,Ud w' Pi live rho v r):YF (HP P) f (args.map .p) r:=
 Lj a λw Pi vs c=>h w Pi vs c.1
def Ia {P:Program}{f:FuncId}{args:List PV}{r:AV}(a:∀as w,(callFunc f as).run P w=.ok (.enter f as) w)
 (h:∀(w:World) (Pi:Nat->Nat->Prop) (vs:Array Value),(∀b off,Pi b off->b<w.heap.size)->vs.size=args.length->(∀i,i<args.length->Sb w Pi (vs.getD i undef) (args.getD i default)) ->
  Calls P f vs w λe w'=>∃v,e=.returned v/\RowKit.Below w.heap.size w w' /\ ∀live rho,Ud w' Pi live rho v r):YF (HP P) f (args.map .p) r:=
 Lk a λw Pi vs _=>h w Pi vs
open Go.RowKit Go.ChangeShapes
def BR8 (W:World):Ctx:={ X:=λ_ _=>False,w0:=W,E0:=λ_=>False,Pi0:=λ_ _=>False,rho0:=λ_=>undef,Y:=λ_ _=>False,yv:=undef }
def Bz2 {W:World}{vs:Array Value}{args:List PV}(c:vs.size=args.length)(d:∀i,i<args.length->Sb W (λ_ _=>False) (vs.getD i undef) (args.getD i default)) :Sat (BR8 W) ⟨Uf (args.map .p),Qh []⟩ ⟨vs,[]⟩ W (λ_=>undef):=by
 have f:∀j,A2 (Qh []) j=none:=λj=>by simp[Qh,Qh.go,A2]
 have a:∀b o,¬Prv (BR8 W).X (A2 (Qh [])) (λ_=>undef) b o:=λb o h=>by
  rcases h with h|⟨j,o',g,_⟩
  .exact h
  grind
 refine⟨⟨⟨by grind,by grind,by grind,λb off hp=>hp.elim⟩,Ext.refl _,BT8 _,λ_ _ _=>rfl,λb o v _ hc=>⟨hc,a b o⟩,λb hb=>?_,by grind⟩,λt=>?_,λj _ hl=>?_,Cc1,by grind⟩
 .obtain⟨j,o,g,_⟩:=hb;grind
 .show Ud W _ _ _ (vs.getD t undef) (get (Uf (args.map .p)) t);rw[CW];by_cases ht:t<args.length
  .have e:(args.map AV.p).getD t .top=.p (args.getD t default):=by grind
   rw[e];exact .p _ _ ((d t ht).keeps λb o v _ hc=>⟨hc,a b o⟩)
  have e:(args.map AV.p).getD t .top=.top:=by grind
  rw[e];exact .top _
 obtain⟨o,l⟩:=hl
structure BK7 (W w' : World):Prop where
 os:w'.os=W.os
 output:w'.output=W.output
 size:W.heap.size<=w'.heap.size
 block:∀b,b<W.heap.size->w'.heap[b]? = W.heap[b]?
def Wl {P:Program}{f:FuncId}{args:List PV}(a:∀as w,(callFunc f as).run P w=.ok (.enter f as) w)(h:YF (HP P) f (args.map .p) (.p (.bb true)))
 {W:World}{vs:Array Value}(g:TabE P W (λ_ _=>False) (λ_=>False)) (d:vs.size=args.length) (j:∀i,i<args.length->Sb W (λ_ _=>False) (vs.getD i undef) (args.getD i default)) :
 Calls P f vs W λe w'=>e=.returned (.bool true)/\BK7 W w':=by
 obtain⟨nx,w1,h1,l⟩:=h (Prot.triv P (BR8 W) (λ_ _ h=>h) g) (BR8 W) W vs _ rfl (Bz2 d j) (by grind);rw[a]at h1;cases h1;refine (callsIn_wide.1 l).mono ?_;rintro e w' ⟨C',r,objs',ks,rho',rfl,⟨rfl,rfl,rfl⟩,c,⟨v,rfl,m⟩,_⟩;cases m with
 |p _ _ hp=>cases hp;exact⟨rfl,c.ext.1,c.ext.2,c.size,λb hb=>c.same b hb λh=>h⟩
section
variable {H:Type}{enc:TypeId×Value->H}{P:Program}
def Bj2 {W w' : World}(h:BK7 W w')(may:MemPlace->Prop):W.keptBut w' may:=by
 refine⟨h.os,h.output,λi a=>?_⟩;rw[h.block i a]
 grind
theorem AT5 {W w' : World}(h:BK7 W w'){p:MemPlace}(hp:p.block<W.heap.size):W.sameAt w' p:=by have hb:RowKit.Below W.heap.size W { w' with tape:=W.tape }:=⟨h.os,rfl,h.output,h.size,λk hk=>h.block k hk⟩;exact hb.same hp
theorem Pe {W w' : World}(hk:BK7 W w')(hl:laidOutB P=true){sp:Nat->Bool}:∀{ts:List TypeId}{vs:List Value}{ds:List (DataW H)}{ps:List MemPlace},(∀t∈ts,P.readableRec t=true/\t<P.types.size) ->
 (∀p∈ps,p.block<W.heap.size)->(∀p∈ps,sp p.block=true)->DataW.TrodAll enc P W 0 (λ_=>true) true ts vs ds ps->DataW.TrodAll enc P w' 0 sp true ts vs ds ps
 |[],[],[],_,_,_,_,h=>h
 |t::ts,v::vs,d::ds,_,hr,hlt,hs,⟨p,q,h1,h2,e⟩=>by
  subst e;refine⟨p,q,?_,Pe hk hl (by grind) (by grind) (by grind) h2,rfl⟩
  grind[WideElems.Trod_stays,AT5,List.mem_append_left]
def Be9 {f:Func}{s:ChangeSpec}{tb:TypeId}{W W' : World}{args:Array Value}{ds gs:List (DataW H)}{before:List MemPlace}(a:s.vars=[])(hres:f.resultTypes = #[tb])(g:P.underlying tb=some .bool)(hl:laidOutB P=true)
 (i:∀t∈f.params.toList,P.readableRec t=true/\t<P.types.size) (j:DataW.Whole enc P f.params.toList s.vars false W args.toList ds gs before)
 (c:s.fn H ds={ results:=[.lit (.bool true)],args:=ds,vars:=[] }) (hk:BK7 W W'):s.post enc P f false true false false W args (.bool true) W':=by
 have l:∀p∈before,p.block<W.heap.size:=λp hp=>j.lt p hp;have d:=j;obtain⟨p,q,u,n,rfl,v,hn⟩:=j;rw[a]at n;obtain⟨rfl,rfl⟩:=trodVars_none n;simp at l d;have r : ∀sp:Nat->Bool,(∀x∈p,sp x.block=true)->DataW.TrodAll enc P W' 0 sp true f.params.toList args.toList (s.fn H (ds++[])).args p:=λsp hsp=>by rw[BV8,c];grind[Pe]
 have hR:∀(b:Nat) (sp:Nat->Bool) (o:Bool),DataW.TrodAll enc P W' b sp o f.resultTypes.toList ((Value.bool true).resultList f.resultTypes.size) (s.fn H (ds++[])).results []:=λb sp o=>by rw[BV8,c,hres];exact⟨[],[],shut_bool g _,rfl,rfl⟩
 have m : ∀sp:Nat->Bool,DataW.TrodVars enc P W' sp s.vars (s.fn H (ds++[])).vars []:=λsp=>by rw[BV8,c,a];rfl
 refine⟨ds,[],p,[],p,[],d,hR _ _ _,by grind,m _,Bj2 hk _,λ_=>?_⟩;refine (by grind)
 all_goals grind
end
open Go.RowKit Go.ChangeShapes Go.Deep
def Ai3 (l:List Nat):Nat:=l.foldr (· + ·) 0
theorem Zl (a:Nat)(l:List Nat):Ai3 (a::l)=a+Ai3 l:=rfl
structure Bulk {H:Type}(B:DataW H->Nat):Prop where
 int:∀k n,1<=B (.lit (.int k n))
 bool:∀b,1<=B (.lit (.bool b))
 str:∀l,l.length+1<=B (.lit (.string l))
 nil:1<=B .nil
 slice:∀es sp,Ai3 (es.map B)+1<=B (.slice es sp)
 agg:∀ps,Ai3 (ps.map B)+1<=B (.agg ps)
mutual
inductive Mi (P:Program):Nat->TypeId->List PV->Prop
 |int {m:Nat}{t:TypeId}{k:IntKind}{n:Int}(ht:P.underlying t=some (.int k)) (hw:(Lit.int k n).wf=true) (hm:1<=m):Mi P m t [.v (.int k n)]
 |bool {m:Nat}{t:TypeId}{b:Bool}(ht:P.underlying t=some .bool) (hm:1<=m):Mi P m t [.bb b]
 |str {m:Nat}{t:TypeId}{l:List UInt8}(ht:P.underlying t=some .string) (hm:l.length+1<=m):Mi P m t [.str l]
 |slice {m:Nat}{t e:TypeId}{n:Nat}{f:Nat->List PV}(ms:Nat->Nat) (ht:P.underlying t=some (.slice e)) (hl:∀i,i<n->(f i).length=P.cellsOf e) (h:∀i,i<n->Mi P (ms i) e (f i))
  (hm:Ai3 ((List.range n).map ms)+1<=m):Mi P m t [.sl false (P.cellsOf e) n f]
 |arr {m m' : Nat}{t e:TypeId}{n:Nat}{pvs:List PV}(ht:P.underlying t=some (.array n e)) (h:Jm P m (List.replicate n e) pvs) (hm:m+1<=m'):Mi P m' t pvs
 |struct {m m' : Nat}{t:TypeId}{fs:Array Field}{pvs:List PV}(ht:P.underlying t=some (.struct fs)) (h:Jm P m (fs.toList.map (·.type)) pvs) (hm:m+1<=m'):Mi P m' t pvs
inductive Jm (P:Program):Nat->List TypeId->List PV->Prop
 |nil {m:Nat}:Jm P m [] []
 |cons {a b m:Nat}{t:TypeId}{ts:List TypeId}{p q:List PV}(h:Mi P a t p) (h' : Jm P b ts q) (hm:a+b<=m):Jm P m (t::ts) (p++q)
end
def CRep (W:World)(cs:List Value)(pvs:List PV):Prop:= cs.length=pvs.length/\∀i,i<pvs.length->Sb W (λ_ _=>False) (cs.getD i undef) (pvs.getD i default)/\(cs.getD i undef).oneCell' = true
def Zm {α : Type}(a b:List α)(d : α){i:Nat}(h:i<a.length):(a++b).getD i d=a.getD i d:=by
 grind
def Zn {α : Type}(a b:List α)(d : α){i:Nat}(h:a.length<=i):(a++b).getD i d=b.getD (i-a.length) d:=by
 grind
def CRep.append {W:World}{a b:List Value}{p q:List PV}(h:CRep W a p)(h' : CRep W b q):CRep W (a++b) (p++q):=by
 refine⟨by simp[h.1,h'.1],λi f=>?_⟩;by_cases c:i<p.length
 .rw[Zm _ _ _ (by rw[h.1];omega),Zm _ _ _ c];exact h.2 i c
 have d : i-p.length<q.length:=by grind
 rw[Zn _ _ _ (by rw[h.1];omega),Zn _ _ _ (by omega),h.1];exact h'.2 _ d
def CRep.one {W:World}{v:Value}{x:PV}(h:Sb W (λ_ _=>False) v x)(h1:v.oneCell' = true):CRep W [v] [x]:=by
 refine⟨rfl,λi a=>?_⟩
 grind
def Br4 (P:Program)(T:List TypeId):Bool:=T.all λt=>match P.underlying t with
 |some (.int _)|some .bool|some .string=>true
 |some (.slice e)=>T.contains e&&decide (0<P.cellsOf e)
 |some (.array _ e)=>T.contains e
 |some (.struct fs)=>fs.toList.all λf=>T.contains f.type
 |_=>false
section
variable {H:Type}{enc:TypeId×Value->H}{P:Program}{W:World}
def Vb {B:DataW H->Nat}{r:TypeId->List Value->Option (DataW H×List MemPlace)}(T:TypeId->Prop)
 (ih:∀t cs x,T t->r t cs=some x->∃pvs,CRep W cs pvs/\Mi P (B x.1) t pvs) :
 ∀(fs:List Field) (xs:List (DataW H×List MemPlace)) (cs:List Value) (base:Nat),(∀f∈fs,T f.type)->cs.length=(fs.map λf=>P.cellsOf f.type).sum ->
  (∀(j:Nat) f,fs[j]? = some f->f.offset=base+((fs.take j).map λf=>P.cellsOf f.type).sum)->xs.length=fs.length ->
  (∀(i:Nat) f,fs[i]? = some f->r f.type ((cs.drop (f.offset-base)).take (P.cellsOf f.type))=xs[i]?) ->
  ∃pvs,CRep W cs pvs/\Jm P (Ai3 (xs.map λx=>B x.1)) (fs.map (·.type)) pvs
 |[],xs,cs,base,_,hl,_,hx,_=>by obtain rfl:xs=[]:=(by grind);obtain rfl:cs=[]:=(by grind);exact⟨[],⟨rfl,by grind⟩,.nil⟩
 |f::fs,xs,cs,base,hT,hl,ho,hx,hr=>by
  cases xs with
  |nil=>grind
  |cons x xs=>
   have l:=ho 0 f rfl;simp at l;have a:=hr 0 f rfl;rw[l,Nat.sub_self,Ch2]at a;obtain⟨p,hp,hs⟩:=ih _ _ _ (hT f (by simp)) a;simp at hl;obtain⟨q,m,c⟩:=Vb T ih fs xs (cs.drop (P.cellsOf f.type)) (base+P.cellsOf f.type) (by grind) (by grind)
    (λj g b=>by
     have:=ho (j+1) g (by simpa using b)
     grind) (by grind)
    (λi g b=>by
     have:=hr (i+1) g (by simpa using b)
     have d:=ho (i+1) g (by simpa using b);simp only[Cf1,BU9,List.sum_cons]at d;rw[Ce8,show P.cellsOf f.type+(g.offset-(base+P.cellsOf f.type))=g.offset-base by omega]
     grind)
   refine⟨p++q,?_,.cons hs c (BT8 _)⟩
   have:=hp.append m
   rwa [Ce4]at this
def Az3 {B:DataW H->Nat}{r:TypeId->List Value->Option (DataW H×List MemPlace)}{e:TypeId}(ih:∀cs x,r e cs=some x->∃pvs,CRep W cs pvs/\Mi P (B x.1) e pvs) :∀(n:Nat) (xs:List (DataW H×List MemPlace)) (cs:List Value),cs.length=n*P.cellsOf e->xs.length=n->(∀i,i<n->r e ((cs.drop (i*P.cellsOf e)).take (P.cellsOf e))=xs[i]?) ->
  ∃pvs,CRep W cs pvs/\Jm P (Ai3 (xs.map λx=>B x.1)) (List.replicate n e) pvs
 |0,xs,cs,hl,hx,_=>by obtain rfl:xs=[]:=(by grind);obtain rfl:cs=[]:=(by grind);exact⟨[],⟨rfl,by omega⟩,.nil⟩
 |n+1,xs,cs,hl,hx,hr=>by
  cases xs with
  |nil=>grind
  |cons x xs=>
   have a:=hr 0 (by omega);rw[Nat.zero_mul,Ch2]at a;obtain⟨p,hp,hs⟩:=ih _ _ a;rw[Cg3]at hl;obtain⟨q,c,b⟩:=Az3 ih n xs (cs.drop (P.cellsOf e)) (by grind) (by grind) (λi d=>by
    have:=hr (i+1) (by omega)
    rw[Ce8,show P.cellsOf e+i*P.cellsOf e=(i+1)*P.cellsOf e by rw[Cg3];omega]
    grind)
   refine⟨p++q,?_,.cons hs b (BT8 _)⟩
   have:=hp.append c
   rwa [Ce4]at this
def Kx (K:Kids P (· < P.types.size)){B:DataW H->Nat}(f:Bulk B){T:List TypeId}(hT:Br4 P T=true)(l:∀t∈T,t<P.types.size):∀(fuel:Nat) (t:TypeId) (cs:List Value) (x:DataW H×List MemPlace),t∈T ->
 DataW.trod enc P W 0 (λ_=>true) true fuel t cs=some x->∃pvs,CRep W cs pvs/\Mi P (B x.1) t pvs:=by
 intro fuel
 induction fuel with
 |zero=>simp_all[DataW.trod]
 |succ n ih=>
  intro t cs x ht h;have hp:=BU0.1 hT t ht;cases c:P.underlying t with
  |none=>grind
  |some d=>
   cases d with
   |bool=>obtain⟨b,rfl,rfl⟩:=DataW.trod_bool c h;exact⟨[.bb b],.one (.bb b) rfl,.bool c (f.bool b)⟩
   |int k=>obtain⟨m,rfl,rfl,hw⟩:=DataW.trod_int c h;exact⟨[.v (.int k m)],.one (.v _) rfl,.int c hw (f.int _ _)⟩
   |string=>
    obtain⟨s,rfl,rfl,_⟩:=DataW.trod_string c h;refine⟨[.str s.data.toList],.one ?_ rfl,.str c (f.str _)⟩
    have:=Sb.str (w:=W) (Pi:=λ_ _=>False) s.data.toList
    omega
   |slice e=>
    simp only[c,BT5,BX0,decide_eq_true_eq]at hp;obtain⟨y,a0⟩:=hp;rcases DataW.trod_slice c h with⟨rfl,rfl⟩ | ⟨a,len,cap,elems,rest,n',hn,rfl,rfl,_,o,_,hel,q,_⟩
    .exact⟨[.sl false (P.cellsOf e) 0 λ_=>[]],.one (.slnil _ _) rfl,.slice (λ_=>0) c (by omega) (by omega) (by simpa[Ai3]using f.nil)⟩
    obtain rfl:n' = n:=by omega
    have each:∀i,i<len->∃z:List PV×(Nat×(Nat->Value)),z.1.length=P.cellsOf e/\Mi P z.2.1 e z.1/\z.2.1=B (elems.getD i (.nil,[])).1 /\
     ∀j,j<P.cellsOf e->W.cell? ((a.add (i*P.cellsOf e)).add j)=some (z.2.2 j)/\Sb W (λ_ _=>False) (z.2.2 j) (z.1.getD j default)/\(z.2.2 j).oneCell' = true:=by
     intro i hi;have hk:=q i hi;have hi' : i<elems.length:=by omega
     rw[BT4 hi']at hk;obtain⟨cs',h1,u⟩:=Cd3.1 hk;obtain⟨pvs,hc,hs⟩:=ih _ _ _ y u;obtain⟨_,g,hcell⟩:=World.cells?_some h1;refine⟨(pvs,(_,λj=>cs'.getD j undef)),by rw[<- hc.1,g],hs,?_,λj hj=>⟨?_,(hc.2 j (by rw[<- hc.1,g];omega)).1,(hc.2 j (by rw[<- hc.1,g];omega)).2⟩⟩
     all_goals grind
    obtain⟨z,hz⟩:=choose_lt (α:=List PV×(Nat×(Nat->Value))) each;obtain⟨b,off,sp⟩:=a;have hsp:0<len->sp=none:=λh0=>by
     have:=((hz 0 h0).2.2.2 0 a0).1
     simpa[Addr.add]using World.cell?_spot this
    refine⟨[.sl false (P.cellsOf e) len λi=>(z i).1],.one (.sl false b off cap (P.cellsOf e) len _ (λi j=>(z i).2.2 j) o (by grind) (λi j hi hj=>?_) (by grind) sp hsp) rfl,
     .slice (λi=>(z i).2.1) c (by grind) (by grind) ?_⟩
    .have:=((hz i hi).2.2.2 j hj).1
     obtain rfl:=hsp (by omega)
     grind[WideShapes.add_plain]
    refine BX7 (Nat.succ_le_succ (Ck9 (congrArg Ai3 ?_))) (f.slice (elems.map (·.1)) (rest.map (·.1)));apply List.ext_getElem
    all_goals grind
   |array k e=>
    simp only[c,BX0,decide_eq_true_eq]at hp;obtain⟨xs,n',hn,rfl,hl,hx,hr⟩:=DataW.trod_array c h;obtain⟨_,u⟩:=K.array (l t ht) c;obtain rfl:n' = n:=by omega
    obtain⟨pvs,hc,hs⟩:=Az3 (B:=B) (W:=W) (r:=DataW.trod enc P W 0 (λ_=>true) true n') (by grind) k xs cs (by rw[hl,u]) hx hr;refine⟨pvs,hc,.arr c hs ?_⟩
    have:=f.agg (xs.map (·.1))
    grind[List.map_map,Function.comp_def]
   |struct fs=>
    simp only[c]at hp;obtain⟨xs,n',hn,rfl,hl,hx,hr⟩:=DataW.trod_struct c h;obtain⟨h1,u,h3⟩:=K.struct (l t ht) c;obtain rfl:n' = n:=by omega
    obtain⟨pvs,hc,hs⟩:=Vb (B:=B) (W:=W) (r:=DataW.trod enc P W 0 (λ_=>true) true n') (· ∈ T) ih fs.toList xs cs 0 (by grind) (by rw[hl,u])
     (by grind) (by omega) (by grind)
    refine⟨pvs,hc,.struct c hs ?_⟩
    have:=f.agg (xs.map (·.1))
    grind[List.map_map,Function.comp_def]
   |_=>simp[c]at hp
end
section
variable {S:W9}{P:Program}
def Al4 {d:Option Nat}{k k' : St->Prop}{Q Q' : M0}(hk:∀s,k s->k' s)(b:∀e s,Q e s->Q' e s)(r:ARes)(s:St)(h:Lc d k Q r s):Lc d k' Q' r s:=by
 cases r with
 |ret a=>exact hk _ h
 |panic x=>exact b _ _ h
theorem Qz (hS:H6 S P){o:Oper}{k k' : St->Prop}{Q Q' : M0}(hk:∀s,k s->k' s)(t:∀e s,Q e s->Q' e s){st:St}(h:wOp S P o k Q st):wOp S P o k' Q' st:=by
 have b:∀d ids f args st,Ai9 S d ids f args st (Lc o.dst k Q)->Ai9 S d ids f args st (Lc o.dst k' Q'):=by rintro d ids f args st ⟨a,ob,h1,c,i,l,m⟩;exact⟨a,ob,h1,c,i,l,hS.monoF _ _ _ _ _ (λr o ks ⟨n,q⟩=>⟨n,Al4 hk t _ _ q⟩) m⟩
 unfold wOp at h⊢;split at h
 .grind
 .grind
 .grind
 .obtain⟨j,cl,last,seen,jm,es,h1,c,i,l,m,n,q⟩:=h;exact⟨j,cl,last,seen,jm,es,h1,c,i,l,m,λg=>hk _ (n g),by grind⟩
 grind
theorem Jn (hS:H6 S P){all:List Oper}{Q Q' : M0}(a:∀e s,Q e s->Q' e s):∀(rest:List Oper) {st:St},KQ S P all rest Q st->KQ S P all rest Q' st
 |[],st,h=>a _ _ h
 |o::rest,st,h=>by
  simp only[KQ]at h⊢;refine hS.mono _ _ _ (λt h=>?_) h;split at h
  .exact Qz hS (λs=>Jn hS a rest) a h
  obtain⟨b,h1,c⟩:=h;refine⟨b,h1,?_⟩;split
  .rename_i hb;rw[Fg hb]at c;exact Qz hS (λs=>Jn hS a rest) a c
  rename_i hb;rw[Gb hb]at c;exact Jn hS a rest c
def Ot (hS:H6 S P){all:List Oper}{o:Oper}{k k' : St->Prop}{Q Q' : M0}(hk:∀s,k s->k' s)(c:∀e s,Q e s->Q' e s){st:St}(h:Jc S P all o k Q st):Jc S P all o k' Q' st:=by
 unfold Jc at h⊢;refine hS.mono _ _ _ (λt h=>?_) h;split at h
 .grind[Qz]
 obtain⟨b,h1,a⟩:=h;refine⟨b,h1,?_⟩;split
 .rename_i hb;rw[Fg hb]at a;grind[Qz]
 grind
def Az4 (hS:H6 S P){ops:List Oper}{Q:M0}{st:St}(hm:P.follows .mixedOrders=true)(g:Jg ops=true)(h:S.up st λs=>Aj0 S P ops Q s):Aj0 S P ops Q st:=by
 refine⟨hm,g,λD s=>S.up s λs'=>∃Inv:(Nat->Bool)->St->Prop,Inv D s' /\
  (∀D i s o,Inv D s->ops[i]? = some o->D i=false->(∀e∈o.after.toList,FK e=true->D e.on=true) ->
   Jc S P ops o (Inv λj=>if j=i then true else D j) Q s) /\
  ∀D s,Inv D s->(∀i,i<ops.length->D i=true)->S.up s (Q .normal),?_,?_,?_⟩
 .refine hS.mono _ _ _ (λs hs=>?_) h;obtain⟨_,_,Inv,h1,b,c⟩:=hs;exact⟨Inv,h1,b,c⟩
 .intro D i s o d n l m
  have:S.up s λs'=>Jc S P ops o (λt=>S.up t λt'=>∃Inv:(Nat->Bool)->St->Prop,Inv (λj=>if j=i then true else D j) t' /\
   (∀D i s o,Inv D s->ops[i]? = some o->D i=false->(∀e∈o.after.toList,FK e=true->D e.on=true) ->
    Jc S P ops o (Inv λj=>if j=i then true else D j) Q s) /\
   ∀D s,Inv D s->(∀i,i<ops.length->D i=true)->S.up s (Q .normal)) Q s':=by
   refine hS.mono _ _ _ (λs' a=>?_) d;obtain⟨Inv,h1,b,c⟩:=a;exact Ot hS (λt ht=>hS.refl _ _ ⟨Inv,ht,b,c⟩) (λ_ _ h=>h) (by grind)
  unfold Jc at this⊢;exact hS.trans _ _ this
 intro D s d f;refine hS.trans _ _ (hS.mono _ _ _ (λs' a=>?_) d)
 grind
def WJ (hS:H6 S P){k k' : St->Prop}{Q Q' : M0}(hk:∀s,k s->k' s)(a:∀e s,Q e s->Q' e s)(e:QL)(s:St)(h:thn S k Q e s):thn S k' Q' e s:=by
 cases e with
 |normal=>exact hS.mono _ _ _ hk h
 |_=>exact a _ _ h
def AH0 (hS:H6 S P){g:Nat}{ts:List Nat}{next:St->Prop}{Q Q' : M0}(a:∀e s,Q e s->Q' e s)(e:QL)(s:St)(h:Ha S g ts next Q e s):Ha S g ts next Q' e s:=by
 cases e with
 |normal=>exact h
 |panic x=>exact h
 |_=>exact hS.mono _ _ _ (by grind) h
def Dj (hS:H6 S P):∀(c:Code) {Q Q' : M0},(∀e s,Q e s->Q' e s)->∀{st:St},awp S P c Q st->awp S P c Q' st
 |.skip,Q,Q',hq,st,h=>hq _ _ h
 |.label _,Q,Q',hq,st,h=>hq _ _ h
 |.region _ ops draw,Q,Q',hq,st,h=>by
  unfold awp at h⊢;split
  .rename_i hb;rw[Fg hb]at h;obtain⟨h1,j,Inv,n,q,r⟩:=h;exact⟨h1,j,Inv,n,λD i s o a b c d=>Ot hS (λ_ h=>h) hq (q D i s o a b c d),λD s a b=>hS.mono _ _ _ (λt=>hq _ t) (r D s a b)⟩
  rename_i hb;rw[Gb hb]at h;grind[Jn]
 |.seq a b,Q,Q',hq,st,h=>Dj hS a (WJ hS (λs=>Dj hS b hq) hq) h
 |.cond c t e,Q,Q',hq,st,h=>by
  obtain⟨b,h1,j⟩:=h;refine⟨b,h1,?_⟩;split
  .rename_i hb;rw[Fg hb]at j;exact Dj hS t hq j
  rename_i hb;rw[Gb hb]at j;exact Dj hS e hq j
 |.block id b,Q,Q',hq,st,h=>Dj hS b (λe s h=>by
  cases e with
  |exit i=>grind[blk]
  |_=>exact hq _ _ h) h
 |.loop b,Q,Q',hq,st,h=>by
  obtain⟨X,s,J,m,h1,j⟩:=h;refine⟨X,s,J,m,h1,λx hx=>Dj hS b (λe t h=>?_) (j x hx)⟩;cases e with
  |normal=>exact h
  |_=>exact hq _ _ h
 |.scope b,Q,Q',hq,st,h=>Dj hS b (λe s h=>by
  cases e with
  |goto l=>exact h
  |_=>exact hq _ _ h) h
 |.exit id,Q,Q',hq,st,h=>hq _ _ h
 |.goto l,Q,Q',hq,st,h=>hq _ _ h
 |.ret,Q,Q',hq,st,h=>hq _ _ h
 |.rangeFunc g ps asg body,Q,Q',hq,st,h=>by
  obtain⟨f,first,caps,as,bs,objs,ids,ts,gh,L,I,Fin,h1,j,n,q,r,h6,h7,h8,h9,u,v,w,y,z,h15,a0⟩:=h;refine⟨f,first,caps,as,bs,objs,ids,ts,gh,L,I,Fin,h1,j,n,q,r,h6,h7,h8,h9,u,v,w,y,?_,?_,a0⟩
  .intro ys rest s a b c;refine Dj hS asg (λe t h=>?_) (z ys rest s a b c);cases e with
   |normal=>exact hS.mono _ _ _ (λt h=>Dj hS body (AH0 hS hq) h) h
   |_=>exact h
  grind
 |.refuse _,Q,Q',hq,st,h=>h
def Bj3 (hS:H6 S P){F:M0}(a:∀s,S.up s (F .normal)->F .normal s):∀(K:List It) (s:St),S.up s (kp S P K F .normal)->kp S P K F .normal s
 |[],s,h=>a s h
 |.code c::K,s,h=>hS.trans _ _ (hS.mono _ _ _ (λt h=>h) h)
 |.blk id::K,s,h=>Bj3 hS a K s h
 |.lp X s' J m n::K,s,h=>hS.trans _ _ h
 |.mid M::K,s,h=>hS.trans _ _ h
 |.scp::K,s,h=>Bj3 hS a K s h
theorem BK8 (hS:H6 S P){F:M0}(a:∀s,S.up s (F .normal)->F .normal s){K:List It}{M:St->Prop}(b:∀t,M t->G S P F (.pop .normal K t))(e:QL)(s:St)(h:kp S P (.mid M::K) F e s):kp S P K F e s:=by
 cases e with
 |normal=>exact Bj3 hS a K s (hS.mono _ _ _ b h)
 |_=>exact h
end
section
variable {S:W9}{P:Program}{F:M0}{K:List It}{st:St}
def Az5 (hS:H6 S P){all rest:List Oper}{o:Oper}{t:TypeId}{m k:Operand}{ok:Bool}{key:PV}{Qg:C8}{j:Nat}{es:List (PV×PV)}{kt e:TypeId}{x:PV}{b:Bool}{fd:Option PV}
 (a:BM all st.env o=some true) (c:o.op=.lookup t m k ok) (d:Fa st.Qg (aev st.env k)=some (key,Qg)) (hm:aev st.env m=.Sc j) (f:A2 Qg j=some (.map es))
 (ht:tk P t=some (.map kt e)) (hk:HQ P kt key=true) (g:find (KP P kt) key es=some fd) (hx:(match fd with|some x=>some (x,true)|none=>(Lb P e).map λz=>(z,false))=some (x,b)) (hc:E5 (Ky P kt))
 (hn:G S P F (.ops all rest K (put { st with Qg:=Qg } o.dst (if ok then .tup [.p x,.bool b]else .p x)))):G S P F (.ops all (o::rest) K st):=by
 refine Bs3 hS (out:=⟨Ky P kt,if ok then .tup [.p x,.bool b]else .p x,Qg⟩) a ?_ (by grind) (by grind) hc hn;rw[c];simp only[aop,d,hm,FI,ht,hk,f,g]
 grind
theorem Al5 (hS:H6 S P){all rest:List Oper}{o:Oper}{t:TypeId}{m k x:Operand}{key y:PV}{Qg:C8}{j:Nat}{es es' : List (PV×PV)}{kt e:TypeId}
 (b:BM all st.env o=some true) (c:o.op=.mapUpdate t m k x) (a:aev st.env k=.p key) (d:Fa st.Qg (aev st.env x)=some (y,Qg)) (hm:aev st.env m=.Sc j) (f:A2 Qg j=some (.map es))
 (ht:tk P t=some (.map kt e)) (hk:HQ P kt (nP key)=true) (g:upd (KP P kt) (nP key) y es=some es') (hc:E5 (Ky P kt))
 (hn:G S P F (.ops all rest K (put { st with Qg:=ins j (.map es') Qg } o.dst PX))):G S P F (.ops all (o::rest) K st):=by
 simp_all[Bs3,Ky,PX,ins,aop]
end
variable {N:Nat}
abbrev Str:=List UInt8
structure Sl (α : Type) where
 n:Nat
 g:Nat -> α
instance {α : Type} [Inhabited α]:Inhabited (Sl α):=⟨⟨0,λ_=>default⟩⟩
namespace Sl
variable {α : Type}
def toList (s:Sl α):List α:=(List.range s.n).map s.g
abbrev nil [Inhabited α]:Sl α:=⟨0,λ_=>default⟩
abbrev rep (n:Nat)(a : α):Sl α:=⟨n,λ_=>a⟩
abbrev sub (s:Sl α)(a b:Nat):Sl α:=⟨b-a,λi=>s.g (a+i)⟩
abbrev drop (s:Sl α)(a:Nat):Sl α:=⟨s.n-a,λi=>s.g (a+i)⟩
abbrev take (s:Sl α)(b:Nat):Sl α:=⟨b,s.g⟩
abbrev push (s:Sl α)(a : α):Sl α:=⟨s.n+1,λi=>if i<s.n then s.g i else a⟩
abbrev app (s t:Sl α):Sl α:=⟨s.n+t.n,λi=>if i<s.n then s.g i else t.g (i-s.n)⟩
abbrev upd (s:Sl α)(k:Nat)(a : α):Sl α:=⟨s.n,λi=>if i=k then a else s.g i⟩
abbrev of [Inhabited α](l:List α):Sl α:=⟨l.length,λi=>l.getD i default⟩
end Sl
abbrev vSl {α : Type}(k:Nat)(c : α -> List PV)(s:Sl α):PV:=.sl false k s.n λi=>c (s.g i)
abbrev pI (k:IntKind)(n:Int):PV:=.v (.int k n)
abbrev F0 (l:Str)(i:Int):Int:=(((l.getD i.toNat 0).toNat:Nat):Int)
abbrev pN (n:Int):AV:=.p (.v (.int .i64 n))
abbrev pU (n:Int):AV:=.p (.v (.int .u32 n))
abbrev pB (b:Bool):AV:=.p (.bb b)
abbrev BH2:PV:=.v (.pointer none)
abbrev I3:PV:=.v (.slice none 0 0)
section
variable {R:Type}
def O7 {A:Type}(N:Nat)(body:(A->Option R)->A->Option R):A->Option R:=match N with
 |0=>λ_=>none
 |N+1=>λa=>body (O7 N body) a
variable {A B C D E F G H:Type}
def Y4 (N:Nat)(body:(A->B->Option R)->A->B->Option R)(a:A)(b:B):Option R:=O7 N (λc x=>body (λa b=>c (a,b)) x.1 x.2) (a,b)
def AT6 (N:Nat)(body:(A->B->C->Option R)->A->B->C->Option R)(a:A)(b:B)(c:C):Option R:=O7 N (λd x=>body (λa b c=>d (a,b,c)) x.1 x.2.1 x.2.2) (a,b,c)
def AO8 (N:Nat)(body:(A->B->C->D->Option R)->A->B->C->D->Option R)(a:A)(b:B)(c:C)(d:D):Option R:=O7 N (λf x=>body (λa b c d=>f (a,b,c,d)) x.1 x.2.1 x.2.2.1 x.2.2.2) (a,b,c,d)
def fix6 (N:Nat)(body:(A->B->C->D->E->F->Option R)->A->B->C->D->E->F->Option R)(a:A)(b:B)(c:C)(d:D)(e:E)(f:F):Option R:=O7 N (λg x=>body (λa b c d e f=>g (a,b,c,d,e,f)) x.1 x.2.1 x.2.2.1 x.2.2.2.1 x.2.2.2.2.1 x.2.2.2.2.2) (a,b,c,d,e,f)
theorem BQ {body:(A->Option R)->A->Option R}{a:A}:O7 (N+1) body a=body (O7 N body) a:=rfl
def J9 {body:(A->B->Option R)->A->B->Option R}{a:A}{b:B}:Y4 (N+1) body a b=body (Y4 N body) a b:=rfl
def AF {body:(A->B->C->D->Option R)->A->B->C->D->Option R}{a:A}{b:B}{c:C}{d:D}:AO8 (N+1) body a b c d=body (AO8 N body) a b c d:=rfl
def lt {K:Type}(k:K)(f:K->Option R):Option R:=f k
end
section
variable {R X Y:Type}{r:R}
def itT {b:Bool}{x y:Option R}(hb:b=true)(h:(if b then x else y)=some r):x=some r:=by rwa [Fg hb]at h
def itF {b:Bool}{x y:Option R}(hb:b=false)(h:(if b then x else y)=some r):y=some r:=by rwa [Gb (by grind)]at h
def B9 {p:Prop}[Decidable p]{x:Option R}(h:(if p then x else none)=some r):p/\x=some r:=by
 grind
def A7 {x:Option X}{f:X->Option R}(h:x.bind f=some r):∃a,x=some a/\f a=some r:=Cd3.1 h
def A6 {a b:R}(h:some a=some b):a=b:=BZ7 h
end
section
variable {S:W9}{P:Program}{F:M0}{K:List It}{st:St}
def A3 (hS:H6 S P){n:Nat}{rs:List ResultVar}{Q:ARes->List Obj->List Bool->Prop}(s:St)(h:S.up s (Et S P n rs Q .normal)):Et S P n rs Q .normal s:=hS.trans _ _ h
def BK9 (hS:H6 S P){b:Code}{R A:Type}{body:(A->Option R)->A->Option R}{N:Nat}{a0:A}{r:R}(h:O7 N body a0=some r)(s:A->St)(ids:List (Nat×Nat))(hle:Le ids st (s a0))
 (d:∀(X:Type) (s' : X->St) (J:X->Prop) (m:X->Nat) (n:Nat) (c:A->Option R) (a:A),(∀st ids a,Le ids st (s a)->c a=some r->G S P F (.pop .normal (.lp X s' J m n::K) st))->body c a=some r->G S P F (.code b (.lp X s' J m n::K) (s a))) :
 G S P F (.code (.loop b) K st):=by
 refine Ax0 hS (X:=Nat×A) (λx=>s x.2) (λx=>O7 x.1 body x.2=some r) (λx=>x.1) (N,a0) ids hle h ?_;rintro⟨n,a⟩ hx;cases n with
 |zero=>cases hx
 |succ n=>exact d _ _ _ _ _ (O7 n body) a (λst ids a hle h=>Aj2 hS (n,a) ids hle h (Ci5 n)) hx
def AT7 (hS:H6 S P){all rest:List Oper}{o:Oper}(t:St)(ids:List (Nat×Nat))(hle:Le ids st t)(h:G S P F (.ops all (o::rest) K t)):G S P F (.ops all (o::rest) K st):=
 YG hS (hS.le ids _ _ _ hle h)
end
def pm:(∀b,(true||b)=true)/\(∀b,(b||true)=true)/\(∀b,(false||b)=b)/\(∀b,(b||false)=b)/\(∀b,(true&&b)=b)/\(∀b,(b&&true)=b)/\(∀b,(false&&b)=false)/\(∀b,(b&&false)=false)/\((!true)=false)/\((!false)=true)/\((false=true)=False)/\((true=true)=True):=by refine (by grind)<;>simp
section
variable {Qg:C8}{ids:List (Nat×Nat)}
variable {env r:Env}{t:Nat}{a b:AV}{x y:PV}
def eP (b:get env t=a)(h:viewP Qg a=some y)(h' : QO Qg ids env r):QO Qg ids env ((t,.p y)::r):=Bs4 b (le_p h) h'
def eM {i j:Nat}(a:get env t=.Sc i)(h:lk ids j=some i)(h' : QO Qg ids env r):QO Qg ids env ((t,.Sc j)::r):=Bs4 a (AQ2 h) h'
def app1 {α : Type}{c : α -> List PV}{n:Nat}{v:Sl α}{f:Nat->List PV}{z cs:List PV}{x : α}(h:∀i,i<n->f i=c (v.g i))(hn:n=v.n)(hx:cs=c x):∀i,i<n+1->DF n f (H2 z [(0,cs)]) i=c ((v.push x).g i):=by
 subst hn hx;intro i a;show (if i<v.n then f i else H2 z [(0,c x)] (i-v.n))=c (if i<v.n then v.g i else x);split
 .grind
 obtain rfl:i=v.n:=by omega
 simp[H2]
def Zo {α : Type}{c : α -> List PV}{n m:Nat}{v w:Sl α}{f g:Nat->List PV}(h:∀i,i<n->f i=c (v.g i))(hn:n=v.n)(h' : ∀i,i<m->g i=c (w.g i))(hm:m=w.n):∀i,i<n+m->DF n f g i=c ((v.app w).g i):=by
 subst hn hm;intro i a;show (if i<v.n then f i else g (i-v.n))=c (if i<v.n then v.g i else w.g (i-v.n))
 grind
def Az6 {α : Type}{c : α -> List PV}{n k:Nat}{v:Sl α}{f:Nat->List PV}{e:Nat->List PV}{x : α}(h:∀i,i<n->f i=c (v.g i))(hx:k<n->e k=c x):∀i,i<n->(λl=>if l=k then e l else f l) i=c ((v.upd k x).g i):=by
 grind
def same {n:Nat}{f:Nat->List PV}:∀i,i<n->f i=f i:=λ_ _=>rfl
end
abbrev cI (k:IntKind)(n:Int):List PV:=[.v (.int k n)]
abbrev cB (b:Bool):List PV:=[.bb b]
abbrev cS (s:Str):List PV:=[.str s]
abbrev cL {α : Type}(k:Nat)(c : α -> List PV)(s:Sl α):List PV:=[vSl k c s]
abbrev strOf (s:Sl Int):Str:=(List.range s.n).map λi=>UInt8.ofNat (s.g i).toNat
section
variable {S:W9}{P:Program}{F:M0}{K:List It}{st:St}
end
section
variable {Qg:C8}{ids:List (Nat×Nat)}
def le_yf {i j:Nat}(h:lk ids j=some i):leA Qg ids (.yf i) (.yf j):=by unfold leA;exact⟨i,h,rfl⟩
def BL0 {l m:List AV}(h:leL Qg ids l m):leA Qg ids (.tup l) (.tup m):=by unfold leA;exact⟨l,rfl,h⟩
def BL1 {l m:List AV}(h:leL Qg ids l m):leA Qg ids (.agr l) (.agr m):=by unfold leA;exact⟨l,rfl,h⟩
end
def DH {κ ν : Type}(kP : κ -> PV)(vP : ν -> PV)(es:List (κ × ν)):List (PV×PV):=es.map λp=>(kP p.1,vP p.2)
def O1 {κ ν : Type}(eq : κ -> κ -> Bool)(k : κ):List (κ × ν)->Option ν
 |[]=>none
 |(a,v)::es=>if eq k a then some v else O1 eq k es
def GL {κ ν : Type}(eq : κ -> κ -> Bool)(k : κ)(v : ν):List (κ × ν)->List (κ × ν)
 |[]=>[(k,v)]
 |(a,x)::es=>if eq k a then (k,v)::es else (a,x)::GL eq k v es
def Al6 {κ ν : Type}(kP : κ -> PV)(vP : ν -> PV)(es:List (κ × ν)):(DH kP vP es).length=es.length:=by simp[DH]
theorem Zp {κ ν : Type}{kP : κ -> PV}{vP : ν -> PV}{cmp:PV->PV->Option Bool}{eq : κ -> κ -> Bool}(hc:∀a b,cmp (kP a) (kP b)=some (eq a b))(k : κ):∀es:List (κ × ν),find cmp (kP k) (DH kP vP es)=some ((O1 eq k es).map vP)
 |[]=>rfl
 |(a,v)::es=>by
  show (match cmp (kP k) (kP a)with|some true=>some (some (vP v))|some false=>find cmp (kP k) (DH kP vP es)|none=>none)=some ((O1 eq k ((a,v)::es)).map vP);rw[hc];simp only[O1];cases h:eq k a
  .simpa using Zp hc k es
  rfl
def WK {κ ν : Type}{kP : κ -> PV}{vP : ν -> PV}{cmp:PV->PV->Option Bool}{eq : κ -> κ -> Bool}(hc:∀a b,cmp (kP a) (kP b)=some (eq a b))(k : κ)(x : ν):∀es:List (κ × ν),upd cmp (kP k) (vP x) (DH kP vP es)=some (DH kP vP (GL eq k x es))
 |[]=>rfl
 |(a,v)::es=>by
  show (match cmp (kP k) (kP a)with|some true=>some ((kP k,vP x)::DH kP vP es)|some false=>(upd cmp (kP k) (vP x) (DH kP vP es)).map ((kP a,vP v) :: ·)|none=>none)=some (DH kP vP (GL eq k x ((a,v)::es)));rw[hc];simp only[GL];cases h:eq k a
  .simp only[WK hc k x es,BU2,Ih,BT6];rfl
  rfl
abbrev eqS (a b:Str):Bool:=a==b
abbrev eqI (a b:Int):Bool:=a==b
def Jo {X Y:Type}(o:Option X)(a:Y)(f:X->Y):Y:=match o with
 |none=>a
 |some x=>f x
def Ai4 {X R:Type}{r:R}{o:Option X}{a:Option R}{f:X->Option R}(b:o=none)(h:Jo o a f=some r):a=some r:=by subst b;exact h
def Zq {X R:Type}{r:R}{o:Option X}{x:X}{a:Option R}{f:X->Option R}(b:o=some x)(h:Jo o a f=some r):f x=some r:=by subst b;exact h
def M9 {X Y:Type}(a:Y)(f:X->Y):Jo none a f=a:=rfl
def N0 {X Y:Type}(x:X)(a:Y)(f:X->Y):Jo (some x) a f=f x:=rfl
section
variable {R T A B C D:Type}
def iter0 (L:List T)(body:Option R->T->Option R)(k:Option R):Option R:=match L with
 |[]=>k
 |t::L=>body (iter0 L body k) t
def T9 (L:List T)(body:(A->Option R)->T->A->Option R)(k:A->Option R)(a:A):Option R:=match L with
 |[]=>k a
 |t::L=>body (T9 L body k) t a
end
section
variable {S:W9}{P:Program}{F:M0}{K:List It}{st:St}
def Bz3 (hS:H6 S P){g:Operand}{ps:Array Tmp}{asg body:Code}{f:FuncId}{first caps as bs:List AV}{objs:List Obj}{R T A:Type}{enc:T->List PV}{L:List T}{mb:(A->Option R)->T->A->Option R}{mk:A->Option R}{a0:A}{r:R}
 (ids ts:List Nat) (gh:Nat) (s:A->St) (idl:List (Nat×Nat)) (h:T9 L mb mk a0=some r) (y:FQ S f as bs objs (L.map enc))
 (hp:GZ st.env g=some (f,first,caps)) (j:∃fn,P.funcs[f]? = some fn/\fn.body.isSome=true/\(fn.name == "runtime.NumGoroutine")=false) (l:N5 ids st.Qg ids=some objs) (m:GH objs=true) (z:I1 ids=true) (n:ES ids first=some as) (o:ES ids caps=some bs) (q:objs.length=ids.length)
 (u:Nat.blt gh 1000=true) (v:A2 st.Qg gh=none) (w:Nat.blt ids.length 1000=true) (x:I1 ts=true) (d:∀t:T,(enc t).length=ps.size)
 (hle:Le idl ⟨AC ts (ts.map (get st.env)),K8 ids (ids.map λ_=>false) st.Qg⟩ (s a0)) (hk:∀a,(s a).env.map (·.1)=ts) (hn:∀a,A2 (s a).Qg gh=none)
 (b:∀(t:T) (next:St->Prop) (c:A->Option R) (a:A),(∀(st st1:St) (cs:List AV) (idl:List (Nat×Nat)) (a:A),Le idl st st1->A2 st1.Qg gh=some (.ghost cs)->cs.length=ts.length->A2 (del gh st1.Qg) gh=none->(⟨AC ts cs,del gh st1.Qg⟩:St)=s a->c a=some r->G S P (Ha S gh ts next (kp S P K F)) (.pop .normal [] st)) ->
  mb c t a=some r->G S P (Di S P body gh ts next (kp S P K F)) (.code asg [] ⟨MI ps.toList (enc t) (s a).env,ins gh (.ghost ((s a).env.map (·.2))) (s a).Qg⟩))
 (i:∀a,mk a=some r->G S P F (.pop .normal K (s a))):G S P F (.code (.rangeFunc g ps asg body) K st):=by
 refine AT4 hS ids ts gh (L.map enc) s (λrest a=>∃L',rest=L'.map enc/\T9 L' mb mk a=some r) a0 idl hp j l m z n o q (by simpa[Ce6]using u) v (by simpa[Ce6]using w) x (λys hy=>?_) y hle ⟨L,rfl,h⟩ hk hn ?_ ?_
 .obtain⟨t,_,rfl⟩:=BZ1.1 hy;exact d t
 .rintro ys rest a ⟨L',hL,hx⟩;cases L' with
  |nil=>cases hL
  |cons t L'=>simp only[BU9,Ca5]at hL;obtain⟨rfl,rfl⟩:=hL;refine b t _ (T9 L' mb mk) a (λst st1 cs idl a hle h1 h2 h3 h4 h5=>?_) hx;exact Al3 hS st1 a idl hle h1 h2 h3 h4 ⟨L',rfl,h5⟩
 rintro a ⟨L',hL,hx⟩;cases L' with
 |nil=>exact i a hx
 |cons t L'=>cases hL
def Bj4 (hS:H6 S P){g:Operand}{ps:Array Tmp}{asg body:Code}{f:FuncId}{first caps as bs:List AV}{objs:List Obj}{R T A:Type}{enc:T->List PV}{L:List T}{mb:(A->Option R)->T->A->Option R}{mk:A->Option R}{a0:A}{r0:R}
 (ids ts:List Nat) (gh:Nat) (s:A->R->St) (idl:List (Nat×Nat)) (h:T9 L mb mk a0=some r0) (z:FQ S f as bs objs (L.map enc))
 (hp:GZ st.env g=some (f,first,caps)) (j:∃fn,P.funcs[f]? = some fn/\fn.body.isSome=true/\(fn.name == "runtime.NumGoroutine")=false) (l:N5 ids st.Qg ids=some objs) (m:GH objs=true) (hd:I1 ids=true) (n:ES ids first=some as) (o:ES ids caps=some bs) (q:objs.length=ids.length)
 (u:Nat.blt gh 1000=true) (v:A2 st.Qg gh=none) (w:Nat.blt ids.length 1000=true) (y:I1 ts=true) (d:∀t:T,(enc t).length=ps.size)
 (hle:Le idl ⟨AC ts (ts.map (get st.env)),K8 ids (ids.map λ_=>false) st.Qg⟩ (s a0 r0)) (hk:∀a r,(s a r).env.map (·.1)=ts) (hn:∀a r,A2 (s a r).Qg gh=none)
 (b:∀(t:T) (next:St->Prop) (c:A->Option R) (a:A) (r:R),(∀(st st1:St) (cs:List AV) (idl:List (Nat×Nat)) (a:A) (r:R),Le idl st st1->A2 st1.Qg gh=some (.ghost cs)->cs.length=ts.length->A2 (del gh st1.Qg) gh=none->(⟨AC ts cs,del gh st1.Qg⟩:St)=s a r->c a=some r->G S P (Ha S gh ts next (kp S P K F)) (.pop .normal [] st)) ->
  mb c t a=some r->G S P (Di S P body gh ts next (kp S P K F)) (.code asg [] ⟨MI ps.toList (enc t) (s a r).env,ins gh (.ghost ((s a r).env.map (·.2))) (s a r).Qg⟩))
 (i:∀a r,mk a=some r->G S P F (.pop .normal K (s a r))):G S P F (.code (.rangeFunc g ps asg body) K st):=by
 refine AT4 hS ids ts gh (L.map enc) (λx:A×R=>s x.1 x.2) (λrest x=>∃L',rest=L'.map enc/\T9 L' mb mk x.1=some x.2) (a0,r0) idl hp j l m hd n o q (by simpa[Ce6]using u) v (by simpa[Ce6]using w) y (λys hy=>?_) z hle ⟨L,rfl,h⟩ (λx=>hk x.1 x.2) (λx=>hn x.1 x.2) ?_ ?_
 .obtain⟨t,_,rfl⟩:=BZ1.1 hy;exact d t
 .rintro ys rest ⟨a,r⟩ ⟨L',hL,hx⟩;cases L' with
  |nil=>cases hL
  |cons t L'=>simp only[BU9,Ca5]at hL;obtain⟨rfl,rfl⟩:=hL;refine b t _ (T9 L' mb mk) a r (λst st1 cs idl a r hle h1 h2 h3 h4 h5=>?_) hx;exact Al3 hS st1 (a,r) idl hle h1 h2 h3 h4 ⟨L',rfl,h5⟩
 rintro⟨a,r⟩ ⟨L',hL,hx⟩;cases L' with
 |nil=>exact i a r hx
 |cons t L'=>cases hL
end
section
variable {S:W9}{P:Program}{all:List Oper}{k:Env->C8->Prop}
def Al7 {cls:List Cls}{o:Oper}{rest:List Oper}{env:Env}{Qg regs1:C8}{t:TypeId}{m q x:Operand}{key y:PV}{j:Nat}{es es' : List (PV×PV)}{kt e:TypeId}
 (b:AE all env o=some true) (a:o.op=.mapUpdate t m q x) (d:aev env q=.p key) (f:Fa Qg (aev env x)=some (y,regs1)) (hm:aev env m=.Sc j) (g:A2 regs1 j=some (.map es))
 (ht:tk P t=some (.map kt e)) (hk:HQ P kt (nP key)=true) (i:upd (KP P kt) (nP key) y es=some es') (hc:E5 (Ky P kt))
 (hn:Mg S P all cls rest (Qy o.dst PX env) (ins j (.map es') regs1) k):Mg S P all (.w::cls) (o::rest) env Qg k:=by
 refine Az1 (c:=Ky P kt) (v:=PX) (regs':=ins j (.map es') regs1) b ?_ hc ?_ hn
 .rw[a];grind[aop]
 rw[a];rfl
def Az7 {cl:Cls}{cls:List Cls}{o:Oper}{rest:List Oper}{env:Env}{Qg regs1:C8}{t:TypeId}{m q:Operand}{ok:Bool}{key:PV}{j:Nat}{es:List (PV×PV)}{kt e:TypeId}{x:PV}{b:Bool}{fd:Option PV}
 (d:AE all env o=some true) (f:o.op=.lookup t m q ok) (g:Fa Qg (aev env q)=some (key,regs1)) (hm:aev env m=.Sc j) (i:A2 regs1 j=some (.map es))
 (ht:tk P t=some (.map kt e)) (hk:HQ P kt key=true) (l:find (KP P kt) key es=some fd) (hx:(match fd with|some x=>some (x,true)|none=>(Lb P e).map λz=>(z,false))=some (x,b)) (hc:E5 (Ky P kt)) (a:Zi cl env (o.dst.getD 0) o.op=true)
 (hn:Mg S P all cls rest (Qy o.dst (if ok then .tup [.p x,.bool b]else .p x) env) regs1 k):Mg S P all (cl::cls) (o::rest) env Qg k:=by
 refine Az1 (c:=Ky P kt) (v:=if ok then .tup [.p x,.bool b]else .p x) (regs':=regs1) d ?_ hc a hn;rw[f];simp only[aop,g,hm,FI,ht,hk,i,l]
 grind
end
section
variable (P:Program)
def stp (g:Cfg):Cfg:=(run P none 400 [] g).cfg
def cnd (g:Cfg):List Prop:=(run P none 400 [] g).conds
def IL (d:Nat)(g:Cfg):Cfg:=(run P (some d) 400 [] g).cfg
def Bz4 (d:Nat)(g:Cfg):List Prop:=(run P (some d) 400 [] g).conds
def Cfg.st:Cfg->St
 |.code _ _ s=>s
 |.ops _ _ _ s=>s
 |.pop _ _ s=>s
def Cfg.k:Cfg->List It
 |.code _ K _=>K
 |.ops _ _ K _=>K
 |.pop _ K _=>K
def mkO {R:Type _}(env:Env)(Qg:C8)(κ : Env->C8->R):R:=fE env λenv=>fR Qg λregs=>κ env Qg
theorem GM {R:Type _}(env:Env)(Qg:C8)(κ : Env->C8->R):mkO env Qg κ = κ env Qg:=by grind[mkO,fE_eq,Bw8]
def AH1 {R:Type _}(d:Option Nat)(a:AV)(env:Env)(Qg:C8)(κ : St->R):R:=match d with
 |some d=>mkO (ins d a env) Qg λenv Qg=>κ ⟨env,Qg⟩
 |none=>mkO env Qg λenv Qg=>κ ⟨env,Qg⟩
theorem Hb {R:Type _}(d:Option Nat)(a:AV)(env:Env)(Qg:C8)(κ : St->R):AH1 d a env Qg κ = κ (put ⟨env,Qg⟩ d a):=by cases d<;>simp only[AH1,GM,put]
def Bz5:Cfg->Option Bool
 |.code (.cond c _ _) _ st=>match aev st.env c with
  |.p (.bb b)=>some b
  |_=>none
 |_=>none
def BL2:Cfg->Cfg
 |.code (.cond _ t _) K st=>.code t K st
 |g=>g
def BL3:Cfg->Cfg
 |.code (.cond _ _ e) K st=>.code e K st
 |g=>g
def AT8:Cfg->Option Bool
 |.ops all (o::_) _ st=>match o.guard with
  |some (j,_)=>match BJ1 all j with
   |some d=>match get st.env d with
    |.p (.bb b)=>some b
    |_=>none
   |none=>none
  |none=>none
 |_=>none
def Zr (b:Bool):Cfg->Cfg
 |.ops all (o::rest) K st=>match o.guard with
  |some (j,_)=>match BJ1 all j with
   |some d=>AH1 (some d) (.p (.v (.bool b))) st.env st.Qg λst=>.ops all (o::rest) K st
   |none=>.ops all (o::rest) K st
  |none=>.ops all (o::rest) K st
 |g=>g
def AT9 (ids:List Nat):Cfg->Option (FuncId×List AV×List Obj)
 |.ops all (o::_) _ st=>match BM all st.env o,o.op with
  |some true,.call c=>match c.callee with
   |.value f=>match Jf st.Qg (c.args.toList.map (aev st.env))with
    |some (as,Qg)=>match Yt st.env f as with
     |some (fn,as')=>match ES ids as',N5 ids Qg ids with
      |some a,some ob=>if I1 ids&&GH ob then some (fn,a,ob)else none
      |_,_=>none
     |none=>none
    |none=>none
   |_=>none
  |_,_=>none
 |_=>none
def AU0 (ids:List Nat)(ks:List Bool)(n:Nat):Cfg->Bool
 |.ops _ (o::_) _ st=>match o.op with
  |.call c=>match Jf st.Qg (c.args.toList.map (aev st.env))with
   |some (_,Qg)=>Z0 Qg ids ks (o.dst.getD 0) n
   |none=>false
  |_=>false
 |_=>false
def Bz6 (ids:List Nat)(ks:List Bool)(r:AV)(objs' : List Obj):Cfg->Cfg
 |.ops all (o::rest) K st=>match o.op with
  |.call c=>match Jf st.Qg (c.args.toList.map (aev st.env))with
   |some (_,Qg)=>AH1 o.dst (unA (H9 (o.dst.getD 0) ids ks objs'.length) r) st.env
    (back (H9 (o.dst.getD 0) ids ks objs'.length) (H9 (o.dst.getD 0) ids ks objs'.length) objs' (K8 ids ks Qg)) λst=>.ops all rest K st
   |none=>.ops all (o::rest) K st
  |_=>.ops all (o::rest) K st
 |g=>g
structure BL4 where
 kt:TypeId
 e:TypeId
 key:PV
 es:List (PV×PV)
def Bj5:Cfg->Option BL4
 |.ops all (o::_) _ st=>match BM all st.env o,o.op with
  |some true,.lookup t m k _=>match Fa st.Qg (aev st.env k),aev st.env m with
   |some (key,Qg),.Sc j=>match A2 Qg j,tk P t with
    |some (.map es),some (.map kt e)=>if HQ P kt key then some ⟨kt,e,key,es⟩else none
    |_,_=>none
   |_,_=>none
  |_,_=>none
 |_=>none
def AH2 (e:TypeId):Option PV->Option (PV×Bool)
 |some x=>some (x,true)
 |none=>(Lb P e).map λz=>(z,false)
def Bj6 (x:PV)(b:Bool):Cfg->Cfg
 |.ops all (o::rest) K st=>match o.op with
  |.lookup _ _ k ok=>match Fa st.Qg (aev st.env k)with
   |some (_,Qg)=>AH1 o.dst (if ok then .tup [.p x,.bool b]else .p x) st.env Qg λst=>.ops all rest K st
   |none=>.ops all (o::rest) K st
  |_=>.ops all (o::rest) K st
 |g=>g
def updE:Cfg->Option (TypeId×PV×PV×List (PV×PV))
 |.ops all (o::_) _ st=>match BM all st.env o,o.op with
  |some true,.mapUpdate t m k x=>match aev st.env k,aev st.env m,Fa st.Qg (aev st.env x)with
   |.p key,.Sc j,some (y,Qg)=>match A2 Qg j,tk P t with
    |some (.map es),some (.map kt _)=>if HQ P kt (nP key) then some (kt,nP key,y,es)else none
    |_,_=>none
   |_,_,_=>none
  |_,_=>none
 |_=>none
def updK (es' : List (PV×PV)):Cfg->Cfg
 |.ops all (o::rest) K st=>match o.op with
  |.mapUpdate _ m _ x=>match aev st.env m,Fa st.Qg (aev st.env x)with
   |.Sc j,some (_,Qg)=>AH1 o.dst PX st.env (ins j (.map es') Qg) λst=>.ops all rest K st
   |_,_=>.ops all (o::rest) K st
  |_=>.ops all (o::rest) K st
 |g=>g
def Jp:Cfg->Bool
 |.code (.loop _) _ _=>true
 |_=>false
def TC:Cfg->Code
 |.code (.loop b) _ _=>b
 |_=>.skip
def popSt:Cfg->Option St
 |.pop .normal _ st=>some st
 |_=>none
def Zs (M:It):Nat->List It->List It
 |0,K=>M::K
 |n+1,i::K=>i::Zs M n K
 |_+1,[]=>[M]
def midC (n:Nat)(M:St->Prop):Cfg->Cfg
 |.code c K st=>.code c (Zs (.mid M) n K) st
 |.ops all rest K st=>.ops all rest (Zs (.mid M) n K) st
 |.pop e K st=>.pop e (Zs (.mid M) n K) st
def KT:Cfg->Bool
 |.ops _ (_::_) _ _=>true
 |_=>false
def opsS (st:St):Cfg->Cfg
 |.ops all rest K _=>.ops all rest K st
 |g=>g
def Bz7:Cfg->Option St
 |.pop .ret [] st=>some st
 |.pop .normal [] st=>some st
 |_=>none
inductive Sd where
 |eq (x y:PV)
 |fn (n m:Nat) (f g:Nat->List PV)
 |mp (x y:List (PV×PV))
 |yl (x y:List (List PV)) (b c:Bool)
 |nt (a b:Nat)
 |ob (n:Nat) (f g:Nat->Obj)
inductive LV where
 |eq (x:PV)
 |fn (n:Nat) (f:Nat->List PV)
 |mp (x:List (PV×PV))
 |yl (x:List (List PV)) (b:Bool)
 |nt (a:Nat)
 |ob (f:Nat->Obj)
def Sd.src:Sd->LV
 |.eq x _=>.eq x
 |.fn n _ f _=>.fn n f
 |.mp x _=>.mp x
 |.yl x _ b _=>.yl x b
 |.nt a _=>.nt a
 |.ob _ f _=>.ob f
def Sd.tgt:Sd->LV
 |.eq _ y=>.eq y
 |.fn _ m _ g=>.fn m g
 |.mp _ y=>.mp y
 |.yl _ y _ c=>.yl y c
 |.nt _ b=>.nt b
 |.ob _ _ g=>.ob g
def Sd.ok:Sd->Prop
 |.eq x y=>x=y
 |.fn n m f g=>n=m/\∀i,i<n->f i=g i
 |.mp x y=>x=y
 |.yl x y b c=>x=y/\b=c
 |.nt a b=>a=b
 |.ob n f g=>∀i,i<n->f i=g i
theorem Sd.ok_of {l:Sd}(h:l.src=l.tgt):l.ok:=by
 cases l with
 |eq x y=>simp only[Sd.src,Sd.tgt,LV.eq.injEq]at h;exact h
 |fn n m f g=>simp only[Sd.src,Sd.tgt,LV.fn.injEq]at h;obtain⟨rfl,rfl⟩:=h;exact⟨rfl,λ_ _=>rfl⟩
 |mp x y=>simp only[Sd.src,Sd.tgt,LV.mp.injEq]at h;exact h
 |yl x y b c=>simp only[Sd.src,Sd.tgt,LV.yl.injEq]at h;exact h
 |nt a b=>simp only[Sd.src,Sd.tgt,LV.nt.injEq]at h;exact h
 |ob n f g=>simp only[Sd.src,Sd.tgt,LV.ob.injEq]at h;subst h;exact λ_ _=>rfl
def Bz8:PV->PV->Sd
 |.v (.bool b),.bb c=>.eq (.bb b) (.bb c)
 |.v (.slice none 0 0),.sl false _ n f=>.fn 0 n f f
 |.sl nn k n f,.sl false l m g=>if k=l then .fn n m f g else .eq (.sl nn k n f) (.sl false l m g)
 |x,y=>.eq x y
mutual
def MY (Qg:C8)(ids:List (Nat×Nat))(a b:AV):Option (List Sd):=
 match b with
 |.top=>some []
 |.p y=>match viewP Qg a with
  |some x=>some [Bz8 x y]
  |none=>none
 |.reg j off=>match a with | .reg i off'=>if lk ids j=some i/\off=off' then some []else none|_=>none
 |.vec j=>match a with
  |.vec i=>if lk ids j=some i then some []else none
  |.p (.v (.slice none 0 0))=>if lk ids j=none then some []else none
  |_=>none
 |.vecp j n=>match a with | .vecp i m=>if lk ids j=some i/\n=m then some []else none|_=>none
 |.elt j k n off=>match a with | .elt i k' n' off'=>if lk ids j=some i/\k=k' /\ n=n' /\ off=off' then some []else none|_=>none
 |.Sc j=>match a with | .Sc i=>if lk ids j=some i then some []else none|_=>none
 |.yf j=>match a with | .yf i=>if lk ids j=some i then some []else none|_=>none
 |.clo f x y=>match a with
  |.clo f' x' y'=>match TD Qg ids x' x,TD Qg ids y' y with|some l,some m=>some (.nt f' f::l++m)|_,_=>none
  |_=>none
 |.tup l=>match a with | .tup l'=>TD Qg ids l' l|_=>none
 |.agr l=>match a with | .agr l'=>TD Qg ids l' l|_=>none
def TD (Qg:C8)(ids:List (Nat×Nat))(a b:List AV):Option (List Sd):=
 match b with
 |[]=>match a with | []=>some [] | _=>none
 |y::s=>match a with
  |x::r=>match MY Qg ids x y,TD Qg ids r s with|some l,some m=>some (l++m)|_,_=>none
  |[]=>none
end
def Bj7 (Qg:C8)(ids:List (Nat×Nat))(env:Env):Env->Option (List Sd)
 |[]=>some []
 |(t,b)::r=>match MY Qg ids (get env t) b,Bj7 Qg ids env r with|some l,some m=>some (l++m)|_,_=>none
def Rk (Qg:C8)(ids:List (Nat×Nat))(o p:Obj):Option (List Sd):=
 match p with
 |.cells cs=>match o with | .cells cs'=>TD Qg ids cs' cs|_=>none
 |.vec e k n f vw=>match o with
  |.vec e' k' m g vw'=>if e=e' /\ k=k' /\ (vw' = true->vw=true)then some [.fn m n g f]else none
  |_=>none
 |.map es=>match o with | .map es'=>some [.mp es' es] | _=>none
 |.arr n f=>match o with | .arr m g=>some [.fn m n (λi=>[g i]) (λi=>[f i])] | _=>none
 |.blk l jr=>match o with | .blk l' jr'=>if lk ids jr=some jr' then some [.ob 1 (λ_=>.blk l' 0) (λ_=>.blk l 0)]else none|_=>none
 |.ghost cs=>match o with | .ghost cs'=>TD Qg ids cs' cs|_=>none
 |.yld r b=>match o with | .yld r' b'=>some [.yl r' r b' b] | _=>none
 |.fam e n jr x=>match o with
  |.fam e' m jr' x'=>if e=e' /\ lk ids jr=some jr' then (match x,x' with
   |none,none=>some [.nt m n]
   |some (i,a),some (i',a')=>match nov a' a,MY Qg ids a' a with
    |true,some l=>some (.nt m n :: .nt i' i::l)
    |_,_=>none
   |_,_=>none)else none
  |_=>none
 |.rows n g=>match o with | .rows m g'=>some [.nt m n,.ob n g' g] | _=>none
 |.dead=>some []
def Bj8 (Qg:C8)(ids:List (Nat×Nat)):C8->Option (List Sd)
 |[]=>some []
 |(j,p)::r=>match (match lk ids j with
  |some i=>match A2 Qg i with
   |some o=>Rk Qg ids o p
   |none=>none
  |none=>match p with
   |.vec _ _ n f _=>some [.fn 0 n f f]
   |_=>none:Option (List Sd)),Bj8 Qg ids r with
  |some l,some m=>some (l++m)
  |_,_=>none
def leK (ids:List (Nat×Nat))(s t:St):Option (List Sd):=
 if (wf t&&I1 (ids.map (·.2))&&AE3 ids&&UG ids t.Qg&&OW ids (seen s.env t.env++MK ids s.Qg t.Qg) t.Qg) then
  match Bj7 s.Qg ids s.env t.env,Bj8 s.Qg ids t.Qg with
  |some l,some m=>some (l++m)
  |_,_=>none
 else none
def Bj9 {x y:PV}(h:(Bz8 x y).ok):leP x y:=by
 unfold Bz8 at h;split at h
 .simp only[Sd.ok,PV.bb.injEq]at h;subst h;exact .inr (by grind)
 .obtain⟨rfl,_⟩:=h;exact .inr (by grind)
 .split at h
  .rename_i hk;subst hk;obtain⟨rfl,h⟩:=h;exact .inr (by grind)
  exact .inl h
 exact .inl h
def Rl {l m:List Sd}(h:∀x∈l++m,x.ok):(∀x∈l,x.ok)/\∀x∈m,x.ok:=
 (by grind)
mutual
theorem WL {Qg:C8}{ids:List (Nat×Nat)}{a:AV}(b:AV){L:List Sd}(h:MY Qg ids a b=some L)(hL:∀x∈L,x.ok):leA Qg ids a b:=by
 cases b with
 |top=>unfold leA;trivial
 |p y=>
  unfold MY at h;split at h
  .rename_i x hx;cases h;unfold leA;exact⟨x,hx,Bj9 (hL _ (by simp))⟩
  cases h
 |reg j off=>
  unfold MY at h;split at h
  .split at h
   .rename_i c;obtain⟨h1,rfl⟩:=c;exact BJ4 h1
   cases h
  cases h
 |vec j=>
  unfold MY at h;split at h
  .split at h
   .rename_i h1;exact BJ3 h1
   cases h
  .split at h
   .rename_i h1;exact Bx3 h1
   cases h
  cases h
 |vecp j n=>
  unfold MY at h;split at h
  .split at h
   .rename_i c;obtain⟨h1,rfl⟩:=c;unfold leA;exact⟨_,h1,rfl⟩
   cases h
  cases h
 |elt j k n off=>
  unfold MY at h;split at h
  .split at h
   .rename_i c;obtain⟨h1,rfl,rfl,rfl⟩:=c;unfold leA;exact⟨_,h1,rfl⟩
   cases h
  cases h
 |Sc j=>
  unfold MY at h;split at h
  .split at h
   .rename_i h1;exact AQ2 h1
   cases h
  cases h
 |yf j=>
  unfold MY at h;split at h
  .split at h
   .rename_i h1;exact le_yf h1
   cases h
  cases h
 |clo f x y=>
  unfold MY at h;split at h
  .split at h
   .rename_i l m h1 g;cases h;have d:=hL _ (Ca7 ..);simp only[Sd.ok]at d;subst d;obtain⟨i,o⟩:=Rl λx hx=>hL x (BX1 _ hx);exact BJ5 (Ib x h1 i) (Ib y g o)
   cases h
  cases h
 |tup l=>
  unfold MY at h;split at h
  .exact BL0 (Ib l h hL)
  cases h
 |agr l=>
  unfold MY at h;split at h
  .exact BL1 (Ib l h hL)
  cases h
theorem Ib {Qg:C8}{ids:List (Nat×Nat)}{a:List AV}(b:List AV){L:List Sd}(h:TD Qg ids a b=some L)(hL:∀x∈L,x.ok):leL Qg ids a b:=by
 cases b with
 |nil=>
  unfold TD at h;split at h
  .exact Bx4
  cases h
 |cons y s=>
  unfold TD at h;split at h
  .split at h
   .rename_i l m h1 c;cases h;obtain⟨d,f⟩:=Rl hL;exact Bf6 (WL y h1 d) (Ib s c f)
   cases h
  cases h
end
theorem Az8 {Qg:C8}{ids:List (Nat×Nat)}{env:Env}:∀(t:Env) {L:List Sd},Bj7 Qg ids env t=some L->(∀x∈L,x.ok)->QO Qg ids env t
 |[],_,_,_=>trivial
 |(t,b)::r,L,h,hL=>by
  simp only[Bj7]at h;split at h
  .rename_i l m h1 a;cases h;obtain⟨c,d⟩:=Rl hL;exact⟨WL b h1 c,Az8 r a d⟩
  grind
theorem Bk0 {Qg:C8}{ids:List (Nat×Nat)}{o p:Obj}{L:List Sd}(h:Rk Qg ids o p=some L)(hL:∀x∈L,x.ok):leO Qg ids o p:=by
 cases p with
 |cells cs=>
  simp only[Rk]at h
  grind[Bf7,Ib]
 |vec e k n f vw=>
  simp only[Rk]at h
  repeat' split at h<;>try contradiction
  rename_i c;obtain⟨rfl,rfl,i⟩:=c;cases h;obtain⟨rfl,h1⟩:=hL _ (Ca8.2 rfl);exact⟨_,_,rfl,h1,i⟩
 |map es=>
  simp only[Rk]at h;split at h
  .cases h
   have:=hL _ (Ca8.2 rfl)
   simp only[Sd.ok]at this;subst this;rfl
  grind
 |blk l jr=>
  simp only[Rk]at h
  repeat' split at h<;>try contradiction
  rename_i c;cases h;have h1:=hL _ (Ca8.2 rfl);have j:=h1 0 (Ci5 0);cases j;exact⟨_,rfl,c⟩
 |arr n f=>
  simp only[Rk]at h;split at h
  .cases h;obtain⟨rfl,h1⟩:=hL _ (Ca8.2 rfl);exact⟨_,rfl,by grind⟩
  grind
 |ghost cs=>
  simp only[Rk]at h;split at h
  .exact⟨_,rfl,Ib cs h hL⟩
  grind
 |yld r b=>
  simp only[Rk]at h;split at h
  .cases h;obtain⟨rfl,rfl⟩:=hL _ (Ca8.2 rfl);rfl
  grind
 |fam e n jr x=>
  simp only[Rk]at h;split at h
  .split at h
   .rename_i m;obtain⟨rfl,d⟩:=m;split at h
    .cases h;have a:=hL _ (Ca7 ..);simp only[Sd.ok]at a;subst a;exact⟨_,_,rfl,d,rfl⟩
    .split at h
     .rename_i hn hl;cases h;have a:=hL _ (Ca7 ..);have h1:=hL _ (BX1 _ (Ca7 ..));simp only[Sd.ok]at a h1;subst a h1;exact⟨_,_,rfl,d,_,rfl,hn,WL _ hl (by grind)⟩
     grind
    grind
   grind
  grind
 |rows n g=>
  simp only[Rk]at h;split at h
  .cases h;have a:=hL _ (Ca7 ..);simp only[Sd.ok]at a;subst a;exact⟨_,rfl,hL (.ob _ _ _) (by simp)⟩
  grind
 |dead=>trivial
theorem Az9 {Qg:C8}{ids:List (Nat×Nat)}:∀(t:C8) {L:List Sd},Bj8 Qg ids t=some L->(∀x∈L,x.ok)->YB Qg ids t
 |[],_,_,_=>trivial
 |(j,p)::r,L,h,hL=>by
  simp only[Bj8]at h;split at h
  .rename_i l m h1 a;cases h;obtain⟨b,c⟩:=Rl hL;refine⟨?_,Az9 r a c⟩;split at h1
   .grind[Bk0]
   rename_i d;split at h1
   .cases h1;obtain⟨rfl,_⟩:=b _ (Ca8.2 rfl)
    grind
   grind
  grind
def Bt3 {ids:List (Nat×Nat)}{s t:St}{L:List Sd}(h:leK ids s t=some L)(hL:∀x∈L,x.ok):Le ids s t:=by
 unfold leK at h
 repeat' split at h<;>try contradiction
 rename_i hw _ _ l m h1 a;cases h;obtain⟨b,c⟩:=Rl hL
 grind[le_mk,Az8,Az9]
def kle {ids:List (Nat×Nat)}{s t:St}(h:(leK ids s t).map (·.map Sd.src)=(leK ids s t).map (·.map Sd.tgt):=by kernel_rfl)(h1:(leK ids s t).isSome=true:=by kernel_rfl):Le ids s t:=by
 obtain⟨L,hL⟩:=BU6.1 h1;rw[hL]at h;simp only[BU2,BT2]at h;refine Bt3 hL λx hx=>?_;obtain⟨i,a,rfl⟩:=Cc2.1 hx
 have:=congrArg (·[i]?) h
 grind[List.getElem?_eq_getElem,Option.some.injEq,Sd.ok_of]
def Bk1 (is:List Nat)(f:Sd->LV)(L:List Sd):List (Option LV):=L.zipIdx.map λq=>if is.contains q.2 then none else some (f q.1)
def kleR {ids:List (Nat×Nat)}{s t:St}(rs:List (Nat×Sd))(c:∀q∈rs,q.2.ok)(h:(leK ids s t).map (Bk1 (rs.map (·.1)) Sd.src)=(leK ids s t).map (Bk1 (rs.map (·.1)) Sd.tgt):=by kernel_rfl)
 (a:(leK ids s t).map (λL=>rs.map λq=>L[q.1]?)=some (rs.map λq=>some q.2):=by kernel_rfl):Le ids s t:=by
 cases hL:leK ids s t with
 |none=>rw[hL]at a;grind
 |some L=>
  rw[hL]at h a;simp only[BU2,BT2]at h a;refine Bt3 hL λx hx=>?_;obtain⟨i,d,rfl⟩:=Cc2.1 hx;by_cases hm:(rs.map (·.1)).contains i=true
  .simp only[BX0,decide_eq_true_eq,BZ1]at hm;obtain⟨q,b,rfl⟩:=hm;obtain⟨k,hk,rfl⟩:=Cc2.1 b
   have:=congrArg (·[k]?) a
   grind
  have:=congrArg (·[i]?) h
  simp_all[Bk1,BT7,List.getElem?_zipIdx,BT4,BU2,BW8,BT2,Sd.ok_of]
end
section
variable {P:Program}
variable {S:W9}{F:M0}{g:Cfg}{pr:Prop}
def GF (hS:H6 S P)(hc:pr)(h:G S P F (stp P g))(hp:pr=E5 (cnd P g):=by kernel_rfl):G S P F g:=
 (HU (F:=F) hS 400 [] g (by subst hp;exact hc)).2 h
end
section
variable {S:W9}{P:Program}{F:M0}{g:Cfg}{pr:Prop}
theorem MZ (hS:H6 S P){K1 K2:List It}(h:∀e s,kp S P K1 F e s->kp S P K2 F e s):∀(K:List It) (e:QL) (s:St),kp S P (K++K1) F e s->kp S P (K++K2) F e s
 |[],e,s,hk=>h e s hk
 |.code c::K,e,s,hk=>by simp only[BU1,kp]at hk⊢;exact WJ hS (λt=>Dj hS c (MZ hS h K)) (MZ hS h K) e s hk
 |.blk id::K,e,s,hk=>by
  simp only[BU1,kp]at hk⊢;cases e with
  |exit i=>
   simp only[blk]at hk⊢;split at hk
   .rename_i a;rw[Fg a];exact MZ hS h K _ _ hk
   rename_i a;rw[Gb a];exact MZ hS h K _ _ hk
  |_=>exact MZ hS h K _ _ hk
 |.lp X s' J m n::K,e,s,hk=>by
  simp only[BU1,kp]at hk⊢;cases e with
  |normal=>exact hk
  |_=>exact MZ hS h K _ _ hk
 |.mid M::K,e,s,hk=>by simp only[BU1,kp]at hk⊢;exact WJ hS (λt h=>h) (MZ hS h K) e s hk
 |.scp::K,e,s,hk=>by
  simp only[BU1,kp]at hk⊢;cases e with
  |goto l=>exact hk
  |_=>exact MZ hS h K _ _ hk
def AA0 (M:It):∀(n:Nat) (K:List It),n<=K.length->Zs M n K=K.take n++M::K.drop n
 |0,K,_=>by simp[Zs]
 |n+1,i::K,h=>by simp only[Zs,Cf1,List.drop_succ_cons,BU1,AA0 M n K (by grind)]
 |n+1,[],h=>by grind
def Bt4 (hS:H6 S P)(a:∀s,S.up s (F .normal)->F .normal s)(n:Nat)(hn:n<=g.k.length){M:St->Prop}(b:∀t,M t->G S P F (.pop .normal (g.k.drop n) t))(h:G S P F (midC n M g)):G S P F g:=by
 have hk:∀e s,kp S P (Zs (.mid M) n g.k) F e s->kp S P g.k F e s:=by
  intro e s;rw[AA0 _ _ _ hn]
  conv=>rhs;rw[<- Ce4 n g.k]
  grind[MZ,BK8]
 cases g with
 |code c K st=>exact Dj hS c hk h
 |ops all rest K st=>exact Jn hS hk rest h
 |pop e K st=>exact hk e st h
def WM {g:Cfg}(h:Jp g=true):g=.code (.loop (TC g)) g.k g.st:=by
 unfold Jp at h;split at h
 .rfl
 grind
def Al8 (P:Program)(st:St)(rs:List ResultVar)(outs:List Nat):Option (AV×List Obj):=match Jh P st rs with
 |some l=>match Ys outs (one l),N5 outs st.Qg outs with
  |some a,some o=>if I1 outs then some (a,o)else none
  |_,_=>none
 |none=>none
def Bz9 (hS:H6 S P){f:FuncId}{fn:Func}{args:List AV}{objs objs' : List Obj}{ks:List Bool}{r:AV}(d:P.funcs[f]? = some fn)
 (h:G S P (Et S P objs.length fn.results.toList λres o k=>res=.ret r/\o=objs' /\ k=ks) (.code (fn.body.getD .skip) [] { env:=Uf args,Qg:=Qh objs }))
 (hc:fn.body.isSome=true:=by kernel_rfl) (hn:Nat.ble args.length fn.ntmps=true:=by kernel_rfl) (g:Nat.blt objs.length 1000=true:=by kernel_rfl)
 (b:BL fn.ntmps (fn.body.getD .skip)=true:=by kernel_rfl) (c:(fn.name == "runtime.NumGoroutine")=false:=by kernel_rfl):Qi S f args objs r objs' ks:=by
 obtain⟨code,a⟩:=BU6.1 hc;rw[a,BT9]at b h;exact AQ3 hS d a (BY5 hn) (by simp_all) rfl b c h
def al0:∀q∈([]:List (Nat×Sd)),q.2.ok:=λ_ h=>by cases h
def al1 {i:Nat}{l:Sd}{rs:List (Nat×Sd)}(h:l.ok)(t:∀q∈rs,q.2.ok):∀q∈(i,l)::rs,q.2.ok:=by grind
structure SC where
 all:List Oper
 cls:List Cls
 rest:List Oper
 env:Env
 Qg:C8
 kn:List Nat
def SG (S:W9)(P:Program)(sc:SC)(k:Env->C8->Prop):Prop:=Mg S P sc.all sc.cls sc.rest sc.env sc.Qg k
def Fb (P:Program)(sc:SC):SC:=match Tu P sc.kn sc.all sc.cls sc.rest [] sc.env sc.Qg with
 |⟨_,cls,rest,env,Qg⟩=>⟨sc.all,cls,rest,env,Qg,sc.kn⟩
def Zt (P:Program)(sc:SC):List Prop:=(Tu P sc.kn sc.all sc.cls sc.rest [] sc.env sc.Qg).conds
def DO:Cfg->Bool
 |.code (.region _ _ true) _ _=>true
 |_=>false
def Jq:Cfg->SC
 |.code (.region _ ops true) _ st=>⟨ops.toList,ops.toList.map λo=>BR7 o.op,ops.toList,st.env,st.Qg,[]⟩
 |_=>⟨[],[],[],[],[],[]⟩
def BA0 (hS:H6 S P)(hc:pr)
 (h:SG S P (Jq (stp P g)) λenv Qg=>G S P F (.pop .normal (stp P g).k ⟨env,Qg⟩)) (hp:pr=E5 (cnd P g):=by kernel_rfl) (c:DO (stp P g)=true:=by kernel_rfl) (a:P.follows .mixedOrders=true:=by kernel_rfl) (b:MW (Jq (stp P g)).all (Jq (stp P g)).cls=true:=by kernel_rfl):G S P F g:=by
 refine GF hS hc ?_ hp;generalize stp P g=g' at c b h;unfold DO at c;split at c
 .exact Bi9 hS a rfl b h
 grind
section
variable {sc:SC}{k:Env->C8->Prop}
def AU1 (hc:pr)(h:SG S P (Fb P sc) k)(hp:pr=E5 (Zt P sc):=by kernel_rfl):SG S P sc k:=by
 subst hp;unfold Fb at h;unfold Zt at hc;unfold SG at *;generalize a:Tu P sc.kn sc.all sc.cls sc.rest [] sc.env sc.Qg=r at h hc;obtain⟨c,cls,rest,env,Qg⟩:=r
 grind[s_go]
def C_end (hc:pr)(h:k (Fb P sc).env (Fb P sc).Qg)(hp:pr=E5 (Zt P sc):=by kernel_rfl)(a:(Fb P sc).rest.isEmpty=true:=by kernel_rfl):SG S P sc k:=by
 refine AU1 hc ?_ hp;generalize Fb P sc=s at a h;obtain⟨all,cls,rest,env,Qg,kn⟩:=s;cases rest with
 |nil=>exact s_end h
 |cons=>grind
def Bk2 {R:Type _}(d:Option Nat)(a:AV)(env:Env)(Qg:C8)(κ : Env->C8->R):R:=match d with
 |some d=>mkO (ins d a env) Qg κ
 |none=>mkO env Qg κ
def FR {R:Type _}(d:Option Nat)(a:AV)(env:Env)(Qg:C8)(κ : Env->C8->R):Bk2 d a env Qg κ = κ (Qy d a env) Qg:=by cases d<;>simp only[Bk2,GM,Qy]
def Bt5:∀{env:Env}{i d:Nat}{b:AV},Bf1 ((i,b)::env)=true->get env d ≠ .top->d<i
 |[],_,_,_,_,h=>Hc rfl h
 |(j,c)::r,i,d,b,hd,h=>by
  simp only[Bf1,BT5,decide_eq_true_eq]at hd;by_cases e:j=d
  .omega
  simp only[get,e,Ih]at h;exact Nat.lt_trans (Bt5 hd.2 h) hd.1
def WN:∀{env:Env}{d:Nat}{a:AV},Bf1 env=true->get env d=a->a ≠ .top->ins d a env=env
 |[],_,_,_,h,hn=>Hc h.symm hn
 |(i,b)::r,d,a,hd,h,hn=>by
  by_cases e:i=d
  .simp_all[get,Hu,ins]
  simp only[get,e,Ih]at h;have c:=Bt5 hd (by rw[h];omega);have f:Bf1 r=true:=by
   cases r with
   |nil=>rfl
   |cons p r=>simp_all[Bf1,BT5]
  simp only[ins,show ¬i<d by omega,e,Ih,WN f h hn]
def Al9 (sc:SC):Option Bool:=match sc.rest with
 |o::_=>match o.guard with
  |some (j,_)=>match BJ1 sc.all j with
   |some d=>match get sc.env d with
    |.p (.bb b)=>if Bf1 sc.env then some b else none
    |_=>none
   |none=>none
  |none=>none
 |[]=>none
def Am0 (v:Bool)(sc:SC):SC:=match sc.rest with
 |o::_=>match o.guard with
  |some (j,_)=>match BJ1 sc.all j with
   |some d=>mkO (ins d (.p (.bb v)) sc.env) sc.Qg λenv Qg=>⟨sc.all,sc.cls,sc.rest,env,Qg,j::sc.kn⟩
   |none=>sc
  |none=>sc
 |[]=>sc
def Vc (ids:List Nat)(sc:SC):Option (FuncId×List AV×List Obj):=match sc.rest with
 |o::_=>match AE sc.all sc.env o,o.op with
  |some true,.call c=>match c.callee with
   |.value f=>match Jf sc.Qg (c.args.toList.map (aev sc.env))with
    |some (as,Qg)=>match Yt sc.env f as with
     |some (fn,as')=>match ES ids as',N5 ids Qg ids with
      |some a,some ob=>if I1 ids&&GH ob then some (fn,a,ob)else none
      |_,_=>none
     |none=>none
    |none=>none
   |_=>none
  |_,_=>none
 |[]=>none
def Bk3 (js:List Nat):AV->Bool
 |.vec j=>js.contains j
 |.vecp j _=>js.contains j
 |_=>true
def AA1 {js:List Nat}{regs' : C8}:∀{l:List AV}{Qg:C8}{as:List AV},l.all (Bk3 js)=true->Jf Qg l=some (as,regs')->∀q,q ∉ js->A2 regs' q=A2 Qg q
 |[],Qg,as,_,h,q,_=>by grind[Jf,Option.some.injEq,Prod.mk.injEq]
 |a::r,Qg,as,hl,h,q,hq=>by
  simp only[Cb9,BT5]at hl;simp only[Jf]at h
  repeat' split at h<;>try contradiction
  rename_i x R1 h1 _ l1 R2 c;simp at h;obtain⟨_,rfl⟩:=h;rw[AA1 hl.2 c q hq];cases a with
  |vec j=>
   simp only at h1;split at h1
   .rename_i x2 R3 b;cases h1;exact WI (by grind[inJ,Bk3]) b q hq
   grind
  |vecp j m=>
   simp only at h1;split at h1
   .rename_i x2 R3 b;cases h1;exact WI (by grind[inJ,Bk3]) b q hq
   grind
  |_=>cases h1;rfl
def BL5 (R:C8)(a:AV):Option (AV×C8):=match a with | .vec _ | .vecp _ _=>(match Fa R a with|some (x,Qg)=>some (AV.p x,Qg)|none=>none)|a=>some (a,R)
def AU2 (R:C8)(a:AV)(r:List AV):Jf R (a::r)=match BL5 R a with
 |some (a,Qg)=>match Jf Qg r with
  |some (l,Qg)=>some (a::l,Qg)
  |none=>none
 |none=>none:=rfl
def Bk4 {js:List Nat}{a x:AV}{R R2 R' : C8}(hl:inJ js a=true)(b:∀q∈js,A2 R2 q=A2 R q)(hx:BL5 R a=some (x,R')):∃R3,BL5 R2 a=some (x,R3)/\(∀q∈js,A2 R3 q=A2 R' q)/\∀q,q ∉ js->A2 R3 q=A2 R2 q:=by
 have up:∀(i:Nat) (o:Obj),i∈js->(∀q∈js,A2 (ins i o R2) q=A2 (ins i o R) q)/\∀q,q ∉ js->A2 (ins i o R2) q=A2 R2 q:=λi o f=>
  ⟨λq d=>by rw[O4,O4,b q d],λq d=>by rw[O4,Gb (by grind)]⟩
 cases a with
 |p y=>cases hx;exact⟨R2,rfl,b,λ_ _=>rfl⟩
 |vec j=>
  have c:j∈js:=by grind[inJ]
  simp only[BL5,Fa,b j c]at hx⊢
  grind
 |vecp j m=>
  have c:j∈js:=by grind[inJ]
  simp only[BL5,Fa,b j c]at hx⊢
  grind
 |_=>cases hl
def WO {js:List Nat}:∀{l:List AV}{R R2 R1:C8}{as:List AV},l.all (inJ js)=true->(∀q∈js,A2 R2 q=A2 R q)->Jf R l=some (as,R1) ->
 ∃R3,Jf R2 l=some (as,R3)/\(∀q∈js,A2 R3 q=A2 R1 q)/\∀q,q ∉ js->A2 R3 q=A2 R2 q
 |[],R,R2,R1,as,_,h2,h=>by simp only[Jf,BT2,BU4]at h;obtain⟨rfl,rfl⟩:=h;exact⟨R2,rfl,h2,λ_ _=>rfl⟩
 |a::r,R,R2,R1,as,hl,h2,h=>by
  simp only[Cb9,BT5]at hl;simp only[AU2]at h⊢;split at h
  .rename_i x R' hx;obtain⟨R3,e1,e2,e3⟩:=Bk4 hl.1 h2 hx;split at h
   .rename_i l1 R'' b;simp at h;obtain⟨rfl,rfl⟩:=h;obtain⟨R4,f1,f2,f3⟩:=WO hl.2 e2 b
    simp_all
   grind
  grind
def Rm {m:List Nat}:∀{ids:List Nat}{objs:List Obj}{A B:C8}{q:Nat},A2 A q=A2 B q->A2 (back m ids objs A) q=A2 (back m ids objs B) q
 |[],_,_,_,_,h=>h
 |_::_,[],_,_,_,h=>h
 |j::ids,o::objs,A,B,q,h=>by simp only[back];exact Rm (by rw[O4,O4,h])
def BA1 {all:List Oper}{k:Env->C8->Prop}{js:List Nat}{cls:List Cls}{o:Oper}{rest:List Oper}{env:Env}{Qg regs1:C8}{c:Call}{f:Operand}{as:List AV}{fn:FuncId}{as' args:List AV}{objs' : List Obj}{ks:List Bool}{r:AV}
 (j:AE all env o=some true) (l:o.op=.call c) (m:c.callee=.value f) (g:(c.args.toList.map (aev env)).all (inJ js)=true)
 (ha:Jf Qg (c.args.toList.map (aev env))=some (as,regs1)) (hw:Yt env f as=some (fn,as')) (n:ES [] as' = some args) (s:Qi S fn args [] r objs' ks)
 (d:((H9 (o.dst.getD 0) [] ks objs'.length).all λq=>js.contains q)=true) (hn:Z0 regs1 [] ks (o.dst.getD 0) objs'.length=true)
 (hk:Mg S P all cls rest (Qy o.dst (unA (H9 (o.dst.getD 0) [] ks objs'.length) r) env) (back (H9 (o.dst.getD 0) [] ks objs'.length) (H9 (o.dst.getD 0) [] ks objs'.length) objs' (K8 [] ks regs1)) k) :
 Mg S P all (.a js::cls) (o::rest) env Qg k:=by
 have i:∀q,q ∉ js->q ∉ H9 (o.dst.getD 0) [] ks objs'.length:=λq b h=>b (by simpa using BU0.1 d q h);refine⟨true,j,?_⟩;rw[Fg rfl];refine⟨_,_,.inr (.inr (.inr (.inr ⟨js,rfl,λq b=>?_,λR2 t=>?_⟩))),hk⟩
 .rw[KD (i q b)];obtain⟨R3,e1,_,e3⟩:=WO (R2:=Qg) g (λ_ _=>rfl) ha;rw[ha]at e1;cases e1;exact e3 q b
 obtain⟨R3,e1,e2,e3⟩:=WO g t ha;refine⟨_,⟨c,f,as,R3,fn,as',args,[],objs',ks,r,[],l,m,e1,hw,n,rfl,s,rfl,rfl,?_,rfl,rfl⟩,λq b=>Rm (e2 q b),λq b=>(KD (i q b)).trans (e3 q b)⟩;unfold Z0 at hn⊢;rw[BU0]at hn⊢;intro p hp;have h1:=hn p hp;have u:nid (o.dst.getD 0) p∈js:=by
  have:=BU0.1 d (nid (o.dst.getD 0) p) (by unfold H9;exact BZ1.2 ⟨p,hp,rfl⟩)
  simpa using this
 show (A2 R3 (nid (o.dst.getD 0) p)).isNone=true;rw[e2 _ u];exact h1
def Vd (ids:List Nat)(ks:List Bool)(n:Nat)(sc:SC):Bool:=match sc.cls,sc.rest with
 |.w::_,o::_=>match o.op with
  |.call c=>match Jf sc.Qg (c.args.toList.map (aev sc.env))with
   |some (_,Qg)=>Z0 Qg ids ks (o.dst.getD 0) n
   |none=>false
  |_=>false
 |.b js::_,o::_=>match o.op with
  |.call c=>match Jf sc.Qg (c.args.toList.map (aev sc.env))with
   |some (_,Qg)=>((c.args.toList.map (aev sc.env)).all (Bk3 js)&&ids.isEmpty)&&(((H9 (o.dst.getD 0) ids ks n).all λq=>js.contains q)&&Z0 Qg ids ks (o.dst.getD 0) n)
   |none=>false
  |_=>false
 |.a js::_,o::_=>match o.op with
  |.call c=>match Jf sc.Qg (c.args.toList.map (aev sc.env))with
   |some (_,Qg)=>((c.args.toList.map (aev sc.env)).all (inJ js)&&ids.isEmpty)&&(((H9 (o.dst.getD 0) ids ks n).all λq=>js.contains q)&&Z0 Qg ids ks (o.dst.getD 0) n)
   |none=>false
  |_=>false
 |_,_=>false
def Ve (ids:List Nat)(ks:List Bool)(r:AV)(objs' : List Obj)(sc:SC):SC:=match sc.rest with
 |o::rest=>match o.op with
  |.call c=>match Jf sc.Qg (c.args.toList.map (aev sc.env))with
   |some (_,Qg)=>Bk2 o.dst (unA (H9 (o.dst.getD 0) ids ks objs'.length) r) sc.env
    (back (H9 (o.dst.getD 0) ids ks objs'.length) (H9 (o.dst.getD 0) ids ks objs'.length) objs' (K8 ids ks Qg)) λenv Qg=>⟨sc.all,sc.cls.tail,rest,env,Qg,sc.kn⟩
   |none=>sc
  |_=>sc
 |[]=>sc
def AU3 (sc:SC):Bool:=match sc.cls,sc.rest with
 |_::_,o::_=>match o.op with
  |.call c=>(c.args.toList.map (aev sc.env)).all AS8
  |_=>false
 |_,_=>false
def AU4 (sc:SC):Option (FuncId×List AV):=match sc.rest with
 |o::_=>match AE sc.all sc.env o,o.op with
  |some true,.call c=>match c.callee with
   |.value f=>match Yt sc.env f (c.args.toList.map (aev sc.env))with
    |some (fn,as')=>match ES [] as' with
     |some a=>some (fn,a)
     |none=>none
    |none=>none
   |_=>none
  |_,_=>none
 |[]=>none
def Bt6 (r:AV)(sc:SC):SC:=match sc.rest with
 |o::rest=>Bk2 o.dst (unA [] r) sc.env sc.Qg λenv Qg=>⟨sc.all,sc.cls.tail,rest,env,Qg,sc.kn⟩
 |[]=>sc
def Mj (P:Program)(sc:SC):Option (List Prop×PV):=match sc.cls,sc.rest with
 |_::_,o::_=>match AE sc.all sc.env o with
  |some true=>Tx P sc.env o.op
  |_=>none
 |_,_=>none
def AU5 (x:PV)(sc:SC):SC:=match sc.rest with
 |o::rest=>Bk2 o.dst (.p x) sc.env sc.Qg λenv Qg=>⟨sc.all,sc.cls.tail,rest,env,Qg,sc.kn⟩
 |[]=>sc
def Vf (P:Program)(sc:SC):Option BL4:=match sc.cls,sc.rest with
 |cl::_,o::_=>match AE sc.all sc.env o,o.op with
  |some true,.lookup t m q _=>match Fa sc.Qg (aev sc.env q),aev sc.env m with
   |some (key,Qg),.Sc j=>match A2 Qg j,tk P t with
    |some (.map es),some (.map kt e)=>if (HQ P kt key&&Zi cl sc.env (o.dst.getD 0) o.op) then some ⟨kt,e,key,es⟩else none
    |_,_=>none
   |_,_=>none
  |_,_=>none
 |_,_=>none
def AA2 (x:PV)(b:Bool)(sc:SC):SC:=match sc.rest with
 |o::rest=>match o.op with
  |.lookup _ _ q ok=>match Fa sc.Qg (aev sc.env q)with
   |some (_,Qg)=>Bk2 o.dst (if ok then .tup [.p x,.bool b]else .p x) sc.env Qg λenv Qg=>⟨sc.all,sc.cls.tail,rest,env,Qg,sc.kn⟩
   |none=>sc
  |_=>sc
 |[]=>sc
def AH3 (P:Program)(sc:SC):Option (TypeId×PV×PV×List (PV×PV)):=match sc.cls,sc.rest with
 |.w::_,o::_=>match AE sc.all sc.env o,o.op with
  |some true,.mapUpdate t m q x=>match aev sc.env q,aev sc.env m,Fa sc.Qg (aev sc.env x)with
   |.p key,.Sc j,some (y,Qg)=>match A2 Qg j,tk P t with
    |some (.map es),some (.map kt _)=>if HQ P kt (nP key) then some (kt,nP key,y,es)else none
    |_,_=>none
   |_,_,_=>none
  |_,_=>none
 |_,_=>none
def BA2 (es' : List (PV×PV))(sc:SC):SC:=match sc.rest with
 |o::rest=>match o.op with
  |.mapUpdate _ m _ x=>match aev sc.env m,Fa sc.Qg (aev sc.env x)with
   |.Sc j,some (_,Qg)=>Bk2 o.dst PX sc.env (ins j (.map es') Qg) λenv Qg=>⟨sc.all,sc.cls.tail,rest,env,Qg,sc.kn⟩
   |_,_=>sc
  |_=>sc
 |[]=>sc
end
end
structure KG (S:W9) (P:Program) (F:M0) (g:Cfg):Prop where
 out:G S P F g
structure DG (S:W9) (P:Program) (sc:SC) (k:Env->C8->Prop):Prop where
 out:SG S P sc k
structure KLe (ids:List (Nat×Nat)) (s t:St):Prop where
 out:Le ids s t
section
variable {S:W9}{P:Program}{F:M0}{g:Cfg}{pr:Prop}
def kl {ids:List (Nat×Nat)}{s t:St}(h:(leK ids s t).map (·.map Sd.src)=(leK ids s t).map (·.map Sd.tgt):=by kernel_rfl)(h1:(leK ids s t).isSome=true:=by kernel_rfl):KLe ids s t:=⟨kle h h1⟩
def klR {ids:List (Nat×Nat)}{s t:St}(rs:List (Nat×Sd))(a:∀q∈rs,q.2.ok)(h:(leK ids s t).map (Bk1 (rs.map (·.1)) Sd.src)=(leK ids s t).map (Bk1 (rs.map (·.1)) Sd.tgt):=by kernel_rfl)
 (b:(leK ids s t).map (λL=>rs.map λq=>L[q.1]?)=some (rs.map λq=>some q.2):=by kernel_rfl):KLe ids s t:=⟨kleR rs a h b⟩
def C6 (hS:H6 S P)(hc:pr){b:Bool}(ht:b=true->KG S P F (BL2 (stp P g)))(a:b=false->KG S P F (BL3 (stp P g)))(hp:pr=E5 (cnd P g):=by kernel_rfl)(hb:Bz5 (stp P g)=some b:=by kernel_rfl):KG S P F g:=by
 refine⟨?_⟩;replace ht:=λh=>(ht h).out;replace a:=λh=>(a h).out;refine GF hS hc ?_ hp;generalize stp P g=g' at hb ht a;unfold Bz5 at hb;split at hb
 .split at hb
  .rename_i hc;cases hb;exact BJ0 hc ht a
  grind
 grind
def FS (hS:H6 S P)(hc:pr){b:Bool}(ht:b=true->KG S P F (Zr true (stp P g)))(a:b=false->KG S P F (Zr false (stp P g)))(hp:pr=E5 (cnd P g):=by kernel_rfl)(hb:AT8 (stp P g)=some b:=by kernel_rfl):KG S P F g:=by
 refine⟨?_⟩;replace ht:=λh=>(ht h).out;replace a:=λh=>(a h).out;refine GF hS hc ?_ hp;generalize stp P g=g' at hb ht a;unfold AT8 at hb
 repeat' split at hb<;>try contradiction
 grind[Zr,Hb,put,Bx0]
def A8 (hS:H6 S P)(ids:List Nat)(hc:pr){fn:FuncId}{args:List AV}{objs objs' : List Obj}{r:AV}{ks:List Bool}(f:Qi S fn args objs r objs' ks)(hk:KG S P F (Bz6 ids ks r objs' (stp P g)))
 (hp:pr=E5 (cnd P g):=by kernel_rfl) (a:AT9 ids (stp P g)=some (fn,args,objs):=by kernel_rfl) (hn:AU0 ids ks objs'.length (stp P g)=true:=by kernel_rfl):KG S P F g:=by
 refine⟨?_⟩;replace hk:=hk.out;refine GF hS hc ?_ hp;generalize stp P g=g' at a hn hk;unfold AT9 at a
 repeat' split at a<;>try contradiction
 rename_i i j _ _ c _ _ _ ha _ _ _ hw _ _ _ _ l d b;cases a;simp at b
 grind[Bz6,AU0,Hb,Bx1]
def AA3 (hS:H6 S P)(hc:pr){kt e:TypeId}{key:PV}{es:List (PV×PV)}{x:PV}{b:Bool}{fd:Option PV}(j:find (KP P kt) key es=some fd)(a:E5 (Ky P kt))(hk:KG S P F (Bj6 x b (stp P g)))
 (hp:pr=E5 (cnd P g):=by kernel_rfl) (c:Bj5 P (stp P g)=some ⟨kt,e,key,es⟩:=by kernel_rfl) (hx:AH2 P e fd=some (x,b):=by kernel_rfl):KG S P F g:=by
 refine⟨?_⟩;replace hk:=hk.out;refine GF hS hc ?_ hp;generalize stp P g=g' at c hk;unfold Bj5 at c
 repeat' split at c<;>try contradiction
 rename_i l f _ _ _ _ _ i hm _ _ _ _ _ m ht d;simp at c;obtain⟨rfl,rfl,rfl,rfl⟩:=c;simp only[Bj6,f,i,Hb]at hk;cases fd with
 |some y=>exact Az5 (fd:=some y) hS l f i hm m ht d j hx a hk
 |none=>exact Az5 (fd:=none) hS l f i hm m ht d j hx a hk
def Bk5 (hS:H6 S P)(hc:pr){kt:TypeId}{key y:PV}{es es' : List (PV×PV)}(d:upd (KP P kt) key y es=some es')(b:E5 (Ky P kt))(hk:KG S P F (updK es' (stp P g)))
 (hp:pr=E5 (cnd P g):=by kernel_rfl) (a:updE P (stp P g)=some (kt,key,y,es):=by kernel_rfl):KG S P F g:=by
 refine⟨?_⟩;replace hk:=hk.out;refine GF hS hc ?_ hp;generalize stp P g=g' at a hk;unfold updE at a
 repeat' split at a<;>try contradiction
 rename_i f i _ _ _ _ _ _ _ h1 j l _ _ _ _ _ m ht c;simp at a;obtain⟨rfl,rfl,rfl,rfl⟩:=a
 grind[updK,Hb,Al5]
def Na (hS:H6 S P)(hc:pr)(st:St){ids:List (Nat×Nat)}(hk:KG S P F (opsS st (stp P g)))(hp:pr=E5 (cnd P g):=by kernel_rfl)(a:KT (stp P g)=true:=by kernel_rfl)(hle:KLe ids (stp P g).st st:=by exact kl):KG S P F g:=by
 refine⟨?_⟩;replace hk:=hk.out;replace hle:=hle.out;refine GF hS hc ?_ hp;generalize stp P g=g' at a hle hk;unfold KT at a;split at a
 .exact AT7 hS st ids hle hk
 grind
def Zu (hS:H6 S P)(hc:pr)(b:∀s,S.up s (F .normal)->F .normal s)(n:Nat)(s:St)
 (h1:∀(M:St->Prop),(∀(g' : Cfg) (ids:List (Nat×Nat)) (pr:Prop),pr->(hp:pr=E5 (cnd P g'):=by kernel_rfl)->(a:stp P g' = .pop .normal (.mid M::(stp P g).k.drop n) (stp P g').st:=by kernel_rfl)->(hle:KLe ids (stp P g').st s:=by exact kl)->KG S P F g')->KG S P F (midC n M (stp P g)))
 (c:KG S P F (.pop .normal ((stp P g).k.drop n) s)) (hp:pr=E5 (cnd P g):=by kernel_rfl) (hn:Nat.ble n (stp P g).k.length=true:=by kernel_rfl):KG S P F g:=by
 refine⟨GF hS hc ?_ hp⟩;refine Bt4 hS b n (BY5 hn) (M:=λt=>t=s) (λt e=>e ▸ c.out) (h1 _ λg' ids pr hc hp a hle=>⟨GF hS hc ?_ hp⟩).out;rw[a];exact hS.le ids _ _ _ hle.out rfl
def GN (hS:H6 S P)(hc:pr)(c:∀s,S.up s (F .normal)->F .normal s){R A:Type}{f:(A->Option R)->Option R}{k0:A->Option R}{r:R}(h:lt k0 f=some r)(n:Nat)(s:A->St)
 (h1:∀(M:St->Prop) (k:A->Option R),(∀(g' : Cfg) (ids:List (Nat×Nat)) (pr:Prop) (a:A),pr->k a=some r->(hp:pr=E5 (cnd P g'):=by kernel_rfl)->(b:stp P g' = .pop .normal (.mid M::(stp P g).k.drop n) (stp P g').st:=by kernel_rfl)->(hle:KLe ids (stp P g').st (s a):=by exact kl)->KG S P F g')->f k=some r->KG S P F (midC n M (stp P g)))
 (d:∀a,k0 a=some r->KG S P F (.pop .normal ((stp P g).k.drop n) (s a))) (hp:pr=E5 (cnd P g):=by kernel_rfl) (hn:Nat.ble n (stp P g).k.length=true:=by kernel_rfl):KG S P F g:=by
 refine⟨GF hS hc ?_ hp⟩;refine Bt4 hS c n (BY5 hn) (M:=λt=>∃a,t=s a/\k0 a=some r) (λt ⟨a,e,hk⟩=>e ▸ (d a hk).out) (h1 _ k0 (λg' ids pr a hc hk hp b hle=>⟨GF hS hc ?_ hp⟩) h).out;rw[b];exact hS.le ids _ _ _ hle.out ⟨a,rfl,hk⟩
def F1 (hS:H6 S P)(hc:pr){R A:Type}{body:(A->Option R)->A->Option R}{N:Nat}{a0:A}{r:R}(h:O7 N body a0=some r)(s:A->St){ids:List (Nat×Nat)}
 (i:∀(X:Type) (s' : X->St) (J:X->Prop) (m:X->Nat) (n:Nat) (b:A->Option R) (a:A),
  (∀(g' : Cfg) (ids:List (Nat×Nat)) (pr:Prop) (a:A),pr->b a=some r->(hp:pr=E5 (cnd P g'):=by kernel_rfl)->(f:stp P g' = .pop .normal (.lp X s' J m n::(stp P g).k) (stp P g').st:=by kernel_rfl)->(hle:KLe ids (stp P g').st (s a):=by exact kl)->KG S P F g') ->
  body b a=some r->KG S P F (.code (TC (stp P g)) (.lp X s' J m n::(stp P g).k) (s a))) (hp:pr=E5 (cnd P g):=by kernel_rfl) (hl:Jp (stp P g)=true:=by kernel_rfl) (hle:KLe ids (stp P g).st (s a0):=by exact kl):KG S P F g:=by
 refine⟨GF hS hc ?_ hp⟩;rw[WM hl];refine BK9 hS h s ids hle.out λX s' J m n b a hb c=>(i X s' J m n b a (λg' ids pr a hc d hp f hle=>⟨GF hS hc ?_ hp⟩) c).out;rw[f];exact hb _ _ _ hle.out d
def G2 (hS:H6 S P)(hc:pr){R A B:Type}{body:(A->B->Option R)->A->B->Option R}{N:Nat}{a0:A}{b0:B}{r:R}(h:Y4 N body a0 b0=some r)(s:A->B->St){ids:List (Nat×Nat)}
 (d:∀(X:Type) (s' : X->St) (J:X->Prop) (m:X->Nat) (n:Nat) (c:A->B->Option R) (a:A) (b:B),
  (∀(g' : Cfg) (ids:List (Nat×Nat)) (pr:Prop) (a:A) (b:B),pr->c a b=some r->(hp:pr=E5 (cnd P g'):=by kernel_rfl)->(o:stp P g' = .pop .normal (.lp X s' J m n::(stp P g).k) (stp P g').st:=by kernel_rfl)->(hle:KLe ids (stp P g').st (s a b):=by exact kl)->KG S P F g') ->
  body c a b=some r->KG S P F (.code (TC (stp P g)) (.lp X s' J m n::(stp P g).k) (s a b))) (hp:pr=E5 (cnd P g):=by kernel_rfl) (hl:Jp (stp P g)=true:=by kernel_rfl) (hle:KLe ids (stp P g).st (s a0 b0):=by exact kl):KG S P F g:=
 F1 hS hc h (λx=>s x.1 x.2) (λX s' J m n c a hb=>d X s' J m n (λa b=>c (a,b)) a.1 a.2 λg' ids pr a b h1 f i j l=>hb g' ids pr (a,b) h1 f i j l) hp hl hle
def Nb (hS:H6 S P)(hc:pr){R A B C:Type}{body:(A->B->C->Option R)->A->B->C->Option R}{N:Nat}{a0:A}{b0:B}{c0:C}{r:R}(h:AT6 N body a0 b0 c0=some r)(s:A->B->C->St){ids:List (Nat×Nat)}
 (f:∀(X:Type) (s' : X->St) (J:X->Prop) (m:X->Nat) (n:Nat) (d:A->B->C->Option R) (a:A) (b:B) (c:C),
  (∀(g' : Cfg) (ids:List (Nat×Nat)) (pr:Prop) (a:A) (b:B) (c:C),pr->d a b c=some r->(hp:pr=E5 (cnd P g'):=by kernel_rfl)->(q:stp P g' = .pop .normal (.lp X s' J m n::(stp P g).k) (stp P g').st:=by kernel_rfl)->(hle:KLe ids (stp P g').st (s a b c):=by exact kl)->KG S P F g') ->
  body d a b c=some r->KG S P F (.code (TC (stp P g)) (.lp X s' J m n::(stp P g).k) (s a b c))) (hp:pr=E5 (cnd P g):=by kernel_rfl) (hl:Jp (stp P g)=true:=by kernel_rfl) (hle:KLe ids (stp P g).st (s a0 b0 c0):=by exact kl):KG S P F g:=
 F1 hS hc h (λx=>s x.1 x.2.1 x.2.2) (λX s' J m n d a hb=>f X s' J m n (λa b c=>d (a,b,c)) a.1 a.2.1 a.2.2 λg' ids pr a b c h1 i j l o=>hb g' ids pr (a,b,c) h1 i j l o) hp hl hle
def AA4 (hS:H6 S P)(hc:pr){R A B C D:Type}{body:(A->B->C->D->Option R)->A->B->C->D->Option R}{N:Nat}{a0:A}{b0:B}{c0:C}{d0:D}{r:R}(h:AO8 N body a0 b0 c0 d0=some r)(s:A->B->C->D->St){ids:List (Nat×Nat)}
 (i:∀(X:Type) (s' : X->St) (J:X->Prop) (m:X->Nat) (n:Nat) (f:A->B->C->D->Option R) (a:A) (b:B) (c:C) (d:D),
  (∀(g' : Cfg) (ids:List (Nat×Nat)) (pr:Prop) (a:A) (b:B) (c:C) (d:D),pr->f a b c d=some r->(hp:pr=E5 (cnd P g'):=by kernel_rfl)->(t:stp P g' = .pop .normal (.lp X s' J m n::(stp P g).k) (stp P g').st:=by kernel_rfl)->(hle:KLe ids (stp P g').st (s a b c d):=by exact kl)->KG S P F g') ->
  body f a b c d=some r->KG S P F (.code (TC (stp P g)) (.lp X s' J m n::(stp P g).k) (s a b c d))) (hp:pr=E5 (cnd P g):=by kernel_rfl) (hl:Jp (stp P g)=true:=by kernel_rfl) (hle:KLe ids (stp P g).st (s a0 b0 c0 d0):=by exact kl):KG S P F g:=
 F1 hS hc h (λx=>s x.1 x.2.1 x.2.2.1 x.2.2.2) (λX s' J m n f a hb=>i X s' J m n (λa b c d=>f (a,b,c,d)) a.1 a.2.1 a.2.2.1 a.2.2.2 λg' ids pr a b c d h1 j l o q=>hb g' ids pr (a,b,c,d) h1 j l o q) hp hl hle
def BL6 (hS:H6 S P)(hc:pr){R A B C D E F' : Type}{body:(A->B->C->D->E->F' -> Option R)->A->B->C->D->E->F' -> Option R}{N:Nat}{a0:A}{b0:B}{c0:C}{d0:D}{e0:E}{f0:F'}{r:R}(h:fix6 N body a0 b0 c0 d0 e0 f0=some r)(s:A->B->C->D->E->F' -> St){ids:List (Nat×Nat)}
 (j:∀(X:Type) (s' : X->St) (J:X->Prop) (m:X->Nat) (n:Nat) (i:A->B->C->D->E->F' -> Option R) (a:A) (b:B) (c:C) (d:D) (e:E) (f:F'),
  (∀(g' : Cfg) (ids:List (Nat×Nat)) (pr:Prop) (a:A) (b:B) (c:C) (d:D) (e:E) (f:F'),pr->i a b c d e f=some r->(hp:pr=E5 (cnd P g'):=by kernel_rfl)->(u:stp P g' = .pop .normal (.lp X s' J m n::(stp P g).k) (stp P g').st:=by kernel_rfl)->(hle:KLe ids (stp P g').st (s a b c d e f):=by exact kl)->KG S P F g') ->
  body i a b c d e f=some r->KG S P F (.code (TC (stp P g)) (.lp X s' J m n::(stp P g).k) (s a b c d e f))) (hp:pr=E5 (cnd P g):=by kernel_rfl) (hl:Jp (stp P g)=true:=by kernel_rfl) (hle:KLe ids (stp P g).st (s a0 b0 c0 d0 e0 f0):=by exact kl):KG S P F g:=
 F1 hS hc h (λx=>s x.1 x.2.1 x.2.2.1 x.2.2.2.1 x.2.2.2.2.1 x.2.2.2.2.2) (λX s' J m n i a hb=>j X s' J m n (λa b c d e f=>i (a,b,c,d,e,f)) a.1 a.2.1 a.2.2.1 a.2.2.2.1 a.2.2.2.2.1 a.2.2.2.2.2 λg' ids pr a b c d e f h1 l o q t=>hb g' ids pr (a,b,c,d,e,f) h1 l o q t) hp hl hle
def AU6 (hS:H6 S P)(hc:pr){n:Nat}{rs:List ResultVar}{Q:ARes->List Obj->List Bool->Prop}{a:AV}{objs:List Obj}(outs:List Nat)(d:Q (.ret a) objs (IH n outs))(hp:pr=E5 (cnd P g):=by kernel_rfl)
 (c:(Bz7 (stp P g)).bind (λst=>Al8 P st rs outs)=some (a,objs):=by kernel_rfl):KG S P (Et S P n rs Q) g:=by
 refine⟨?_⟩;refine GF hS hc ?_ hp;generalize stp P g=g' at c;obtain⟨st,h1,b⟩:=Cd3.1 c;unfold Al8 at b
 repeat' split at b<;>try contradiction
 rename_i l hl _ _ _ _ f i j;cases b;unfold Bz7 at h1;split at h1
 .cases h1;exact hS.refl _ _ (by grind)
 .cases h1;exact hS.refl _ _ (by grind)
 grind
def P3 (hS:H6 S P)(hc:pr){n:Nat}{rs:List ResultVar}{Q:ARes->List Obj->List Bool->Prop}{a:AV}{objs:List Obj}(st:St)(outs:List Nat){ids:List (Nat×Nat)}(f:Q (.ret a) objs (IH n outs))(hp:pr=E5 (cnd P g):=by kernel_rfl)
 (c:(Bz7 (stp P g)).isSome=true:=by kernel_rfl) (hle:KLe ids (stp P g).st st:=by exact kl) (d:Al8 P st rs outs=some (a,objs):=by kernel_rfl):KG S P (Et S P n rs Q) g:=by
 refine⟨?_⟩;replace hle:=hle.out;refine GF hS hc ?_ hp;generalize stp P g=g' at c hle;have b:=d;unfold Al8 at b;split at b
 .rename_i l hl;split at b
  .rename_i d i;split at b
   .rename_i j;cases b;unfold Bz7 at c;split at c
    .exact hS.le ids _ _ _ hle (by grind)
    .exact hS.le ids _ _ _ hle (by grind)
    grind
   grind
  grind
 grind
def A1 (hS:H6 S P){f:FuncId}{fn:Func}{args:List AV}{objs objs' : List Obj}{ks:List Bool}{r:AV}(c:P.funcs[f]? = some fn)
 (h:KG S P (Et S P objs.length fn.results.toList λres o k=>res=.ret r/\o=objs' /\ k=ks) (.code (fn.body.getD .skip) [] { env:=Uf args,Qg:=Qh objs }))
 (hc:fn.body.isSome=true:=by kernel_rfl) (hn:Nat.ble args.length fn.ntmps=true:=by kernel_rfl) (d:Nat.blt objs.length 1000=true:=by kernel_rfl)
 (a:BL fn.ntmps (fn.body.getD .skip)=true:=by kernel_rfl) (b:(fn.name == "runtime.NumGoroutine")=false:=by kernel_rfl):Qi S f args objs r objs' ks:=Bz9 hS c h.out hc hn d a b
def FT (hS:H6 S P)(hc:pr)(h:DG S P (Jq (stp P g)) λenv Qg=>KG S P F (.pop .normal (stp P g).k ⟨env,Qg⟩))(hp:pr=E5 (cnd P g):=by kernel_rfl)(c:DO (stp P g)=true:=by kernel_rfl)(a:P.follows .mixedOrders=true:=by kernel_rfl)
 (b:MW (Jq (stp P g)).all (Jq (stp P g)).cls=true:=by kernel_rfl):KG S P F g:=by
 have e:(λenv Qg=>KG S P F (.pop .normal (stp P g).k ⟨env,Qg⟩))=λenv Qg=>G S P F (.pop .normal (stp P g).k ⟨env,Qg⟩):=by funext env Qg;exact propext ⟨λh=>h.out,λh=>⟨h⟩⟩
 rw[e]at h;exact⟨BA0 hS hc h.out hp c a b⟩
section
variable {sc:SC}{k:Env->C8->Prop}
def C7 (hc:pr)(h:k (Fb P sc).env (Fb P sc).Qg)(hp:pr=E5 (Zt P sc):=by kernel_rfl)(a:(Fb P sc).rest.isEmpty=true:=by kernel_rfl):DG S P sc k:=⟨C_end hc h hp a⟩
def S7 (hc:pr){b:Bool}(ht:b=true->DG S P (Am0 true (Fb P sc)) k)(a:b=false->DG S P (Am0 false (Fb P sc)) k)(hp:pr=E5 (Zt P sc):=by kernel_rfl)(hb:Al9 (Fb P sc)=some b:=by kernel_rfl):DG S P sc k:=by
 refine⟨?_⟩;replace ht:=λh=>(ht h).out;replace a:=λh=>(a h).out;refine AU1 hc ?_ hp;generalize Fb P sc=s at hb ht a;obtain⟨all,cls,rest,env,Qg,kn⟩:=s;cases rest with
 |nil=>grind[Al9]
 |cons o rest=>
  simp only[Al9]at hb
  repeat' split at hb<;>try contradiction
  rename_i j w g _ d i _ b' c f;simp at hb;subst hb;simp only[Am0,g,i,GM]at ht a;cases b' with
  |true=>have:=ht rfl;rwa [WN f c (by simp)]at this
  |false=>have:=a rfl;rwa [WN f c (by simp)]at this
def IM (ids:List Nat)(hc:pr){fn:FuncId}{args:List AV}{objs objs' : List Obj}{r:AV}{ks:List Bool}(u:Qi S fn args objs r objs' ks)(hk:DG S P (Ve ids ks r objs' (Fb P sc)) k)
 (hp:pr=E5 (Zt P sc):=by kernel_rfl) (t:Vc ids (Fb P sc)=some (fn,args,objs):=by kernel_rfl) (hn:Vd ids ks objs'.length (Fb P sc)=true:=by kernel_rfl):DG S P sc k:=by
 refine⟨?_⟩;replace hk:=hk.out;refine AU1 hc ?_ hp;generalize Fb P sc=s at t hn hk;obtain⟨all,cls,rest,env,Qg,kn⟩:=s;cases rest with
 |nil=>grind[Vc]
 |cons o rest=>
  simp only[Vc]at t
  repeat' split at t<;>try contradiction
  rename_i c v f _ _ g _ _ _ ha _ _ _ hw _ _ _ _ x i d;cases t;simp at d;cases cls with
  |nil=>grind[Vd]
  |cons cl cls=>
   cases cl with
   |w=>simp only[Vd,f,ha]at hn;simp only[Ve,f,ha,FR,BZ6]at hk;exact AT3 ids (.inl rfl) v f g ha hw x i u d.1 d.2 hn hk
   |b js=>simp only[Vd,f,ha,BT5,Ci6]at hn;obtain⟨⟨j,l⟩,n,m⟩:=hn;subst l;simp only[Ve,f,ha,FR,BZ6]at hk;refine AT3 [] (.inr ⟨js,rfl,λq y=>?_⟩) v f g ha hw x i u d.1 d.2 m hk;rw[KD (by grind)];exact AA1 j ha q y
   |a js=>simp only[Vd,f,ha,BT5,Ci6]at hn;obtain⟨⟨j,l⟩,n,m⟩:=hn;subst l;simp only[Ve,f,ha,FR,BZ6]at hk;cases i;exact BA1 v f g j ha hw x u n m hk
   |_=>simp[Vd]at hn
def F7 (hc:pr){fn:FuncId}{args:List AV}{r:AV}(f:Qi S fn args [] r [] [])(hk:DG S P (Bt6 r (Fb P sc)) k)(hp:pr=E5 (Zt P sc):=by kernel_rfl)(a:AU4 (Fb P sc)=some (fn,args):=by kernel_rfl)(hn:AU3 (Fb P sc)=true:=by kernel_rfl):DG S P sc k:=by
 refine⟨?_⟩;replace hk:=hk.out;refine AU1 hc ?_ hp;generalize Fb P sc=s at a hn hk;obtain⟨all,cls,rest,env,Qg,kn⟩:=s;cases rest with
 |nil=>grind[AU4]
 |cons o rest=>
  cases cls with
  |nil=>grind[AU3]
  |cons cl cls=>
   simp only[AU4]at a
   repeat' split at a<;>try contradiction
   rename_i c g d _ _ b _ _ _ hw _ _ i;cases a;simp only[AU3,d]at hn;simp only[Bt6,FR,BZ6]at hk;exact BK6 g d b hn hw i f hk
def O8 (hc:pr){x:PV}(hk:DG S P (AU5 x (Fb P sc)) k)(hp:pr=E5 (Zt P sc):=by kernel_rfl)(b:(Mj P (Fb P sc)).map (·.2)=some x:=by kernel_rfl)(a:((Mj P (Fb P sc)).map λq=>E5 q.1)=some (true=true):=by kernel_rfl):DG S P sc k:=by
 refine⟨?_⟩;replace hk:=hk.out;refine AU1 hc ?_ hp;generalize Fb P sc=s at b a hk;obtain⟨all,cls,rest,env,Qg,kn⟩:=s;cases rest with
 |nil=>cases cls<;>simp[Mj]at b
 |cons o rest=>
  cases cls with
  |nil=>grind[Mj]
  |cons cl cls=>
   cases d:AE all env o with
   |none=>grind[Mj]
   |some bb=>
    cases bb with
    |false=>grind[Mj]
    |true=>
     simp only[Mj,d]at b a;cases ha:Tx P env o.op with
     |none=>rw[ha]at b;grind
     |some q=>obtain⟨c,y⟩:=q;rw[ha]at b a;simp only[BU2,BT2]at b a;subst b;simp only[AU5,FR,BZ6]at hk;exact Bi8 d ha (by rw[a];simp) hk
def AA5 (hc:pr){kt e:TypeId}{key:PV}{es:List (PV×PV)}{x:PV}{b:Bool}{fd:Option PV}(j:find (KP P kt) key es=some fd)(f:E5 (Ky P kt))(hk:DG S P (AA2 x b (Fb P sc)) k)
 (hp:pr=E5 (Zt P sc):=by kernel_rfl) (c:Vf P (Fb P sc)=some ⟨kt,e,key,es⟩:=by kernel_rfl) (hx:AH2 P e fd=some (x,b):=by kernel_rfl):DG S P sc k:=by
 refine⟨?_⟩;replace hk:=hk.out;refine AU1 hc ?_ hp;generalize Fb P sc=s at c hk;obtain⟨all,cls,rest,env,Qg,kn⟩:=s;cases rest with
 |nil=>cases cls<;>simp[Vf]at c
 |cons o rest=>
  cases cls with
  |nil=>grind[Vf]
  |cons cl cls=>
   simp only[Vf]at c
   repeat' split at c<;>try contradiction
   rename_i l d _ _ _ _ _ g hm _ _ _ _ _ m ht a;simp at c;obtain⟨rfl,rfl,rfl,rfl⟩:=c;simp at a;simp only[AA2,d,g,FR,BZ6]at hk;have i:=a.2;simp only[d]at i;cases fd with
   |some y=>exact Az7 (fd:=some y) l d g hm m ht a.1 j hx f (by rw[d];omega) hk
   |none=>exact Az7 (fd:=none) l d g hm m ht a.1 j hx f (by rw[d];omega) hk
def Bk6 (hc:pr){kt:TypeId}{key y:PV}{es es' : List (PV×PV)}(i:upd (KP P kt) key y es=some es')(b:E5 (Ky P kt))(hk:DG S P (BA2 es' (Fb P sc)) k)
 (hp:pr=E5 (Zt P sc):=by kernel_rfl) (a:AH3 P (Fb P sc)=some (kt,key,y,es):=by kernel_rfl):DG S P sc k:=by
 refine⟨?_⟩;replace hk:=hk.out;refine AU1 hc ?_ hp;generalize Fb P sc=s at a hk;obtain⟨all,cls,rest,env,Qg,kn⟩:=s;cases rest with
 |nil=>grind[AH3]
 |cons o rest=>
  cases cls with
  |nil=>grind[AH3]
  |cons cl cls=>
   cases cl with
   |w=>
    simp only[AH3]at a
    repeat' split at a<;>try contradiction
    rename_i j d _ _ _ _ _ _ _ h1 f g _ _ _ _ _ l ht c;simp at a;obtain⟨rfl,rfl,rfl,rfl⟩:=a;simp only[BA2,d,f,g,FR,BZ6]at hk;exact Al7 j d h1 g f l ht c i b hk
   |_=>simp[AH3]at a
end
end
section
variable {S:W9}{P:Program}{F:M0}{g:Cfg}{pr:Prop}
def yldE:Cfg->Option (List PV×List (List PV))
 |.ops all (o::_) _ st=>match BM all st.env o,o.op with
  |some true,.call c=>match c.callee with
   |.value f=>match aev st.env f,Hj st.Qg (c.args.toList.map (aev st.env))with
    |.yf j,some (xs,Qg)=>match A2 Qg j with
     |some (.yld (ys::rest) true)=>if HT j Qg=true/\xs.length=ys.length then some (xs,ys::rest)else none
     |_=>none
    |_,_=>none
   |_=>none
  |_,_=>none
 |_=>none
def BL7 (b:Bool)(rest:List (List PV)):Cfg->Cfg
 |.ops all (o::ops) K st=>match o.op with
  |.call c=>match c.callee with
   |.value f=>match aev st.env f,Hj st.Qg (c.args.toList.map (aev st.env))with
    |.yf j,some (_,Qg)=>AH1 o.dst (.p (.bb b)) st.env (ins j (.yld rest b) Qg) λst=>.ops all ops K st
    |_,_=>.ops all (o::ops) K st
   |_=>.ops all (o::ops) K st
  |_=>.ops all (o::ops) K st
 |g=>g
theorem Zv:∀l:List PV,Bw6 l l
 |[]=>trivial
 |x::l=>⟨.inl rfl,Zv l⟩
def BA3 (hS:H6 S P)(hc:pr){ys:List PV}{rest:List (List PV)}(ht:G S P F (BL7 true rest (stp P g)))(b:G S P F (BL7 false [] (stp P g)))(hp:pr=E5 (cnd P g))(a:yldE (stp P g)=some (ys,ys::rest)):G S P F g:=by
 refine GF hS hc ?_ hp;generalize stp P g=g' at a ht b;unfold yldE at a
 repeat' split at a<;>try contradiction
 rename_i f i _ _ c _ _ _ _ _ hy j _ _ _ l d;simp at a;obtain⟨rfl,rfl,rfl⟩:=a
 grind[BL7,Hb,Bz0,Zv]
def DP (hS:H6 S P)(hc:pr){ys:List PV}{rest:List (List PV)}(ht:KG S P F (BL7 true rest (stp P g)))(a:KG S P F (BL7 false [] (stp P g)))(hp:pr=E5 (cnd P g):=by kernel_rfl)(b:yldE (stp P g)=some (ys,ys::rest):=by kernel_rfl):KG S P F g:=
 ⟨BA3 hS hc ht.out a.out hp b⟩
def Dk {T:Type}(x:T)(o:Option (List T)):Option (List T):=o.map (x :: ·)
def Ou {T:Type}{x:T}{o:Option (List T)}{L:List T}(h:Dk x o=some L):∃L',L=x::L' /\ o=some L':=by
 grind[Dk,Option.map_eq_some_iff]
def DQ (hS:H6 S P)(hc:pr){R A:Type}{body:(A->Option R)->A->Option R}{N:Nat}{a0:A}{r0:R}(h:O7 N body a0=some r0)(s:A->R->St){ids:List (Nat×Nat)}
 (f:∀(X:Type) (s' : X->St) (J:X->Prop) (m:X->Nat) (n:Nat) (b:A->Option R) (a:A) (r:R),
  (∀(g' : Cfg) (ids:List (Nat×Nat)) (pr:Prop) (a:A) (r:R),pr->b a=some r->(hp:pr=E5 (cnd P g'):=by kernel_rfl)->(d:stp P g' = .pop .normal (.lp X s' J m n::(stp P g).k) (stp P g').st:=by kernel_rfl)->(hle:KLe ids (stp P g').st (s a r):=by exact kl)->KG S P F g') ->
  body b a=some r->KG S P F (.code (TC (stp P g)) (.lp X s' J m n::(stp P g).k) (s a r))) (hp:pr=E5 (cnd P g):=by kernel_rfl) (hl:Jp (stp P g)=true:=by kernel_rfl) (hle:KLe ids (stp P g).st (s a0 r0):=by exact kl):KG S P F g:=by
 refine⟨GF hS hc ?_ hp⟩;rw[WM hl];refine Ax0 hS (X:=Nat×A×R) (λx=>s x.2.1 x.2.2) (λx=>O7 x.1 body x.2.1=some x.2.2) (λx=>x.1) (N,a0,r0) ids hle.out h ?_;rintro⟨n,a,r⟩ hx;cases n with
 |zero=>cases hx
 |succ n=>exact (f _ _ _ _ _ (O7 n body) a r (λg' ids pr a r hc c hp d hle=>⟨GF hS hc (by rw[d];exact Aj2 hS (n,a,r) ids hle.out c (Ci5 n)) hp⟩) hx).out
def WQ (hS:H6 S P)(hc:pr){R A B:Type}{body:(A->B->Option R)->A->B->Option R}{N:Nat}{a0:A}{b0:B}{r0:R}(h:Y4 N body a0 b0=some r0)(s:A->B->R->St){ids:List (Nat×Nat)}
 (d:∀(X:Type) (s' : X->St) (J:X->Prop) (m:X->Nat) (n:Nat) (c:A->B->Option R) (a:A) (b:B) (r:R),
  (∀(g' : Cfg) (ids:List (Nat×Nat)) (pr:Prop) (a:A) (b:B) (r:R),pr->c a b=some r->(hp:pr=E5 (cnd P g'):=by kernel_rfl)->(o:stp P g' = .pop .normal (.lp X s' J m n::(stp P g).k) (stp P g').st:=by kernel_rfl)->(hle:KLe ids (stp P g').st (s a b r):=by exact kl)->KG S P F g') ->
  body c a b=some r->KG S P F (.code (TC (stp P g)) (.lp X s' J m n::(stp P g).k) (s a b r))) (hp:pr=E5 (cnd P g):=by kernel_rfl) (hl:Jp (stp P g)=true:=by kernel_rfl) (hle:KLe ids (stp P g).st (s a0 b0 r0):=by exact kl):KG S P F g:=
 DQ hS hc h (λx r=>s x.1 x.2 r) (λX s' J m n c a r hb=>d X s' J m n (λa b=>c (a,b)) a.1 a.2 r λg' ids pr a b r h1 f i j l=>hb g' ids pr (a,b) r h1 f i j l) hp hl hle
def Fm (hS:H6 S P){f:FuncId}{fn:Func}{first caps:List AV}{objs:List Obj}{L:List (List PV)}(i:P.funcs[f]? = some fn)
 (h:KG S P (Et S P (objs++[Obj.yld L true]).length fn.results.toList λr objs' ks=>∃b,objs'[objs.length]? = some (.yld [] b)/\ks[objs.length]? = some true/\∃a,r=.ret a) (.code (fn.body.getD .skip) [] { env:=Uf (first ++ .yf objs.length::caps),Qg:=Qh (objs++[Obj.yld L true]) }))
 (hc:fn.body.isSome=true:=by kernel_rfl) (hn:Nat.ble (first ++ .yf objs.length::caps).length fn.ntmps=true:=by kernel_rfl) (j:Nat.blt (objs++[Obj.yld L true]).length 1000=true:=by kernel_rfl)
 (d:BL fn.ntmps (fn.body.getD .skip)=true:=by kernel_rfl) (g:(fn.name == "runtime.NumGoroutine")=false:=by kernel_rfl):FQ S f first caps objs L:=by
 obtain⟨code,c⟩:=BU6.1 hc;rw[c,BT9]at d h;exact Or hS i c (BY5 hn) (by simp_all) rfl d g h.out
def Zw (P:Program)(ids:List Nat):Cfg->Option (FuncId×List AV×List AV×List Obj)
 |.code (.rangeFunc op _ _ _) _ st=>match GZ st.env op with
  |some (f,first,caps)=>match P.funcs[f]?,N5 ids st.Qg ids,ES ids first,ES ids caps with
   |some fn,some objs,some as,some bs=>if (fn.body.isSome && !(fn.name == "runtime.NumGoroutine")&&GH objs&&I1 ids&&(objs.length==ids.length)&&Nat.blt ids.length 1000) then some (f,as,bs,objs)else none
   |_,_,_,_=>none
  |none=>none
 |_=>none
def Ll:Cfg->Array Tmp
 |.code (.rangeFunc _ ps _ _) _ _=>ps
 |_=>#[]
def Zx:Cfg->Code
 |.code (.rangeFunc _ _ a _) _ _=>a
 |_=>.skip
def Zy:Cfg->Code
 |.code (.rangeFunc _ _ _ b) _ _=>b
 |_=>.skip
def Zz (ids ts:List Nat)(g:Cfg):St:=⟨AC ts (ts.map (get g.st.env)),K8 ids (ids.map λ_=>false) g.st.Qg⟩
def rst (gh:Nat)(t:St):St:=⟨[],ins gh (.ghost (t.env.map (·.2))) t.Qg⟩
def ZA (gh:Nat)(ps:Array Tmp)(ys:List PV)(t:St):St:=⟨MI ps.toList ys t.env,ins gh (.ghost (t.env.map (·.2))) t.Qg⟩
def exitE:Cfg->QL
 |.pop e _ _=>e
 |_=>.normal
def Bt7:Cfg->Bool
 |.pop .ret [] _=>true
 |.pop (.exit _) [] _=>true
 |_=>false
theorem AU7 (Qg:C8)(d:Nat)(x:Obj):A2 (ins d x Qg) d=some x:=by
 induction Qg with
 |nil=>simp[ins,A2]
 |cons p r ih=>
  obtain⟨i,b⟩:=p;simp only[ins];split
  .simp[A2]
  split
  all_goals simp_all[A2,Ih]
def Jr (gh:Nat)(t:St):A2 (rst gh t).Qg gh=some (.ghost (t.env.map λp=>p.2)):=by grind[rst,AU7]
def Rn (ids:List Nat):Cfg->Option (FuncId×List AV×List AV×List Obj)
 |.code (.rangeFunc op _ _ _) _ st=>match GZ st.env op with
  |some (f,first,caps)=>match N5 ids st.Qg ids,ES ids first,ES ids caps with
   |some objs,some as,some bs=>if (GH objs&&I1 ids&&(objs.length==ids.length)&&Nat.blt ids.length 1000) then some (f,as,bs,objs)else none
   |_,_,_=>none
  |none=>none
 |_=>none
def KE {ids:List Nat}{g:Cfg}{q:FuncId×List AV×List AV×List Obj}(h:Zw P ids g=some q):Rn ids g=some q/\∃fn,P.funcs[q.1]? = some fn/\fn.body.isSome=true/\(fn.name == "runtime.NumGoroutine")=false:=by
 unfold Zw at h
 repeat' split at h<;>try contradiction
 rename_i a _ _ _ _ fn objs' as' bs' h1 b c d f;cases h
 simp_all[BT5,BU5,beq_iff_eq,Rn,beq_self_eq_true,Cg7,Hu]
def QA (hS:H6 S P)(hc:pr){f:FuncId}{as bs:List AV}{objs:List Obj}{R T A:Type}{enc:T->List PV}{L:List T}{mb:(A->Option R)->T->A->Option R}{mk:A->Option R}{a0:A}{r:R}(o:∃fn,P.funcs[f]? = some fn/\fn.body.isSome=true/\(fn.name == "runtime.NumGoroutine")=false)
 (ids ts:List Nat) (gh:Nat) (s:A->St) {idl:List (Nat×Nat)}(h:T9 L mb mk a0=some r) (x:FQ S f as bs objs (L.map enc))
 (i:∀t:T,(enc t).length=(Ll (stp P g)).size) (hk:∀a,(s a).env.map (·.1)=ts) (hn:∀a,A2 (s a).Qg gh=none) (m:∀a,(⟨AC ts ((s a).env.map (·.2)),del gh (ins gh (.ghost ((s a).env.map (·.2))) (s a).Qg)⟩:St)=s a)
 (c:∀(t:T) (next:St->Prop) (d:A->Option R) (a:A),
  (∀(g' : Cfg) (ids:List (Nat×Nat)) (pr:Prop) (a:A),pr->d a=some r->(hp:pr=E5 (cnd P g'):=by kernel_rfl)->(b:stp P g' = .pop .normal [] (stp P g').st:=by kernel_rfl)->(hle:KLe ids (stp P g').st (rst gh (s a)):=by exact kl)->KG S P (Ha S gh ts next (kp S P (stp P g).k F)) g') ->
  mb d t a=some r->KG S P (Di S P (Zy (stp P g)) gh ts next (kp S P (stp P g).k F)) (.code (Zx (stp P g)) [] (ZA gh (Ll (stp P g)) (enc t) (s a))))
 (j:∀a,mk a=some r->KG S P F (.pop .normal (stp P g).k (s a)))
 (hp:pr=E5 (cnd P g):=by kernel_rfl) (b:Rn ids (stp P g)=some (f,as,bs,objs):=by kernel_rfl) (q:Nat.blt gh 1000=true:=by kernel_rfl) (n:A2 (stp P g).st.Qg gh=none:=by kernel_rfl) (u:I1 ts=true:=by kernel_rfl)
 (hle:KLe idl (Zz ids ts (stp P g)) (s a0):=by exact kl):KG S P F g:=by
 refine⟨GF hS hc ?_ hp⟩;generalize stp P g=g1 at i c j b n hle;unfold Rn at b;split at b
 .rename_i op ps asg body K st;split at b
  .rename_i f' first caps v
   split at b
   .rename_i objs' as' bs' y z h4;split at b
    .rename_i w;simp only[BT2,BU4]at b;obtain⟨rfl,rfl,rfl,rfl⟩:=b;simp only[BT5,BU5,beq_iff_eq]at w;obtain⟨⟨⟨e3,e4⟩,e5⟩,e6⟩:=w;refine Bz3 hS ids ts gh s idl h x v o y e3 e4 z h4 e5 q n e6 u i hle.out hk hn (λt next d a hb hm=>?_) (λa hm=>(j a hm).out);refine (c t next d a (λg' ids' pr a hc l hp b hle=>⟨GF hS hc ?_ hp⟩) hm).out;rw[b];have hl:((s a).env.map (·.2)).length=ts.length:=by rw[<- hk a];simp
     refine hb _ (rst gh (s a)) ((s a).env.map λp=>p.2) ids' a hle.out (Jr gh (s a)) hl ?_ (m a) l
     have:=congrArg St.Qg (m a)
     simp only at this;show A2 (del gh (ins gh _ _)) gh=none;rw[this];exact hn a
    cases b
   cases b
  cases b
 cases b
def Js (hS:H6 S P)(hc:pr){f:FuncId}{as bs:List AV}{objs:List Obj}{R T A:Type}{enc:T->List PV}{L:List T}{mb:(A->Option R)->T->A->Option R}{mk:A->Option R}{a0:A}{r:R}
 (ids ts:List Nat) (gh:Nat) (s:A->St) {idl:List (Nat×Nat)}(h:T9 L mb mk a0=some r) (q:FQ S f as bs objs (L.map enc))
 (d:∀t:T,(enc t).length=(Ll (stp P g)).size) (hk:∀a,(s a).env.map (·.1)=ts) (hn:∀a,A2 (s a).Qg gh=none) (j:∀a,(⟨AC ts ((s a).env.map (·.2)),del gh (ins gh (.ghost ((s a).env.map (·.2))) (s a).Qg)⟩:St)=s a)
 (b:∀(t:T) (next:St->Prop) (c:A->Option R) (a:A),
  (∀(g' : Cfg) (ids:List (Nat×Nat)) (pr:Prop) (a:A),pr->c a=some r->(hp:pr=E5 (cnd P g'):=by kernel_rfl)->(l:stp P g' = .pop .normal [] (stp P g').st:=by kernel_rfl)->(hle:KLe ids (stp P g').st (rst gh (s a)):=by exact kl)->KG S P (Ha S gh ts next (kp S P (stp P g).k F)) g') ->
  mb c t a=some r->KG S P (Di S P (Zy (stp P g)) gh ts next (kp S P (stp P g).k F)) (.code (Zx (stp P g)) [] (ZA gh (Ll (stp P g)) (enc t) (s a))))
 (i:∀a,mk a=some r->KG S P F (.pop .normal (stp P g).k (s a)))
 (hp:pr=E5 (cnd P g):=by kernel_rfl) (l:Zw P ids (stp P g)=some (f,as,bs,objs):=by kernel_rfl) (m:Nat.blt gh 1000=true:=by kernel_rfl) (n:A2 (stp P g).st.Qg gh=none:=by kernel_rfl) (o:I1 ts=true:=by kernel_rfl)
 (hle:KLe idl (Zz ids ts (stp P g)) (s a0):=by exact kl):KG S P F g:=
 QA hS hc (KE l).2 ids ts gh s h q d hk hn j b i hp (KE l).1 m n o hle
def AU8 (hS:H6 S P)(hc:pr){f:FuncId}{as bs:List AV}{objs:List Obj}{R T A:Type}{enc:T->List PV}{L:List T}{mb:(A->Option R)->T->A->Option R}{mk:A->Option R}{a0:A}{r0:R}(o:∃fn,P.funcs[f]? = some fn/\fn.body.isSome=true/\(fn.name == "runtime.NumGoroutine")=false)
 (ids ts:List Nat) (gh:Nat) (s:A->R->St) {idl:List (Nat×Nat)}(h:T9 L mb mk a0=some r0) (x:FQ S f as bs objs (L.map enc))
 (i:∀t:T,(enc t).length=(Ll (stp P g)).size) (hk:∀a r,(s a r).env.map (·.1)=ts) (hn:∀a r,A2 (s a r).Qg gh=none) (m:∀a r,(⟨AC ts ((s a r).env.map (·.2)),del gh (ins gh (.ghost ((s a r).env.map (·.2))) (s a r).Qg)⟩:St)=s a r)
 (c:∀(t:T) (next:St->Prop) (d:A->Option R) (a:A) (r:R),
  (∀(g' : Cfg) (ids:List (Nat×Nat)) (pr:Prop) (a:A) (r:R),pr->d a=some r->(hp:pr=E5 (cnd P g'):=by kernel_rfl)->(b:stp P g' = .pop .normal [] (stp P g').st:=by kernel_rfl)->(hle:KLe ids (stp P g').st (rst gh (s a r)):=by exact kl)->KG S P (Ha S gh ts next (kp S P (stp P g).k F)) g') ->
  mb d t a=some r->KG S P (Di S P (Zy (stp P g)) gh ts next (kp S P (stp P g).k F)) (.code (Zx (stp P g)) [] (ZA gh (Ll (stp P g)) (enc t) (s a r))))
 (j:∀a r,mk a=some r->KG S P F (.pop .normal (stp P g).k (s a r)))
 (hp:pr=E5 (cnd P g):=by kernel_rfl) (b:Rn ids (stp P g)=some (f,as,bs,objs):=by kernel_rfl) (q:Nat.blt gh 1000=true:=by kernel_rfl) (n:A2 (stp P g).st.Qg gh=none:=by kernel_rfl) (u:I1 ts=true:=by kernel_rfl)
 (hle:KLe idl (Zz ids ts (stp P g)) (s a0 r0):=by exact kl):KG S P F g:=by
 refine⟨GF hS hc ?_ hp⟩;generalize stp P g=g1 at i c j b n hle;unfold Rn at b;split at b
 .rename_i op ps asg body K st;split at b
  .rename_i f' first caps v
   split at b
   .rename_i objs' as' bs' y z h4;split at b
    .rename_i w;simp only[BT2,BU4]at b;obtain⟨rfl,rfl,rfl,rfl⟩:=b;simp only[BT5,BU5,beq_iff_eq]at w;obtain⟨⟨⟨e3,e4⟩,e5⟩,e6⟩:=w;refine Bj4 hS ids ts gh s idl h x v o y e3 e4 z h4 e5 q n e6 u i hle.out hk hn (λt next d a r hb hm=>?_) (λa r hm=>(j a r hm).out);refine (c t next d a r (λg' ids' pr a r hc l hp b hle=>⟨GF hS hc ?_ hp⟩) hm).out;rw[b];have hl:((s a r).env.map (·.2)).length=ts.length:=by rw[<- hk a r];simp
     refine hb _ (rst gh (s a r)) ((s a r).env.map λp=>p.2) ids' a r hle.out (Jr gh (s a r)) hl ?_ (m a r) l
     have:=congrArg St.Qg (m a r)
     simp only at this;show A2 (del gh (ins gh _ _)) gh=none;rw[this];exact hn a r
    cases b
   cases b
  cases b
 cases b
def Bk7 (hS:H6 S P)(hc:pr){f:FuncId}{as bs:List AV}{objs:List Obj}{R T A:Type}{enc:T->List PV}{L:List T}{mb:(A->Option R)->T->A->Option R}{mk:A->Option R}{a0:A}{r0:R}
 (ids ts:List Nat) (gh:Nat) (s:A->R->St) {idl:List (Nat×Nat)}(h:T9 L mb mk a0=some r0) (q:FQ S f as bs objs (L.map enc))
 (d:∀t:T,(enc t).length=(Ll (stp P g)).size) (hk:∀a r,(s a r).env.map (·.1)=ts) (hn:∀a r,A2 (s a r).Qg gh=none) (j:∀a r,(⟨AC ts ((s a r).env.map (·.2)),del gh (ins gh (.ghost ((s a r).env.map (·.2))) (s a r).Qg)⟩:St)=s a r)
 (b:∀(t:T) (next:St->Prop) (c:A->Option R) (a:A) (r:R),
  (∀(g' : Cfg) (ids:List (Nat×Nat)) (pr:Prop) (a:A) (r:R),pr->c a=some r->(hp:pr=E5 (cnd P g'):=by kernel_rfl)->(l:stp P g' = .pop .normal [] (stp P g').st:=by kernel_rfl)->(hle:KLe ids (stp P g').st (rst gh (s a r)):=by exact kl)->KG S P (Ha S gh ts next (kp S P (stp P g).k F)) g') ->
  mb c t a=some r->KG S P (Di S P (Zy (stp P g)) gh ts next (kp S P (stp P g).k F)) (.code (Zx (stp P g)) [] (ZA gh (Ll (stp P g)) (enc t) (s a r))))
 (i:∀a r,mk a=some r->KG S P F (.pop .normal (stp P g).k (s a r)))
 (hp:pr=E5 (cnd P g):=by kernel_rfl) (l:Zw P ids (stp P g)=some (f,as,bs,objs):=by kernel_rfl) (m:Nat.blt gh 1000=true:=by kernel_rfl) (n:A2 (stp P g).st.Qg gh=none:=by kernel_rfl) (o:I1 ts=true:=by kernel_rfl)
 (hle:KLe idl (Zz ids ts (stp P g)) (s a0 r0):=by exact kl):KG S P F g:=
 AU8 hS hc (KE l).2 ids ts gh s h q d hk hn j b i hp (KE l).1 m n o hle
def BR9 (t:Nat)(a:AV):Cfg->Cfg
 |.ops all rest K st=>mkO (ins t a st.env) st.Qg λenv Qg=>.ops all rest K ⟨env,Qg⟩
 |g=>g
def ZB (hS:H6 S P)(hc:pr)(t:Nat){k n:Nat}{f:Nat->List PV}(b:n=0->KG S P F (BR9 t (.p (.v (.slice none 0 0))) (stp P g)))(h1:KG S P F (BR9 t (.p (.sl true k n f)) (stp P g)))
 (hp:pr=E5 (cnd P g):=by kernel_rfl) (a:KT (stp P g)=true:=by kernel_rfl) (c:get (stp P g).st.env t=.p (.sl false k n f):=by kernel_rfl):KG S P F g:=by
 refine⟨GF hS hc ?_ hp⟩;generalize stp P g=g1 at b h1 a c;unfold KT at a;split at a
 .refine BJ2 hS t c (λh=>?_) ?_
  .have:=(b h).out
   grind[BR9,GM]
  have:=h1.out
  grind[BR9,GM]
 grind
def frzC (j:Nat)(ps:List PV):Cfg->Cfg
 |.code c K st=>mkO (Be6 j ps st.env) (ins j .dead st.Qg) λenv Qg=>.code c K ⟨env,Qg⟩
 |g=>g
def ZC (hS:H6 S P)(hc:pr)(j:Nat)(ps:List PV)(hk:KG S P F (frzC j ps (stp P g)))(hp:pr=E5 (cnd P g):=by kernel_rfl)(c:DO (stp P g)=true:=by kernel_rfl)(b:P.follows .mixedOrders=true:=by kernel_rfl)
 (a:Jg (Jq (stp P g)).all=true:=by kernel_rfl) (f:A2 (stp P g).st.Qg j=some (.cells (ps.map .p)):=by kernel_rfl):KG S P F g:=by
 refine⟨GF hS hc ?_ hp⟩;generalize stp P g=g1 at hk c a f;unfold DO at c;split at c
 .rename_i id ops K st;have hk:=hk.out;simp only[frzC,GM]at hk;show awp S P (.region id ops true) (kp S P K F) st;simp only[awp,Hu];have d : Aj0 S P ops.toList (kp S P K F) ⟨Be6 j ps st.env,ins j .dead st.Qg⟩:=by
   have:awp S P (.region id ops true) (kp S P K F) ⟨Be6 j ps st.env,ins j .dead st.Qg⟩:=hk
   simp_all[awp,Hu]
  exact Az4 hS b a (hS.frz st j ps _ f d)
 grind
def clsN (js:List Nat):Nat->List Oper->List Cls
 |_,[]=>[]
 |i,o::r=>(if js.contains i then .n else if js.contains (i+1000)then .w else BR7 o.op)::clsN js (i+1) r
def WR (js:List Nat):Cfg->SC
 |.code (.region _ ops true) _ st=>⟨ops.toList,clsN js 0 ops.toList,ops.toList,st.env,st.Qg,[]⟩
 |_=>⟨[],[],[],[],[],[]⟩
def B5 (hS:H6 S P)(hc:pr)(js:List Nat)(h:DG S P (WR js (stp P g)) λenv Qg=>KG S P F (.pop .normal (stp P g).k ⟨env,Qg⟩))(hp:pr=E5 (cnd P g):=by kernel_rfl)(c:DO (stp P g)=true:=by kernel_rfl)(a:P.follows .mixedOrders=true:=by kernel_rfl)
 (b:MW (WR js (stp P g)).all (WR js (stp P g)).cls=true:=by kernel_rfl):KG S P F g:=by
 have e:(λenv Qg=>KG S P F (.pop .normal (stp P g).k ⟨env,Qg⟩))=λenv Qg=>G S P F (.pop .normal (stp P g).k ⟨env,Qg⟩):=by funext env Qg;exact propext ⟨λh=>h.out,λh=>⟨h⟩⟩
 rw[e]at h;refine⟨GF hS hc ?_ hp⟩;have h:=h.out;generalize stp P g=g' at c b h;unfold DO at c;split at c
 .exact Zh hS _ a b h
 grind
def BS0 (ls:List (Nat×Cls)):Nat->List Oper->List Cls
 |_,[]=>[]
 |i,o::r=>(match ls.find? (λq=>q.1==i)with|some q=>q.2|none=>BR7 o.op)::BS0 ls (i+1) r
def WS (ls:List (Nat×Cls)):Cfg->SC
 |.code (.region _ ops true) _ st=>⟨ops.toList,BS0 ls 0 ops.toList,ops.toList,st.env,st.Qg,[]⟩
 |_=>⟨[],[],[],[],[],[]⟩
def I0 (hS:H6 S P)(hc:pr)(ls:List (Nat×Cls))(h:DG S P (WS ls (stp P g)) λenv Qg=>KG S P F (.pop .normal (stp P g).k ⟨env,Qg⟩))(hp:pr=E5 (cnd P g):=by kernel_rfl)(c:DO (stp P g)=true:=by kernel_rfl)(a:P.follows .mixedOrders=true:=by kernel_rfl)
 (b:MW (WS ls (stp P g)).all (WS ls (stp P g)).cls=true:=by kernel_rfl):KG S P F g:=by
 have e:(λenv Qg=>KG S P F (.pop .normal (stp P g).k ⟨env,Qg⟩))=λenv Qg=>G S P F (.pop .normal (stp P g).k ⟨env,Qg⟩):=by funext env Qg;exact propext ⟨λh=>h.out,λh=>⟨h⟩⟩
 rw[e]at h;refine⟨GF hS hc ?_ hp⟩;have h:=h.out;generalize stp P g=g' at c b h;unfold DO at c;split at c
 .exact Zh hS _ a b h
 grind
def Nc (hS:H6 S P)(hc:pr){body:Code}{gh:Nat}{ts:List Nat}{next:St->Prop}{Q:M0}(h:KG S P (Ha S gh ts next Q) (.code body [] (stp P g).st))(hp:pr=E5 (cnd P g):=by kernel_rfl)(a:stp P g=.pop .normal [] (stp P g).st:=by kernel_rfl):KG S P (Di S P body gh ts next Q) g:=by refine⟨GF hS hc ?_ hp⟩;rw[a];exact G_asg hS h.out
def WT (hS:H6 S P)(hc:pr){K:List It}{gh:Nat}{ts:List Nat}{next:St->Prop}(t:St){ids:List (Nat×Nat)}(hk:KG S P F (.pop (exitE (stp P g)) K t))(hp:pr=E5 (cnd P g):=by kernel_rfl)(a:Bt7 (stp P g)=true:=by kernel_rfl)
 (hle:KLe ids (stp P g).st (rst gh t):=by exact kl) (h1:t.env.map (·.1)=ts:=by kernel_rfl) (d:A2 t.Qg gh=none:=by kernel_rfl) (b:(⟨AC ts (t.env.map (·.2)),del gh (ins gh (.ghost (t.env.map (·.2))) t.Qg)⟩:St)=t:=by kernel_rfl):KG S P (Ha S gh ts next (kp S P K F)) g:=by
 refine⟨GF hS hc ?_ hp⟩;generalize stp P g=g1 at hk a hle;have hl:(t.env.map (·.2)).length=ts.length:=by rw[<- h1];simp
 have c:A2 (del gh (ins gh (.ghost (t.env.map (·.2))) t.Qg)) gh=none:=by
  have:=congrArg St.Qg b
  grind
 unfold Bt7 at a;split at a
 .exact Az2 hS trivial (rst gh t) ids hle.out (Jr gh t) hl c (by rw[show (⟨AC ts (t.env.map (·.2)),del gh (rst gh t).Qg⟩:St)=t from b];exact hk.out)
 .exact Az2 hS trivial (rst gh t) ids hle.out (Jr gh t) hl c (by rw[show (⟨AC ts (t.env.map (·.2)),del gh (rst gh t).Qg⟩:St)=t from b];exact hk.out)
 grind
end
end Go.AM
