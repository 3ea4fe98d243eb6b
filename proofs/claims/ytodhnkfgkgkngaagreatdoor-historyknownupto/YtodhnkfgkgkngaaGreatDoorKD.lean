/- Part 4. -/
import Derived.Test.YtodhnkfgkgkngaaGreatDoorKC
import Derived.ProofKit
import Derived.WideKeyArgs
import Derived.Deep.Slices
import Derived.OpenShut
import Derived.KernelRfl
set_option linter.defProp false
set_option linter.unusedSimpArgs false
set_option linter.unusedVariables false
set_option linter.unusedSectionVars false
namespace Go.AM
def Bs:=True.intro
def WO:=@Nat.le_of_ble_eq_true
def Xw:=@List.mem_singleton
def Xy:=@Nat.blt_eq
def XC:=@List.mem_map
def XO:=@List.tail_cons
def Yg:=@Bool.false_and
def Ys:=@List.take_append_drop
section
variable {S:O7}{P:Program}
theorem Gb {regs:B5}:∀{l:List AV},l.all Pr=true->II regs l=some (l,regs)
 |[],_=>rfl
 |a::r,h=>by simp only[XG,Wa]at h;have ih:=Gb (regs:=regs) h.2;cases a<;>simp only[II,ih]<;>simp[Pr]at h
theorem JQ {env env' : Env}{f:Operand}{as:List AV}(h:aev env f=aev env' f):MG env f as=MG env' f as:=by unfold MG;rw[h]
theorem JR {all:List Oper}{V:Nat->AV}{env:Env}{x:Nat}:∀m,DQ all V env (fun _=>false) x m=get env x
 |0=>rfl
 |m+1=>by simp only[DQ];rw[Ay (by simp),JR m]
theorem QE (hS:E7 S P){F:M8}{K:List It}{id:Nat}{ops:Array Oper}{env:Env}{regs:B5}(cls:List Cls)(hmix:P.follows .mixedOrders=true)(hok:HI ops.toList cls=true)
 (h:IK S P ops.toList cls ops.toList env regs fun env regs=>G S P F (.pop .normal K ⟨env,regs⟩)):G S P F (.code (.region id ops true) K ⟨env,regs⟩):=by
 simp only[G,awp,Be];generalize ops.toList=all at hok h;simp only[HI,Wa,beq_iff_eq,Wn,XN]at hok;obtain⟨⟨hdep,hlen⟩,hpair⟩:=hok;obtain⟨E,R,V,hE0,hR0,hk,hstep⟩:=Oo all all cls 0 env regs _ h hlen;have T:RM S P all cls E R V:=⟨hstep⟩;have hpr:∀(i j:Nat) (oi oj:Oper),i<j->all[i]? = some oi->all[j]? = some oj->i∈(VO all).getD j [] \/ CY all (cls.getD i .n) (cls.getD j .n) oi oj=true:=by
  intro i j oi oj hij hi y
  have:=hpair j (Wh.1 y).1 i hij
  simp only[hi,y,Xq,WM,decide_eq_true_eq]at this;exact this
 let down:(Nat->Bool)->Prop:=fun D=>∀i o,D i=true->all[i]? = some o->∀e∈o.after.toList,Bo e=true->D e.on=true
 let Inv:(Nat->Bool)->St->Prop:=fun D s=>down D/\(∀x,get s.env x=DQ all V env D x all.length) /\
  ∀q,∃k,k<=all.length/\(∀i,i<all.length->CV q (cls.getD i .n)=true->(D i=true↔i<k))/\A2 s.regs q=A2 (R k) q
 refine⟨hmix,hdep,Inv,⟨fun i o hi=>(by cases hi),fun x=>(JR _).symm,fun q=>⟨0,Yu _,fun i _ _=>by simp,by rw[hR0]⟩⟩,?_,?_⟩
 .intro D i s o ⟨hD,henv,hreg⟩ ho hDi hready;have hin:i<all.length:=(Wh.1 ho).1;have hanc:=JP hdep hD i o ho hready;have hbef:∀j oj,j<i->all[j]? = some oj->D j=true \/ CY all (cls.getD j .n) (cls.getD i .n) oj o=true:=fun j oj y d=>
   (hpr j i oj o y d ho).imp (hanc j) fun h=>h
  have haft:∀j oj,i<j->all[j]? = some oj->D j=true->CY all (cls.getD i .n) (cls.getD j .n) o oj=true:=by
   intro j oj y d z;rcases hpr i j o oj y ho d with h1|h1
   .have:=JP hdep hD j oj d (hD j oj z d) i h1
    rw[hDi]at this;cases this
   exact h1
  have hrd:∀x∈reads all o,get s.env x=get (E i) x:=by
   intro x hx;rw[henv x,LT T x i (by omega),hE0];refine AL fun j y hd=>?_;obtain⟨oj,d⟩:∃oj,all[j]? = some oj:=⟨_,VZ y⟩;simp only[d,XR]at hd;by_cases e:j<i
   .simp only[e,decide_true];rcases hbef j oj e d with h1|h1
    .exact h1
    simp only[CY,hd,Wa,Ws,WM,decide_eq_false_iff_not]at h1;exact Ba hx h1.1.2.1
   simp only[e,decide_false];by_cases e2:j=i
   .subst e2;exact hDi
   cases z:D j with
   |false=>rfl
   |true=>have h1:=haft j oj (by omega) d z;simp only[CY,hd,Wa,Ws,WM,decide_eq_false_iff_not]at h1;exact Ba hx h1.2
  have g:∀x∈o.op.operands.toList,aev s.env x=aev (E i) x:=fun x hx=>QC fun t ht=>hrd t (Wt _ (List.mem_flatMap.2 ⟨x,hx,ht⟩));have hq:∀q,QB q (cls.getD i .n)=true->A2 s.regs q=A2 (R i) q:=by
   intro q hn;obtain⟨k,hkn,hW,hr⟩:=hreg q;rw[hr];by_cases hki:k<=i
   .refine (Nk T q k i hki (by omega) fun j h1 h2=>?_).symm;cases m:CV q (cls.getD j .n)with
    |false=>rfl
    |true=>
     obtain⟨oj,d⟩:∃oj,all[j]? = some oj:=⟨_,VZ (by omega)⟩;rcases hbef j oj h2 d with h3|h3
     .have:=(hW j (by omega) m).1 h3;omega
     simp only[CY,(Ce m hn).1,XU,Yg,Wg]at h3
   refine Nk T q i k (by omega) hkn fun j h1 h2=>?_;cases m:CV q (cls.getD j .n)with
   |false=>rfl
   |true=>
    have z:D j=true:=(hW j (by omega) m).2 h2;by_cases e:j=i
    .subst e;rw[hDi]at z;cases z
    obtain⟨oj,d⟩:∃oj,all[j]? = some oj:=⟨_,VZ (by omega)⟩;have h3:=haft j oj (by omega) d z;simp only[CY,(Ce m hn).2,XU,Yg,Wg]at h3
  obtain⟨b,hb,hs,hEi⟩:=hstep i o ho;have hdown:down fun j=>if j=i then true else D j:=by
   intro j oj y d e he hbe;by_cases e1:j=i
   .subst e1;rw[ho]at d;cases d
    have:=hready e he hbe
    show (if e.on=j then true else D e.on)=true;split
    .rfl
    exact this
   have hj' : D j=true:=by
    have y:(if j=i then true else D j)=true:=y
    rwa [Ay e1]at y
   have:=hD j oj hj' d e he hbe
   show (if e.on=i then true else D e.on)=true;split
   .rfl
   exact this
  have henv' : ∀x,get (JO o.dst (V i) s.env) x=DQ all V env (fun j=>if j=i then true else D j) x all.length:=by
   intro x;rw[Oq];by_cases hd:o.dst=some x
   .rw[Au hd];refine (LS (by simp) (by simp[ho,hd]) hin fun j h1 h2 h3=>?_).symm;have hne:j≠i:=by omega
    simp only[hne,Br];obtain⟨oj,d⟩:∃oj,all[j]? = some oj:=⟨_,VZ h2⟩;simp only[d,XR]at h3;cases z:D j with
    |false=>rfl
    |true=>have h4:=haft j oj h1 d z;simp[CY,hd,h3]at h4
   rw[Ay hd,henv x];refine AL fun j y h3=>?_;have hne:j≠i:=by rintro rfl;rw[ho]at h3;exact hd h3
   simp[hne]
  have hInv:∀R',(∀q,CV q (cls.getD i .n)=true->A2 R' q=A2 (R (i+1)) q)->(∀q,CV q (cls.getD i .n)=false->A2 R' q=A2 s.regs q)->Inv (fun j=>if j=i then true else D j) (put ⟨s.env,R'⟩ o.dst (V i)):=by
   intro R' h1 h2;refine⟨hdown,?_,fun q=>?_⟩
   .intro x
    have:=henv' x
    cases hd:o.dst<;>simp only[hd,put,JO]at this⊢<;>exact this
   have hput:(put ⟨s.env,R'⟩ o.dst (V i)).regs=R':=by cases o.dst<;>rfl
   rw[hput];cases m:CV q (cls.getD i .n)with
   |false=>
    obtain⟨k,hkn,hW,hr⟩:=hreg q;refine⟨k,hkn,fun j y hwj=>?_,(h2 q m).trans hr⟩;have hne:j≠i:=by rintro rfl;rw[m]at hwj;cases hwj
    simp only[hne,Br];exact hW j y hwj
   |true=>
    refine⟨i+1,by omega,fun j y hwj=>?_,h1 q m⟩;by_cases e:j=i
    .simp[e]
    simp only[e,Br];obtain⟨oj,d⟩:∃oj,all[j]? = some oj:=⟨_,VZ y⟩;constructor
    .intro z;by_cases hlt:i<j
     .have h3:=haft j oj hlt d z;simp only[CY,(Ce m (EH hwj)).1,XU,Yg,Wg]at h3
     omega
    intro hlt;rcases hbef j oj (by omega) d with h3|h3
    .exact h3
    simp only[CY,(Ce hwj (EH m)).1,XU,Yg,Wg]at h3
  obtain⟨RT,hRT,a0⟩:∃RT,(∀q,A2 s.regs q=A2 RT q)/\((cls.getD i .n=.r \/ cls.getD i .n=.w \/ ∃js,cls.getD i .n=.b js)->RT=R i):=by
   by_cases hall:cls.getD i .n=.r \/ cls.getD i .n=.w \/ ∃js,cls.getD i .n=.b js
   .exact⟨R i,fun q=>hq q (by rcases hall with h1|h1|⟨js,h1⟩<;>rw[h1]<;>rfl),fun _=>rfl⟩
   exact⟨s.regs,fun _=>rfl,fun h=>Ba h hall⟩
  have v:R (i+1)=R i->Inv (fun j=>if j=i then true else D j) (put ⟨s.env,RT⟩ o.dst (V i)):=fun hRi=>
   hInv RT (fun q m=>by rw[<- hRT q,hq q (EH m),hRi]) fun q _=>(hRT q).symm
  have hrun:b=true->wOp S P o (Inv fun j=>if j=i then true else D j) (kp S P K F) ⟨s.env,RT⟩:=by
   intro hbt;rw[hbt,Au rfl]at hs;rcases hs with⟨c,ha,hc,hcl,hcx⟩ | ⟨hp,hRi⟩ | ⟨m,hdet⟩ | ⟨c,x,ha,hc,hvx,hRi⟩
   .cases u : cls.getD i .n with
    |n=>rw[u]at hcl;have h1:=Kw hcl ha;have ha':=h1.2 RT;rw[<- BS g]at ha';exact Ga ha' hc (v h1.1)
    |r=>rw[u]at hcl;rw[<- BS g,<- a0 (.inl u)]at ha;refine Ga ha hc ?_;have hcl:R (i+1)=R i:=hcl;rw[hcl,<- a0 (.inl u)];exact v hcl
    |w=>rw[<- BS g,<- a0 (.inr (.inl u))]at ha;exact Ga ha hc (hInv _ (fun _ _=>rfl) fun q m=>by rw[u]at m;cases m)
    |b js=>
     rw[u]at hcx;rw[<- BS g,<- a0 (.inr (.inr ⟨js,u⟩))]at ha;exact Ga ha hc (hInv _ (fun _ _=>rfl) fun q m=>by rw[u]at m;rw[hcx q (by simpa[CV]using m),hRT q,a0 (.inr (.inr ⟨js,u⟩))])
    |l js=>
     rw[u]at hcx;have ha':=hcx.2 RT fun q y=>by rw[<- hRT q];exact hq q (by rw[u];simpa[QB]using y)
     rw[<- BS g]at ha';exact Ga ha' hc (v hcx.1)
    |a js=>
     rw[u]at hcx;obtain⟨R3,ha',h3,h4⟩:=hcx RT fun q y=>by rw[<- hRT q];exact hq q (by rw[u];simpa[QB]using y)
     rw[<- BS g]at ha';refine Ga ha' hc (hInv R3 (fun q m=>?_) fun q m=>?_)
     .rw[u]at m;exact h3 q (by simpa[CV]using m)
     rw[u]at m;rw[h4 q (by simpa[CV]using m),hRT q]
   .obtain⟨c,f,fn,as',args,r',e1,e2,e3,e4,e5,e6,e7⟩:=hp;obtain⟨callee,cargs,types⟩:=c;simp only at e2 e3 e4;subst e2;have hargs:cargs.toList.map (aev s.env)=cargs.toList.map (aev (E i)):=WF fun x hx=>g x (by rw[e1];simp[Op.operands,Call.operands];exact .inr (by simpa using hx));have hf:aev s.env f=aev (E i) f:=g f (by rw[e1];simp[Op.operands,Call.operands]);unfold wOp;rw[e1];refine .inl ⟨_,RT,fn,as',by rw[hargs];exact .inl (Gb e3),by rw[JQ hf];exact e4,[],args,[],rfl,e5,rfl,rfl,hS.monoF _ _ _ _ _ ?_ e6⟩;rintro _ _ _ ⟨rfl,rfl,rfl⟩;refine⟨rfl,?_⟩
    have:(H9 (o.dst.getD 0) [] [] ([]:List Obj).length)=[]:=rfl
    rw[this];show Inv _ (put ⟨s.env,RT⟩ o.dst (unA [] r'));rw[<- e7];exact v hRi
   .obtain⟨c,f,as,regs1,fn,as',args,objs,objs',ks,r',ids,e1,e2,e3,e4,e5,e6,e7,e8,e9,e10,e11,e12⟩:=hdet;obtain⟨callee,cargs,types⟩:=c;simp only at e2 e3;subst e2;have hargs:cargs.toList.map (aev s.env)=cargs.toList.map (aev (E i)):=WF fun x hx=>g x (by rw[e1];simp[Op.operands,Call.operands];exact .inr (by simpa using hx));have hf:aev s.env f=aev (E i) f:=g f (by rw[e1];simp[Op.operands,Call.operands]);unfold wOp;rw[e1];have hRTi:RT=R i:=a0 (m.elim (fun h=>.inr (.inl h)) fun⟨js,h,_⟩=>.inr (.inr ⟨js,h⟩));refine .inl ⟨as,regs1,fn,as',by rw[hargs,hRTi];exact .inl e3,by rw[JQ hf];exact e4,ids,args,objs,e8,e5,e6,e9,hS.monoF _ _ _ _ _ ?_ e7⟩;rintro _ _ _ ⟨rfl,rfl,rfl⟩;refine⟨e10,?_⟩;show Inv _ (put ⟨s.env,_⟩ o.dst (unA _ r'));rw[<- e11,<- e12];exact hInv _ (fun _ _=>rfl) fun q h=>by
     rcases m with m|⟨js,m,h4⟩
     .rw[m]at h;cases h
     rw[m]at h;rw[h4 q (by simpa[CV]using h),hRT q,hRTi]
   rw[<- Ps g]at ha;have hfin:=v hRi;rw[hvx]at hfin;exact RN ha hc hfin
  have hskip:b=false->Inv (fun j=>if j=i then true else D j) (put ⟨s.env,RT⟩ o.dst V8):=by intro hbf;rw[hbf]at hs;simp only[Wg,Br]at hs;obtain⟨hv,hRi⟩:=hs;rw[<- hv];exact v hRi
  refine hS.eqv s ⟨s.env,RT⟩ _ (fun _=>rfl) hRT ?_;cases hg:o.guard with
  |none=>simp only[AK,hg,VX]at hb;exact hrun hb.symm
  |some q=>
   obtain⟨j,want⟩:=q;simp only[AK,hg,Wo]at hb;obtain⟨b0,hy,hb0⟩:=hb;have hsl:get s.env (CU all j)=get (E i) (CU all j):=hrd _ (Wl _ (by simp[hg]));refine⟨b0,by rw[hsl];exact hy,?_⟩;by_cases hbw:b0=some want
   .rw[Au hbw];exact hrun (by rw[<- hb0];simp[hbw])
   rw[Ay hbw];exact hskip (by rw[<- hb0];simp[hbw])
 intro D s ⟨hD,henv,hreg⟩ hall;refine hS.eqv s ⟨E all.length,R all.length⟩ _ (fun x=>?_) (fun q=>?_) hk
 .show get s.env x=get (E all.length) x;rw[henv x,LT T x _ (Wp _),hE0];exact AL fun j y _=>by simp[hall j y,y]
 obtain⟨k,hkn,hW,hr⟩:=hreg q;rw[hr];refine (Nk T q k all.length hkn (Wp _) fun j h1 h2=>?_).symm;cases m:CV q (cls.getD j .n)with
 |false=>rfl
 |true=>have:=(hW j h2 m).1 (hall j h2);omega
end
end Go.AM
namespace Go.AM
def clsOf:Op->Cls
 |.store .. | .alloc _ | .box .. | .buildSlice .. | .makeMap .. | .makeSlice .. | .mapUpdate .. | .entryStore .. | .mapEntry ..=>.w
 |.load .. | .indexAddr .. | .lookup ..=>.r
 |.call { callee:=.builtin .len,.. } | .call { callee:=.builtin .cap,.. }=>.r
 |.call { callee:=.builtin .min,.. } | .call { callee:=.builtin .max,.. }=>.n
 |.call _=>.w
 |_=>.n
def isR (env:Env):Op->Bool
 |.load .. | .indexAddr ..=>true
 |.lookup _ _ k _=>isP (aev env k)
 |.call { callee:=.builtin .len,.. }=>true
 |o=>isN env o
def inJ (js:List Nat):AV->Bool
 |.p _=>true
 |.vec i=>js.contains i
 |.vecp i _=>js.contains i
 |_=>false
def adJ (js:List Nat):AV->Bool
 |.reg i _=>js.contains i
 |.elt i _ _ _=>js.contains i
 |_=>false
def mrJ (js:List Nat):AV->Bool
 |.mref i=>js.contains i
 |_=>false
def isL (js:List Nat)(env:Env):Op->Bool
 |.lookup _ m k _=>mrJ js (aev env m)&&isP (aev env k)
 |.load _ a=>adJ js (aev env a)
 |.indexAddr _ x _=>adJ js (aev env x)||inJ js (aev env x)
 |.call { callee:=.builtin .len,args,.. }=>args.toList.all fun x=>inJ js (aev env x)
 |_=>false
def isA (js:List Nat)(env:Env)(d:Nat):Op->Bool
 |.alloc _=>js.contains (nid d 0)
 |.box _ _=>js.contains (nid d 0)
 |.store _ a _=>adJ js (aev env a)
 |.call { callee:=.builtin .append,args,.. }=>js.contains (nid d 0)&&args.toList.all fun x=>inJ js (aev env x)
 |.buildSlice _ _ parts=>js.contains (nid d 0)&&parts.toList.all fun q=>isP (aev env q.2)
 |_=>false
def isB (js:List Nat)(env:Env)(d:Nat):Op->Bool
 |.buildSlice _ _ parts=>js.contains (nid d 0)&&parts.toList.all fun q=>inJ js (aev env q.2)
 |_=>false
def TI (cl:Cls)(env:Env)(d:Nat)(o:Op):Bool:=match cl with
 |.n=>isN env o
 |.r=>isR env o
 |.w=>true
 |.l j=>isL j env o
 |.a j=>isA j env d o
 |.b j=>isB j env d o
structure SRes:Type 1 where
 conds:List Prop
 cls:List Cls
 rest:List Oper
 env:Env
 regs:B5
def UQ (kn:List Nat)(all:List Oper)(env:Env)(o:Oper):Bool:=match o.guard with
 |none=>false
 |some (j,_)=>match kn.contains j with
  |true=>false
  |false=>match get env (CU all j)with
   |.p (.bb _)=>true
   |_=>false
def IL (P:Program)(kn:List Nat)(all:List Oper):List Cls->List Oper->List Prop->Env->B5->SRes
 |cl::cls,o::rest,c,env,regs=>
  match UQ kn all env o with
  |true=>⟨c,cl::cls,o::rest,env,regs⟩
  |false=>match AK all env o with
  |some true=>match SO o.op&&TI cl env (o.dst.getD 0) o.op with
   |true=>match aop P env regs (o.dst.getD 0) o.op with
    |none=>⟨c,cl::cls,o::rest,env,regs⟩
    |some ⟨p,v,regs'⟩=>fA v fun v=>fR regs' fun regs'=>fC p c fun c=>
     match o.dst with
     |some d=>PY d v env fun env=>IL P kn all cls rest c env regs'
     |none=>IL P kn all cls rest c env regs'
   |false=>⟨c,cl::cls,o::rest,env,regs⟩
  |some false=>match o.dst with
   |some d=>PY d V8 env fun env=>IL P kn all cls rest c env regs
   |none=>IL P kn all cls rest c env regs
  |none=>⟨c,cl::cls,o::rest,env,regs⟩
 |cls,rest,c,env,regs=>⟨c,cls,rest,env,regs⟩
section
variable {S:O7}{P:Program}
theorem RO {env:Env}{R R' : B5}{d:Nat}{o:Op}{c:List Prop}{v:AV}(f:isR env o=true)(h:aop P env R d o=some ⟨c,v,R'⟩):R' = R:=by
 have gen:isN env o=true->R' = R:=fun hn=>(Kw hn h).1;cases o with
 |load t a=>
  simp only[aop]at h;split at h
  .simp only[VX,Out.mk.injEq]at h;exact h.2.2.symm
  cases h
 |indexAddr t x i=>
  simp only[aop]at h;split at h
  .split at h
   .simp only[VX,Out.mk.injEq]at h;exact h.2.2.symm
   cases h
  cases h
 |lookup t m k ok=>
  simp only[isR]at f;cases hk:aev env k<;>simp only[hk,isP,Wg]at f;simp only[aop,hk,CG]at h;split at h
  .simp only[VX,Out.mk.injEq]at h;exact h.2.2.symm
  cases h
 |call cc=>
  obtain⟨callee,args,types⟩:=cc;cases callee with
  |builtin b=>
   cases b with
   |len=>
    simp only[aop]at h;split at h
    .split at h
     .simp only[VX,Out.mk.injEq]at h;exact h.2.2.symm
     cases h
    cases h
   |_=>exact gen f
  |_=>exact gen f
 |_=>exact gen f
theorem BU (regs:B5)(d t:Nat)(x:Obj):A2 (ins d x regs) t=if d=t then some x else A2 regs t:=by
 induction regs with
 |nil=>simp[ins,A2]
 |cons p r ih=>
  obtain⟨i,b⟩:=p;simp only[ins];split
  .simp only[A2]
  split
  .rename_i h;subst h;simp only[A2];split<;>rfl
  rename_i h1 a;simp only[A2,ih];by_cases h:i=t
  .simp only[h,Be];rw[Ay (by omega)]
  simp only[h,Br]
theorem Or {js:List Nat}{a:AV}(h:adJ js a=true):∃i∈js,(∃off,a=.reg i off) \/ ∃k n off,a=.elt i k n off:=by
 cases a with
 |reg i off=>exact⟨i,by simpa[adJ]using h,.inl ⟨off,rfl⟩⟩
 |elt i k n off=>exact⟨i,by simpa[adJ]using h,.inr ⟨k,n,off,rfl⟩⟩
 |_=>cases h
section
variable {js:List Nat}{R R2:B5}(hR:∀q∈js,A2 R2 q=A2 R q)
include hR
theorem RQ {t:TypeId}{a:AV}(ha:adJ js a=true):load P R2 t a=load P R t a:=by obtain⟨i,b,⟨off,rfl⟩ | ⟨k,n,off,rfl⟩⟩:=Or ha<;>simp only[load,hR i b]
theorem Pt {t:TypeId}{x:AV}{n:Int}(ha:(adJ js x||inJ js x)=true):BK P R2 t x n=BK P R t x n:=by
 cases x with
 |vec i=>
  have a:i∈js:=by simpa[adJ,inJ]using ha
  unfold BK;cases tk P t with
  |none=>rfl
  |some k=>cases k<;>first|rfl|simp only[hR i a]
 |vecp i m=>
  have a:i∈js:=by simpa[adJ,inJ]using ha
  unfold BK;cases tk P t with
  |none=>rfl
  |some k=>cases k<;>first|rfl|simp only[hR i a]
 |reg i off=>unfold BK;cases tk P t with
  |none=>rfl
  |some k=>cases k<;>rfl
 |p y=>unfold BK;cases tk P t with
  |none=>rfl
  |some k=>cases k<;>cases y<;>rfl
 |elt i k n off=>unfold BK;cases tk P t with
  |none=>rfl
  |some k=>cases k<;>rfl
 |_=>cases ha
theorem RR {t:TypeId}{x:AV}(ha:inJ js x=true):PI P R2 t x=PI P R t x:=by
 cases x with
 |vec i=>
  have a:i∈js:=by simpa[inJ]using ha
  unfold PI;cases tk P t with
  |none=>rfl
  |some k=>cases k<;>first|rfl|simp only[hR i a]
 |vecp i m=>unfold PI;cases tk P t with
  |none=>rfl
  |some k=>cases k<;>rfl
 |p y=>unfold PI;split<;>simp_all
 |_=>cases ha
theorem LW {k:Nat}{x:AV}(ha:inJ js x=true):X0 R2 k x=X0 R k x:=by
 cases x with
 |vec i=>
  have a:i∈js:=by simpa[inJ]using ha
  simp only[X0,hR i a]
 |vecp i m=>
  have a:i∈js:=by simpa[inJ]using ha
  simp only[X0,hR i a]
 |p y=>unfold X0;split<;>simp_all
 |_=>cases ha
theorem QF {e:TypeId}{k:Nat}{x:AV}{q:Nat×(Nat->List PV)×Bool×B5}(ha:inJ js x=true)(h:Kb R e k x=some q) :(Kb R2 e k x=some (q.1,q.2.1,q.2.2.1,R2)/\q.2.2.2=R) \/ ∃j∈js,Kb R2 e k x=some (q.1,q.2.1,q.2.2.1,ins j .dead R2)/\q.2.2.2=ins j .dead R:=by
 cases x with
 |vec i=>
  have b:i∈js:=by simpa[inJ]using ha
  simp only[Kb]at h⊢;rw[hR i b]
  right
  refine⟨i,b,?_⟩;cases a:A2 R i with
  |none=>simp[a]at h
  |some o=>
   cases o with
   |vec e' m n f vw=>
    simp only[a]at h⊢;split at h
    .rename_i hc;cases h;exact⟨by rw[Au hc],rfl⟩
    cases h
   |_=>simp[a]at h
 |vecp i m=>
  have b:i∈js:=by simpa[inJ]using ha
  simp only[Kb]at h⊢;rw[hR i b]
  right
  refine⟨i,b,?_⟩;cases a:A2 R i with
  |none=>simp[a]at h
  |some o=>
   cases o with
   |vec e' m n f vw=>
    cases vw with
    |true=>simp[a]at h
    |false=>
     simp only[a]at h⊢;split at h
     .rename_i hc;cases h;exact⟨by rw[Au hc],rfl⟩
     cases h
   |_=>simp[a]at h
 |p y=>
  left
  unfold Kb at h⊢;split at h
  .cases h;exact⟨rfl,rfl⟩
  .rename_i h1;cases h1
  .rename_i h1;cases h1
  cases h
 |_=>cases ha
theorem QG {t:TypeId}{a x:AV}{c:List Prop}{R' : B5}(ha:adJ js a=true)(h:store P R t a x=some (c,R')):∃i∈js,∃o,R' = ins i o R/\store P R2 t a x=some (c,ins i o R2):=by
 obtain⟨i,s,g⟩:=Or ha;refine⟨i,s,?_⟩;have r:=hR i s;have fin:∀(p:Prop) [Decidable p] (c0:List Prop) (o:Obj),(if p then some (c0,ins i o R)else none)=some (c,R')->∃o',R' = ins i o' R/\(if p then some (c0,ins i o R2)else none)=some (c,ins i o' R2):=by
  intro p _ c0 o h;split at h
  .rename_i hc;simp only[VX,We]at h;obtain⟨rfl,rfl⟩:=h;exact⟨o,rfl,by rw[Au hc]⟩
  cases h
 cases b:tsz P t with
 |none=>simp[store,b]at h
 |some m=>
  cases d:X9 x with
  |false=>simp[store,b,d]at h
  |true=>
   cases j:A2 R i with
   |none=>rcases g with⟨off,rfl⟩ | ⟨k,n,off,rfl⟩<;>simp[store,b,d,j]at h
   |some o=>
    rw[j]at r;rcases g with⟨off,rfl⟩ | ⟨k,n,off,rfl⟩
    .simp only[store,b,d,j,r]at h⊢;cases o with
     |cells cs=>exact fin _ _ _ h
     |arr n f=>
      cases x with
      |p y=>cases y with
       |agg ps=>exact fin _ _ _ h
       |_=>exact fin _ _ _ h
      |_=>simp at h
     |_=>simp at h
    simp only[store,b,d,j,r]at h⊢;cases o with
    |vec e k' n' f vw=>
     cases vw with
     |true=>simp at h
     |false=>cases x with
      |p y=>exact fin _ _ _ h
      |_=>simp at h
    |fam e n' jr x0=>
     cases x0 with
     |none=>simp at h
     |some q=>
      cases hl:cellsOf x with
      |nil=>simp[hl]at h
      |cons y l=>cases l with
       |nil=>simp only[hl]at h⊢;exact fin _ _ _ h
       |cons=>simp[hl]at h
    |_=>simp at h
end
theorem RU {js:List Nat}{env:Env}{R R' : B5}{d:Nat}{o:Op}{c:List Prop}{v:AV}(f:isL js env o=true)(h:aop P env R d o=some ⟨c,v,R'⟩):R' = R/\∀R2,(∀q∈js,A2 R2 q=A2 R q)->aop P env R2 d o=some ⟨c,v,R2⟩:=by
 cases o with
 |lookup t m k ok=>
  simp only[isL,Wa]at f;obtain⟨hm,hk⟩:=f;simp only[aop]at h⊢;cases ek:aev env k<;>simp only[ek,isP,Wg]at hk;cases em:aev env m<;>simp only[em,mrJ,Wg]at hm;rename_i x j;simp only[ek,em,CG]at h⊢;cases hl:Bm P R t (.mref j) (nP x) ok with
  |none=>simp[hl]at h
  |some q=>
   obtain⟨c',a'⟩:=q;simp only[hl,VX,Out.mk.injEq]at h;obtain⟨rfl,rfl,rfl⟩:=h;refine⟨rfl,fun R2 g=>?_⟩;have e:Bm P R2 t (.mref j) (nP x) ok=Bm P R t (.mref j) (nP x) ok:=by
    unfold Bm;cases tk P t with
    |none=>rfl
    |some q=>
     cases q with
     |map kt e=>have e2:=g j (by simpa using hm);cases l:Fc P kt (nP x)<;>simp only[l,e2]
     |_=>rfl
   rw[e,hl]
 |load t a=>
  simp only[isL]at f;simp only[aop]at h⊢;cases hl:load P R t (aev env a)with
  |none=>simp[hl]at h
  |some q=>obtain⟨c',a'⟩:=q;simp only[hl,VX,Out.mk.injEq]at h;obtain⟨rfl,rfl,rfl⟩:=h;exact⟨rfl,fun R2 g=>by rw[RQ g f,hl]⟩
 |indexAddr t x i=>
  simp only[isL]at f;simp only[aop]at h⊢;cases r:asInt (aev env i)with
  |none=>simp[r]at h
  |some n=>
   simp only[r]at h⊢;cases hl:BK P R t (aev env x) n with
   |none=>simp[hl]at h
   |some q=>obtain⟨c',a'⟩:=q;simp only[hl,VX,Out.mk.injEq]at h;obtain⟨rfl,rfl,rfl⟩:=h;exact⟨rfl,fun R2 g=>by rw[Pt g f,hl]⟩
 |call cc=>
  obtain⟨callee,args,types⟩:=cc;cases callee with
  |builtin b=>
   cases b with
   |len=>
    simp only[isL]at f;simp only[aop]at h⊢;split at h
    .rename_i x t hx s;simp only[hx,XG,YD,Yk]at f;cases hl:PI P R t (aev env x)with
     |none=>simp[hl]at h
     |some n=>simp only[hl,VX,Out.mk.injEq]at h;obtain⟨rfl,rfl,rfl⟩:=h;exact⟨rfl,fun R2 g=>by simp only[RR g f,hl]⟩
    cases h
   |_=>cases f
  |_=>cases f
 |_=>cases f
theorem SY:∀{xs:List AV},xs.all isP=true->∃ys,∀R,BJ R xs=some (ys,R)
 |[],_=>⟨[],fun _=>rfl⟩
 |.p x::xs,h=>by obtain⟨ys,hy⟩:=SY (xs:=xs) (by simpa[isP]using h);exact⟨nP x::ys,fun R=>by simp only[BJ,CG,hy]⟩
 |.reg .. :: _,h | .elt .. :: _,h | .vec _::_,h | .vecp .. :: _,h | .mref _::_,h | .clo .. :: _,h | .tup _::_,h | .agr _::_,h | .yf _::_,h | .top::_,h=>by simp[isP]at h
theorem TJ {n:Nat}:∀{L:List (Nat×AV)},(∀p∈L,isP p.2=true)->∀R,Fb R n L=none:=by
 intro L h R;unfold Fb;split
 .rename_i j
  have:=h (0,.vec j) (by simp)
  cases this
 rfl
theorem RV {js:List Nat}{env:Env}{R R' : B5}{d:Nat}{o:Op}{c:List Prop}{v:AV}(r:isA js env d o=true)(h:aop P env R d o=some ⟨c,v,R'⟩) :∀R2,(∀q∈js,A2 R2 q=A2 R q)->∃R3,aop P env R2 d o=some ⟨c,v,R3⟩/\(∀q∈js,A2 R3 q=A2 R' q)/\∀q,q ∉ js->A2 R3 q=A2 R2 q:=by
 intro R2 u;have up:∀{A B:B5}(i:Nat) (x:Obj),i∈js->(∀q∈js,A2 A q=A2 B q)->(∀q,q ∉ js->A2 A q=A2 R2 q)->(∀q∈js,A2 (ins i x A) q=A2 (ins i x B) q)/\∀q,q ∉ js->A2 (ins i x A) q=A2 R2 q:=by intro A B i x hi h1 u;refine⟨fun q hq=>by rw[BU,BU,h1 q hq],fun q hq=>?_⟩;rw[BU,Ay (by rintro rfl;exact hq hi),u q hq]
 have one:=fun {i:Nat}(x:Obj) (hi:i∈js)=>up i x hi u fun _ _=>rfl;cases o with
 |buildSlice t n parts=>
  simp only[isA,Wa]at r;have w:nid d 0∈js:=by simpa using r.1
  obtain⟨ys,hys⟩:=SY (xs:=parts.toList.map fun q=>aev env q.2) (by simpa[Xr,Xc]using r.2);have hrl:=TJ (n:=n) (L:=parts.toList.map fun q=>(q.1,aev env q.2)) (fun p hp=>by obtain⟨q,hq,rfl⟩:=XC.1 hp;exact Wn.1 r.2 q hq)
  simp only[aop,hrl,hys,u _ w]at h⊢;split at h
  .split at h
   .rename_i l0 regs0 m0 z0 a3 a4 a5;simp only[VX,We]at a3;obtain⟨rfl,rfl⟩:=a3;split at h
    .rename_i hc;simp only[VX,Out.mk.injEq]at h;obtain⟨rfl,rfl,rfl⟩:=h;refine⟨ins (nid d 0) _ R2,?_,one _ w⟩;simp only[a4,a5];rw[Au hc]
    cases h
   cases h
  cases h
 |alloc t=>
  have w:nid d 0∈js:=by simpa[isA]using r
  simp only[aop,u _ w]at h⊢;split at h
  .rename_i z h1 h3;split at h
   .rename_i hz;simp only[VX,Out.mk.injEq]at h;obtain⟨rfl,rfl,rfl⟩:=h;exact⟨_,by simp only[h1,h3,hz,Be],one _ w⟩
   cases h
  cases h
 |box t x=>
  have w:nid d 0∈js:=by simpa[isA]using r
  simp only[aop,u _ w]at h⊢;split at h
  .rename_i h1 h3;simp only[VX,Out.mk.injEq]at h;obtain⟨rfl,rfl,rfl⟩:=h;exact⟨_,by simp only[h1,h3],one _ w⟩
  cases h
 |store t a x=>
  simp only[isA]at r;simp only[aop]at h⊢;split at h
  .rename_i hs;simp only[VX,Out.mk.injEq]at h;obtain⟨rfl,rfl,rfl⟩:=h;obtain⟨i,hi,o,rfl,hs2⟩:=QG u r hs;exact⟨_,by simp only[hs2],one _ hi⟩
  cases h
 |call cc=>
  obtain⟨callee,args,types⟩:=cc;cases callee with
  |builtin b=>
   cases b with
   |append=>
    simp only[isA,Wa]at r;have w:nid d 0∈js:=by simpa using r.1
    have r:=r.2;simp only[aop,u _ w]at h⊢;split at h
    .rename_i s x t t2 hx ht;simp only[hx,XG,YD,Yk,Wa]at r;split at h
     .rename_i e k2 hk1 hk2;split at h
      .rename_i m z hz1 hz2 hz3;split at h
       .rename_i n g l f vw regs1 hn he htk;split at h
        .rename_i hc;simp only[VX,Out.mk.injEq]at h;obtain⟨rfl,rfl,rfl⟩:=h;rcases QF u r.1 htk with⟨h3,h4⟩ | ⟨j,hjj,h3,h4⟩
         .simp only at h3 h4;subst h4;refine⟨ins (nid d 0) (.vec e m (l+n) (V7 l f g) vw) R2,?_,one _ w⟩;simp only[LW u r.2,hz1,hz2,hz3,hn,he,h3];rw[Au hc]
         simp only at h3 h4;subst h4;have h5:=one (i:=j) .dead hjj;refine⟨ins (nid d 0) (.vec e m (l+n) (V7 l f g) vw) (ins j .dead R2),?_,up _ _ w h5.1 h5.2⟩;simp only[LW u r.2,hz1,hz2,hz3,hn,he,h3];rw[Au hc]
        cases h
       split at h
       .rename_i c1 v1 R1 hF;simp only[VX,Out.mk.injEq]at h;obtain⟨rfl,rfl,rfl⟩:=h;simp only[Fa]at hF;split at hF
        .rename_i j l hs hx';have hjj:j∈js:=by have:=r.1;rw[hs]at this;simpa[inJ]using this
         have hll:l∈js:=by have:=r.2;rw[hx']at this;simpa[inJ]using this
         split at hF
         .rename_i e1 n jr e2 jz y h1 h3 h4;split at hF
          .rename_i hc;simp only[VX,We]at hF;obtain⟨rfl,rfl,rfl⟩:=hF;have a1:=one (i:=j) .dead hjj;have a2:=up l .dead hll a1.1 a1.2;refine⟨ins (nid d 0) (.fam e (n+1) jr (some (n,y))) (ins l .dead (ins j .dead R2)),?_,up _ _ w a2.1 a2.2⟩;have el:X0 R2 m (.vec l)=none:=by simp only[X0,u l hll,h4]
           simp only[hz1,hz2,hz3,hs,hx',el,h1];simp only[Fa,u _ w,u j hjj,u l hll,h1,h3,h4];rw[Au hc]
          cases hF
         cases hF
        cases hF
       cases h
      cases h
     cases h
    cases h
   |_=>cases r
  |_=>cases r
 |_=>cases r
theorem RW {js:List Nat}{R R' : B5}{x:AV}{y:PV}(hx:inJ js x=true)(h:CG R x=some (y,R')):∀q,q ∉ js->A2 R' q=A2 R q:=by
 intro q b;have up:∀(j:Nat) (o:Obj),j∈js->A2 (ins j o R) q=A2 R q:=fun j o a=>by rw[BU,Ay (by rintro rfl;exact b a)]
 cases x with
 |p x=>simp only[CG,VX,We]at h;rw[<- h.2]
 |vec j=>
  have a:j∈js:=by simpa[inJ]using hx
  simp only[CG]at h;split at h
  .simp only[VX,We]at h;rw[<- h.2];exact up _ _ a
  cases h
 |vecp j m=>
  have a:j∈js:=by simpa[inJ]using hx
  simp only[CG]at h;split at h
  .simp only[VX,We]at h;rw[<- h.2];exact up _ _ a
  cases h
 |_=>cases hx
theorem LX {js:List Nat}:∀{xs:List AV}{R R' : B5}{l:List PV},(xs.all fun x=>inJ js x)=true->BJ R xs=some (l,R')->∀q,q ∉ js->A2 R' q=A2 R q
 |[],R,R',l,_,h,q,_=>by simp only[BJ,VX,We]at h;rw[<- h.2]
 |x::xs,R,R',l,hx,h,q,hq=>by
  simp only[XG,Wa]at hx;simp only[BJ]at h;cases h1:CG R x with
  |none=>simp[h1]at h
  |some p=>
   obtain⟨y,R1⟩:=p;simp only[h1]at h;cases a:BJ R1 xs with
   |none=>simp[a]at h
   |some p=>obtain⟨l1,R2⟩:=p;simp only[a,VX,We]at h;rw[<- h.2,LX hx.2 a q hq,RW hx.1 h1 q hq]
theorem RX {js:List Nat}{env:Env}{R R' : B5}{d:Nat}{o:Op}{c:List Prop}{v:AV}(a:isB js env d o=true)(h:aop P env R d o=some ⟨c,v,R'⟩):∀q,q ∉ js->A2 R' q=A2 R q:=by
 intro q b;cases o with
 |buildSlice t n parts=>
  simp only[isB,Wa]at a;have f:nid d 0∈js:=by simpa using a.1
  have up:∀(R1:B5) (o:Obj),A2 (ins (nid d 0) o R1) q=A2 R1 q:=fun R1 o=>by rw[BU,Ay (by rintro rfl;exact b f)]
  simp only[aop]at h;split at h
  .split at h
   .split at h
    .split at h
     .simp only[VX,Out.mk.injEq]at h;rw[<- h.2.2];exact up _ _
     cases h
    cases h
   cases h
  split at h
  .split at h
   .rename_i g _ _;split at h
    .simp only[VX,Out.mk.injEq]at h;rw[<- h.2.2,up];exact LX (by simpa[Xr,Xc]using a.2) g q b
    cases h
   cases h
  cases h
 |_=>cases a
theorem Pu {cl:Cls}{env:Env}{R R' : B5}{d:Nat}{o:Op}{c:List Prop}{v:AV}(f:TI cl env d o=true)(h:aop P env R d o=some ⟨c,v,R'⟩):clsF cl (isN env o=true) (R' = R)/\clsX P cl env R d o c v R':=by
 cases cl with
 |n=>exact⟨f,trivial⟩
 |r=>exact⟨RO f h,trivial⟩
 |w=>exact⟨trivial,trivial⟩
 |l j=>exact⟨trivial,RU f h⟩
 |a j=>exact⟨trivial,RV f h⟩
 |b j=>exact⟨trivial,RX f h⟩
variable {kn:List Nat}{all:List Oper}{k:Env->B5->Prop}
theorem HJ:∀(cls:List Cls) (rest:List Oper) (c:List Prop) (env:Env) (regs:B5),C4 (IL P kn all cls rest c env regs).conds ->
 C4 c/\(IK S P all (IL P kn all cls rest c env regs).cls (IL P kn all cls rest c env regs).rest (IL P kn all cls rest c env regs).env (IL P kn all cls rest c env regs).regs k->IK S P all cls rest env regs k)
 |[],[],c,env,regs,h=>⟨h,fun h=>h⟩
 |[],_::_,c,env,regs,h=>⟨h,fun h=>h⟩
 |_::_,[],c,env,regs,h=>⟨h,fun h=>h⟩
 |cl::cls,o::rest,c,env,regs,h=>by
  simp only[IL]at h⊢;cases g:UQ kn all env o with
  |true=>simp only[g]at h⊢;exact⟨h,fun h=>h⟩
  |false=>
  simp only[g]at h⊢;cases f:AK all env o with
  |none=>simp only[f]at h⊢;exact⟨h,fun h=>h⟩
  |some b=>
   cases b with
   |true=>
    simp only[f]at h⊢;cases ha:(SO o.op&&TI cl env (o.dst.getD 0) o.op)with
    |false=>simp only[ha]at h⊢;exact⟨h,fun h=>h⟩
    |true=>
     simp only[ha]at h⊢;simp only[Wa]at ha;cases hp:aop P env regs (o.dst.getD 0) o.op with
     |none=>simp only[hp]at h⊢;exact⟨h,fun h=>h⟩
     |some q=>
      obtain⟨p,v,regs'⟩:=q;simp only[hp,OT,Tn,UD]at h⊢;have fin:∀(env' : Env),env' = JO o.dst v env->(C4 (p++c)/\(IK S P all (IL P kn all cls rest (p++c) env' regs').cls (IL P kn all cls rest (p++c) env' regs').rest (IL P kn all cls rest (p++c) env' regs').env (IL P kn all cls rest (p++c) env' regs').regs k->IK S P all cls rest env' regs' k)) ->
       C4 c/\(IK S P all (IL P kn all cls rest (p++c) env' regs').cls (IL P kn all cls rest (p++c) env' regs').rest (IL P kn all cls rest (p++c) env' regs').env (IL P kn all cls rest (p++c) env' regs').regs k->IK S P all (cl::cls) (o::rest) env regs k):=by
       rintro env' rfl ⟨h1,i⟩;obtain⟨j,l⟩:=(X1 _ _).1 h1;exact⟨j,fun hs=>⟨true,f,by rw[Au rfl];exact⟨v,regs', .inl ⟨p,hp,l,Pu ha.2 hp⟩,i hs⟩⟩⟩
      cases a:o.dst with
      |some d=>simp only[a,Ey]at h⊢;exact fin _ (by simp[a,JO]) (HJ cls rest _ _ _ h)
      |none=>simp only[a]at h⊢;exact fin _ (by simp[a,JO]) (HJ cls rest _ _ _ h)
   |false=>
    simp only[f]at h⊢;cases a:o.dst with
    |some d=>simp only[a,Ey]at h⊢;obtain⟨h1,i⟩:=HJ cls rest _ _ _ h;exact⟨h1,fun hs=>⟨false,f,by simp only[Wg,Br,a,JO];exact i hs⟩⟩
    |none=>simp only[a]at h⊢;obtain⟨h1,i⟩:=HJ cls rest _ _ _ h;exact⟨h1,fun hs=>⟨false,f,by simp only[Wg,Br,a,JO];exact i hs⟩⟩
theorem s_go {cls cls' : List Cls}{rest rest' : List Oper}{c:List Prop}{env env' : Env}{regs regs' : B5}(h:IL P kn all cls rest [] env regs=⟨c,cls',rest',env',regs'⟩)(hc:C4 c)(hk:IK S P all cls' rest' env' regs' k):IK S P all cls rest env regs k:=by
 have:=HJ (S:=S) (kn:=kn) (k:=k) cls rest [] env regs (by rw[h];exact hc)
 rw[h]at this;exact this.2 hk
theorem s_end {cls:List Cls}{env:Env}{regs:B5}(h:k env regs):IK S P all cls [] env regs k:=by cases cls<;>exact h
theorem UR {cl:Cls}{cls:List Cls}{o:Oper}{rest:List Oper}{env:Env}{regs:B5}{c:Call}{f:Operand}{fn:FuncId}{as' args:List AV}{r:AV}(a:AK all env o=some true)(b:o.op=.call c)(d:c.callee=.value f)
 (ha:((c.args.toList.map (aev env)).all Pr)=true) (g:MG env f (c.args.toList.map (aev env))=some (fn,as')) (i:AD [] as' = some args) (j:Rp S fn args r)
 (hk:IK S P all cls rest (JO o.dst (unA [] r) env) regs k):IK S P all (cl::cls) (o::rest) env regs k:=
 ⟨true,a,by rw[Au rfl];exact⟨_,regs,.inr (.inl ⟨⟨c,f,fn,as',args,r,b,d,ha,g,i,j,rfl⟩,rfl⟩),hk⟩⟩
theorem Ot {m:List Nat}:∀{ids:List Nat}{objs:List Obj}{R:B5}{q:Nat},q ∉ ids->A2 (MM m ids objs R) q=A2 R q
 |[],_,R,q,_=>rfl
 |j::ids,[],R,q,_=>rfl
 |j::ids,o::objs,R,q,h=>by simp only[WH,not_or]at h;show A2 (MM m ids objs (ins j (unO m o) R)) q=_;rw[Ot h.2,BU,Ay (WN h.1)]
theorem QH {cl:Cls}{cls:List Cls}{o:Oper}{rest:List Oper}{env:Env}{regs regs1:B5}{c:Call}{f:Operand}{as:List AV}{fn:FuncId}{as' args:List AV}{objs objs' : List Obj}{ks:List Bool}{r:AV}(ids:List Nat)(a:cl=.w \/ ∃js,cl=.b js/\∀q,q ∉ js->A2 (MM (H9 (o.dst.getD 0) ids ks objs'.length) (H9 (o.dst.getD 0) ids ks objs'.length) objs' (I9 ids ks regs1)) q=A2 regs q)(g:AK all env o=some true)(i:o.op=.call c)(j:c.callee=.value f)
 (ha:II regs (c.args.toList.map (aev env))=some (as,regs1)) (l:MG env f as=some (fn,as')) (m:AD ids as' = some args) (d:H6 ids regs1 ids=some objs) (n:FunO S fn args objs r objs' ks)
 (s:E6 ids=true) (hy:BM objs=true) (hn:Z6 regs1 ids ks (o.dst.getD 0) objs'.length=true)
 (hk:IK S P all cls rest (JO o.dst (unA (H9 (o.dst.getD 0) ids ks objs'.length) r) env) (MM (H9 (o.dst.getD 0) ids ks objs'.length) (H9 (o.dst.getD 0) ids ks objs'.length) objs' (I9 ids ks regs1)) k) :
 IK S P all (cl::cls) (o::rest) env regs k:=
 ⟨true,g,by rw[Au rfl];exact⟨_,_,.inr (.inr (.inl ⟨a,c,f,as,regs1,fn,as',args,objs,objs',ks,r,ids,i,j,ha,l,m,d,n,s,hy,hn,rfl,rfl⟩)),hk⟩⟩
theorem Ou {cl:Cls}{cls:List Cls}{o:Oper}{rest:List Oper}{env:Env}{regs:B5}{c:List Prop}{x:PV}(a:AK all env o=some true)(ha:IN P env o.op=some (c,x))(hc:C4 c)
 (hk:IK S P all cls rest (JO o.dst (.p x) env) regs k):IK S P all (cl::cls) (o::rest) env regs k:=
 ⟨true,a,by rw[Au rfl];exact⟨_,regs,.inr (.inr (.inr ⟨c,x,ha,hc,rfl,rfl⟩)),hk⟩⟩
def VP (o:Op):Cls:=match o with
 |.buildSlice ..=>.n
 |o=>clsOf o
theorem RY (hS:E7 S P){F:M8}{K:List It}{id:Nat}{ops:Array Oper}{st:St}{cls:List Cls}(a:P.follows .mixedOrders=true)(c:ops.toList.map (fun o=>VP o.op)=cls)(b:HI ops.toList cls=true)
 (h:IK S P ops.toList cls ops.toList st.env st.regs fun env regs=>G S P F (.pop .normal K ⟨env,regs⟩)):G S P F (.code (.region id ops true) K st):=
 QE hS cls a b h
end
end Go.AM
namespace Go.AM
section
variable {S:O7}{P:Program}{F:M8}{K:List It}{st:St}
theorem Gc (hS:E7 S P){f:FuncId}{fn:Func}{code:Code}{args:List AV}{objs:List Obj}{Q:Hi->List Obj->List Bool->Prop}{rs:List ResultVar}(d:P.funcs[f]? = some fn)(hc:fn.body=some code)(hn:args.length<=fn.ntmps)(g:objs.length<1000)
 (a:fn.results.toList=rs) (b:S4 fn.ntmps code=true) (c:(fn.name == "runtime.NumGoroutine")=false)
 (h:G S P (Y6 S P objs.length rs Q) (.code code [] { env:=argEnv args,regs:=objRegs objs })):S.F f args objs Q:=by
 subst a;exact hS.func f fn code args objs _ d hc c b hn g (hS.refl _ _ h)
theorem TL (hS:E7 S P){all rest:List Oper}{o:Oper}{c:Call}{f:Operand}{j:Nat}{xs ys:List PV}{regs:B5}{rest0:List (List PV)}
 (i:Ah all st.env o=some true) (l:o.op=.call c) (d:c.callee=.value f) (hy:aev st.env f=.yf j) (g:BJ st.regs (c.args.toList.map (aev st.env))=some (xs,regs))
 (m:A2 regs j=some (.yld (ys::rest0) true)) (a:Ca j regs=true) (hle:Tl xs ys)
 (hk:∀b:Bool,G S P F (.ops all rest K (put { st with regs:=ins j (.yld (if b then rest0 else []) b) regs } o.dst (.p (.bb b))))):G S P F (.ops all (o::rest) K st):=by
 refine BN hS i ?_;unfold wOp;obtain⟨callee,cargs,types⟩:=c;simp only at d g;subst d;rw[l];exact .inr (.inl ⟨j,xs,regs,ys,rest0,hy,g,m,a,hle,hk⟩)
theorem RZ (hS:E7 S P){all rest:List Oper}{o:Oper}{c:Call}{rv:Operand}{m:String}{as:List AV}{regs:B5}{t:TypeId}{y:PV}{fn:FuncId}{args:List AV}{r:AV}
 (d:Ah all st.env o=some true) (f:o.op=.call c) (b:c.callee=.invoke rv m) (ha:II st.regs (c.args.toList.map (aev st.env))=some (as,regs)) (a:aev st.env rv=.p (.iface t y)) (hm:Lp P t m=some fn)
 (g:AD [] (.p y::as)=some args) (i:Rp S fn args r)
 (hk:G S P F (.ops all rest K (put { env:=st.env,regs:=regs } o.dst (unA [] r)))):G S P F (.ops all (o::rest) K st):=by
 refine BN hS d ?_;unfold wOp;obtain⟨callee,cargs,types⟩:=c;simp only at b ha;subst b;rw[f];refine⟨as,regs,t,y,fn,ha,a,hm,[],args,[],rfl,g,rfl,rfl,hS.monoF _ _ _ _ _ ?_ i⟩;rintro _ _ _ ⟨rfl,rfl,rfl⟩;exact⟨rfl,hk⟩
theorem TM (hS:E7 S P){all rest:List Oper}{o:Oper}{x:Operand}{t:TypeId}{y:PV}(a:Ah all st.env o=some true)(b:o.op=.panic x)(hx:aev st.env x=.p (.iface t y))(hk:G S P F (.pop (.panic (.iface t y)) K st)):G S P F (.ops all (o::rest) K st):=by refine BN hS a ?_;unfold wOp;rw[b];exact⟨t,y,hx,hk⟩
def EI (S:O7)(f:FuncId)(first caps:List AV)(objs:List Obj)(L:List (List PV)):Prop:= S.F f (first ++ .yf objs.length::caps) (objs++[.yld L true]) fun r objs' ks=>∃b,objs'[objs.length]? = some (.yld [] b)/\ks[objs.length]? = some true/\∃a,r=.ret a
def W1 (S:O7)(P:Program)(body:Code)(gh:Nat)(ts:List Nat)(next:St->Prop)(Q:M8):M8
 |.normal,s=>S.up s fun s=>awp S P body (Bp S gh ts next Q) s
 |_,_=>False
theorem G_asg (hS:E7 S P){body:Code}{gh:Nat}{ts:List Nat}{next:St->Prop}{Q:M8}(h:G S P (Bp S gh ts next Q) (.code body [] st)):G S P (W1 S P body gh ts next Q) (.pop .normal [] st):=
 hS.refl _ _ h
def Sa {X:Type}(s:X->St)(J:List (List PV)->X->Prop)(rest:List (List PV))(t:St):Prop:=∃x,t=s x/\J rest x
theorem QI (hS:E7 S P){g:Operand}{ps:Array Tmp}{asg body:Code}{f:FuncId}{first caps as bs:List AV}{objs:List Obj}(ids ts:List Nat)(gh:Nat)(L:List (List PV)){X:Type}(s:X->St)(J:List (List PV)->X->Prop)(x0:X)(idl:List (Nat×Nat))
 (hp:Bn st.env g=some (f,first,caps)) (m:∃fn,P.funcs[f]? = some fn/\fn.body.isSome=true/\(fn.name == "runtime.NumGoroutine")=false) (n:H6 ids st.regs ids=some objs) (q:BM objs=true) (hd:E6 ids=true) (t:AD ids first=some as) (u:AD ids caps=some bs) (v:objs.length=ids.length)
 (w:gh<1000) (y:A2 st.regs gh=none) (z:ids.length<1000) (a0:E6 ts=true) (d:∀ys∈L,ys.length=ps.size)
 (hF:EI S f as bs objs L) (hle:Le idl ⟨P7 ts (ts.map (get st.env)),I9 ids (ids.map fun _=>false) st.regs⟩ (s x0)) (h0:J L x0) (hk:∀x,(s x).env.map (·.1)=ts) (hn:∀x,A2 (s x).regs gh=none)
 (c:∀ys rest x,J (ys::rest) x->G S P (W1 S P body gh ts (Sa s J rest) (kp S P K F)) (.code asg [] ⟨Fe ps.toList ys (s x).env,ins gh (.ghost ((s x).env.map (·.2))) (s x).regs⟩))
 (i:∀x,J [] x->G S P F (.pop .normal K (s x))):G S P F (.code (.rangeFunc g ps asg body) K st):=by
 have j:∀{l:List Nat},E6 l=true->l.Nodup:=by
  intro l
  induction l with
  |nil=>intro _;exact Xj
  |cons a r ih=>intro h;simp only[E6,Wa,Ws,WM,decide_eq_false_iff_not]at h;exact WL.2 ⟨h.1,ih h.2⟩
 refine⟨f,first,caps,as,bs,objs,ids,ts,gh,L,Sa s J,fun _ r=>∃a,r=.ret a,hp,m,q,hd,t,u,n,w,y,z,j a0,d,hS.le idl _ _ _ hle ⟨hk x0,hn x0,x0,rfl,h0⟩,?_,?_,?_⟩
 .rintro ys rest _ _ _ ⟨x,rfl,hJ⟩;have h:=c ys rest x hJ;have e:W1 S P body gh ts (Sa s J rest) (kp S P K F)=fun e s'=>match e with
   |.normal=>S.up s' fun s'=>awp S P body (Bp S gh ts (Sa s J rest) (kp S P K F)) s'
   |_=>False:=by funext e s';cases e<;>rfl
  rw[e]at h;exact h
 .rintro _ r _ _ ⟨x,rfl,hJ⟩ ⟨a,rfl⟩;exact i x hJ
 rw[<- v];refine hS.monoF _ _ _ _ _ ?_ hF;rintro r o ks ⟨b,h1,h2,h3⟩;exact⟨b,h1,h2,h3,fun _=>h3⟩
theorem Nl (hS:E7 S P){gh:Nat}{ts:List Nat}{X:Type}{s:X->St}{J:List (List PV)->X->Prop}{rest:List (List PV)}{Q:M8}(st1:St){cs:List AV}(x:X)(idl:List (Nat×Nat))(hle:Le idl st st1)(a:A2 st1.regs gh=some (.ghost cs))(hl:cs.length=ts.length)(b:A2 (del gh st1.regs) gh=none)
 (c:(⟨P7 ts cs,del gh st1.regs⟩:St)=s x) (d:J rest x):G S P (Bp S gh ts (Sa s J rest) Q) (.pop .normal [] st):=
 hS.le idl _ _ _ hle ⟨cs,a,hl,b,x,c,d⟩
theorem Ov (hS:E7 S P){gh:Nat}{ts:List Nat}{next:St->Prop}{e:Hh}(c:match e with | .normal | .panic _=>False|_=>True)(st1:St){cs:List AV}(idl:List (Nat×Nat))(hle:Le idl st st1)(a:A2 st1.regs gh=some (.ghost cs))(hl:cs.length=ts.length)(b:A2 (del gh st1.regs) gh=none)
 (hk:G S P F (.pop e K ⟨P7 ts cs,del gh st1.regs⟩)):G S P (Bp S gh ts next (kp S P K F)) (.pop e [] st):=by
 cases e with
 |normal=>exact c.elim
 |panic x=>exact c.elim
 |exit id=>exact hS.le idl _ _ _ hle ⟨cs,a,hl,b,hk⟩
 |goto t=>exact hS.le idl _ _ _ hle ⟨cs,a,hl,b,hk⟩
 |ret=>exact hS.le idl _ _ _ hle ⟨cs,a,hl,b,hk⟩
end
end Go.AM
namespace Go.AM
abbrev u32 (x:BitVec 32):PV:=.v (.int .u32 x.toNat)
end Go.AM
namespace Go.AM
def Ef {P:Program}{f:FuncId}{args:List PV}{r:AV}(d:∀as w,(callFunc f as).run P w=.ok (.enter f as) w)
 (h:∀(w:World) (Pi:Nat->Nat->Prop) (vs:Array Value),TabOk P w Pi->(∀b off,Pi b off->b<w.heap.size)->vs.size=args.length->(∀i,i<args.length->RepP w Pi (vs.getD i undef) (args.getD i default)) ->
  Calls P f vs w fun e w'=>∃v,e=.returned v/\RowKit.Below w.heap.size w w' /\ ∀live rho,RepA w' Pi live rho v r):Rp (DO P) f (args.map .p) r:=by
 intro 𝒢 C w vs rho q hs l;have s:=h w (Prv C.X (A2 (objRegs [])) rho) vs ((𝒢.tab C q).keeps hs.keep) (fun b off hp=>by
  rcases hp with hp|⟨j,o,a,_⟩
  .exact hs.hp.bound b off hp
  .simp[objRegs,objRegs.go,A2]at a) (by simpa using l) (fun i m=>by
  have:=hs.env i
  rw[Q5]at this;have e:(args.map AV.p).getD i .top=.p (args.getD i default):=by simp[m]
  rw[e]at this;exact this.toP)
 refine⟨_,_,d _ _,callsIn_wide.2 (s.mono ?_)⟩;rintro e w' ⟨v,rfl,hb,t⟩;have hk:Keeps w (Prv C.X (A2 (objRegs [])) rho) w' (Prv C.X (A2 (objRegs [])) rho):=fun b o v hp hc=>⟨by rw[<- hc];exact WB (hb.block b (Xi w ⟨b,o,none⟩ hc)),hp⟩
 refine⟨C,.ret r,[],[],rho,q,⟨rfl,rfl,rfl⟩,?_,⟨v,rfl,t _ _⟩,fun i m=>by simp at m⟩;have c:∀j,A2 (objRegs []) j=none:=fun j=>by simp[objRegs,objRegs.go,A2]
 refine⟨⟨fun j o a=>by simp[c]at a,fun i j oi oj b a=>by simp[c]at a,fun j o b off a=>by simp[c]at a,fun b off hp=>Wz (hs.hp.bound b off hp) hb.size⟩,hs.ext.trans ⟨hb.os,hb.output⟩,WS hs.size hb.size,fun b g u=>?_,hs.keep.trans hk,fun b n=>?_,fun j r b a=>by simp[c]at a⟩
 .rw[hb.block b (Wz g hs.size)];exact hs.same b g u
 obtain⟨j,o,a,_⟩:=n;simp[c]at a
def Kx {P:Program}{f:FuncId}{args:List PV}{r:AV}(a:∀as w,(callFunc f as).run P w=.ok (.enter f as) w)
 (h:∀(w:World) (Pi:Nat->Nat->Prop) (vs:Array Value),(∀b off,Pi b off->b<w.heap.size)->vs.size=args.length->(∀i,i<args.length->RepP w Pi (vs.getD i undef) (args.getD i default)) ->
  Calls P f vs w fun e w'=>∃v,e=.returned v/\RowKit.Below w.heap.size w w' /\ ∀live rho,RepA w' Pi live rho v r):Rp (DO P) f (args.map .p) r:=
 Ef a fun w Pi vs _=>h w Pi vs
end Go.AM
namespace Go.AM
open Go.RowKit Go.ChangeShapes
def VQ (W:World):Ctx:={ X:=fun _ _=>False,w0:=W,E0:=fun _=>False,Pi0:=fun _ _=>False,rho0:=fun _=>undef,Y:=fun _ _=>False,yv:=undef }
theorem TN {W:World}{vs:Array Value}{args:List PV}(l:vs.size=args.length)(m:∀i,i<args.length->RepP W (fun _ _=>False) (vs.getD i undef) (args.getD i default)) :Sat (VQ W) ⟨argEnv (args.map .p),objRegs []⟩ ⟨vs,[]⟩ W (fun _=>undef):=by
 have a:∀j,A2 (objRegs []) j=none:=fun j=>by simp[objRegs,objRegs.go,A2]
 have f:∀b o,¬Prv (VQ W).X (A2 (objRegs [])) (fun _=>undef) b o:=fun b o h=>by
  rcases h with h|⟨j,o',c,_⟩
  .exact h
  simp[a]at c
 refine⟨⟨⟨fun j o c=>by simp[a]at c,fun i j oi oj b c=>by simp[a]at c,fun j o b off c=>by simp[a]at c,fun b off hp=>hp.elim⟩,Ext.refl _,Wp _,fun _ _ _=>rfl,fun b o v _ hc=>⟨hc,f b o⟩,fun b hb=>?_,fun j r b c=>by simp[a]at c⟩,fun t=>?_,fun j _ hl=>?_,Xj,fun d n=>by cases n⟩
 .obtain⟨j,o,c,_⟩:=hb;simp[a]at c
 .show RepA W _ _ _ (vs.getD t undef) (get (argEnv (args.map .p)) t);rw[Q5];by_cases g:t<args.length
  .have e:(args.map AV.p).getD t .top=.p (args.getD t default):=by simp[g]
   rw[e];exact .p _ _ ((m t g).keeps fun b o v _ hc=>⟨hc,f b o⟩)
  have e:(args.map AV.p).getD t .top=.top:=by simp[Nat.le_of_not_lt g]
  rw[e];exact .top _
 obtain⟨o,q⟩:=hl
structure US (W w' : World):Prop where
 os:w'.os=W.os
 output:w'.output=W.output
 size:W.heap.size<=w'.heap.size
 block:∀b,b<W.heap.size->w'.heap[b]? = W.heap[b]?
theorem Ka {P:Program}{f:FuncId}{args:List PV}(a:∀as w,(callFunc f as).run P w=.ok (.enter f as) w)(h:Rp (DO P) f (args.map .p) (.p (.bb true)))
 {W:World}{vs:Array Value}(g:TabOk P W fun _ _=>False) (c:vs.size=args.length) (j:∀i,i<args.length->RepP W (fun _ _=>False) (vs.getD i undef) (args.getD i default)) :
 Calls P f vs W fun e w'=>e=.returned (.bool true)/\US W w':=by
 obtain⟨nx,w1,h1,l⟩:=h (Prot.triv P (VQ W) (fun _ _ h=>h) g) (VQ W) W vs _ rfl (TN c j) (by simpa using c);rw[a]at h1;cases h1;refine (callsIn_wide.1 l).mono ?_;rintro e w' ⟨C',r,objs',ks,rho',rfl,⟨rfl,rfl,rfl⟩,d,⟨v,rfl,m⟩,_⟩;cases m with
 |p _ _ hp=>cases hp;exact⟨rfl,d.ext.1,d.ext.2,d.size,fun b hb=>d.same b hb fun h=>h⟩
section
variable {H:Type}{enc:TypeId×Value->H}{P:Program}
theorem Sb {W w' : World}(h:US W w')(may:MemPlace->Prop):W.keptBut w' may:=by
 refine⟨h.os,h.output,fun i a=>?_⟩;rw[h.block i a];generalize W.heap[i]? = o;cases o with
 |none=>trivial
 |some o=>cases o<;>first|exact⟨rfl,rfl,rfl,fun _ _=>rfl⟩ | exact .inr ⟨rfl,rfl⟩ | rfl
theorem QJ {W w' : World}(h:US W w'){p:MemPlace}(hp:p.block<W.heap.size):W.sameAt w' p:=by have hb:RowKit.Below W.heap.size W { w' with tape:=W.tape }:=⟨h.os,rfl,h.output,h.size,fun k hk=>h.block k hk⟩;exact hb.same hp
theorem Gy {W w' : World}(hk:US W w')(hl:laidOutB P=true){sp:Nat->Bool}:∀{ts:List TypeId}{vs:List Value}{ds:List (DataW H)}{ps:List MemPlace},(∀t∈ts,P.readableRec t=true/\t<P.types.size) ->
 (∀p∈ps,p.block<W.heap.size)->(∀p∈ps,sp p.block=true)->DataW.TrodAll enc P W 0 (fun _=>true) true ts vs ds ps->DataW.TrodAll enc P w' 0 sp true ts vs ds ps
 |[],[],[],_,_,_,_,h=>h
 |t::ts,v::vs,d::ds,_,hr,hlt,hs,⟨p,q,h1,h2,e⟩=>by subst e;refine⟨p,q,?_,Gy hk hl (fun t a=>hr t (WH.2 (.inr a))) (fun x hx=>hlt x (Wl _ hx)) (fun x hx=>hs x (Wl _ hx)) h2,rfl⟩;exact WideElems.Trod_stays hl (hr t (by simp)).1 (hr t (by simp)).2 h1 (fun x hx=>QJ hk (hlt x (Wt _ hx))) (fun x hx=>hs x (Wt _ hx))
theorem Rh {f:Func}{s:ChangeSpec}{tb:TypeId}{W W' : World}{args:Array Value}{ds gs:List (DataW H)}{before:List MemPlace}(a:s.vars=[])(hres:f.resultTypes = #[tb])(i:P.underlying tb=some .bool)(hl:laidOutB P=true)
 (d:∀t∈f.params.toList,P.readableRec t=true/\t<P.types.size) (o:DataW.Whole enc P f.params.toList s.vars false W args.toList ds gs before)
 (g:s.fn H ds={ results:=[.lit (.bool true)],args:=ds,vars:=[] }) (hk:US W W'):s.post enc P f false true false false W args (.bool true) W':=by
 have c:∀p∈before,p.block<W.heap.size:=fun p hp=>o.lt p hp;have j:=o;obtain⟨p,q,v,r,rfl,w,hn⟩:=o;rw[a]at r;obtain⟨rfl,rfl⟩:=trodVars_none r;simp only[XF]at c j;have l : ∀sp:Nat->Bool,(∀x∈p,sp x.block=true)->DataW.TrodAll enc P W' 0 sp true f.params.toList args.toList (s.fn H (ds++[])).args p:=fun sp hsp=>by rw[XF,g];exact Gy hk hl d c hsp v
 have hR:∀(b:Nat) (sp:Nat->Bool) (u:Bool),DataW.TrodAll enc P W' b sp u f.resultTypes.toList ((Value.bool true).resultList f.resultTypes.size) (s.fn H (ds++[])).results []:=fun b sp u=>by rw[XF,g,hres];exact⟨[],[],shut_bool i _,rfl,rfl⟩
 have m : ∀sp:Nat->Bool,DataW.TrodVars enc P W' sp s.vars (s.fn H (ds++[])).vars []:=fun sp=>by rw[XF,g,a];rfl
 refine⟨ds,[],p,[],p,[],j,hR _ _ _,l _ (fun x hx=>by simpa using c x hx),m _,Sb hk _,fun _=>?_⟩;refine⟨ok_one hres rfl (by simp[Value.okWide,i,Cell.okWide,Cell.ok]),_,_,([]++p)++[],⟨[]++p,[],trodAll_append (l _ fun _ _=>rfl) (hR _ _ _),m _,rfl,?_,?_⟩,?_⟩
 .intro b off hp;have n : MemPlace.cell b off∈p:=by simpa using hp
  have:=w b off (by simpa using n)
  have hb:=c _ n;simp only[MemPlace.block]at hb;simp only[World.frozen?,hk.block b hb]at this⊢;exact this
 .intro ha
  have:=hn ha
  simpa using this
 intro p' hp _;simpa using hp
end
end Go.AM
namespace Go.AM
open Go.RowKit Go.ChangeShapes Go.Deep
section
variable {H:Type}{enc:TypeId×Value->H}{P:Program}{W:World}
end
end Go.AM
namespace Go.AM
section
variable {S:O7}{P:Program}
theorem Nm {d:Option Nat}{k k' : St->Prop}{Q Q' : M8}(hk:∀s,k s->k' s)(b:∀e s,Q e s->Q' e s)(r:Hi)(s:St)(h:Fd d k Q r s):Fd d k' Q' r s:=by
 cases r with
 |ret a=>exact hk _ h
 |panic x=>exact b _ _ h
theorem Hb (hS:E7 S P){o:Oper}{k k' : St->Prop}{Q Q' : M8}(hk:∀s,k s->k' s)(u:∀e s,Q e s->Q' e s){st:St}(h:wOp S P o k Q st):wOp S P o k' Q' st:=by
 have l:∀d ids f args st,PS S d ids f args st (Fd o.dst k Q)->PS S d ids f args st (Fd o.dst k' Q'):=by rintro d ids f args st ⟨a,ob,h1,g,i,m,n⟩;exact⟨a,ob,h1,g,i,m,hS.monoF _ _ _ _ _ (fun r o ks ⟨q,v⟩=>⟨q,Nm hk u _ _ v⟩) n⟩
 unfold wOp at h⊢;split at h
 .rcases h with⟨as,regs,f',as',h1,g,ids,i⟩ | ⟨j,xs,regs,ys,rest,h1,g,i,m,n,q⟩ | ⟨f',as',c,xs,h1,g,i,m⟩
  .exact .inl ⟨as,regs,f',as',h1,g,ids,l _ _ _ _ _ i⟩
  .exact .inr (.inl ⟨j,xs,regs,ys,rest,h1,g,i,m,n,fun b=>hk _ (q b)⟩)
  exact .inr (.inr ⟨f',as',c,xs,h1,g,i,hS.monoF _ _ _ _ _ (fun r o ks ⟨a,e1,e2,e3⟩=>⟨a,e1,e2,hk _ e3⟩) m⟩)
 .obtain⟨as,regs,t,y,f',h1,g,i,ids,m⟩:=h;exact⟨as,regs,t,y,f',h1,g,i,ids,l _ _ _ _ _ m⟩
 .obtain⟨t,y,h1,g⟩:=h;exact⟨t,y,h1,u _ _ g⟩
 rcases h with⟨out,h1,g,i⟩ | ⟨c,x,h1,g,i⟩
 .exact .inl ⟨out,h1,g,hk _ i⟩
 exact .inr ⟨c,x,h1,g,hk _ i⟩
theorem CZ (hS:E7 S P){all:List Oper}{Q Q' : M8}(a:∀e s,Q e s->Q' e s):∀(rest:List Oper) {st:St},FR S P all rest Q st->FR S P all rest Q' st
 |[],st,h=>a _ _ h
 |o::rest,st,h=>by
  simp only[FR]at h⊢;refine hS.mono _ _ _ (fun t h=>?_) h;split at h
  .exact Hb hS (fun s=>CZ hS a rest) a h
  obtain⟨b,h1,c⟩:=h;refine⟨b,h1,?_⟩;split
  .rename_i hb;rw[Au hb]at c;exact Hb hS (fun s=>CZ hS a rest) a c
  rename_i hb;rw[Ay hb]at c;exact CZ hS a rest c
theorem JS (hS:E7 S P){all:List Oper}{o:Oper}{k k' : St->Prop}{Q Q' : M8}(hk:∀s,k s->k' s)(c:∀e s,Q e s->Q' e s){st:St}(h:IO S P all o k Q st):IO S P all o k' Q' st:=by
 unfold IO at h⊢;refine hS.mono _ _ _ (fun t h=>?_) h;split at h
 .exact Hb hS hk c h
 obtain⟨b,h1,a⟩:=h;refine⟨b,h1,?_⟩;split
 .rename_i hb;rw[Au hb]at a;exact Hb hS hk c a
 rename_i hb;rw[Ay hb]at a;exact hk _ a
theorem Sc (hS:E7 S P){ops:List Oper}{Q:M8}{st:St}(hm:P.follows .mixedOrders=true)(m:Gp ops=true)(h:S.up st fun s=>Rk S P ops Q s):Rk S P ops Q st:=by
 refine⟨hm,m,fun D s=>S.up s fun s'=>∃Inv:(Nat->Bool)->St->Prop,Inv D s' /\
  (∀D i s o,Inv D s->ops[i]? = some o->D i=false->(∀e∈o.after.toList,Bo e=true->D e.on=true) ->
   IO S P ops o (Inv fun j=>if j=i then true else D j) Q s) /\
  ∀D s,Inv D s->(∀i,i<ops.length->D i=true)->S.up s (Q .normal),?_,?_,?_⟩
 .refine hS.mono _ _ _ (fun s hs=>?_) h;obtain⟨_,_,Inv,h1,b,c⟩:=hs;exact⟨Inv,h1,b,c⟩
 .intro D i s o f n g l
  have:S.up s fun s'=>IO S P ops o (fun t=>S.up t fun t'=>∃Inv:(Nat->Bool)->St->Prop,Inv (fun j=>if j=i then true else D j) t' /\
   (∀D i s o,Inv D s->ops[i]? = some o->D i=false->(∀e∈o.after.toList,Bo e=true->D e.on=true) ->
    IO S P ops o (Inv fun j=>if j=i then true else D j) Q s) /\
   ∀D s,Inv D s->(∀i,i<ops.length->D i=true)->S.up s (Q .normal)) Q s':=by
   refine hS.mono _ _ _ (fun s' a=>?_) f;obtain⟨Inv,h1,b,c⟩:=a;exact JS hS (fun t q=>hS.refl _ _ ⟨Inv,q,b,c⟩) (fun _ _ h=>h) (b D i s' o h1 n g l)
  unfold IO at this⊢;exact hS.trans _ _ this
 intro D s f d;refine hS.trans _ _ (hS.mono _ _ _ (fun s' a=>?_) f);obtain⟨Inv,h1,b,c⟩:=a;exact c D s' h1 d
theorem Ky (hS:E7 S P){k k' : St->Prop}{Q Q' : M8}(hk:∀s,k s->k' s)(a:∀e s,Q e s->Q' e s)(e:Hh)(s:St)(h:thn S k Q e s):thn S k' Q' e s:=by
 cases e with
 |normal=>exact hS.mono _ _ _ hk h
 |_=>exact a _ _ h
theorem Pv (hS:E7 S P){g:Nat}{ts:List Nat}{next:St->Prop}{Q Q' : M8}(a:∀e s,Q e s->Q' e s)(e:Hh)(s:St)(h:Bp S g ts next Q e s):Bp S g ts next Q' e s:=by
 cases e with
 |normal=>exact h
 |panic x=>exact h
 |_=>exact hS.mono _ _ _ (fun t ⟨cs,h1,b,c,d⟩=>⟨cs,h1,b,c,a _ _ d⟩) h
theorem W2 (hS:E7 S P):∀(c:Code) {Q Q' : M8},(∀e s,Q e s->Q' e s)->∀{st:St},awp S P c Q st->awp S P c Q' st
 |.skip,Q,Q',hq,st,h=>hq _ _ h
 |.label _,Q,Q',hq,st,h=>hq _ _ h
 |.region _ ops draw,Q,Q',hq,st,h=>by
  unfold awp at h⊢;split
  .rename_i hb;rw[Au hb]at h;obtain⟨h1,j,Inv,n,q,u⟩:=h;exact⟨h1,j,Inv,n,fun D i s o a b c d=>JS hS (fun _ h=>h) hq (q D i s o a b c d),fun D s a b=>hS.mono _ _ _ (fun t=>hq _ t) (u D s a b)⟩
  rename_i hb;rw[Ay hb]at h;exact CZ hS hq _ h
 |.seq a b,Q,Q',hq,st,h=>W2 hS a (Ky hS (fun s=>W2 hS b hq) hq) h
 |.cond c t e,Q,Q',hq,st,h=>by
  obtain⟨b,h1,j⟩:=h;refine⟨b,h1,?_⟩;split
  .rename_i hb;rw[Au hb]at j;exact W2 hS t hq j
  rename_i hb;rw[Ay hb]at j;exact W2 hS e hq j
 |.block id b,Q,Q',hq,st,h=>W2 hS b (fun e s h=>by
  cases e with
  |exit i=>simp only[blk]at h⊢;split at h<;>simp_all
  |_=>exact hq _ _ h) h
 |.loop b,Q,Q',hq,st,h=>by
  obtain⟨X,s,J,m,h1,j⟩:=h;refine⟨X,s,J,m,h1,fun x hx=>W2 hS b (fun e t h=>?_) (j x hx)⟩;cases e with
  |normal=>exact h
  |_=>exact hq _ _ h
 |.scope b,Q,Q',hq,st,h=>W2 hS b (fun e s h=>by
  cases e with
  |goto l=>exact h
  |_=>exact hq _ _ h) h
 |.exit id,Q,Q',hq,st,h=>hq _ _ h
 |.goto l,Q,Q',hq,st,h=>hq _ _ h
 |.ret,Q,Q',hq,st,h=>hq _ _ h
 |.rangeFunc g ps asg body,Q,Q',hq,st,h=>by
  obtain⟨f,first,caps,as,bs,objs,ids,ts,gh,L,I,Fin,h1,j,n,q,u,h6,h7,h8,h9,w,y,z,a0,a1,a2,a3⟩:=h;refine⟨f,first,caps,as,bs,objs,ids,ts,gh,L,I,Fin,h1,j,n,q,u,h6,h7,h8,h9,w,y,z,a0,?_,?_,a3⟩
  .intro ys rest s a b c;refine W2 hS asg (fun e t h=>?_) (a1 ys rest s a b c);cases e with
   |normal=>exact hS.mono _ _ _ (fun t h=>W2 hS body (Pv hS hq) h) h
   |_=>exact h
  intro s r a b c d
  have:=a2 s r a b c d
  cases r with
  |ret v=>exact hq _ _ this
  |panic x=>exact hq _ _ this
 |.refuse _,Q,Q',hq,st,h=>h
theorem Sd (hS:E7 S P){F:M8}(a:∀s,S.up s (F .normal)->F .normal s):∀(K:List It) (s:St),S.up s (kp S P K F .normal)->kp S P K F .normal s
 |[],s,h=>a s h
 |.code c::K,s,h=>hS.trans _ _ (hS.mono _ _ _ (fun t h=>h) h)
 |.blk id::K,s,h=>Sd hS a K s h
 |.lp X s' J m n::K,s,h=>hS.trans _ _ h
 |.mid M::K,s,h=>hS.trans _ _ h
 |.scp::K,s,h=>Sd hS a K s h
theorem UT (hS:E7 S P){F:M8}(a:∀s,S.up s (F .normal)->F .normal s){K:List It}{M:St->Prop}(b:∀t,M t->G S P F (.pop .normal K t))(e:Hh)(s:St)(h:kp S P (.mid M::K) F e s):kp S P K F e s:=by
 cases e with
 |normal=>exact Sd hS a K s (hS.mono _ _ _ b h)
 |_=>exact h
end
end Go.AM
namespace Go.AM
section
variable {S:O7}{P:Program}{F:M8}{K:List It}{st:St}
theorem Ow (hS:E7 S P){all rest:List Oper}{o:Oper}{t:TypeId}{m k:Operand}{ok:Bool}{key:PV}{regs:B5}{j:Nat}{es:List (PV×PV)}{kt e:TypeId}{x:PV}{b:Bool}{fd:Option PV}
 (i:Ah all st.env o=some true) (f:o.op=.lookup t m k ok) (l:CG st.regs (aev st.env k)=some (key,regs)) (hm:aev st.env m=.mref j) (n:A2 regs j=some (.map es))
 (q:tk P t=some (.map kt e)) (hk:Fc P kt key=true) (r:find (IH P kt) key es=some fd) (hx:(match fd with|some x=>some (x,true)|none=>(Gn P e).map fun z=>(z,false))=some (x,b)) (hc:C4 (Ju P kt))
 (hn:G S P F (.ops all rest K (put { st with regs:=regs } o.dst (if ok then .tup [.p x,.bool b]else .p x)))):G S P F (.ops all (o::rest) K st):=by
 refine SR hS (out:=⟨Ju P kt,if ok then .tup [.p x,.bool b]else .p x,regs⟩) i ?_ (fun c a=>by rw[f]at a;cases a) (fun x d=>by rw[f]at d;cases d) hc hn;rw[f];simp only[aop,l,hm,Bm,q,hk,n,r];cases fd with
 |some y=>simp only[VX,We]at hx;obtain⟨rfl,rfl⟩:=hx;rfl
 |none=>
  simp only at hx⊢;cases g:Gn P e with
  |none=>simp[g]at hx
  |some z=>simp only[g,Wf,VX,We]at hx;obtain⟨rfl,rfl⟩:=hx;rfl
theorem Nn (hS:E7 S P){all rest:List Oper}{o:Oper}{t:TypeId}{m k x:Operand}{key y:PV}{regs:B5}{j:Nat}{es es' : List (PV×PV)}{kt e:TypeId}
 (g:Ah all st.env o=some true) (d:o.op=.mapUpdate t m k x) (f:aev st.env k=.p key) (i:CG st.regs (aev st.env x)=some (y,regs)) (hm:aev st.env m=.mref j) (l:A2 regs j=some (.map es))
 (n:tk P t=some (.map kt e)) (hk:Fc P kt (nP key)=true) (q:upd (IH P kt) (nP key) y es=some es') (hc:C4 (Ju P kt))
 (hn:G S P F (.ops all rest K (put { st with regs:=ins j (.map es') regs } o.dst ML))):G S P F (.ops all (o::rest) K st):=by
 refine SR hS (out:=⟨Ju P kt,ML,ins j (.map es') regs⟩) g ?_ (fun c a=>by rw[d]at a;cases a) (fun x b=>by rw[d]at b;cases b) hc hn;rw[d];simp only[aop,i,hm,f,n,hk,l,q]
end
end Go.AM
namespace Go.AM
abbrev Str:=List UInt8
structure Sl (α : Type) where
 n:Nat
 g:Nat -> α
instance {α : Type} [Inhabited α]:Inhabited (Sl α):=⟨⟨0,fun _=>default⟩⟩
namespace Sl
variable {α : Type}
def toList (s:Sl α):List α:=(List.range s.n).map s.g
abbrev nil [Inhabited α]:Sl α:=⟨0,fun _=>default⟩
abbrev rep (n:Nat)(a : α):Sl α:=⟨n,fun _=>a⟩
abbrev sub (s:Sl α)(a b:Nat):Sl α:=⟨b-a,fun i=>s.g (a+i)⟩
abbrev drop (s:Sl α)(a:Nat):Sl α:=⟨s.n-a,fun i=>s.g (a+i)⟩
abbrev take (s:Sl α)(b:Nat):Sl α:=⟨b,s.g⟩
abbrev push (s:Sl α)(a : α):Sl α:=⟨s.n+1,fun i=>if i<s.n then s.g i else a⟩
abbrev app (s t:Sl α):Sl α:=⟨s.n+t.n,fun i=>if i<s.n then s.g i else t.g (i-s.n)⟩
abbrev upd (s:Sl α)(k:Nat)(a : α):Sl α:=⟨s.n,fun i=>if i=k then a else s.g i⟩
abbrev of [Inhabited α](l:List α):Sl α:=⟨l.length,fun i=>l.getD i default⟩
end Sl
abbrev vSl {α : Type}(k:Nat)(c : α -> List PV)(s:Sl α):PV:=.sl false k s.n fun i=>c (s.g i)
abbrev pI (k:IntKind)(n:Int):PV:=.v (.int k n)
abbrev Gz (l:Str)(i:Int):Int:=(((l.getD i.toNat 0).toNat:Nat):Int)
abbrev pN (n:Int):AV:=.p (.v (.int .i64 n))
abbrev pU (n:Int):AV:=.p (.v (.int .u32 n))
abbrev pB (b:Bool):AV:=.p (.bb b)
abbrev E3:PV:=.v (.slice none 0 0)
section
variable {R:Type}
def BV {A:Type}(N:Nat)(body:(A->Option R)->A->Option R):A->Option R:=match N with
 |0=>fun _=>none
 |N+1=>fun a=>body (BV N body) a
variable {A B C D E F G H:Type}
def Eg (N:Nat)(body:(A->B->Option R)->A->B->Option R)(a:A)(b:B):Option R:=BV N (fun c x=>body (fun a b=>c (a,b)) x.1 x.2) (a,b)
def fix3 (N:Nat)(body:(A->B->C->Option R)->A->B->C->Option R)(a:A)(b:B)(c:C):Option R:=BV N (fun d x=>body (fun a b c=>d (a,b,c)) x.1 x.2.1 x.2.2) (a,b,c)
def lt {K:Type}(k:K)(f:K->Option R):Option R:=f k
end
section
variable {R X Y:Type}{r:R}
theorem itT {b:Bool}{x y:Option R}(hb:b=true)(h:(if b then x else y)=some r):x=some r:=by rwa [Au hb]at h
theorem itF {b:Bool}{x y:Option R}(hb:b=false)(h:(if b then x else y)=some r):y=some r:=by rwa [Ay (by simp[hb])]at h
theorem H1 {p:Prop}[Decidable p]{x:Option R}(h:(if p then x else none)=some r):p/\x=some r:=by
 split at h
 .exact⟨by assumption,h⟩
 cases h
theorem B6 {x:Option X}{f:X->Option R}(h:x.bind f=some r):∃a,x=some a/\f a=some r:=XH.1 h
theorem C6 {a b:R}(h:some a=some b):a=b:=Ww h
end
section
variable {S:O7}{P:Program}{F:M8}{K:List It}{st:St}
theorem B2 (hS:E7 S P){n:Nat}{rs:List ResultVar}{Q:Hi->List Obj->List Bool->Prop}(s:St)(h:S.up s (Y6 S P n rs Q .normal)):Y6 S P n rs Q .normal s:=hS.trans _ _ h
theorem UU (hS:E7 S P){b:Code}{R A:Type}{body:(A->Option R)->A->Option R}{N:Nat}{a0:A}{r:R}(h:BV N body a0=some r)(s:A->St)(ids:List (Nat×Nat))(hle:Le ids st (s a0))
 (d:∀(X:Type) (s' : X->St) (J:X->Prop) (m:X->Nat) (n:Nat) (c:A->Option R) (a:A),(∀st ids a,Le ids st (s a)->c a=some r->G S P F (.pop .normal (.lp X s' J m n::K) st))->body c a=some r->G S P F (.code b (.lp X s' J m n::K) (s a))) :
 G S P F (.code (.loop b) K st):=by
 refine Qa hS (X:=Nat×A) (fun x=>s x.2) (fun x=>BV x.1 body x.2=some r) (fun x=>x.1) (N,a0) ids hle h ?_;rintro⟨n,a⟩ hx;cases n with
 |zero=>cases hx
 |succ n=>exact d _ _ _ _ _ (BV n body) a (fun st ids a hle h=>Qb hS (n,a) ids hle h (Nat.lt_succ_self n)) hx
theorem QK (hS:E7 S P){all rest:List Oper}{o:Oper}(t:St)(ids:List (Nat×Nat))(hle:Le ids st t)(h:G S P F (.ops all (o::rest) K t)):G S P F (.ops all (o::rest) K st):=
 MP hS (hS.le ids _ _ _ hle h)
end
theorem pm:(∀b,(true||b)=true)/\(∀b,(b||true)=true)/\(∀b,(false||b)=b)/\(∀b,(b||false)=b)/\(∀b,(true&&b)=b)/\(∀b,(b&&true)=b)/\(∀b,(false&&b)=false)/\(∀b,(b&&false)=false)/\((!true)=false)/\((!false)=true)/\((false=true)=False)/\((true=true)=True):=by refine⟨?_,?_,?_,?_,?_,?_,?_,?_,?_,?_,?_,?_⟩<;>simp
section
variable {regs:B5}{ids:List (Nat×Nat)}
variable {env r:Env}{t:Nat}{a b:AV}{x y:PV}
theorem MI {α : Type}{c : α -> List PV}{n:Nat}{v:Sl α}{f:Nat->List PV}{z cs:List PV}{x : α}(h:∀i,i<n->f i=c (v.g i))(hn:n=v.n)(hx:cs=c x):∀i,i<n+1->V7 n f (B8 z [(0,cs)]) i=c ((v.push x).g i):=by
 subst hn hx;intro i a;show (if i<v.n then f i else B8 z [(0,c x)] (i-v.n))=c (if i<v.n then v.g i else x);split
 .exact h i ‹_›
 obtain rfl:i=v.n:=by omega
 simp[B8]
theorem appL {α : Type}{c : α -> List PV}{n m:Nat}{v w:Sl α}{f g:Nat->List PV}(h:∀i,i<n->f i=c (v.g i))(hn:n=v.n)(h' : ∀i,i<m->g i=c (w.g i))(hm:m=w.n):∀i,i<n+m->V7 n f g i=c ((v.app w).g i):=by
 subst hn hm;intro i a;show (if i<v.n then f i else g (i-v.n))=c (if i<v.n then v.g i else w.g (i-v.n));split
 .exact h i ‹_›
 exact h' _ (by omega)
theorem Uy {α : Type}{c : α -> List PV}{n k:Nat}{v:Sl α}{f:Nat->List PV}{e:Nat->List PV}{x : α}(h:∀i,i<n->f i=c (v.g i))(hx:k<n->e k=c x):∀i,i<n->(fun l=>if l=k then e l else f l) i=c ((v.upd k x).g i):=by
 intro i a;show (if i=k then e i else f i)=c (if i=k then x else v.g i);split
 .subst_vars;exact hx a
 exact h i a
theorem same {n:Nat}{f:Nat->List PV}:∀i,i<n->f i=f i:=fun _ _=>rfl
end
end Go.AM
namespace Go.AM
abbrev cI (k:IntKind)(n:Int):List PV:=[.v (.int k n)]
abbrev cL {α : Type}(k:Nat)(c : α -> List PV)(s:Sl α):List PV:=[vSl k c s]
section
variable {S:O7}{P:Program}{F:M8}{K:List It}{st:St}
end
section
variable {regs:B5}{ids:List (Nat×Nat)}
theorem le_yf {i j:Nat}(h:lk ids j=some i):leA regs ids (.yf i) (.yf j):=by unfold leA;exact⟨i,h,rfl⟩
theorem UV {l m:List AV}(h:leL regs ids l m):leA regs ids (.tup l) (.tup m):=by unfold leA;exact⟨l,rfl,h⟩
theorem UW {l m:List AV}(h:leL regs ids l m):leA regs ids (.agr l) (.agr m):=by unfold leA;exact⟨l,rfl,h⟩
end
end Go.AM
namespace Go.AM
def Ll {κ ν : Type}(kP : κ -> PV)(vP : ν -> PV)(es:List (κ × ν)):List (PV×PV):=es.map fun p=>(kP p.1,vP p.2)
def LY {κ ν : Type}(eq : κ -> κ -> Bool)(k : κ):List (κ × ν)->Option ν
 |[]=>none
 |(a,v)::es=>if eq k a then some v else LY eq k es
def Rg {κ ν : Type}(eq : κ -> κ -> Bool)(k : κ)(v : ν):List (κ × ν)->List (κ × ν)
 |[]=>[(k,v)]
 |(a,x)::es=>if eq k a then (k,v)::es else (a,x)::Rg eq k v es
theorem Da {κ ν : Type}{kP : κ -> PV}{vP : ν -> PV}{cmp:PV->PV->Option Bool}{eq : κ -> κ -> Bool}(hc:∀a b,cmp (kP a) (kP b)=some (eq a b))(k : κ):∀es:List (κ × ν),find cmp (kP k) (Ll kP vP es)=some ((LY eq k es).map vP)
 |[]=>rfl
 |(a,v)::es=>by
  show (match cmp (kP k) (kP a)with|some true=>some (some (vP v))|some false=>find cmp (kP k) (Ll kP vP es)|none=>none)=some ((LY eq k ((a,v)::es)).map vP);rw[hc];simp only[LY];cases h:eq k a
  .simpa using Da hc k es
  rfl
theorem Hc {κ ν : Type}{kP : κ -> PV}{vP : ν -> PV}{cmp:PV->PV->Option Bool}{eq : κ -> κ -> Bool}(hc:∀a b,cmp (kP a) (kP b)=some (eq a b))(k : κ)(x : ν):∀es:List (κ × ν),upd cmp (kP k) (vP x) (Ll kP vP es)=some (Ll kP vP (Rg eq k x es))
 |[]=>rfl
 |(a,v)::es=>by
  show (match cmp (kP k) (kP a)with|some true=>some ((kP k,vP x)::Ll kP vP es)|some false=>(upd cmp (kP k) (vP x) (Ll kP vP es)).map ((kP a,vP v) :: ·)|none=>none)=some (Ll kP vP (Rg eq k x ((a,v)::es)));rw[hc];simp only[Rg];cases h:eq k a
  .simp only[Hc hc k x es,Wf,Br,Wg];rfl
  rfl
abbrev eqS (a b:Str):Bool:=a==b
def VR {X Y:Type}(o:Option X)(a:Y)(f:X->Y):Y:=match o with
 |none=>a
 |some x=>f x
theorem optN {X R:Type}{r:R}{o:Option X}{a:Option R}{f:X->Option R}(b:o=none)(h:VR o a f=some r):a=some r:=by subst b;exact h
theorem optS {X R:Type}{r:R}{o:Option X}{x:X}{a:Option R}{f:X->Option R}(b:o=some x)(h:VR o a f=some r):f x=some r:=by subst b;exact h
section
variable {R T A B C D:Type}
def iter0 (L:List T)(body:Option R->T->Option R)(k:Option R):Option R:=match L with
 |[]=>k
 |t::L=>body (iter0 L body k) t
def Z8 (L:List T)(body:(A->Option R)->T->A->Option R)(k:A->Option R)(a:A):Option R:=match L with
 |[]=>k a
 |t::L=>body (Z8 L body k) t a
end
section
variable {S:O7}{P:Program}{F:M8}{K:List It}{st:St}
theorem TO (hS:E7 S P){g:Operand}{ps:Array Tmp}{asg body:Code}{f:FuncId}{first caps as bs:List AV}{objs:List Obj}{R T A:Type}{enc:T->List PV}{L:List T}{mb:(A->Option R)->T->A->Option R}{mk:A->Option R}{a0:A}{r:R}
 (ids ts:List Nat) (gh:Nat) (s:A->St) (idl:List (Nat×Nat)) (h:Z8 L mb mk a0=some r) (y:EI S f as bs objs (L.map enc))
 (hp:Bn st.env g=some (f,first,caps)) (j:∃fn,P.funcs[f]? = some fn/\fn.body.isSome=true/\(fn.name == "runtime.NumGoroutine")=false) (l:H6 ids st.regs ids=some objs) (m:BM objs=true) (z:E6 ids=true) (n:AD ids first=some as) (o:AD ids caps=some bs) (q:objs.length=ids.length)
 (u:Nat.blt gh 1000=true) (v:A2 st.regs gh=none) (w:Nat.blt ids.length 1000=true) (x:E6 ts=true) (d:∀t:T,(enc t).length=ps.size)
 (hle:Le idl ⟨P7 ts (ts.map (get st.env)),I9 ids (ids.map fun _=>false) st.regs⟩ (s a0)) (hk:∀a,(s a).env.map (·.1)=ts) (hn:∀a,A2 (s a).regs gh=none)
 (b:∀(t:T) (next:St->Prop) (c:A->Option R) (a:A),(∀(st st1:St) (cs:List AV) (idl:List (Nat×Nat)) (a:A),Le idl st st1->A2 st1.regs gh=some (.ghost cs)->cs.length=ts.length->A2 (del gh st1.regs) gh=none->(⟨P7 ts cs,del gh st1.regs⟩:St)=s a->c a=some r->G S P (Bp S gh ts next (kp S P K F)) (.pop .normal [] st)) ->
  mb c t a=some r->G S P (W1 S P body gh ts next (kp S P K F)) (.code asg [] ⟨Fe ps.toList (enc t) (s a).env,ins gh (.ghost ((s a).env.map (·.2))) (s a).regs⟩))
 (i:∀a,mk a=some r->G S P F (.pop .normal K (s a))):G S P F (.code (.rangeFunc g ps asg body) K st):=by
 refine QI hS ids ts gh (L.map enc) s (fun rest a=>∃L',rest=L'.map enc/\Z8 L' mb mk a=some r) a0 idl hp j l m z n o q (by simpa[Xy]using u) v (by simpa[Xy]using w) x (fun ys hy=>?_) y hle ⟨L,rfl,h⟩ hk hn ?_ ?_
 .obtain⟨t,_,rfl⟩:=XC.1 hy;exact d t
 .rintro ys rest a ⟨L',hL,hx⟩;cases L' with
  |nil=>cases hL
  |cons t L'=>simp only[WA,Xd]at hL;obtain⟨rfl,rfl⟩:=hL;refine b t _ (Z8 L' mb mk) a (fun st st1 cs idl a hle h1 h2 h3 h4 h5=>?_) hx;exact Nl hS st1 a idl hle h1 h2 h3 h4 ⟨L',rfl,h5⟩
 rintro a ⟨L',hL,hx⟩;cases L' with
 |nil=>exact i a hx
 |cons t L'=>cases hL
theorem Se (hS:E7 S P){g:Operand}{ps:Array Tmp}{asg body:Code}{f:FuncId}{first caps as bs:List AV}{objs:List Obj}{R T A:Type}{enc:T->List PV}{L:List T}{mb:(A->Option R)->T->A->Option R}{mk:A->Option R}{a0:A}{r0:R}
 (ids ts:List Nat) (gh:Nat) (s:A->R->St) (idl:List (Nat×Nat)) (h:Z8 L mb mk a0=some r0) (z:EI S f as bs objs (L.map enc))
 (hp:Bn st.env g=some (f,first,caps)) (j:∃fn,P.funcs[f]? = some fn/\fn.body.isSome=true/\(fn.name == "runtime.NumGoroutine")=false) (l:H6 ids st.regs ids=some objs) (m:BM objs=true) (hd:E6 ids=true) (n:AD ids first=some as) (o:AD ids caps=some bs) (q:objs.length=ids.length)
 (u:Nat.blt gh 1000=true) (v:A2 st.regs gh=none) (w:Nat.blt ids.length 1000=true) (y:E6 ts=true) (d:∀t:T,(enc t).length=ps.size)
 (hle:Le idl ⟨P7 ts (ts.map (get st.env)),I9 ids (ids.map fun _=>false) st.regs⟩ (s a0 r0)) (hk:∀a r,(s a r).env.map (·.1)=ts) (hn:∀a r,A2 (s a r).regs gh=none)
 (b:∀(t:T) (next:St->Prop) (c:A->Option R) (a:A) (r:R),(∀(st st1:St) (cs:List AV) (idl:List (Nat×Nat)) (a:A) (r:R),Le idl st st1->A2 st1.regs gh=some (.ghost cs)->cs.length=ts.length->A2 (del gh st1.regs) gh=none->(⟨P7 ts cs,del gh st1.regs⟩:St)=s a r->c a=some r->G S P (Bp S gh ts next (kp S P K F)) (.pop .normal [] st)) ->
  mb c t a=some r->G S P (W1 S P body gh ts next (kp S P K F)) (.code asg [] ⟨Fe ps.toList (enc t) (s a r).env,ins gh (.ghost ((s a r).env.map (·.2))) (s a r).regs⟩))
 (i:∀a r,mk a=some r->G S P F (.pop .normal K (s a r))):G S P F (.code (.rangeFunc g ps asg body) K st):=by
 refine QI hS ids ts gh (L.map enc) (fun x:A×R=>s x.1 x.2) (fun rest x=>∃L',rest=L'.map enc/\Z8 L' mb mk x.1=some x.2) (a0,r0) idl hp j l m hd n o q (by simpa[Xy]using u) v (by simpa[Xy]using w) y (fun ys hy=>?_) z hle ⟨L,rfl,h⟩ (fun x=>hk x.1 x.2) (fun x=>hn x.1 x.2) ?_ ?_
 .obtain⟨t,_,rfl⟩:=XC.1 hy;exact d t
 .rintro ys rest ⟨a,r⟩ ⟨L',hL,hx⟩;cases L' with
  |nil=>cases hL
  |cons t L'=>simp only[WA,Xd]at hL;obtain⟨rfl,rfl⟩:=hL;refine b t _ (Z8 L' mb mk) a r (fun st st1 cs idl a r hle h1 h2 h3 h4 h5=>?_) hx;exact Nl hS st1 (a,r) idl hle h1 h2 h3 h4 ⟨L',rfl,h5⟩
 rintro⟨a,r⟩ ⟨L',hL,hx⟩;cases L' with
 |nil=>exact i a r hx
 |cons t L'=>cases hL
end
end Go.AM
namespace Go.AM
section
variable {S:O7}{P:Program}{all:List Oper}{k:Env->B5->Prop}
end
end Go.AM
namespace Go.AM
section
variable (P:Program)
def stp (g:Cfg):Cfg:=(run P none 400 [] g).cfg
def cnd (g:Cfg):List Prop:=(run P none 400 [] g).conds
def EY (d:Nat)(g:Cfg):Cfg:=(run P (some d) 400 [] g).cfg
def UX (d:Nat)(g:Cfg):List Prop:=(run P (some d) 400 [] g).conds
def Cfg.st:Cfg->St
 |.code _ _ s=>s
 |.ops _ _ _ s=>s
 |.pop _ _ s=>s
def Cfg.k:Cfg->List It
 |.code _ K _=>K
 |.ops _ _ K _=>K
 |.pop _ K _=>K
def mkO {R:Type _}(env:Env)(regs:B5)(κ : Env->B5->R):R:=fE env fun env=>fR regs fun regs=>κ env regs
theorem Db {R:Type _}(env:Env)(regs:B5)(κ : Env->B5->R):mkO env regs κ = κ env regs:=by simp only[mkO,fE_eq,Tn]
def SZ {R:Type _}(d:Option Nat)(a:AV)(env:Env)(regs:B5)(κ : St->R):R:=match d with
 |some d=>mkO (ins d a env) regs fun env regs=>κ ⟨env,regs⟩
 |none=>mkO env regs fun env regs=>κ ⟨env,regs⟩
theorem Gd {R:Type _}(d:Option Nat)(a:AV)(env:Env)(regs:B5)(κ : St->R):SZ d a env regs κ = κ (put ⟨env,regs⟩ d a):=by cases d<;>simp only[SZ,Db,put]
def Sf:Cfg->Option Bool
 |.code (.cond c _ _) _ st=>match aev st.env c with
  |.p (.bb b)=>some b
  |_=>none
 |_=>none
def TP:Cfg->Cfg
 |.code (.cond _ t _) K st=>.code t K st
 |g=>g
def TQ:Cfg->Cfg
 |.code (.cond _ _ e) K st=>.code e K st
 |g=>g
def Ox:Cfg->Option Bool
 |.ops all (o::_) _ st=>match o.guard with
  |some (j,_)=>match VM all j with
   |some d=>match get st.env d with
    |.p (.bb b)=>some b
    |_=>none
   |none=>none
  |none=>none
 |_=>none
def HK (b:Bool):Cfg->Cfg
 |.ops all (o::rest) K st=>match o.guard with
  |some (j,_)=>match VM all j with
   |some d=>SZ (some d) (.p (.v (.bool b))) st.env st.regs fun st=>.ops all (o::rest) K st
   |none=>.ops all (o::rest) K st
  |none=>.ops all (o::rest) K st
 |g=>g
def Pw (ids:List Nat):Cfg->Option (FuncId×List AV×List Obj)
 |.ops all (o::_) _ st=>match Ah all st.env o,o.op with
  |some true,.call c=>match c.callee with
   |.value f=>match II st.regs (c.args.toList.map (aev st.env))with
    |some (as,regs)=>match MG st.env f as with
     |some (fn,as')=>match AD ids as',H6 ids regs ids with
      |some a,some ob=>if E6 ids&&BM ob then some (fn,a,ob)else none
      |_,_=>none
     |none=>none
    |none=>none
   |_=>none
  |_,_=>none
 |_=>none
def Px (ids:List Nat)(ks:List Bool)(n:Nat):Cfg->Bool
 |.ops _ (o::_) _ st=>match o.op with
  |.call c=>match II st.regs (c.args.toList.map (aev st.env))with
   |some (_,regs)=>Z6 regs ids ks (o.dst.getD 0) n
   |none=>false
  |_=>false
 |_=>false
def Sg (ids:List Nat)(ks:List Bool)(r:AV)(objs' : List Obj):Cfg->Cfg
 |.ops all (o::rest) K st=>match o.op with
  |.call c=>match II st.regs (c.args.toList.map (aev st.env))with
   |some (_,regs)=>SZ o.dst (unA (H9 (o.dst.getD 0) ids ks objs'.length) r) st.env
    (MM (H9 (o.dst.getD 0) ids ks objs'.length) (H9 (o.dst.getD 0) ids ks objs'.length) objs' (I9 ids ks regs)) fun st=>.ops all rest K st
   |none=>.ops all (o::rest) K st
  |_=>.ops all (o::rest) K st
 |g=>g
structure LookI where
 kt:TypeId
 e:TypeId
 key:PV
 es:List (PV×PV)
def TR:Cfg->Option LookI
 |.ops all (o::_) _ st=>match Ah all st.env o,o.op with
  |some true,.lookup t m k _=>match CG st.regs (aev st.env k),aev st.env m with
   |some (key,regs),.mref j=>match A2 regs j,tk P t with
    |some (.map es),some (.map kt e)=>if Fc P kt key then some ⟨kt,e,key,es⟩else none
    |_,_=>none
   |_,_=>none
  |_,_=>none
 |_=>none
def UY (e:TypeId):Option PV->Option (PV×Bool)
 |some x=>some (x,true)
 |none=>(Gn P e).map fun z=>(z,false)
def TT (x:PV)(b:Bool):Cfg->Cfg
 |.ops all (o::rest) K st=>match o.op with
  |.lookup _ _ k ok=>match CG st.regs (aev st.env k)with
   |some (_,regs)=>SZ o.dst (if ok then .tup [.p x,.bool b]else .p x) st.env regs fun st=>.ops all rest K st
   |none=>.ops all (o::rest) K st
  |_=>.ops all (o::rest) K st
 |g=>g
def updE:Cfg->Option (TypeId×PV×PV×List (PV×PV))
 |.ops all (o::_) _ st=>match Ah all st.env o,o.op with
  |some true,.mapUpdate t m k x=>match aev st.env k,aev st.env m,CG st.regs (aev st.env x)with
   |.p key,.mref j,some (y,regs)=>match A2 regs j,tk P t with
    |some (.map es),some (.map kt _)=>if Fc P kt (nP key) then some (kt,nP key,y,es)else none
    |_,_=>none
   |_,_,_=>none
  |_,_=>none
 |_=>none
def updK (es' : List (PV×PV)):Cfg->Cfg
 |.ops all (o::rest) K st=>match o.op with
  |.mapUpdate _ m _ x=>match aev st.env m,CG st.regs (aev st.env x)with
   |.mref j,some (_,regs)=>SZ o.dst ML st.env (ins j (.map es') regs) fun st=>.ops all rest K st
   |_,_=>.ops all (o::rest) K st
  |_=>.ops all (o::rest) K st
 |g=>g
def Fq:Cfg->Bool
 |.code (.loop _) _ _=>true
 |_=>false
def LZ:Cfg->Code
 |.code (.loop b) _ _=>b
 |_=>.skip
def popSt:Cfg->Option St
 |.pop .normal _ st=>some st
 |_=>none
def Ma (M:It):Nat->List It->List It
 |0,K=>M::K
 |n+1,i::K=>i::Ma M n K
 |_+1,[]=>[M]
def UZ (n:Nat)(M:St->Prop):Cfg->Cfg
 |.code c K st=>.code c (Ma (.mid M) n K) st
 |.ops all rest K st=>.ops all rest (Ma (.mid M) n K) st
 |.pop e K st=>.pop e (Ma (.mid M) n K) st
def EJ:Cfg->Bool
 |.ops _ (_::_) _ _=>true
 |_=>false
def opsS (st:St):Cfg->Cfg
 |.ops all rest K _=>.ops all rest K st
 |g=>g
def TU:Cfg->Option St
 |.pop .ret [] st=>some st
 |.pop .normal [] st=>some st
 |_=>none
inductive Leaf where
 |eq (x y:PV)
 |fn (n m:Nat) (f g:Nat->List PV)
 |mp (x y:List (PV×PV))
 |yl (x y:List (List PV)) (b c:Bool)
 |nt (a b:Nat)
 |ob (n:Nat) (f g:Nat->Obj)
inductive LV where
 |eq (x:PV)
 |fn (n:Nat) (f:Nat->List PV)
 |mp (x:List (PV×PV))
 |yl (x:List (List PV)) (b:Bool)
 |nt (a:Nat)
 |ob (f:Nat->Obj)
def Leaf.src:Leaf->LV
 |.eq x _=>.eq x
 |.fn n _ f _=>.fn n f
 |.mp x _=>.mp x
 |.yl x _ b _=>.yl x b
 |.nt a _=>.nt a
 |.ob _ f _=>.ob f
def Leaf.tgt:Leaf->LV
 |.eq _ y=>.eq y
 |.fn _ m _ g=>.fn m g
 |.mp _ y=>.mp y
 |.yl _ y _ c=>.yl y c
 |.nt _ b=>.nt b
 |.ob _ _ g=>.ob g
def Leaf.ok:Leaf->Prop
 |.eq x y=>x=y
 |.fn n m f g=>n=m/\∀i,i<n->f i=g i
 |.mp x y=>x=y
 |.yl x y b c=>x=y/\b=c
 |.nt a b=>a=b
 |.ob n f g=>∀i,i<n->f i=g i
theorem Leaf.ok_of {l:Leaf}(h:l.src=l.tgt):l.ok:=by
 cases l with
 |eq x y=>simp only[Leaf.src,Leaf.tgt,LV.eq.injEq]at h;exact h
 |fn n m f g=>simp only[Leaf.src,Leaf.tgt,LV.fn.injEq]at h;obtain⟨rfl,rfl⟩:=h;exact⟨rfl,fun _ _=>rfl⟩
 |mp x y=>simp only[Leaf.src,Leaf.tgt,LV.mp.injEq]at h;exact h
 |yl x y b c=>simp only[Leaf.src,Leaf.tgt,LV.yl.injEq]at h;exact h
 |nt a b=>simp only[Leaf.src,Leaf.tgt,LV.nt.injEq]at h;exact h
 |ob n f g=>simp only[Leaf.src,Leaf.tgt,LV.ob.injEq]at h;subst h;exact fun _ _=>rfl
def TV:PV->PV->Leaf
 |.v (.bool b),.bb c=>.eq (.bb b) (.bb c)
 |.v (.slice none 0 0),.sl false _ n f=>.fn 0 n f f
 |.sl nn k n f,.sl false l m g=>if k=l then .fn n m f g else .eq (.sl nn k n f) (.sl false l m g)
 |x,y=>.eq x y
mutual
def Fr (regs:B5)(ids:List (Nat×Nat))(a b:AV):Option (List Leaf):=
 match b with
 |.top=>some []
 |.p y=>match viewP regs a with
  |some x=>some [TV x y]
  |none=>none
 |.reg j off=>match a with | .reg i off'=>if lk ids j=some i/\off=off' then some []else none|_=>none
 |.vec j=>match a with
  |.vec i=>if lk ids j=some i then some []else none
  |.p (.v (.slice none 0 0))=>if lk ids j=none then some []else none
  |_=>none
 |.vecp j n=>match a with | .vecp i m=>if lk ids j=some i/\n=m then some []else none|_=>none
 |.elt j k n off=>match a with | .elt i k' n' off'=>if lk ids j=some i/\k=k' /\ n=n' /\ off=off' then some []else none|_=>none
 |.mref j=>match a with | .mref i=>if lk ids j=some i then some []else none|_=>none
 |.yf j=>match a with | .yf i=>if lk ids j=some i then some []else none|_=>none
 |.clo f x y=>match a with
  |.clo f' x' y'=>match IS regs ids x' x,IS regs ids y' y with|some l,some m=>some (.nt f' f::l++m)|_,_=>none
  |_=>none
 |.tup l=>match a with | .tup l'=>IS regs ids l' l|_=>none
 |.agr l=>match a with | .agr l'=>IS regs ids l' l|_=>none
def IS (regs:B5)(ids:List (Nat×Nat))(a b:List AV):Option (List Leaf):=
 match b with
 |[]=>match a with | []=>some [] | _=>none
 |y::s=>match a with
  |x::r=>match Fr regs ids x y,IS regs ids r s with|some l,some m=>some (l++m)|_,_=>none
  |[]=>none
end
def Sh (regs:B5)(ids:List (Nat×Nat))(env:Env):Env->Option (List Leaf)
 |[]=>some []
 |(t,b)::r=>match Fr regs ids (get env t) b,Sh regs ids env r with|some l,some m=>some (l++m)|_,_=>none
def IT (regs:B5)(ids:List (Nat×Nat))(o p:Obj):Option (List Leaf):=
 match p with
 |.cells cs=>match o with | .cells cs'=>IS regs ids cs' cs|_=>none
 |.vec e k n f vw=>match o with
  |.vec e' k' m g vw'=>if e=e' /\ k=k' /\ (vw' = true->vw=true)then some [.fn m n g f]else none
  |_=>none
 |.map es=>match o with | .map es'=>some [.mp es' es] | _=>none
 |.arr n f=>match o with | .arr m g=>some [.fn m n (fun i=>[g i]) (fun i=>[f i])] | _=>none
 |.ghost cs=>match o with | .ghost cs'=>IS regs ids cs' cs|_=>none
 |.yld r b=>match o with | .yld r' b'=>some [.yl r' r b' b] | _=>none
 |.fam e n jr x=>match o with
  |.fam e' m jr' x'=>if e=e' /\ lk ids jr=some jr' then (match x,x' with
   |none,none=>some [.nt m n]
   |some (i,a),some (i',a')=>match nov a' a,Fr regs ids a' a with
    |true,some l=>some (.nt m n :: .nt i' i::l)
    |_,_=>none
   |_,_=>none)else none
  |_=>none
 |.rows n g=>match o with | .rows m g'=>some [.nt m n,.ob n g' g] | _=>none
 |.dead=>some []
def Si (regs:B5)(ids:List (Nat×Nat)):B5->Option (List Leaf)
 |[]=>some []
 |(j,p)::r=>match (match lk ids j with
  |some i=>match A2 regs i with
   |some o=>IT regs ids o p
   |none=>none
  |none=>match p with
   |.vec _ _ n f _=>some [.fn 0 n f f]
   |_=>none:Option (List Leaf)),Si regs ids r with
  |some l,some m=>some (l++m)
  |_,_=>none
def leK (ids:List (Nat×Nat))(s t:St):Option (List Leaf):=
 if (wf t&&E6 (ids.map (·.2))&&OQ ids&&Jw ids t.regs&&Gq ids (Rl s.env t.env++Fg ids s.regs t.regs) t.regs) then
  match Sh s.regs ids s.env t.env,Si s.regs ids t.regs with
  |some l,some m=>some (l++m)
  |_,_=>none
 else none
theorem Sj {x y:PV}(h:(TV x y).ok):leP x y:=by
 unfold TV at h;split at h
 .simp only[Leaf.ok,PV.bb.injEq]at h;subst h;exact .inr (.inr (.inr (.inl ⟨_,rfl,rfl⟩)))
 .obtain⟨rfl,_⟩:=h;exact .inr (.inr (.inl ⟨_,_,rfl,rfl⟩))
 .split at h
  .rename_i hk;subst hk;obtain⟨rfl,h⟩:=h;exact .inr (.inl ⟨_,_,_,_,_,rfl,rfl,h⟩)
  exact .inl h
 exact .inl h
theorem HL {l m:List Leaf}(h:∀x∈l++m,x.ok):(∀x∈l,x.ok)/\∀x∈m,x.ok:=
 ⟨fun x hx=>h x (Wt _ hx),fun x hx=>h x (Wl _ hx)⟩
mutual
theorem Kz {regs:B5}{ids:List (Nat×Nat)}{a:AV}(b:AV){L:List Leaf}(h:Fr regs ids a b=some L)(hL:∀x∈L,x.ok):leA regs ids a b:=by
 cases b with
 |top=>unfold leA;trivial
 |p y=>
  unfold Fr at h;split at h
  .rename_i x hx;cases h;unfold leA;exact⟨x,hx,Sj (hL _ (by simp))⟩
  cases h
 |reg j off=>
  unfold Fr at h;split at h
  .split at h
   .rename_i c;obtain⟨h1,rfl⟩:=c;exact UH h1
   cases h
  cases h
 |vec j=>
  unfold Fr at h;split at h
  .split at h
   .rename_i h1;exact UG h1
   cases h
  .split at h
   .rename_i h1;exact Tr h1
   cases h
  cases h
 |vecp j n=>
  unfold Fr at h;split at h
  .split at h
   .rename_i c;obtain⟨h1,rfl⟩:=c;unfold leA;exact⟨_,h1,rfl⟩
   cases h
  cases h
 |elt j k n off=>
  unfold Fr at h;split at h
  .split at h
   .rename_i c;obtain⟨h1,rfl,rfl,rfl⟩:=c;unfold leA;exact⟨_,h1,rfl⟩
   cases h
  cases h
 |mref j=>
  unfold Fr at h;split at h
  .split at h
   .rename_i h1;exact Ts h1
   cases h
  cases h
 |yf j=>
  unfold Fr at h;split at h
  .split at h
   .rename_i h1;exact le_yf h1
   cases h
  cases h
 |clo f x y=>
  unfold Fr at h;split at h
  .split at h
   .rename_i l m h1 g;cases h;have d:=hL _ (Xg ..);simp only[Leaf.ok]at d;subst d;obtain⟨i,o⟩:=HL fun x hx=>hL x (Wr _ hx);exact UI (Cf x h1 i) (Cf y g o)
   cases h
  cases h
 |tup l=>
  unfold Fr at h;split at h
  .exact UV (Cf l h hL)
  cases h
 |agr l=>
  unfold Fr at h;split at h
  .exact UW (Cf l h hL)
  cases h
theorem Cf {regs:B5}{ids:List (Nat×Nat)}{a:List AV}(b:List AV){L:List Leaf}(h:IS regs ids a b=some L)(hL:∀x∈L,x.ok):leL regs ids a b:=by
 cases b with
 |nil=>
  unfold IS at h;split at h
  .exact Tt
  cases h
 |cons y s=>
  unfold IS at h;split at h
  .split at h
   .rename_i l m h1 c;cases h;obtain⟨d,f⟩:=HL hL;exact Rr (Kz y h1 d) (Cf s c f)
   cases h
  cases h
end
theorem Oy {regs:B5}{ids:List (Nat×Nat)}{env:Env}:∀(t:Env) {L:List Leaf},Sh regs ids env t=some L->(∀x∈L,x.ok)->PX regs ids env t
 |[],_,_,_=>trivial
 |(t,b)::r,L,h,hL=>by
  simp only[Sh]at h;split at h
  .rename_i l m h1 a;cases h;obtain⟨c,d⟩:=HL hL;exact⟨Kz b h1 c,Oy r a d⟩
  cases h
theorem Sk {regs:B5}{ids:List (Nat×Nat)}{o p:Obj}{L:List Leaf}(h:IT regs ids o p=some L)(hL:∀x∈L,x.ok):leO regs ids o p:=by
 cases p with
 |cells cs=>
  simp only[IT]at h;split at h
  .exact Rs (Cf cs h hL)
  cases h
 |vec e k n f vw=>
  simp only[IT]at h;split at h
  .split at h
   .rename_i d;obtain⟨rfl,rfl,j⟩:=d;cases h;obtain⟨rfl,h1⟩:=hL _ (Xw.2 rfl);exact⟨_,_,rfl,h1,j⟩
   cases h
  cases h
 |map es=>
  simp only[IT]at h;split at h
  .cases h
   have:=hL _ (Xw.2 rfl)
   simp only[Leaf.ok]at this;subst this;rfl
  cases h
 |arr n f=>
  simp only[IT]at h;split at h
  .cases h;obtain⟨rfl,h1⟩:=hL _ (Xw.2 rfl);exact⟨_,rfl,fun i l=>by simpa using h1 i l⟩
  cases h
 |ghost cs=>
  simp only[IT]at h;split at h
  .exact⟨_,rfl,Cf cs h hL⟩
  cases h
 |yld r b=>
  simp only[IT]at h;split at h
  .cases h;obtain⟨rfl,rfl⟩:=hL _ (Xw.2 rfl);rfl
  cases h
 |fam e n jr x=>
  simp only[IT]at h;split at h
  .split at h
   .rename_i m;obtain⟨rfl,c⟩:=m;split at h
    .cases h;have a:=hL _ (Xg ..);simp only[Leaf.ok]at a;subst a;exact⟨_,_,rfl,c,rfl⟩
    .split at h
     .rename_i hn hl;cases h;have a:=hL _ (Xg ..);have h1:=hL _ (Wr _ (Xg ..));simp only[Leaf.ok]at a h1;subst a h1;exact⟨_,_,rfl,c,_,rfl,hn,Kz _ hl fun x hx=>hL x (by simp[hx])⟩
     cases h
    cases h
   cases h
  cases h
 |rows n g=>
  simp only[IT]at h;split at h
  .cases h;have a:=hL _ (Xg ..);simp only[Leaf.ok]at a;subst a;exact⟨_,rfl,hL (.ob _ _ _) (by simp)⟩
  cases h
 |dead=>trivial
theorem Oz {regs:B5}{ids:List (Nat×Nat)}:∀(t:B5) {L:List Leaf},Si regs ids t=some L->(∀x∈L,x.ok)->Lr regs ids t
 |[],_,_,_=>trivial
 |(j,p)::r,L,h,hL=>by
  simp only[Si]at h;split at h
  .rename_i l m h1 c;cases h;obtain⟨b,d⟩:=HL hL;refine⟨?_,Oz r c d⟩;split at h1
   .rename_i i a;split at h1
    .rename_i o f;exact .inl ⟨i,o,a,f,Sk h1 b⟩
    cases h1
   rename_i a;split at h1
   .cases h1;obtain⟨rfl,_⟩:=b _ (Xw.2 rfl);exact .inr ⟨a,_,_,_,_,rfl⟩
   cases h1
  cases h
theorem Ta {ids:List (Nat×Nat)}{s t:St}{L:List Leaf}(h:leK ids s t=some L)(hL:∀x∈L,x.ok):Le ids s t:=by
 unfold leK at h;split at h
 .rename_i a;split at h
  .rename_i l m h1 b;cases h;obtain⟨c,d⟩:=HL hL;exact le_mk a (Oy _ h1 c) (Oz _ b d)
  cases h
 cases h
theorem kle {ids:List (Nat×Nat)}{s t:St}(h:(leK ids s t).map (·.map Leaf.src)=(leK ids s t).map (·.map Leaf.tgt):=by kernel_rfl)(h1:(leK ids s t).isSome=true:=by kernel_rfl):Le ids s t:=by
 obtain⟨L,hL⟩:=Wj.1 h1;rw[hL]at h;simp only[Wf,VX]at h;refine Ta hL fun x hx=>?_;obtain⟨i,a,rfl⟩:=Xo.1 hx
 have:=congrArg (·[i]?) h
 simp only[Wb,VZ a,Wf,VX]at this;exact Leaf.ok_of this
def Va (is:List Nat)(f:Leaf->LV)(L:List Leaf):List (Option LV):=L.zipIdx.map fun q=>if is.contains q.2 then none else some (f q.1)
theorem kleR {ids:List (Nat×Nat)}{s t:St}(rs:List (Nat×Leaf))(d:∀q∈rs,q.2.ok)(h:(leK ids s t).map (Va (rs.map (·.1)) Leaf.src)=(leK ids s t).map (Va (rs.map (·.1)) Leaf.tgt):=by kernel_rfl)
 (a:(leK ids s t).map (fun L=>rs.map fun q=>L[q.1]?)=some (rs.map fun q=>some q.2):=by kernel_rfl):Le ids s t:=by
 cases hL:leK ids s t with
 |none=>rw[hL]at a;cases a
 |some L=>
  rw[hL]at h a;simp only[Wf,VX]at h a;refine Ta hL fun x hx=>?_;obtain⟨i,b,rfl⟩:=Xo.1 hx;by_cases hm:(rs.map (·.1)).contains i=true
  .simp only[WM,decide_eq_true_eq,XC]at hm;obtain⟨q,c,rfl⟩:=hm;obtain⟨k,hk,rfl⟩:=Xo.1 c
   have:=congrArg (·[k]?) a
   simp only[Wb,VZ hk,Wf,VX,VZ b]at this;rw[this];exact d _ c
  have:=congrArg (·[i]?) h
  simp only[Va,Wb,List.getElem?_zipIdx,VZ b,Wf,WG,hm,VX]at this;exact Leaf.ok_of (by simpa using this)
end
section
variable {P:Program}
variable {S:O7}{F:M8}{g:Cfg}{pr:Prop}
theorem Cg (hS:E7 S P)(hc:pr)(h:G S P F (stp P g))(hp:pr=C4 (cnd P g):=by kernel_rfl):G S P F g:=
 (Ez (F:=F) hS 400 [] g (by subst hp;exact hc)).2 h
theorem Vb (hS:E7 S P)(hc:pr){b:Bool}(a:b=true->G S P F (TP (stp P g)))(c:b=false->G S P F (TQ (stp P g)))(hp:pr=C4 (cnd P g):=by kernel_rfl)(hb:Sf (stp P g)=some b:=by kernel_rfl):G S P F g:=by
 refine Cg hS hc ?_ hp;generalize stp P g=g' at hb a c;unfold Sf at hb;split at hb
 .split at hb
  .rename_i hc;cases hb;exact UE hc a c
  cases hb
 cases hb
theorem TW (hS:E7 S P)(hc:pr){b:Bool}(a:b=true->G S P F (HK true (stp P g)))(c:b=false->G S P F (HK false (stp P g)))(hp:pr=C4 (cnd P g):=by kernel_rfl)(hb:Ox (stp P g)=some b:=by kernel_rfl):G S P F g:=by
 refine Cg hS hc ?_ hp;generalize stp P g=g' at hb a c;unfold Ox at hb;split at hb
 .split at hb
  .rename_i f;split at hb
   .rename_i i;split at hb
    .rename_i d;cases hb;simp only[HK,f,i,Gd,put]at a c;exact Tp hS f i d a c
    cases hb
   cases hb
  cases hb
 cases hb
theorem Vc (hS:E7 S P)(ids:List Nat)(hc:pr){fn:FuncId}{args:List AV}{objs objs' : List Obj}{r:AV}{ks:List Bool}(i:FunO S fn args objs r objs' ks)
 (hk:G S P F (Sg ids ks r objs' (stp P g))) (hp:pr=C4 (cnd P g):=by kernel_rfl) (a:Pw ids (stp P g)=some (fn,args,objs):=by kernel_rfl) (hn:Px ids ks objs'.length (stp P g)=true:=by kernel_rfl):G S P F g:=by
 refine Cg hS hc ?_ hp;generalize stp P g=g' at a hn hk;unfold Pw at a;split at a
 .split at a
  .rename_i j f;split at a
   .rename_i c;split at a
    .rename_i ha;split at a
     .rename_i l;split at a
      .rename_i m d;split at a
       .rename_i b;cases a;simp only[Wa]at b;simp only[Sg,Px,f,ha,Gd]at hk hn;exact Tq hS ids j f c ha l m d i b.1 b.2 hn hk
       cases a
      cases a
     cases a
    cases a
   cases a
  cases a
 cases a
theorem Sm (hS:E7 S P)(hc:pr){kt e:TypeId}{key:PV}{es:List (PV×PV)}{x:PV}{b:Bool}{fd:Option PV}
 (j:find (IH P kt) key es=some fd) (c:C4 (Ju P kt))
 (hk:G S P F (TT x b (stp P g))) (hp:pr=C4 (cnd P g):=by kernel_rfl) (a:TR P (stp P g)=some ⟨kt,e,key,es⟩:=by kernel_rfl) (hx:UY P e fd=some (x,b):=by kernel_rfl):G S P F g:=by
 refine Cg hS hc ?_ hp;generalize stp P g=g' at a hk;unfold TR at a;split at a
 .split at a
  .rename_i l f;split at a
   .rename_i i hm;split at a
    .rename_i m n;split at a
     .rename_i d;simp only[VX,LookI.mk.injEq]at a;obtain⟨rfl,rfl,rfl,rfl⟩:=a;simp only[TT,f,i,Gd]at hk;cases fd with
      |some y=>exact Ow (fd:=some y) hS l f i hm m n d j hx c hk
      |none=>exact Ow (fd:=none) hS l f i hm m n d j hx c hk
     cases a
    cases a
   cases a
  cases a
 cases a
theorem Sn (hS:E7 S P)(hc:pr){kt:TypeId}{key y:PV}{es es' : List (PV×PV)}
 (j:upd (IH P kt) key y es=some es') (b:C4 (Ju P kt)) (hk:G S P F (updK es' (stp P g))) (hp:pr=C4 (cnd P g):=by kernel_rfl) (a:updE P (stp P g)=some (kt,key,y,es):=by kernel_rfl):G S P F g:=by
 refine Cg hS hc ?_ hp;generalize stp P g=g' at a hk;unfold updE at a;split at a
 .split at a
  .rename_i l d;split at a
   .rename_i h1 f i;split at a
    .rename_i m n;split at a
     .rename_i c;simp only[VX,We]at a;obtain⟨rfl,rfl,rfl,rfl⟩:=a;simp only[updK,d,f,i,Gd]at hk;exact Nn hS l d h1 i f m n c j b hk
     cases a
    cases a
   cases a
  cases a
 cases a
theorem Vd (hS:E7 S P)(hc:pr)(st:St){ids:List (Nat×Nat)}(hk:G S P F (opsS st (stp P g)))(hp:pr=C4 (cnd P g):=by kernel_rfl)(a:EJ (stp P g)=true:=by kernel_rfl)(hle:Le ids (stp P g).st st:=by exact kle):G S P F g:=by
 refine Cg hS hc ?_ hp;generalize stp P g=g' at a hle hk;unfold EJ at a;split at a
 .exact QK hS st ids hle hk
 cases a
end
section
variable {S:O7}{P:Program}{F:M8}{g:Cfg}{pr:Prop}
theorem Fs (hS:E7 S P){K1 K2:List It}(h:∀e s,kp S P K1 F e s->kp S P K2 F e s):∀(K:List It) (e:Hh) (s:St),kp S P (K++K1) F e s->kp S P (K++K2) F e s
 |[],e,s,hk=>h e s hk
 |.code c::K,e,s,hk=>by simp only[WQ,kp]at hk⊢;exact Ky hS (fun t=>W2 hS c (Fs hS h K)) (Fs hS h K) e s hk
 |.blk id::K,e,s,hk=>by
  simp only[WQ,kp]at hk⊢;cases e with
  |exit i=>
   simp only[blk]at hk⊢;split at hk
   .rename_i a;rw[Au a];exact Fs hS h K _ _ hk
   rename_i a;rw[Ay a];exact Fs hS h K _ _ hk
  |_=>exact Fs hS h K _ _ hk
 |.lp X s' J m n::K,e,s,hk=>by
  simp only[WQ,kp]at hk⊢;cases e with
  |normal=>exact hk
  |_=>exact Fs hS h K _ _ hk
 |.mid M::K,e,s,hk=>by simp only[WQ,kp]at hk⊢;exact Ky hS (fun t h=>h) (Fs hS h K) e s hk
 |.scp::K,e,s,hk=>by
  simp only[WQ,kp]at hk⊢;cases e with
  |goto l=>exact hk
  |_=>exact Fs hS h K _ _ hk
theorem OA (M:It):∀(n:Nat) (K:List It),n<=K.length->Ma M n K=K.take n++M::K.drop n
 |0,K,_=>by simp[Ma]
 |n+1,i::K,h=>by simp only[Ma,XY,List.drop_succ_cons,WQ,OA M n K (by simpa using h)]
 |n+1,[],h=>by simp at h
theorem Tb (hS:E7 S P)(a:∀s,S.up s (F .normal)->F .normal s)(n:Nat)(hn:n<=g.k.length){M:St->Prop}(b:∀t,M t->G S P F (.pop .normal (g.k.drop n) t))(h:G S P F (UZ n M g)):G S P F g:=by
 have hk:∀e s,kp S P (Ma (.mid M) n g.k) F e s->kp S P g.k F e s:=by
  intro e s;rw[OA _ _ _ hn]
  conv=>rhs;rw[<- Ys n g.k]
  exact Fs hS (UT hS a b) _ e s
 cases g with
 |code c K st=>exact W2 hS c hk h
 |ops all rest K st=>exact CZ hS hk rest h
 |pop e K st=>exact hk e st h
theorem J_cut (hS:E7 S P)(hc:pr)(b:∀s,S.up s (F .normal)->F .normal s)(n:Nat)(s:St)
 (h1:∀(M:St->Prop),(∀(g' : Cfg) (ids:List (Nat×Nat)) (pr:Prop),pr->(hp:pr=C4 (cnd P g'):=by kernel_rfl)->(a:stp P g' = .pop .normal (.mid M::(stp P g).k.drop n) (stp P g').st:=by kernel_rfl)->(hle:Le ids (stp P g').st s:=by exact kle)->G S P F g')->G S P F (UZ n M (stp P g)))
 (c:G S P F (.pop .normal ((stp P g).k.drop n) s)) (hp:pr=C4 (cnd P g):=by kernel_rfl) (hn:Nat.ble n (stp P g).k.length=true:=by kernel_rfl):G S P F g:=by
 refine Cg hS hc ?_ hp;refine Tb hS b n (WO hn) (M:=fun t=>t=s) (fun t d=>by subst d;exact c) (h1 _ fun g' ids pr hc hp a hle=>?_);refine Cg hS hc ?_ hp;rw[a];exact hS.le ids _ _ _ hle rfl
theorem J_lt (hS:E7 S P)(hc:pr)(c:∀s,S.up s (F .normal)->F .normal s){R A:Type}{f:(A->Option R)->Option R}{k0:A->Option R}{r:R}(h:lt k0 f=some r)(n:Nat)(s:A->St)
 (h1:∀(M:St->Prop) (k:A->Option R),(∀(g' : Cfg) (ids:List (Nat×Nat)) (pr:Prop) (a:A),pr->k a=some r->(hp:pr=C4 (cnd P g'):=by kernel_rfl)->(b:stp P g' = .pop .normal (.mid M::(stp P g).k.drop n) (stp P g').st:=by kernel_rfl)->(hle:Le ids (stp P g').st (s a):=by exact kle)->G S P F g')->f k=some r->G S P F (UZ n M (stp P g)))
 (d:∀a,k0 a=some r->G S P F (.pop .normal ((stp P g).k.drop n) (s a))) (hp:pr=C4 (cnd P g):=by kernel_rfl) (hn:Nat.ble n (stp P g).k.length=true:=by kernel_rfl):G S P F g:=by
 refine Cg hS hc ?_ hp;refine Tb hS c n (WO hn) (M:=fun t=>∃a,t=s a/\k0 a=some r) (fun t ⟨a,i,hk⟩=>by subst i;exact d a hk) (h1 _ k0 (fun g' ids pr a hc hk hp b hle=>?_) h);refine Cg hS hc ?_ hp;rw[b];exact hS.le ids _ _ _ hle ⟨a,rfl,hk⟩
theorem No {g:Cfg}(h:Fq g=true):g=.code (.loop (LZ g)) g.k g.st:=by
 unfold Fq at h;split at h
 .rfl
 cases h
theorem Ve (hS:E7 S P)(hc:pr){R A:Type}{body:(A->Option R)->A->Option R}{N:Nat}{a0:A}{r:R}(h:BV N body a0=some r)(s:A->St){ids:List (Nat×Nat)}
 (i:∀(X:Type) (s' : X->St) (J:X->Prop) (m:X->Nat) (n:Nat) (b:A->Option R) (a:A),
  (∀(g' : Cfg) (ids:List (Nat×Nat)) (pr:Prop) (a:A),pr->b a=some r->(hp:pr=C4 (cnd P g'):=by kernel_rfl)->(f:stp P g' = .pop .normal (.lp X s' J m n::(stp P g).k) (stp P g').st:=by kernel_rfl)->(hle:Le ids (stp P g').st (s a):=by exact kle)->G S P F g') ->
  body b a=some r->G S P F (.code (LZ (stp P g)) (.lp X s' J m n::(stp P g).k) (s a))) (hp:pr=C4 (cnd P g):=by kernel_rfl) (hl:Fq (stp P g)=true:=by kernel_rfl) (hle:Le ids (stp P g).st (s a0):=by exact kle):G S P F g:=by
 refine Cg hS hc ?_ hp;rw[No hl];refine UU hS h s ids hle fun X s' J m n b a hb c=>i X s' J m n b a (fun g' ids pr a hc d hp f hle=>?_) c;refine Cg hS hc ?_ hp;rw[f];exact hb _ _ _ hle d
def Np (P:Program)(st:St)(rs:List ResultVar)(outs:List Nat):Option (AV×List Obj):=match CW P st rs with
 |some l=>match Lj outs (one l),H6 outs st.regs outs with
  |some a,some o=>if E6 outs then some (a,o)else none
  |_,_=>none
 |none=>none
theorem J_ret (hS:E7 S P)(hc:pr){n:Nat}{rs:List ResultVar}{Q:Hi->List Obj->List Bool->Prop}{a:AV}{objs:List Obj}(outs:List Nat)(c:Q (.ret a) objs (CH n outs))(hp:pr=C4 (cnd P g):=by kernel_rfl)(d:(TU (stp P g)).bind (fun st=>Np P st rs outs)=some (a,objs):=by kernel_rfl) :G S P (Y6 S P n rs Q) g:=by
 refine Cg hS hc ?_ hp;generalize stp P g=g' at d;obtain⟨st,h1,b⟩:=XH.1 d;unfold Np at b;split at b
 .rename_i l hl;split at b
  .rename_i f i;split at b
   .rename_i j;cases b;unfold TU at h1;split at h1
    .cases h1;exact hS.refl _ _ ⟨l,outs,a,objs,hl,j,f,i,c⟩
    .cases h1;exact hS.refl _ _ ⟨l,outs,a,objs,hl,j,f,i,c⟩
    cases h1
   cases b
  cases b
 cases b
theorem Vf (hS:E7 S P)(hc:pr){n:Nat}{rs:List ResultVar}{Q:Hi->List Obj->List Bool->Prop}{a:AV}{objs:List Obj}(st:St)(outs:List Nat){ids:List (Nat×Nat)}(f:Q (.ret a) objs (CH n outs))(hp:pr=C4 (cnd P g):=by kernel_rfl)(c:(TU (stp P g)).isSome=true:=by kernel_rfl)(hle:Le ids (stp P g).st st:=by exact kle)(d:Np P st rs outs=some (a,objs):=by kernel_rfl) :G S P (Y6 S P n rs Q) g:=by
 refine Cg hS hc ?_ hp;generalize stp P g=g' at c hle;have b:=d;unfold Np at b;split at b
 .rename_i l hl;split at b
  .rename_i d i;split at b
   .rename_i j;cases b;unfold TU at c;split at c
    .exact hS.le ids _ _ _ hle ⟨l,outs,a,objs,hl,j,d,i,f⟩
    .exact hS.le ids _ _ _ hle ⟨l,outs,a,objs,hl,j,d,i,f⟩
    cases c
   cases b
  cases b
 cases b
theorem TX (hS:E7 S P){f:FuncId}{fn:Func}{args:List AV}{objs objs' : List Obj}{ks:List Bool}{r:AV}(d:P.funcs[f]? = some fn)
 (h:G S P (Y6 S P objs.length fn.results.toList fun res o k=>res=.ret r/\o=objs' /\ k=ks) (.code (fn.body.getD .skip) [] { env:=argEnv args,regs:=objRegs objs }))
 (hc:fn.body.isSome=true:=by kernel_rfl) (hn:Nat.ble args.length fn.ntmps=true:=by kernel_rfl) (g:Nat.blt objs.length 1000=true:=by kernel_rfl)
 (b:S4 fn.ntmps (fn.body.getD .skip)=true:=by kernel_rfl) (c:(fn.name == "runtime.NumGoroutine")=false:=by kernel_rfl):FunO S f args objs r objs' ks:=by
 obtain⟨code,a⟩:=Wj.1 hc;rw[a,Wd]at b h;exact Qc hS d a (WO hn) (by simpa[Xy]using g) rfl b c h
theorem al0:∀q∈([]:List (Nat×Leaf)),q.2.ok:=fun _ h=>by cases h
theorem al1 {i:Nat}{l:Leaf}{rs:List (Nat×Leaf)}(h:l.ok)(t:∀q∈rs,q.2.ok):∀q∈(i,l)::rs,q.2.ok:=fun q a=>by
 rcases WH.1 a with rfl|a
 .exact h
 exact t q a
structure SC where
 all:List Oper
 cls:List Cls
 rest:List Oper
 env:Env
 regs:B5
 kn:List Nat
def SG (S:O7)(P:Program)(sc:SC)(k:Env->B5->Prop):Prop:=IK S P sc.all sc.cls sc.rest sc.env sc.regs k
def DK (P:Program)(sc:SC):SC:=match IL P sc.kn sc.all sc.cls sc.rest [] sc.env sc.regs with
 |⟨_,cls,rest,env,regs⟩=>⟨sc.all,cls,rest,env,regs,sc.kn⟩
def QL (P:Program)(sc:SC):List Prop:=(IL P sc.kn sc.all sc.cls sc.rest [] sc.env sc.regs).conds
def Ch:Cfg->Bool
 |.code (.region _ _ true) _ _=>true
 |_=>false
def EK:Cfg->SC
 |.code (.region _ ops true) _ st=>⟨ops.toList,ops.toList.map fun o=>VP o.op,ops.toList,st.env,st.regs,[]⟩
 |_=>⟨[],[],[],[],[],[]⟩
theorem TY (hS:E7 S P)(hc:pr)
 (h:SG S P (EK (stp P g)) fun env regs=>G S P F (.pop .normal (stp P g).k ⟨env,regs⟩)) (hp:pr=C4 (cnd P g):=by kernel_rfl) (c:Ch (stp P g)=true:=by kernel_rfl) (a:P.follows .mixedOrders=true:=by kernel_rfl) (b:HI (EK (stp P g)).all (EK (stp P g)).cls=true:=by kernel_rfl):G S P F g:=by
 refine Cg hS hc ?_ hp;generalize stp P g=g' at c b h;unfold Ch at c;split at c
 .exact RY hS a rfl b h
 cases c
section
variable {sc:SC}{k:Env->B5->Prop}
theorem Vg (hc:pr)(h:SG S P (DK P sc) k)(hp:pr=C4 (QL P sc):=by kernel_rfl):SG S P sc k:=by subst hp;unfold DK at h;unfold QL at hc;unfold SG at *;generalize a:IL P sc.kn sc.all sc.cls sc.rest [] sc.env sc.regs=r at h hc;obtain⟨c,cls,rest,env,regs⟩:=r;exact s_go a hc h
theorem C_end (hc:pr)(h:k (DK P sc).env (DK P sc).regs)(hp:pr=C4 (QL P sc):=by kernel_rfl)(a:(DK P sc).rest.isEmpty=true:=by kernel_rfl):SG S P sc k:=by
 refine Vg hc ?_ hp;generalize DK P sc=s at a h;obtain⟨all,cls,rest,env,regs,kn⟩:=s;cases rest with
 |nil=>exact s_end h
 |cons=>simp at a
def Vh {R:Type _}(d:Option Nat)(a:AV)(env:Env)(regs:B5)(κ : Env->B5->R):R:=match d with
 |some d=>mkO (ins d a env) regs κ
 |none=>mkO env regs κ
theorem HM {R:Type _}(d:Option Nat)(a:AV)(env:Env)(regs:B5)(κ : Env->B5->R):Vh d a env regs κ = κ (JO d a env) regs:=by cases d<;>simp only[Vh,Db,JO]
def dguardE (sc:SC):Option Bool:=match sc.rest with
 |o::_=>match o.guard with
  |some (j,_)=>match VM sc.all j with
   |some d=>match get sc.env d with
    |.p (.bb b)=>if VJ sc.env then some b else none
    |_=>none
   |none=>none
  |none=>none
 |[]=>none
def OB (ids:List Nat)(sc:SC):Option (FuncId×List AV×List Obj):=match sc.rest with
 |o::_=>match AK sc.all sc.env o,o.op with
  |some true,.call c=>match c.callee with
   |.value f=>match II sc.regs (c.args.toList.map (aev sc.env))with
    |some (as,regs)=>match MG sc.env f as with
     |some (fn,as')=>match AD ids as',H6 ids regs ids with
      |some a,some ob=>if E6 ids&&BM ob then some (fn,a,ob)else none
      |_,_=>none
     |none=>none
    |none=>none
   |_=>none
  |_,_=>none
 |[]=>none
def JT (ids:List Nat)(ks:List Bool)(n:Nat)(sc:SC):Bool:=match sc.cls,sc.rest with
 |.w::_,o::_=>match o.op with
  |.call c=>match II sc.regs (c.args.toList.map (aev sc.env))with
   |some (_,regs)=>Z6 regs ids ks (o.dst.getD 0) n
   |none=>false
  |_=>false
 |.b js::_,o::_=>match o.op with
  |.call c=>((c.args.toList.map (aev sc.env)).all Pr&&ids.isEmpty)&&(((H9 (o.dst.getD 0) ids ks n).all fun q=>js.contains q)&&Z6 sc.regs ids ks (o.dst.getD 0) n)
  |_=>false
 |_,_=>false
def OC (ids:List Nat)(ks:List Bool)(r:AV)(objs' : List Obj)(sc:SC):SC:=match sc.rest with
 |o::rest=>match o.op with
  |.call c=>match II sc.regs (c.args.toList.map (aev sc.env))with
   |some (_,regs)=>Vh o.dst (unA (H9 (o.dst.getD 0) ids ks objs'.length) r) sc.env
    (MM (H9 (o.dst.getD 0) ids ks objs'.length) (H9 (o.dst.getD 0) ids ks objs'.length) objs' (I9 ids ks regs)) fun env regs=>⟨sc.all,sc.cls.tail,rest,env,regs,sc.kn⟩
   |none=>sc
  |_=>sc
 |[]=>sc
theorem Vi (ids:List Nat)(hc:pr){fn:FuncId}{args:List AV}{objs objs' : List Obj}{r:AV}{ks:List Bool}(u:FunO S fn args objs r objs' ks)
 (hk:SG S P (OC ids ks r objs' (DK P sc)) k) (hp:pr=C4 (QL P sc):=by kernel_rfl) (a:OB ids (DK P sc)=some (fn,args,objs):=by kernel_rfl) (hn:JT ids ks objs'.length (DK P sc)=true:=by kernel_rfl):SG S P sc k:=by
 refine Vg hc ?_ hp;generalize DK P sc=s at a hn hk;obtain⟨all,cls,rest,env,regs,kn⟩:=s;cases rest with
 |nil=>simp[OB]at a
 |cons o rest=>
  simp only[OB]at a;split at a
  .rename_i c v g;split at a
   .rename_i i;split at a
    .rename_i ha;split at a
     .rename_i x;split at a
      .rename_i y j;split at a
       .rename_i d;cases a;simp only[Wa]at d;cases cls with
        |nil=>simp[JT]at hn
        |cons cl cls=>
         cases cl with
         |w=>simp only[JT,g,ha]at hn;simp only[OC,g,ha,HM,XO]at hk;exact QH ids (.inl rfl) v g i ha x y j u d.1 d.2 hn hk
         |b js=>simp only[JT,g,Wa,List.isEmpty_iff]at hn;obtain⟨⟨l,m⟩,n,t⟩:=hn;subst m;have f:=ha;rw[Gb l]at f;simp only[VX,We]at f;obtain⟨rfl,rfl⟩:=f;simp only[OC,g,ha,HM,XO]at hk;refine QH [] (.inr ⟨js,rfl,fun q z=>?_⟩) v g i ha x y j u d.1 d.2 t hk;rw[Ot (fun h=>z (by simpa using Wn.1 n q h))];rfl
         |_=>simp[JT]at hn
       cases a
      cases a
     cases a
    cases a
   cases a
  cases a
def OD (sc:SC):Bool:=match sc.cls,sc.rest with
 |_::_,o::_=>match o.op with
  |.call c=>(c.args.toList.map (aev sc.env)).all Pr
  |_=>false
 |_,_=>false
def OE (sc:SC):Option (FuncId×List AV):=match sc.rest with
 |o::_=>match AK sc.all sc.env o,o.op with
  |some true,.call c=>match c.callee with
   |.value f=>match MG sc.env f (c.args.toList.map (aev sc.env))with
    |some (fn,as')=>match AD [] as' with
     |some a=>some (fn,a)
     |none=>none
    |none=>none
   |_=>none
  |_,_=>none
 |[]=>none
def QM (r:AV)(sc:SC):SC:=match sc.rest with
 |o::rest=>Vh o.dst (unA [] r) sc.env sc.regs fun env regs=>⟨sc.all,sc.cls.tail,rest,env,regs,sc.kn⟩
 |[]=>sc
theorem Vj (hc:pr){fn:FuncId}{args:List AV}{r:AV}(f:FunO S fn args [] r [] [])
 (hk:SG S P (QM r (DK P sc)) k) (hp:pr=C4 (QL P sc):=by kernel_rfl) (a:OE (DK P sc)=some (fn,args):=by kernel_rfl) (hn:OD (DK P sc)=true:=by kernel_rfl):SG S P sc k:=by
 refine Vg hc ?_ hp;generalize DK P sc=s at a hn hk;obtain⟨all,cls,rest,env,regs,kn⟩:=s;cases rest with
 |nil=>simp[OE]at a
 |cons o rest=>
  cases cls with
  |nil=>simp[OD]at hn
  |cons cl cls=>
   simp only[OE]at a;split at a
   .rename_i c g d;split at a
    .rename_i b;split at a
     .rename_i i;split at a
      .rename_i j;cases a;simp only[OD,d]at hn;simp only[QM,HM,XO]at hk;exact UR g d b hn i j f hk
      cases a
     cases a
    cases a
   cases a
def R6 (P:Program)(sc:SC):Option (List Prop×PV):=match sc.cls,sc.rest with
 |_::_,o::_=>match AK sc.all sc.env o with
  |some true=>IN P sc.env o.op
  |_=>none
 |_,_=>none
def HN (x:PV)(sc:SC):SC:=match sc.rest with
 |o::rest=>Vh o.dst (.p x) sc.env sc.regs fun env regs=>⟨sc.all,sc.cls.tail,rest,env,regs,sc.kn⟩
 |[]=>sc
theorem TZ (hc:pr){x:PV}(hk:SG S P (HN x (DK P sc)) k)(hp:pr=C4 (QL P sc):=by kernel_rfl)(a:(R6 P (DK P sc)).map (·.2)=some x:=by kernel_rfl)(b:((R6 P (DK P sc)).map fun q=>C4 q.1)=some (true=true):=by kernel_rfl):SG S P sc k:=by
 refine Vg hc ?_ hp;generalize DK P sc=s at a b hk;obtain⟨all,cls,rest,env,regs,kn⟩:=s;cases rest with
 |nil=>cases cls<;>simp[R6]at a
 |cons o rest=>
  cases cls with
  |nil=>simp[R6]at a
  |cons cl cls=>
   cases d:AK all env o with
   |none=>simp[R6,d]at a
   |some bb=>
    cases bb with
    |false=>simp[R6,d]at a
    |true=>
     simp only[R6,d]at a b;cases ha:IN P env o.op with
     |none=>rw[ha]at a;cases a
     |some q=>obtain⟨c,y⟩:=q;rw[ha]at a b;simp only[Wf,VX]at a b;subst a;simp only[HN,HM,XO]at hk;exact Ou d ha (by rw[b];trivial) hk
end
end
structure KG (S:O7) (P:Program) (F:M8) (g:Cfg):Prop where
 out:G S P F g
structure DG (S:O7) (P:Program) (sc:SC) (k:Env->B5->Prop):Prop where
 out:SG S P sc k
structure KLe (ids:List (Nat×Nat)) (s t:St):Prop where
 out:Le ids s t
section
variable {S:O7}{P:Program}{F:M8}{g:Cfg}{pr:Prop}
theorem kl {ids:List (Nat×Nat)}{s t:St}(h:(leK ids s t).map (·.map Leaf.src)=(leK ids s t).map (·.map Leaf.tgt):=by kernel_rfl)(h1:(leK ids s t).isSome=true:=by kernel_rfl):KLe ids s t:=⟨kle h h1⟩
theorem klR {ids:List (Nat×Nat)}{s t:St}(rs:List (Nat×Leaf))(a:∀q∈rs,q.2.ok)(h:(leK ids s t).map (Va (rs.map (·.1)) Leaf.src)=(leK ids s t).map (Va (rs.map (·.1)) Leaf.tgt):=by kernel_rfl)
 (b:(leK ids s t).map (fun L=>rs.map fun q=>L[q.1]?)=some (rs.map fun q=>some q.2):=by kernel_rfl):KLe ids s t:=⟨kleR rs a h b⟩
theorem D7 (hS:E7 S P)(hc:pr){b:Bool}(a:b=true->KG S P F (TP (stp P g)))(c:b=false->KG S P F (TQ (stp P g)))(hp:pr=C4 (cnd P g):=by kernel_rfl)(hb:Sf (stp P g)=some b:=by kernel_rfl):KG S P F g:=
 ⟨Vb hS hc (fun h=>(a h).out) (fun h=>(c h).out) hp hb⟩
theorem KA (hS:E7 S P)(hc:pr){b:Bool}(a:b=true->KG S P F (HK true (stp P g)))(c:b=false->KG S P F (HK false (stp P g)))(hp:pr=C4 (cnd P g):=by kernel_rfl)(hb:Ox (stp P g)=some b:=by kernel_rfl):KG S P F g:=
 ⟨TW hS hc (fun h=>(a h).out) (fun h=>(c h).out) hp hb⟩
theorem B7 (hS:E7 S P)(ids:List Nat)(hc:pr){fn:FuncId}{args:List AV}{objs objs' : List Obj}{r:AV}{ks:List Bool}(a:FunO S fn args objs r objs' ks)(hk:KG S P F (Sg ids ks r objs' (stp P g)))
 (hp:pr=C4 (cnd P g):=by kernel_rfl) (b:Pw ids (stp P g)=some (fn,args,objs):=by kernel_rfl) (hn:Px ids ks objs'.length (stp P g)=true:=by kernel_rfl):KG S P F g:=⟨Vc hS ids hc a hk.out hp b hn⟩
theorem Hd (hS:E7 S P)(hc:pr){kt e:TypeId}{key:PV}{es:List (PV×PV)}{x:PV}{b:Bool}{fd:Option PV}(c:find (IH P kt) key es=some fd)(a:C4 (Ju P kt))(hk:KG S P F (TT x b (stp P g)))
 (hp:pr=C4 (cnd P g):=by kernel_rfl) (d:TR P (stp P g)=some ⟨kt,e,key,es⟩:=by kernel_rfl) (hx:UY P e fd=some (x,b):=by kernel_rfl):KG S P F g:=⟨Sm hS hc c a hk.out hp d hx⟩
theorem KB (hS:E7 S P)(hc:pr){kt:TypeId}{key y:PV}{es es' : List (PV×PV)}(b:upd (IH P kt) key y es=some es')(a:C4 (Ju P kt))(hk:KG S P F (updK es' (stp P g)))
 (hp:pr=C4 (cnd P g):=by kernel_rfl) (c:updE P (stp P g)=some (kt,key,y,es):=by kernel_rfl):KG S P F g:=⟨Sn hS hc b a hk.out hp c⟩
theorem W9 (hS:E7 S P)(hc:pr)(st:St){ids:List (Nat×Nat)}(hk:KG S P F (opsS st (stp P g)))(hp:pr=C4 (cnd P g):=by kernel_rfl)(a:EJ (stp P g)=true:=by kernel_rfl)(hle:KLe ids (stp P g).st st:=by exact kl):KG S P F g:=
 ⟨Vd hS hc st hk.out hp a hle.out⟩
theorem Py (hS:E7 S P)(hc:pr)(b:∀s,S.up s (F .normal)->F .normal s)(n:Nat)(s:St)
 (h1:∀(M:St->Prop),(∀(g' : Cfg) (ids:List (Nat×Nat)) (pr:Prop),pr->(hp:pr=C4 (cnd P g'):=by kernel_rfl)->(a:stp P g' = .pop .normal (.mid M::(stp P g).k.drop n) (stp P g').st:=by kernel_rfl)->(hle:KLe ids (stp P g').st s:=by exact kl)->KG S P F g')->KG S P F (UZ n M (stp P g)))
 (c:KG S P F (.pop .normal ((stp P g).k.drop n) s)) (hp:pr=C4 (cnd P g):=by kernel_rfl) (hn:Nat.ble n (stp P g).k.length=true:=by kernel_rfl):KG S P F g:=
 ⟨J_cut hS hc b n s (fun M hb=>(h1 M fun g' ids pr hc hp a hle=>⟨hb g' ids pr hc hp a hle.out⟩).out) c.out hp hn⟩
theorem Lm (hS:E7 S P)(hc:pr)(c:∀s,S.up s (F .normal)->F .normal s){R A:Type}{f:(A->Option R)->Option R}{k0:A->Option R}{r:R}(h:lt k0 f=some r)(n:Nat)(s:A->St)
 (h1:∀(M:St->Prop) (k:A->Option R),(∀(g' : Cfg) (ids:List (Nat×Nat)) (pr:Prop) (a:A),pr->k a=some r->(hp:pr=C4 (cnd P g'):=by kernel_rfl)->(b:stp P g' = .pop .normal (.mid M::(stp P g).k.drop n) (stp P g').st:=by kernel_rfl)->(hle:KLe ids (stp P g').st (s a):=by exact kl)->KG S P F g')->f k=some r->KG S P F (UZ n M (stp P g)))
 (d:∀a,k0 a=some r->KG S P F (.pop .normal ((stp P g).k.drop n) (s a))) (hp:pr=C4 (cnd P g):=by kernel_rfl) (hn:Nat.ble n (stp P g).k.length=true:=by kernel_rfl):KG S P F g:=
 ⟨J_lt hS hc c h n s (fun M k hb i=>(h1 M k (fun g' ids pr a hc hk hp b hle=>⟨hb g' ids pr a hc hk hp b hle.out⟩) i).out) (fun a hk=>(d a hk).out) hp hn⟩
theorem Y8 (hS:E7 S P)(hc:pr){R A:Type}{body:(A->Option R)->A->Option R}{N:Nat}{a0:A}{r:R}(h:BV N body a0=some r)(s:A->St){ids:List (Nat×Nat)}
 (i:∀(X:Type) (s' : X->St) (J:X->Prop) (m:X->Nat) (n:Nat) (b:A->Option R) (a:A),
  (∀(g' : Cfg) (ids:List (Nat×Nat)) (pr:Prop) (a:A),pr->b a=some r->(hp:pr=C4 (cnd P g'):=by kernel_rfl)->(f:stp P g' = .pop .normal (.lp X s' J m n::(stp P g).k) (stp P g').st:=by kernel_rfl)->(hle:KLe ids (stp P g').st (s a):=by exact kl)->KG S P F g') ->
  body b a=some r->KG S P F (.code (LZ (stp P g)) (.lp X s' J m n::(stp P g).k) (s a))) (hp:pr=C4 (cnd P g):=by kernel_rfl) (hl:Fq (stp P g)=true:=by kernel_rfl) (hle:KLe ids (stp P g).st (s a0):=by exact kl):KG S P F g:=
 ⟨Ve hS hc h s (fun X s' J m n b a hb c=>(i X s' J m n b a (fun g' ids pr a hc d hp f hle=>⟨hb g' ids pr a hc d hp f hle.out⟩) c).out) hp hl hle.out⟩
theorem N4 (hS:E7 S P)(hc:pr){R A B:Type}{body:(A->B->Option R)->A->B->Option R}{N:Nat}{a0:A}{b0:B}{r:R}(h:Eg N body a0 b0=some r)(s:A->B->St){ids:List (Nat×Nat)}
 (d:∀(X:Type) (s' : X->St) (J:X->Prop) (m:X->Nat) (n:Nat) (c:A->B->Option R) (a:A) (b:B),
  (∀(g' : Cfg) (ids:List (Nat×Nat)) (pr:Prop) (a:A) (b:B),pr->c a b=some r->(hp:pr=C4 (cnd P g'):=by kernel_rfl)->(o:stp P g' = .pop .normal (.lp X s' J m n::(stp P g).k) (stp P g').st:=by kernel_rfl)->(hle:KLe ids (stp P g').st (s a b):=by exact kl)->KG S P F g') ->
  body c a b=some r->KG S P F (.code (LZ (stp P g)) (.lp X s' J m n::(stp P g).k) (s a b))) (hp:pr=C4 (cnd P g):=by kernel_rfl) (hl:Fq (stp P g)=true:=by kernel_rfl) (hle:KLe ids (stp P g).st (s a0 b0):=by exact kl):KG S P F g:=
 Y8 hS hc h (fun x=>s x.1 x.2) (fun X s' J m n c a hb=>d X s' J m n (fun a b=>c (a,b)) a.1 a.2 fun g' ids pr a b h1 f i j l=>hb g' ids pr (a,b) h1 f i j l) hp hl hle
theorem Tc (hS:E7 S P)(hc:pr){R A B C:Type}{body:(A->B->C->Option R)->A->B->C->Option R}{N:Nat}{a0:A}{b0:B}{c0:C}{r:R}(h:fix3 N body a0 b0 c0=some r)(s:A->B->C->St){ids:List (Nat×Nat)}
 (f:∀(X:Type) (s' : X->St) (J:X->Prop) (m:X->Nat) (n:Nat) (d:A->B->C->Option R) (a:A) (b:B) (c:C),
  (∀(g' : Cfg) (ids:List (Nat×Nat)) (pr:Prop) (a:A) (b:B) (c:C),pr->d a b c=some r->(hp:pr=C4 (cnd P g'):=by kernel_rfl)->(q:stp P g' = .pop .normal (.lp X s' J m n::(stp P g).k) (stp P g').st:=by kernel_rfl)->(hle:KLe ids (stp P g').st (s a b c):=by exact kl)->KG S P F g') ->
  body d a b c=some r->KG S P F (.code (LZ (stp P g)) (.lp X s' J m n::(stp P g).k) (s a b c))) (hp:pr=C4 (cnd P g):=by kernel_rfl) (hl:Fq (stp P g)=true:=by kernel_rfl) (hle:KLe ids (stp P g).st (s a0 b0 c0):=by exact kl):KG S P F g:=
 Y8 hS hc h (fun x=>s x.1 x.2.1 x.2.2) (fun X s' J m n d a hb=>f X s' J m n (fun a b c=>d (a,b,c)) a.1 a.2.1 a.2.2 fun g' ids pr a b c h1 i j l o=>hb g' ids pr (a,b,c) h1 i j l o) hp hl hle
theorem Ua (hS:E7 S P)(hc:pr){n:Nat}{rs:List ResultVar}{Q:Hi->List Obj->List Bool->Prop}{a:AV}{objs:List Obj}(outs:List Nat)(b:Q (.ret a) objs (CH n outs))(hp:pr=C4 (cnd P g):=by kernel_rfl)
 (c:(TU (stp P g)).bind (fun st=>Np P st rs outs)=some (a,objs):=by kernel_rfl):KG S P (Y6 S P n rs Q) g:=⟨J_ret hS hc outs b hp c⟩
theorem A6 (hS:E7 S P)(hc:pr){n:Nat}{rs:List ResultVar}{Q:Hi->List Obj->List Bool->Prop}{a:AV}{objs:List Obj}(st:St)(outs:List Nat){ids:List (Nat×Nat)}(b:Q (.ret a) objs (CH n outs))(hp:pr=C4 (cnd P g):=by kernel_rfl)
 (c:(TU (stp P g)).isSome=true:=by kernel_rfl) (hle:KLe ids (stp P g).st st:=by exact kl) (d:Np P st rs outs=some (a,objs):=by kernel_rfl):KG S P (Y6 S P n rs Q) g:=⟨Vf hS hc st outs b hp c hle.out d⟩
theorem A4 (hS:E7 S P){f:FuncId}{fn:Func}{args:List AV}{objs objs' : List Obj}{ks:List Bool}{r:AV}(c:P.funcs[f]? = some fn)
 (h:KG S P (Y6 S P objs.length fn.results.toList fun res o k=>res=.ret r/\o=objs' /\ k=ks) (.code (fn.body.getD .skip) [] { env:=argEnv args,regs:=objRegs objs }))
 (hc:fn.body.isSome=true:=by kernel_rfl) (hn:Nat.ble args.length fn.ntmps=true:=by kernel_rfl) (d:Nat.blt objs.length 1000=true:=by kernel_rfl)
 (a:S4 fn.ntmps (fn.body.getD .skip)=true:=by kernel_rfl) (b:(fn.name == "runtime.NumGoroutine")=false:=by kernel_rfl):FunO S f args objs r objs' ks:=TX hS c h.out hc hn d a b
theorem HO (hS:E7 S P)(hc:pr)(h:DG S P (EK (stp P g)) fun env regs=>KG S P F (.pop .normal (stp P g).k ⟨env,regs⟩))(hp:pr=C4 (cnd P g):=by kernel_rfl)(c:Ch (stp P g)=true:=by kernel_rfl)(a:P.follows .mixedOrders=true:=by kernel_rfl)
 (b:HI (EK (stp P g)).all (EK (stp P g)).cls=true:=by kernel_rfl):KG S P F g:=by
 have e:(fun env regs=>KG S P F (.pop .normal (stp P g).k ⟨env,regs⟩))=fun env regs=>G S P F (.pop .normal (stp P g).k ⟨env,regs⟩):=by funext env regs;exact propext ⟨fun h=>h.out,fun h=>⟨h⟩⟩
 rw[e]at h;exact⟨TY hS hc h.out hp c a b⟩
section
variable {sc:SC}{k:Env->B5->Prop}
theorem K0 (hc:pr)(h:k (DK P sc).env (DK P sc).regs)(hp:pr=C4 (QL P sc):=by kernel_rfl)(a:(DK P sc).rest.isEmpty=true:=by kernel_rfl):DG S P sc k:=⟨C_end hc h hp a⟩
theorem HP (ids:List Nat)(hc:pr){fn:FuncId}{args:List AV}{objs objs' : List Obj}{r:AV}{ks:List Bool}(a:FunO S fn args objs r objs' ks)(hk:DG S P (OC ids ks r objs' (DK P sc)) k)
 (hp:pr=C4 (QL P sc):=by kernel_rfl) (b:OB ids (DK P sc)=some (fn,args,objs):=by kernel_rfl) (hn:JT ids ks objs'.length (DK P sc)=true:=by kernel_rfl):DG S P sc k:=⟨Vi ids hc a hk.out hp b hn⟩
theorem Y9 (hc:pr){fn:FuncId}{args:List AV}{r:AV}(a:FunO S fn args [] r [] [])(hk:DG S P (QM r (DK P sc)) k)(hp:pr=C4 (QL P sc):=by kernel_rfl)(b:OE (DK P sc)=some (fn,args):=by kernel_rfl)(hn:OD (DK P sc)=true:=by kernel_rfl):DG S P sc k:=
 ⟨Vj hc a hk.out hp b hn⟩
theorem Bq (hc:pr){x:PV}(hk:DG S P (HN x (DK P sc)) k)(hp:pr=C4 (QL P sc):=by kernel_rfl)(b:(R6 P (DK P sc)).map (·.2)=some x:=by kernel_rfl)(a:((R6 P (DK P sc)).map fun q=>C4 q.1)=some (true=true):=by kernel_rfl):DG S P sc k:=⟨TZ hc hk.out hp b a⟩
end
end
end Go.AM
namespace Go.AM
section
variable {S:O7}{P:Program}{F:M8}{g:Cfg}{pr:Prop}
def yldE:Cfg->Option (List PV×List (List PV))
 |.ops all (o::_) _ st=>match Ah all st.env o,o.op with
  |some true,.call c=>match c.callee with
   |.value f=>match aev st.env f,BJ st.regs (c.args.toList.map (aev st.env))with
    |.yf j,some (xs,regs)=>match A2 regs j with
     |some (.yld (ys::rest) true)=>if Ca j regs=true/\xs.length=ys.length then some (xs,ys::rest)else none
     |_=>none
    |_,_=>none
   |_=>none
  |_,_=>none
 |_=>none
def Vk (b:Bool)(rest:List (List PV)):Cfg->Cfg
 |.ops all (o::ops) K st=>match o.op with
  |.call c=>match c.callee with
   |.value f=>match aev st.env f,BJ st.regs (c.args.toList.map (aev st.env))with
    |.yf j,some (_,regs)=>SZ o.dst (.p (.bb b)) st.env (ins j (.yld rest b) regs) fun st=>.ops all ops K st
    |_,_=>.ops all (o::ops) K st
   |_=>.ops all (o::ops) K st
  |_=>.ops all (o::ops) K st
 |g=>g
theorem Mb:∀l:List PV,Tl l l
 |[]=>trivial
 |x::l=>⟨.inl rfl,Mb l⟩
theorem Ub (hS:E7 S P)(hc:pr){ys:List PV}{rest:List (List PV)}(d:G S P F (Vk true rest (stp P g)))(f:G S P F (Vk false [] (stp P g)))(hp:pr=C4 (cnd P g))(a:yldE (stp P g)=some (ys,ys::rest)):G S P F g:=by
 refine Cg hS hc ?_ hp;generalize stp P g=g' at a d f;unfold yldE at a;split at a
 .split at a
  .rename_i m j;split at a
   .rename_i c;split at a
    .rename_i hy l;split at a
     .rename_i n;split at a
      .rename_i i;simp only[VX,We,Xd]at a;obtain⟨rfl,rfl,rfl⟩:=a;simp only[Vk,j,c,hy,l,Gd]at d f;refine TL hS m j c hy l n i.1 (Mb _) fun b=>?_;cases b
       .exact f
       exact d
      cases a
     cases a
    cases a
   cases a
  cases a
 cases a
theorem Ci (hS:E7 S P)(hc:pr){ys:List PV}{rest:List (List PV)}(a:KG S P F (Vk true rest (stp P g)))(b:KG S P F (Vk false [] (stp P g)))(hp:pr=C4 (cnd P g):=by kernel_rfl)(c:yldE (stp P g)=some (ys,ys::rest):=by kernel_rfl):KG S P F g:=
 ⟨Ub hS hc a.out b.out hp c⟩
def HQ {T:Type}(x:T)(o:Option (List T)):Option (List T):=o.map (x :: ·)
theorem KC {T:Type}{x:T}{o:Option (List T)}{L:List T}(h:HQ x o=some L):∃L',L=x::L' /\ o=some L':=by simp only[HQ,Wo]at h;obtain⟨l,h1,a⟩:=h;exact⟨l,a.symm,h1⟩
theorem Ge (hS:E7 S P)(hc:pr){R A:Type}{body:(A->Option R)->A->Option R}{N:Nat}{a0:A}{r0:R}(h:BV N body a0=some r0)(s:A->R->St){ids:List (Nat×Nat)}
 (f:∀(X:Type) (s' : X->St) (J:X->Prop) (m:X->Nat) (n:Nat) (b:A->Option R) (a:A) (r:R),
  (∀(g' : Cfg) (ids:List (Nat×Nat)) (pr:Prop) (a:A) (r:R),pr->b a=some r->(hp:pr=C4 (cnd P g'):=by kernel_rfl)->(d:stp P g' = .pop .normal (.lp X s' J m n::(stp P g).k) (stp P g').st:=by kernel_rfl)->(hle:KLe ids (stp P g').st (s a r):=by exact kl)->KG S P F g') ->
  body b a=some r->KG S P F (.code (LZ (stp P g)) (.lp X s' J m n::(stp P g).k) (s a r))) (hp:pr=C4 (cnd P g):=by kernel_rfl) (hl:Fq (stp P g)=true:=by kernel_rfl) (hle:KLe ids (stp P g).st (s a0 r0):=by exact kl):KG S P F g:=by
 refine⟨Cg hS hc ?_ hp⟩;rw[No hl];refine Qa hS (X:=Nat×A×R) (fun x=>s x.2.1 x.2.2) (fun x=>BV x.1 body x.2.1=some x.2.2) (fun x=>x.1) (N,a0,r0) ids hle.out h ?_;rintro⟨n,a,r⟩ hx;cases n with
 |zero=>cases hx
 |succ n=>exact (f _ _ _ _ _ (BV n body) a r (fun g' ids pr a r hc c hp d hle=>⟨Cg hS hc (by rw[d];exact Qb hS (n,a,r) ids hle.out c (Nat.lt_succ_self n)) hp⟩) hx).out
theorem KD (hS:E7 S P)(hc:pr){R A B:Type}{body:(A->B->Option R)->A->B->Option R}{N:Nat}{a0:A}{b0:B}{r0:R}(h:Eg N body a0 b0=some r0)(s:A->B->R->St){ids:List (Nat×Nat)}
 (d:∀(X:Type) (s' : X->St) (J:X->Prop) (m:X->Nat) (n:Nat) (c:A->B->Option R) (a:A) (b:B) (r:R),
  (∀(g' : Cfg) (ids:List (Nat×Nat)) (pr:Prop) (a:A) (b:B) (r:R),pr->c a b=some r->(hp:pr=C4 (cnd P g'):=by kernel_rfl)->(o:stp P g' = .pop .normal (.lp X s' J m n::(stp P g).k) (stp P g').st:=by kernel_rfl)->(hle:KLe ids (stp P g').st (s a b r):=by exact kl)->KG S P F g') ->
  body c a b=some r->KG S P F (.code (LZ (stp P g)) (.lp X s' J m n::(stp P g).k) (s a b r))) (hp:pr=C4 (cnd P g):=by kernel_rfl) (hl:Fq (stp P g)=true:=by kernel_rfl) (hle:KLe ids (stp P g).st (s a0 b0 r0):=by exact kl):KG S P F g:=
 Ge hS hc h (fun x r=>s x.1 x.2 r) (fun X s' J m n c a r hb=>d X s' J m n (fun a b=>c (a,b)) a.1 a.2 r fun g' ids pr a b r h1 f i j l=>hb g' ids pr (a,b) r h1 f i j l) hp hl hle
theorem Ft (hS:E7 S P){f:FuncId}{fn:Func}{first caps:List AV}{objs:List Obj}{L:List (List PV)}(i:P.funcs[f]? = some fn)
 (h:KG S P (Y6 S P (objs++[Obj.yld L true]).length fn.results.toList fun r objs' ks=>∃b,objs'[objs.length]? = some (.yld [] b)/\ks[objs.length]? = some true/\∃a,r=.ret a) (.code (fn.body.getD .skip) [] { env:=argEnv (first ++ .yf objs.length::caps),regs:=objRegs (objs++[Obj.yld L true]) }))
 (hc:fn.body.isSome=true:=by kernel_rfl) (hn:Nat.ble (first ++ .yf objs.length::caps).length fn.ntmps=true:=by kernel_rfl) (j:Nat.blt (objs++[Obj.yld L true]).length 1000=true:=by kernel_rfl)
 (d:S4 fn.ntmps (fn.body.getD .skip)=true:=by kernel_rfl) (g:(fn.name == "runtime.NumGoroutine")=false:=by kernel_rfl):EI S f first caps objs L:=by
 obtain⟨code,c⟩:=Wj.1 hc;rw[c,Wd]at d h;exact Gc hS i c (WO hn) (by simpa[Xy]using j) rfl d g h.out
def Mc (P:Program)(ids:List Nat):Cfg->Option (FuncId×List AV×List AV×List Obj)
 |.code (.rangeFunc op _ _ _) _ st=>match Bn st.env op with
  |some (f,first,caps)=>match P.funcs[f]?,H6 ids st.regs ids,AD ids first,AD ids caps with
   |some fn,some objs,some as,some bs=>if (fn.body.isSome && !(fn.name == "runtime.NumGoroutine")&&BM objs&&E6 ids&&(objs.length==ids.length)&&Nat.blt ids.length 1000) then some (f,as,bs,objs)else none
   |_,_,_,_=>none
  |none=>none
 |_=>none
def Eh:Cfg->Array Tmp
 |.code (.rangeFunc _ ps _ _) _ _=>ps
 |_=>#[]
def Md:Cfg->Code
 |.code (.rangeFunc _ _ a _) _ _=>a
 |_=>.skip
def Me:Cfg->Code
 |.code (.rangeFunc _ _ _ b) _ _=>b
 |_=>.skip
def Mf (ids ts:List Nat)(g:Cfg):St:=⟨P7 ts (ts.map (get g.st.env)),I9 ids (ids.map fun _=>false) g.st.regs⟩
def rst (gh:Nat)(t:St):St:=⟨[],ins gh (.ghost (t.env.map (·.2))) t.regs⟩
def Mg (gh:Nat)(ps:Array Tmp)(ys:List PV)(t:St):St:=⟨Fe ps.toList ys t.env,ins gh (.ghost (t.env.map (·.2))) t.regs⟩
def exitE:Cfg->Hh
 |.pop e _ _=>e
 |_=>.normal
def Td:Cfg->Bool
 |.pop .ret [] _=>true
 |.pop (.exit _) [] _=>true
 |_=>false
theorem QN (regs:B5)(d:Nat)(x:Obj):A2 (ins d x regs) d=some x:=by
 induction regs with
 |nil=>simp[ins,A2]
 |cons p r ih=>
  obtain⟨i,b⟩:=p;simp only[ins];split
  .simp[A2]
  split
  .simp[A2]
  rename_i h1 a;simp only[A2,a,Br,ih]
theorem Dc (gh:Nat)(t:St):A2 (rst gh t).regs gh=some (.ghost (t.env.map fun p=>p.2)):=by unfold rst;exact QN _ _ _
def HR (ids:List Nat):Cfg->Option (FuncId×List AV×List AV×List Obj)
 |.code (.rangeFunc op _ _ _) _ st=>match Bn st.env op with
  |some (f,first,caps)=>match H6 ids st.regs ids,AD ids first,AD ids caps with
   |some objs,some as,some bs=>if (BM objs&&E6 ids&&(objs.length==ids.length)&&Nat.blt ids.length 1000) then some (f,as,bs,objs)else none
   |_,_,_=>none
  |none=>none
 |_=>none
theorem DL {ids:List Nat}{g:Cfg}{q:FuncId×List AV×List AV×List Obj}(h:Mc P ids g=some q):HR ids g=some q/\∃fn,P.funcs[q.1]? = some fn/\fn.body.isSome=true/\(fn.name == "runtime.NumGoroutine")=false:=by
 unfold Mc at h;split at h
 .split at h
  .rename_i a;split at h
   .rename_i fn objs' as' bs' h1 c d f;split at h
    .rename_i b;cases h;simp only[Wa,Ws,beq_iff_eq]at b;obtain⟨⟨⟨⟨⟨e1,e2⟩,e3⟩,e4⟩,e5⟩,e6⟩:=b;refine⟨?_,fn,h1,e1,by simpa using e2⟩;simp only[HR,a,c,d,f,e3,e4,e5,e6,beq_self_eq_true,Yk,Be]
    cases h
   cases h
  cases h
 cases h
theorem OF (hS:E7 S P)(hc:pr){f:FuncId}{as bs:List AV}{objs:List Obj}{R T A:Type}{enc:T->List PV}{L:List T}{mb:(A->Option R)->T->A->Option R}{mk:A->Option R}{a0:A}{r:R}(o:∃fn,P.funcs[f]? = some fn/\fn.body.isSome=true/\(fn.name == "runtime.NumGoroutine")=false)
 (ids ts:List Nat) (gh:Nat) (s:A->St) {idl:List (Nat×Nat)}(h:Z8 L mb mk a0=some r) (x:EI S f as bs objs (L.map enc))
 (i:∀t:T,(enc t).length=(Eh (stp P g)).size) (hk:∀a,(s a).env.map (·.1)=ts) (hn:∀a,A2 (s a).regs gh=none) (m:∀a,(⟨P7 ts ((s a).env.map (·.2)),del gh (ins gh (.ghost ((s a).env.map (·.2))) (s a).regs)⟩:St)=s a)
 (c:∀(t:T) (next:St->Prop) (d:A->Option R) (a:A),
  (∀(g' : Cfg) (ids:List (Nat×Nat)) (pr:Prop) (a:A),pr->d a=some r->(hp:pr=C4 (cnd P g'):=by kernel_rfl)->(b:stp P g' = .pop .normal [] (stp P g').st:=by kernel_rfl)->(hle:KLe ids (stp P g').st (rst gh (s a)):=by exact kl)->KG S P (Bp S gh ts next (kp S P (stp P g).k F)) g') ->
  mb d t a=some r->KG S P (W1 S P (Me (stp P g)) gh ts next (kp S P (stp P g).k F)) (.code (Md (stp P g)) [] (Mg gh (Eh (stp P g)) (enc t) (s a))))
 (j:∀a,mk a=some r->KG S P F (.pop .normal (stp P g).k (s a)))
 (hp:pr=C4 (cnd P g):=by kernel_rfl) (b:HR ids (stp P g)=some (f,as,bs,objs):=by kernel_rfl) (q:Nat.blt gh 1000=true:=by kernel_rfl) (n:A2 (stp P g).st.regs gh=none:=by kernel_rfl) (u:E6 ts=true:=by kernel_rfl)
 (hle:KLe idl (Mf ids ts (stp P g)) (s a0):=by exact kl):KG S P F g:=by
 refine⟨Cg hS hc ?_ hp⟩;generalize stp P g=g1 at i c j b n hle;unfold HR at b;split at b
 .rename_i op ps asg body K st;split at b
  .rename_i f' first caps v
   split at b
   .rename_i objs' as' bs' y z h4;split at b
    .rename_i w;simp only[VX,We]at b;obtain⟨rfl,rfl,rfl,rfl⟩:=b;simp only[Wa,Ws,beq_iff_eq]at w;obtain⟨⟨⟨e3,e4⟩,e5⟩,e6⟩:=w;refine TO hS ids ts gh s idl h x v o y e3 e4 z h4 e5 q n e6 u i hle.out hk hn (fun t next d a hb hm=>?_) (fun a hm=>(j a hm).out);refine (c t next d a (fun g' ids' pr a hc l hp b hle=>⟨Cg hS hc ?_ hp⟩) hm).out;rw[b];have hl:((s a).env.map (·.2)).length=ts.length:=by rw[<- hk a];simp
     refine hb _ (rst gh (s a)) ((s a).env.map fun p=>p.2) ids' a hle.out (Dc gh (s a)) hl ?_ (m a) l
     have:=congrArg St.regs (m a)
     simp only at this;show A2 (del gh (ins gh _ _)) gh=none;rw[this];exact hn a
    cases b
   cases b
  cases b
 cases b
theorem EL (hS:E7 S P)(hc:pr){f:FuncId}{as bs:List AV}{objs:List Obj}{R T A:Type}{enc:T->List PV}{L:List T}{mb:(A->Option R)->T->A->Option R}{mk:A->Option R}{a0:A}{r:R}
 (ids ts:List Nat) (gh:Nat) (s:A->St) {idl:List (Nat×Nat)}(h:Z8 L mb mk a0=some r) (q:EI S f as bs objs (L.map enc))
 (d:∀t:T,(enc t).length=(Eh (stp P g)).size) (hk:∀a,(s a).env.map (·.1)=ts) (hn:∀a,A2 (s a).regs gh=none) (j:∀a,(⟨P7 ts ((s a).env.map (·.2)),del gh (ins gh (.ghost ((s a).env.map (·.2))) (s a).regs)⟩:St)=s a)
 (b:∀(t:T) (next:St->Prop) (c:A->Option R) (a:A),
  (∀(g' : Cfg) (ids:List (Nat×Nat)) (pr:Prop) (a:A),pr->c a=some r->(hp:pr=C4 (cnd P g'):=by kernel_rfl)->(l:stp P g' = .pop .normal [] (stp P g').st:=by kernel_rfl)->(hle:KLe ids (stp P g').st (rst gh (s a)):=by exact kl)->KG S P (Bp S gh ts next (kp S P (stp P g).k F)) g') ->
  mb c t a=some r->KG S P (W1 S P (Me (stp P g)) gh ts next (kp S P (stp P g).k F)) (.code (Md (stp P g)) [] (Mg gh (Eh (stp P g)) (enc t) (s a))))
 (i:∀a,mk a=some r->KG S P F (.pop .normal (stp P g).k (s a)))
 (hp:pr=C4 (cnd P g):=by kernel_rfl) (l:Mc P ids (stp P g)=some (f,as,bs,objs):=by kernel_rfl) (m:Nat.blt gh 1000=true:=by kernel_rfl) (n:A2 (stp P g).st.regs gh=none:=by kernel_rfl) (o:E6 ts=true:=by kernel_rfl)
 (hle:KLe idl (Mf ids ts (stp P g)) (s a0):=by exact kl):KG S P F g:=
 OF hS hc (DL l).2 ids ts gh s h q d hk hn j b i hp (DL l).1 m n o hle
theorem QO (hS:E7 S P)(hc:pr){f:FuncId}{as bs:List AV}{objs:List Obj}{R T A:Type}{enc:T->List PV}{L:List T}{mb:(A->Option R)->T->A->Option R}{mk:A->Option R}{a0:A}{r0:R}(o:∃fn,P.funcs[f]? = some fn/\fn.body.isSome=true/\(fn.name == "runtime.NumGoroutine")=false)
 (ids ts:List Nat) (gh:Nat) (s:A->R->St) {idl:List (Nat×Nat)}(h:Z8 L mb mk a0=some r0) (x:EI S f as bs objs (L.map enc))
 (i:∀t:T,(enc t).length=(Eh (stp P g)).size) (hk:∀a r,(s a r).env.map (·.1)=ts) (hn:∀a r,A2 (s a r).regs gh=none) (m:∀a r,(⟨P7 ts ((s a r).env.map (·.2)),del gh (ins gh (.ghost ((s a r).env.map (·.2))) (s a r).regs)⟩:St)=s a r)
 (c:∀(t:T) (next:St->Prop) (d:A->Option R) (a:A) (r:R),
  (∀(g' : Cfg) (ids:List (Nat×Nat)) (pr:Prop) (a:A) (r:R),pr->d a=some r->(hp:pr=C4 (cnd P g'):=by kernel_rfl)->(b:stp P g' = .pop .normal [] (stp P g').st:=by kernel_rfl)->(hle:KLe ids (stp P g').st (rst gh (s a r)):=by exact kl)->KG S P (Bp S gh ts next (kp S P (stp P g).k F)) g') ->
  mb d t a=some r->KG S P (W1 S P (Me (stp P g)) gh ts next (kp S P (stp P g).k F)) (.code (Md (stp P g)) [] (Mg gh (Eh (stp P g)) (enc t) (s a r))))
 (j:∀a r,mk a=some r->KG S P F (.pop .normal (stp P g).k (s a r)))
 (hp:pr=C4 (cnd P g):=by kernel_rfl) (b:HR ids (stp P g)=some (f,as,bs,objs):=by kernel_rfl) (q:Nat.blt gh 1000=true:=by kernel_rfl) (n:A2 (stp P g).st.regs gh=none:=by kernel_rfl) (u:E6 ts=true:=by kernel_rfl)
 (hle:KLe idl (Mf ids ts (stp P g)) (s a0 r0):=by exact kl):KG S P F g:=by
 refine⟨Cg hS hc ?_ hp⟩;generalize stp P g=g1 at i c j b n hle;unfold HR at b;split at b
 .rename_i op ps asg body K st;split at b
  .rename_i f' first caps v
   split at b
   .rename_i objs' as' bs' y z h4;split at b
    .rename_i w;simp only[VX,We]at b;obtain⟨rfl,rfl,rfl,rfl⟩:=b;simp only[Wa,Ws,beq_iff_eq]at w;obtain⟨⟨⟨e3,e4⟩,e5⟩,e6⟩:=w;refine Se hS ids ts gh s idl h x v o y e3 e4 z h4 e5 q n e6 u i hle.out hk hn (fun t next d a r hb hm=>?_) (fun a r hm=>(j a r hm).out);refine (c t next d a r (fun g' ids' pr a r hc l hp b hle=>⟨Cg hS hc ?_ hp⟩) hm).out;rw[b];have hl:((s a r).env.map (·.2)).length=ts.length:=by rw[<- hk a r];simp
     refine hb _ (rst gh (s a r)) ((s a r).env.map fun p=>p.2) ids' a r hle.out (Dc gh (s a r)) hl ?_ (m a r) l
     have:=congrArg St.regs (m a r)
     simp only at this;show A2 (del gh (ins gh _ _)) gh=none;rw[this];exact hn a r
    cases b
   cases b
  cases b
 cases b
theorem So (hS:E7 S P)(hc:pr){f:FuncId}{as bs:List AV}{objs:List Obj}{R T A:Type}{enc:T->List PV}{L:List T}{mb:(A->Option R)->T->A->Option R}{mk:A->Option R}{a0:A}{r0:R}
 (ids ts:List Nat) (gh:Nat) (s:A->R->St) {idl:List (Nat×Nat)}(h:Z8 L mb mk a0=some r0) (q:EI S f as bs objs (L.map enc))
 (d:∀t:T,(enc t).length=(Eh (stp P g)).size) (hk:∀a r,(s a r).env.map (·.1)=ts) (hn:∀a r,A2 (s a r).regs gh=none) (j:∀a r,(⟨P7 ts ((s a r).env.map (·.2)),del gh (ins gh (.ghost ((s a r).env.map (·.2))) (s a r).regs)⟩:St)=s a r)
 (b:∀(t:T) (next:St->Prop) (c:A->Option R) (a:A) (r:R),
  (∀(g' : Cfg) (ids:List (Nat×Nat)) (pr:Prop) (a:A) (r:R),pr->c a=some r->(hp:pr=C4 (cnd P g'):=by kernel_rfl)->(l:stp P g' = .pop .normal [] (stp P g').st:=by kernel_rfl)->(hle:KLe ids (stp P g').st (rst gh (s a r)):=by exact kl)->KG S P (Bp S gh ts next (kp S P (stp P g).k F)) g') ->
  mb c t a=some r->KG S P (W1 S P (Me (stp P g)) gh ts next (kp S P (stp P g).k F)) (.code (Md (stp P g)) [] (Mg gh (Eh (stp P g)) (enc t) (s a r))))
 (i:∀a r,mk a=some r->KG S P F (.pop .normal (stp P g).k (s a r)))
 (hp:pr=C4 (cnd P g):=by kernel_rfl) (l:Mc P ids (stp P g)=some (f,as,bs,objs):=by kernel_rfl) (m:Nat.blt gh 1000=true:=by kernel_rfl) (n:A2 (stp P g).st.regs gh=none:=by kernel_rfl) (o:E6 ts=true:=by kernel_rfl)
 (hle:KLe idl (Mf ids ts (stp P g)) (s a0 r0):=by exact kl):KG S P F g:=
 QO hS hc (DL l).2 ids ts gh s h q d hk hn j b i hp (DL l).1 m n o hle
def VT (t:Nat)(a:AV):Cfg->Cfg
 |.ops all rest K st=>mkO (ins t a st.env) st.regs fun env regs=>.ops all rest K ⟨env,regs⟩
 |g=>g
theorem QP (hS:E7 S P)(hc:pr)(t:Nat){k n:Nat}{f:Nat->List PV}(b:n=0->KG S P F (VT t (.p (.v (.slice none 0 0))) (stp P g)))(h1:KG S P F (VT t (.p (.sl true k n f)) (stp P g)))
 (hp:pr=C4 (cnd P g):=by kernel_rfl) (a:EJ (stp P g)=true:=by kernel_rfl) (c:get (stp P g).st.env t=.p (.sl false k n f):=by kernel_rfl):KG S P F g:=by
 refine⟨Cg hS hc ?_ hp⟩;generalize stp P g=g1 at b h1 a c;unfold EJ at a;split at a
 .refine UF hS t c (fun h=>?_) ?_
  .have:=(b h).out
   simpa only[VT,Db]using this
  have:=h1.out
  simpa only[VT,Db]using this
 cases a
def frzC (j:Nat)(ps:List PV):Cfg->Cfg
 |.code c K st=>mkO (Rf j ps st.env) (ins j .dead st.regs) fun env regs=>.code c K ⟨env,regs⟩
 |g=>g
theorem Uc (hS:E7 S P)(hc:pr)(j:Nat)(ps:List PV)(hk:KG S P F (frzC j ps (stp P g)))(hp:pr=C4 (cnd P g):=by kernel_rfl)(c:Ch (stp P g)=true:=by kernel_rfl)(b:P.follows .mixedOrders=true:=by kernel_rfl)
 (a:Gp (EK (stp P g)).all=true:=by kernel_rfl) (f:A2 (stp P g).st.regs j=some (.cells (ps.map .p)):=by kernel_rfl):KG S P F g:=by
 refine⟨Cg hS hc ?_ hp⟩;generalize stp P g=g1 at hk c a f;unfold Ch at c;split at c
 .rename_i id ops K st;have hk:=hk.out;simp only[frzC,Db]at hk;show awp S P (.region id ops true) (kp S P K F) st;simp only[awp,Be];have d : Rk S P ops.toList (kp S P K F) ⟨Rf j ps st.env,ins j .dead st.regs⟩:=by
   have:awp S P (.region id ops true) (kp S P K F) ⟨Rf j ps st.env,ins j .dead st.regs⟩:=hk
   simpa only[awp,Be]using this
  exact Sc hS b a (hS.frz st j ps _ f d)
 cases c
def clsN (js:List Nat):Nat->List Oper->List Cls
 |_,[]=>[]
 |i,o::r=>(if js.contains i then .n else if js.contains (i+1000)then .w else VP o.op)::clsN js (i+1) r
def KE (js:List Nat):Cfg->SC
 |.code (.region _ ops true) _ st=>⟨ops.toList,clsN js 0 ops.toList,ops.toList,st.env,st.regs,[]⟩
 |_=>⟨[],[],[],[],[],[]⟩
theorem I8 (hS:E7 S P)(hc:pr)(js:List Nat)(h:DG S P (KE js (stp P g)) fun env regs=>KG S P F (.pop .normal (stp P g).k ⟨env,regs⟩))(hp:pr=C4 (cnd P g):=by kernel_rfl)(c:Ch (stp P g)=true:=by kernel_rfl)(a:P.follows .mixedOrders=true:=by kernel_rfl)
 (b:HI (KE js (stp P g)).all (KE js (stp P g)).cls=true:=by kernel_rfl):KG S P F g:=by
 have e:(fun env regs=>KG S P F (.pop .normal (stp P g).k ⟨env,regs⟩))=fun env regs=>G S P F (.pop .normal (stp P g).k ⟨env,regs⟩):=by funext env regs;exact propext ⟨fun h=>h.out,fun h=>⟨h⟩⟩
 rw[e]at h;refine⟨Cg hS hc ?_ hp⟩;have h:=h.out;generalize stp P g=g' at c b h;unfold Ch at c;split at c
 .exact QE hS _ a b h
 cases c
def clsL (ls:List (Nat×Cls)):Nat->List Oper->List Cls
 |_,[]=>[]
 |i,o::r=>(match ls.find? (fun q=>q.1==i)with|some q=>q.2|none=>VP o.op)::clsL ls (i+1) r
def KF (ls:List (Nat×Cls)):Cfg->SC
 |.code (.region _ ops true) _ st=>⟨ops.toList,clsL ls 0 ops.toList,ops.toList,st.env,st.regs,[]⟩
 |_=>⟨[],[],[],[],[],[]⟩
theorem G8 (hS:E7 S P)(hc:pr)(ls:List (Nat×Cls))(h:DG S P (KF ls (stp P g)) fun env regs=>KG S P F (.pop .normal (stp P g).k ⟨env,regs⟩))(hp:pr=C4 (cnd P g):=by kernel_rfl)(c:Ch (stp P g)=true:=by kernel_rfl)(a:P.follows .mixedOrders=true:=by kernel_rfl)
 (b:HI (KF ls (stp P g)).all (KF ls (stp P g)).cls=true:=by kernel_rfl):KG S P F g:=by
 have e:(fun env regs=>KG S P F (.pop .normal (stp P g).k ⟨env,regs⟩))=fun env regs=>G S P F (.pop .normal (stp P g).k ⟨env,regs⟩):=by funext env regs;exact propext ⟨fun h=>h.out,fun h=>⟨h⟩⟩
 rw[e]at h;refine⟨Cg hS hc ?_ hp⟩;have h:=h.out;generalize stp P g=g' at c b h;unfold Ch at c;split at c
 .exact QE hS _ a b h
 cases c
theorem HS (hS:E7 S P)(hc:pr){body:Code}{gh:Nat}{ts:List Nat}{next:St->Prop}{Q:M8}(h:KG S P (Bp S gh ts next Q) (.code body [] (stp P g).st))(hp:pr=C4 (cnd P g):=by kernel_rfl)(a:stp P g=.pop .normal [] (stp P g).st:=by kernel_rfl):KG S P (W1 S P body gh ts next Q) g:=by refine⟨Cg hS hc ?_ hp⟩;rw[a];exact G_asg hS h.out
theorem He (hS:E7 S P)(hc:pr){K:List It}{gh:Nat}{ts:List Nat}{next:St->Prop}(t:St){ids:List (Nat×Nat)}(hk:KG S P F (.pop (exitE (stp P g)) K t))(hp:pr=C4 (cnd P g):=by kernel_rfl)(a:Td (stp P g)=true:=by kernel_rfl)
 (hle:KLe ids (stp P g).st (rst gh t):=by exact kl) (h1:t.env.map (·.1)=ts:=by kernel_rfl) (d:A2 t.regs gh=none:=by kernel_rfl) (b:(⟨P7 ts (t.env.map (·.2)),del gh (ins gh (.ghost (t.env.map (·.2))) t.regs)⟩:St)=t:=by kernel_rfl):KG S P (Bp S gh ts next (kp S P K F)) g:=by
 refine⟨Cg hS hc ?_ hp⟩;generalize stp P g=g1 at hk a hle;have hl:(t.env.map (·.2)).length=ts.length:=by rw[<- h1];simp
 have c:A2 (del gh (ins gh (.ghost (t.env.map (·.2))) t.regs)) gh=none:=by
  have:=congrArg St.regs b
  simp only at this;rw[this];exact d
 unfold Td at a;split at a
 .exact Ov hS Bs (rst gh t) ids hle.out (Dc gh t) hl c (by rw[show (⟨P7 ts (t.env.map (·.2)),del gh (rst gh t).regs⟩:St)=t from b];exact hk.out)
 .exact Ov hS Bs (rst gh t) ids hle.out (Dc gh t) hl c (by rw[show (⟨P7 ts (t.env.map (·.2)),del gh (rst gh t).regs⟩:St)=t from b];exact hk.out)
 cases a
end
end Go.AM
namespace Go.AM
section
variable {S:O7}{P:Program}{F:M8}{g:Cfg}{pr:Prop}
def Vl (j:Nat)(ps:List PV):Cfg->Cfg
 |.ops all rest K st=>mkO (Rf j ps st.env) (ins j .dead st.regs) fun env regs=>.ops all rest K ⟨env,regs⟩
 |g=>g
def unrT:List (St->Prop)->Nat->St->Prop
 |[],_,_=>False
 |a::_,0,t=>a t
 |_::l,i+1,t=>unrT l i t
theorem Sp (hS:E7 S P)(hc:pr)(n:Nat)(T:Nat->St->Prop)(s0:St){ids:List (Nat×Nat)}(j:T 0 s0)
 (l:∀(X:Type) (s' : X->St) (J:X->Prop) (m:X->Nat) (i k:Nat) (t:St),i<=n->T i t ->
  (∀(g' : Cfg) (ids:List (Nat×Nat)) (pr:Prop) (t' : St),pr->Nat.ble (i+1) n=true->T (i+1) t' -> (hp:pr=C4 (cnd P g'):=by kernel_rfl)->(r:stp P g' = .pop .normal (.lp X s' J m k::(stp P g).k) (stp P g').st:=by kernel_rfl)->(hle:KLe ids (stp P g').st t':=by exact kl)->KG S P F g') ->
  KG S P F (.code (LZ (stp P g)) (.lp X s' J m k::(stp P g).k) t)) (hp:pr=C4 (cnd P g):=by kernel_rfl) (hl:Fq (stp P g)=true:=by kernel_rfl) (hle:KLe ids (stp P g).st s0:=by exact kl):KG S P F g:=by
 refine⟨Cg hS hc ?_ hp⟩;rw[No hl];refine Qa hS (X:=Nat×St) (fun x=>x.2) (fun x=>x.1<=n/\T x.1 x.2) (fun x=>n-x.1) (0,s0) ids hle.out ⟨Yu _,j⟩ ?_;rintro⟨i,t⟩ ⟨o,q⟩;refine (l (Nat×St) (fun x=>x.2) (fun x=>x.1<=n/\T x.1 x.2) (fun x=>n-x.1) i (n-i) t o q fun g' ids' pr' t' b hn c d f a=>⟨Cg hS b ?_ d⟩).out;rw[f];have hn:i+1<=n:=WO hn;exact hS.le ids' _ _ _ a.out ⟨(i+1,t'),rfl,⟨hn,c⟩,by show n-(i+1)<n-i;omega⟩
end
section
variable {S:O7}{P:Program}{F:M8}{g:Cfg}{pr:Prop}
theorem J5 (hS:E7 S P)(hc:pr)(d:Nat)(st:St){ids:List (Nat×Nat)}(hk:KG S P F (opsS st (EY P d g)))(hp:pr=C4 (UX P d g):=by kernel_rfl)(a:EJ (EY P d g)=true:=by kernel_rfl)(hle:KLe ids (EY P d g).st st:=by exact kl):KG S P F g:=by
 refine⟨(Ez (u:=some d) (F:=F) hS 400 [] g (by subst hp;exact hc)).2 ?_⟩;have hk:=hk.out;have hle:=hle.out;show G S P F (EY P d g);generalize EY P d g=g' at a hle hk;unfold EJ at a;split at a
 .exact QK hS st ids hle hk
 cases a
end
end Go.AM
namespace Go.AM
section
variable {S:O7}{P:Program}{F:M8}{g:Cfg}{pr:Prop}
def Vm (S:O7)(P:Program)(pv:PV)(m:String)(as:List AV)(r:AV):Prop:=∃t y fn,pv=.iface t y/\Lp P t m=some fn/\Rp S fn (.p (nP y)::as) r
def invE:Cfg->Option (PV×String×List AV)
 |.ops all (o::_) _ st=>match Ah all st.env o,o.op with
  |some true,.call c=>match c.callee with
   |.invoke rv m=>match II st.regs (c.args.toList.map (aev st.env)),aev st.env rv with
    |some (as,_),.p pv=>match AD [] as with
     |some as'=>some (pv,m,as')
     |none=>none
    |_,_=>none
   |_=>none
  |_,_=>none
 |_=>none
def invK (r:AV):Cfg->Cfg
 |.ops all (o::rest) K st=>match o.op with
  |.call c=>match II st.regs (c.args.toList.map (aev st.env))with
   |some (_,regs)=>SZ o.dst (unA [] r) st.env regs fun st=>.ops all rest K st
   |none=>.ops all (o::rest) K st
  |_=>.ops all (o::rest) K st
 |g=>g
theorem Hf (hS:E7 S P)(hc:pr){pv:PV}{m:String}{as:List AV}{r:AV}(b:Vm S P pv m as r)(hk:KG S P F (invK r (stp P g)))
 (hp:pr=C4 (cnd P g):=by kernel_rfl) (a:invE (stp P g)=some (pv,m,as):=by kernel_rfl):KG S P F g:=by
 obtain⟨t,y,fn,rfl,hm,b⟩:=b;refine⟨Cg hS hc ?_ hp⟩;have hk:=hk.out;generalize stp P g=g' at a hk;unfold invE at a;split at a
 .split at a
  .rename_i i f;split at a
   .rename_i c;split at a
    .rename_i ha d;split at a
     .rename_i j;cases a;simp only[invK,f,ha,Gd]at hk;refine RZ hS i f c ha d hm (args:=.p (nP y)::_) ?_ b hk;simp only[AD,Lj,j]
     cases a
    cases a
   cases a
  cases a
 cases a
theorem J0 (hS:E7 S P)(hc:pr)(d j:Nat)(ps:List PV)(hk:KG S P F (Vl j ps (EY P d g)))(hp:pr=C4 (UX P d g):=by kernel_rfl)(a:EJ (EY P d g)=true:=by kernel_rfl)
 (b:A2 (EY P d g).st.regs j=some (.cells (ps.map .p)):=by kernel_rfl):KG S P F g:=by
 refine⟨(Ez (u:=some d) (F:=F) hS 400 [] g (by subst hp;exact hc)).2 ?_⟩;have hk:=hk.out;show G S P F (EY P d g);generalize EY P d g=g' at a b hk;unfold EJ at a;split at a
 .simp only[Vl,Db]at hk;exact MP hS (hS.frz _ j ps _ b hk)
 cases a
def Sq (j j' : Nat):AV->AV
 |.vecp i m=>if i=j then .vec j' else .vecp i m
 |a=>a
def Sr (j j' : Nat):List AV->List AV
 |[]=>[]
 |a::r=>Sq j j' a::Sr j j' r
def Ss (j j' : Nat):Env->Env
 |[]=>[]
 |(t,a)::r=>(t,Sq j j' a)::Ss j j' r
def Pz (j j' : Nat):B5->B5
 |[]=>[]
 |(t,.cells cs)::r=>(t,.cells (Sr j j' cs))::Pz j j' r
 |(t,o)::r=>(t,o)::Pz j j' r
def msA (j:Nat)(r:List Nat):AV->List Nat
 |.vecp i m=>if i=j then m::r else r
 |_=>r
def msL (j:Nat):List AV->List Nat
 |[]=>[]
 |a::r=>msA j (msL j r) a
def msE (j:Nat):Env->List Nat
 |[]=>[]
 |(_,a)::r=>msA j (msE j r) a
def msR (j:Nat):B5->List Nat
 |[]=>[]
 |(_,.cells cs)::r=>msL j cs++msR j r
 |_::r=>msR j r
theorem QR {j:Nat}{r:List Nat}{a:AV}:∀x∈r,x∈msA j r a:=by
 intro x hx;unfold msA;split
 .split
  .exact Wr _ hx
  exact hx
 exact hx
theorem OG {j n j' : Nat}{r:List Nat}{a:AV}(h:∀m∈msA j r a,m=n):Rm j n j' a=Sq j j' a:=by
 cases a with
 |vecp i m=>
  simp only[Rm,Sq];by_cases e:i=j
  .have:m=n:=h m (by simp[msA,e])
   simp[e,this]
  simp[e]
 |_=>rfl
theorem OH {j n j' : Nat}:∀{l:List AV},(∀m∈msL j l,m=n)->SN j n j' l=Sr j j' l
 |[],_=>rfl
 |a::r,h=>by simp only[SN,Sr,OG (r:=msL j r) h,OH fun m hm=>h m (QR m hm)]
theorem OI {j n j' : Nat}:∀{l:Env},(∀m∈msE j l,m=n)->SM j n j' l=Ss j j' l
 |[],_=>rfl
 |(t,a)::r,h=>by simp only[SM,Ss,OG (r:=msE j r) h,OI fun m hm=>h m (QR m hm)]
theorem KH {j n j' : Nat}:∀{l:B5},(∀m∈msR j l,m=n)->NS j n j' l=Pz j j' l
 |[],_=>rfl
 |(t,o)::r,h=>by
  cases o with
  |cells cs=>simp only[NS,Pz,Ut,OH fun m hm=>h m (Wt _ hm),KH fun m hm=>h m (Wl _ hm)]
  |_=>simp only[NS,Pz,Ut,KH (l:=r) h]
def truC (j j' : Nat)(e:TypeId)(k n:Nat)(f:Nat->List PV):Cfg->Cfg
 |.ops all rest K st=>mkO (Ss j j' st.env) (ins j' (.vec e k n f false) (ins j .dead (Pz j j' st.regs))) fun env regs=>.ops all rest K ⟨env,regs⟩
 |g=>g
theorem Vn (hS:E7 S P)(hc:pr)(d j n j' : Nat){e:TypeId}{k N:Nat}{f:Nat->List PV}(hn:n<=N)(hk:KG S P F (truC j j' e k n f (EY P d g)))(hp:pr=C4 (UX P d g):=by kernel_rfl)(b:EJ (EY P d g)=true:=by kernel_rfl)
 (c:A2 (EY P d g).st.regs j=some (.vec e k N f false):=by kernel_rfl) (i:A2 (EY P d g).st.regs j' = none:=by kernel_rfl) (h1:Nat.ble 1000 j' = true:=by kernel_rfl)
 (hm:(msE j (EY P d g).st.env++msR j (EY P d g).st.regs)=List.replicate (msE j (EY P d g).st.env++msR j (EY P d g).st.regs).length n:=by kernel_rfl):KG S P F g:=by
 refine⟨(Ez (u:=some d) (F:=F) hS 400 [] g (by subst hp;exact hc)).2 ?_⟩;have hk:=hk.out;show G S P F (EY P d g);generalize EY P d g=g' at b c i hk hm;unfold EJ at b;split at b
 .rename_i st;have a:∀m∈msE j st.env++msR j st.regs,m=n:=fun m h=>by rw[show msE j st.env++msR j st.regs=_ from hm]at h;exact (List.mem_replicate.1 h).2
  simp only[truC,Db]at hk;refine MP hS (hS.trunc _ j j' n N k e f _ c hn i (WO h1) ?_);rw[OI fun m h=>a m (Wt _ h),KH fun m h=>a m (Wl _ h)];exact hk
 cases b
end
abbrev cA {α : Type}(n:Nat)(c : α -> PV)(f:Nat -> α):List PV:=Z5 n (fun i=>c (f i))
theorem D4 (n:Nat)(f:Nat->PV):(Z5 n f).length=n:=by simp[Z5]
theorem D0 (n:Nat)(f:Nat->PV):∀i,i<n->[(Z5 n f).getD i default]=[f i]:=by intro i a;simp[Z5,VW,a]
theorem X5 {n:Nat}{z:PV}{ps:List PV}(h:ps=List.replicate n z):∀i,i<n->[ps.getD i default]=[z]:=by intro i a;subst h;simp[VW,a]
theorem PA {n:Nat}{f g:Nat->PV}(h:∀i,i<n->[f i]=[g i]):Z5 n f=Z5 n g:=by unfold Z5;exact WF fun i a=>by have:=h i (XN.1 a);injection this
abbrev IU {α : Type}(f:Nat -> α)(k:Nat)(x : α):Nat -> α:=fun i=>if i=k then x else f i
theorem Ud {α : Type}{c : α -> PV}{n k:Nat}{v:Nat -> α}{f:Nat->PV}{e:PV}{x : α}(h:∀i,i<n->[f i]=[c (v i)])(hx:e=c x):∀i,i<n->[if i=k then e else f i]=[c (if i=k then x else v i)]:=by
 intro i a;by_cases h1:i=k
 .rw[Au h1,Au h1,hx]
 rw[Ay h1,Ay h1];exact h i a
theorem app1H {α : Type}{c : α -> List PV}{n:Nat}{v:Sl α}{f g:Nat->List PV}{z : α}(h:∀i,i<n->f i=c (v.g i))(hn:n=v.n):∀i,i<n+1->i≠v.n->V7 n f g i=c ((v.push z).g i):=by
 subst hn;intro i b a;have hl:i<v.n:=by omega
 show (if i<v.n then f i else g (i-v.n))=c (if i<v.n then v.g i else z);rw[Au hl,Au hl];exact h i hl
theorem setH {α : Type}{c : α -> List PV}{n k:Nat}{v:Sl α}{f e:Nat->List PV}{x : α}(h:∀i,i<n->i≠k->f i=c (v.g i))(hx:k<n->e k=c x):∀i,i<n->(fun l=>if l=k then e l else f l) i=c ((v.upd k x).g i):=by
 intro i a;show (if i=k then e i else f i)=c (if i=k then x else v.g i);split
 .subst_vars;exact hx a
 exact h i a ‹_›
end Go.AM
namespace Go.AM
section
variable {S:O7}{P:Program}{F:M8}{g:Cfg}{R X:Type}{A B:Option R}{r:R}{b:Bool}
theorem kI (hS:E7 S P)(h:(if b then A else B)=some r)(a:A=some r->KG S P F (TP (stp P g)))(d:B=some r->KG S P F (TQ (stp P g)))
 (hp:True=C4 (cnd P g):=by kernel_rfl) (hb:Sf (stp P g)=some b:=by kernel_rfl):KG S P F g:=
 D7 hS Bs (fun c=>a (itT c h)) (fun c=>d (itF c h)) hp hb
theorem kG (hS:E7 S P)(h:(if b then A else B)=some r)(a:A=some r->KG S P F (HK true (stp P g)))(d:B=some r->KG S P F (HK false (stp P g)))
 (hp:True=C4 (cnd P g):=by kernel_rfl) (hb:Ox (stp P g)=some b:=by kernel_rfl):KG S P F g:=
 KA hS Bs (fun c=>a (itT c h)) (fun c=>d (itF c h)) hp hb
theorem kR (hS:E7 S P){n:Nat}{rs:List ResultVar}{Q:Hi->List Obj->List Bool->Prop}{a:AV}{objs:List Obj}(b:Q (.ret a) objs (CH n []):=by exact⟨rfl,rfl,rfl⟩)
 (hp:True=C4 (cnd P g):=by kernel_rfl) (c:(TU (stp P g)).bind (fun st=>Np P st rs [])=some (a,objs):=by kernel_rfl):KG S P (Y6 S P n rs Q) g:=
 Ua hS Bs [] b hp c
theorem kC (hS:E7 S P){x:Option X}{f:X->Option R}(h:x.bind f=some r){fn:FuncId}{args:List AV}{objs:List Obj}{objs' : X->List Obj}{rr:X->AV}{ks:List Bool}
 (a:∀{y},x=some y->FunO S fn args objs (rr y) (objs' y) ks) (hk:∀y,f y=some r->KG S P F (Sg [] ks (rr y) (objs' y) (stp P g)))
 (hp:True=C4 (cnd P g):=by kernel_rfl) (b:Pw [] (stp P g)=some (fn,args,objs):=by kernel_rfl) (hn:∀y,Px [] ks (objs' y).length (stp P g)=true:=by intro y;kernel_rfl):KG S P F g:=by
 obtain⟨y,e,h⟩:=B6 h;exact B7 hS [] Bs (a e) (hk y h) hp b (hn y)
end
end Go.AM
namespace Go.AM
inductive BT where
 |l (b:Bool)
 |n (b:Bool) (t f:BT)
def BT.ev:BT->Bool
 |.l b=>b
 |.n b t f=>if b then t.ev else f.ev
inductive BE where
 |a (b:Bool)
 |n (x y:BE)
 |o (x y:BE)
def BE.den:BE->Bool
 |.a b=>b
 |.n x y=>x.den&&y.den
 |.o x y=>x.den||y.den
def BE.tr:BE->BT->BT->BT
 |.a b,t,f=>.n b t f
 |.n x y,t,f=>x.tr (y.tr t f) f
 |.o x y,t,f=>x.tr t (y.tr t f)
def BE.top:BE->BT
 |.a b=>.l b
 |.n x y=>x.tr y.top (.l false)
 |.o x y=>x.tr (.l true) y.top
theorem BE.tr_ev:∀(e:BE) (t f:BT),(e.tr t f).ev=if e.den then t.ev else f.ev
 |.a b,t,f=>rfl
 |.n x y,t,f=>by simp only[tr,den,x.tr_ev,y.tr_ev];by_cases h:x.den=true<;>simp[h]
 |.o x y,t,f=>by simp only[tr,den,x.tr_ev,y.tr_ev];by_cases h:x.den=true<;>simp[h]
theorem BE.top_ev:∀e:BE,e.top.ev=e.den
 |.a b=>rfl
 |.n x y=>by simp only[top,den,x.tr_ev,y.top_ev,BT.ev];by_cases h:x.den=true<;>simp[h]
 |.o x y=>by simp only[top,den,x.tr_ev,y.top_ev,BT.ev];by_cases h:x.den=true<;>simp[h]
def keeps:Op->Bool
 |.move _ | .assign _ | .pick .. | .load .. | .nilCheck _ | .binOp .. | .unOp .. | .convert .. | .fieldAddr .. | .field .. | .indexAddr .. | .index .. | .extract ..=>true
 |.call { callee:=.builtin .len,.. } | .call { callee:=.builtin .min,.. } | .call { callee:=.builtin .max,.. }=>true
 |_=>false
theorem PB {P:Program}{env:Env}{regs:B5}{d:Nat}{o:Op}{out:Out}(hk:keeps o=true)(h:aop P env regs d o=some out):out.regs=regs:=by unfold keeps at hk;split at hk<;>first|(cases hk;done)|(simp only[aop]at h;(repeat' split at h)<;>first|(cases h;rfl)|cases h)
theorem JU {o:Op}(hk:keeps o=true):SO o=true:=by unfold keeps at hk;split at hk<;>first|cases hk;done|rfl
def Su:List Prop->List Prop
 |[]=>[]
 |c=>[C4 c]
def bgo (P:Program)(regs:B5)(o:Oper)(last:Bool)(rec:List Prop->Env->Option (BT×List Prop))(c:List Prop)(env:Env)(runs:Bool):Option (BT×List Prop):=match runs with
 |true=>match keeps o.op,o.dst with
  |true,some d=>match aop P env regs d o.op with
   |some ⟨p,v,_⟩=>match last with
    |true=>match Hj v with
     |some b=>some (.l b,Su (p++c))
     |none=>none
    |false=>fA v fun v=>PY d v env fun env=>rec (p++c) env
   |none=>none
  |_,_=>none
 |false=>match last,o.dst with
  |false,some d=>PY d V8 env fun env=>rec c env
  |_,_=>none
def bev (P:Program)(all:List Oper)(regs:B5):List Oper->List Prop->Env->Option (BT×List Prop)
 |[],_,_=>none
 |o::rest,c,env=>
  match o.guard with
  |none=>bgo P regs o rest.isEmpty (fun c env=>bev P all regs rest c env) c env true
  |some (j,want)=>match get env (CU all j)with
   |.p (.v (.bool b))=>bgo P regs o rest.isEmpty (fun c env=>bev P all regs rest c env) c env (b==want)
   |.p (.v (.tuple _))=>bgo P regs o rest.isEmpty (fun c env=>bev P all regs rest c env) c env false
   |.p (.bb b)=>match PY (CU all j) (.p (.v (.bool true))) env fun env=>bgo P regs o rest.isEmpty (fun c env=>bev P all regs rest c env) [] env want,
    PY (CU all j) (.p (.v (.bool false))) env fun env=>bgo P regs o rest.isEmpty (fun c env=>bev P all regs rest c env) [] env !want with
    |some (t,ct),some (f,cf)=>some (.n b t f,Su c++(ct.map (fun p=>b=true->p)++cf.map (fun p=>b=false->p)))
    |_,_=>none
   |_=>none
def PL (l:List Oper):List Nat:=l.filterMap (·.dst)
def Ue (ks:List Nat)(env:Env):Env:=env.filter fun q=>!ks.contains q.1
theorem OJ (ks:List Nat)(env:Env)(x:Nat):get (Ue ks env) x=if x∈ks then .top else get env x:=by
 induction env with
 |nil=>simp[Ue,get]
 |cons q r ih=>
  obtain⟨i,a⟩:=q;simp only[Ue,List.filter_cons];by_cases b:i∈ks
  .rw[Ay (by simpa using b)]
   have:=ih
   simp only[Ue]at this;rw[this];by_cases hx:x∈ks
   .simp[hx]
   have:i≠x:=fun e=>hx (e ▸ b)
   simp[hx,get,this]
  rw[Au (by simpa using b)];simp only[get]
  have:=ih
  simp only[Ue]at this;rw[this];by_cases hx:i=x
  .subst hx;simp[b]
  simp[hx]
def Nq:List Oper->Option Nat
 |[]=>none
 |[o]=>o.dst
 |_::r=>Nq r
section
variable {S:O7}{P:Program}
theorem JV {c:List Prop}(h:∀p∈Su c,p):C4 c:=by
 cases c with
 |nil=>trivial
 |cons p r=>exact h _ (by simp[Su])
theorem Vo (hS:E7 S P){all:List Oper}{regs:B5}{Q:M8}{post:List Oper}{envF:Env}{V:Bool}{d:Nat}(hQ:∀s,S.up s (FR S P all post Q)->FR S P all post Q s)(hV:get envF d=.p (.bb V))
 (hw:FR S P all post Q ⟨envF,regs⟩) :
 ∀(L:List Oper) (c:List Prop) (env:Env) (T:BT) (C:List Prop),bev P all regs L c env=some (T,C)->(∀p∈C,p)->T.ev=V->Nq L=some d ->
  (∀x,x≠d->Ke (get envF x) (get env x) \/ (x∈PL L/\get envF x=.top))->(∀x∈PL L,x≠d->get envF x=.top)->C4 c/\FR S P all (L++post) Q ⟨env,regs⟩:=by
 intro L
 induction L with
 |nil=>intro c env T C h;cases h
 |cons o rest ih=>
  intro c env T C h w i hd hl ht;simp only[bev,Ey]at h;have key:∀(c:List Prop) (env:Env) (runs:Bool) (T:BT) (C:List Prop),bgo P regs o rest.isEmpty (fun c env=>bev P all regs rest c env) c env runs=some (T,C)->(∀p∈C,p)->T.ev=V ->
   (∀x,x≠d->Ke (get envF x) (get env x) \/ (x∈PL (o::rest)/\get envF x=.top)) ->
   C4 c/\(if runs then wOp S P o (FR S P all (rest++post) Q) Q ⟨env,regs⟩else FR S P all (rest++post) Q (put ⟨env,regs⟩ o.dst V8)):=by
   intro c env runs T C h w i hl;have l:rest.isEmpty=false->Nq rest=some d:=by
    intro hr;cases rest with
    |nil=>cases hr
    |cons a r=>simpa[Nq]using hd
   have a0:∀{d'},o.dst=some d' -> PL (o::rest)=d' :: PL rest:=fun g=>by simp[PL,g]
   have m:∀d' (v:AV),o.dst=some d' -> ∀x,x≠d->Ke (get envF x) (get (ins d' v env) x) \/ (x∈PL rest/\get envF x=.top):=by
    intro d' v g x hx;rw[Ax];by_cases n:d' = x
    .subst n;exact .inl (.inl (ht _ (by rw[a0 g];exact Xg ..) hx))
    rw[Ay n];rcases hl x hx with h|⟨h1,h2⟩
    .exact .inl h
    exact .inl (.inl h2)
   cases runs with
   |true=>
    simp only[bgo,OT,Ey,Be]at h⊢;split at h
    .rename_i d' hk g;split at h
     .rename_i p v regs' ha;have hr:regs' = regs:=PB hk ha;subst hr;have ha' : aop P env regs' (o.dst.getD 0) o.op=some ⟨p,v,regs'⟩:=by rw[g];exact ha
      split at h
      .rename_i u;split at h
       .rename_i b hb;cases h;have a1:=JV w;obtain⟨hc,hp⟩:=(X1 _ _).1 a1;refine⟨hc,GY (JU hk) ha' hp ?_⟩;obtain rfl:rest=[]:=List.isEmpty_iff.1 u;simp only[Nq]at hd;have e:d' = d:=by rw[g]at hd;exact Ww hd
        subst e;refine hQ _ (hS.less _ ⟨envF,regs'⟩ _ (fun x=>?_) (fun _=>by rw[g];rfl) (by simpa using hw));rw[g];show Ke (get envF x) (get (ins d' v env) x);rw[Ax];by_cases hx:d' = x
        .subst hx;rw[Au rfl,hV];have i:b=V:=i;subst i;unfold Hj at hb;split at hb
         .cases hb;exact .inr (.inr ⟨_,rfl,rfl⟩)
         .cases hb;exact .inr (.inl rfl)
         cases hb
        rw[Ay hx];rcases hl x (fun e=>hx e.symm)with h|⟨_,h⟩
        .exact h
        exact .inl h
       cases h
      rename_i u;have hn:∀x,x≠d->Ke (get envF x) (get (ins d' v env) x) \/ (x∈PL rest/\get envF x=.top):=m d' v g;obtain⟨a1,a2⟩:=ih _ _ _ _ h w i (l (by simpa using u)) hn (fun x hx=>ht x (by rw[a0 g];exact Wr _ hx));obtain⟨hc,hp⟩:=(X1 _ _).1 a1;exact⟨hc,GY (JU hk) ha' hp (by rw[g];exact a2)⟩
     cases h
    cases h
   |false=>
    simp only[bgo,Ey,Wg,Br]at h⊢;split at h
    .rename_i d' u g;have hn:∀x,x≠d->Ke (get envF x) (get (ins d' V8 env) x) \/ (x∈PL rest/\get envF x=.top):=m d' _ g;obtain⟨hc,a2⟩:=ih _ _ _ _ h w i (l (by simpa using u)) hn (fun x hx=>ht x (by rw[a0 g];exact Wr _ hx));exact⟨hc,by rw[g];exact a2⟩
    cases h
  simp only[WQ,FR];cases hg:o.guard with
  |none=>simp only[hg]at h;obtain⟨hc,hk⟩:=key _ _ _ _ _ h w i hl;exact⟨hc,hS.refl _ _ (by simpa[hg]using hk)⟩
  |some q=>
   obtain⟨j,want⟩:=q;simp only[hg]at h;split at h
   .rename_i b hb;obtain⟨hc,hk⟩:=key _ _ _ _ _ h w i hl;refine⟨hc,hS.refl _ _ ⟨some b,by rw[hb];rfl,?_⟩⟩;have e:(some b=some want)↔(b==want)=true:=by simp
    by_cases z:(b==want)=true
    .rw[Au (e.2 z)];simpa[z]using hk
    rw[Ay (fun x=>z (e.1 x))];simpa[z]using hk
   .rename_i tt hb;obtain⟨hc,hk⟩:=key _ _ _ _ _ h w i hl;refine⟨hc,hS.refl _ _ ⟨none,by rw[hb];rfl,?_⟩⟩;rw[Ay (by simp)];simpa using hk
   .rename_i b hb;split at h
    .rename_i t ct f cf h1 h2;cases h;have hc:C4 c:=JV fun p hp=>w p (Wt _ hp);refine⟨hc,hS.bool _ _ b _ hb ?_⟩;have hl2:∀x,x≠d->Ke (get envF x) (get (ins (CU all j) (.p (.v (.bool b))) env) x) \/ (x∈PL (o::rest)/\get envF x=.top):=by
      intro x hx;rw[Ax];by_cases n:CU all j=x
      .subst n;rw[Au rfl];rcases hl _ hx with h|h
       .rw[hb]at h;rcases h with h|h|⟨y,h1,h2⟩
        .exact .inl (.inl h)
        .exact .inl (.inr (.inr ⟨b,h,rfl⟩))
        cases h2
       exact .inr h
      rw[Ay n];exact hl x hx
     cases b with
     |true=>
      obtain⟨_,hk⟩:=key _ _ _ _ _ h1 (fun p hp=>w (true=true->p) (Wl _ (Wt _ (XC.2 ⟨p,hp,rfl⟩))) rfl) i hl2;refine⟨some true,by show yv (get (ins _ _ _) _)=_;rw[Ax,Au rfl];rfl,?_⟩;cases want with
      |true=>simpa using hk
      |false=>simpa using hk
     |false=>
      obtain⟨_,hk⟩:=key _ _ _ _ _ h2 (fun p hp=>w (false=false->p) (Wl _ (Wl _ (XC.2 ⟨p,hp,rfl⟩))) rfl) i hl2;refine⟨some false,by show yv (get (ins _ _ _) _)=_;rw[Ax,Au rfl];rfl,?_⟩;cases want with
      |true=>simpa using hk
      |false=>simpa using hk
    cases h
   cases h
end
def Uf (P:Program)(m:Nat):Cfg->Option (BT×List Prop)
 |.ops all rest K st=>bev P all st.regs (rest.take m) [] st.env
 |_=>none
def Vp (m:Nat)(b:Bool):Cfg->Cfg
 |.ops all rest K st=>match Nq (rest.take m)with
  |some d=>mkO (ins d (.p (.bb b)) (Ue (PL (rest.take m)) st.env)) st.regs fun env regs=>.ops all (rest.drop m) K ⟨env,regs⟩
  |none=>.ops all rest K st
 |g=>g
def Vq (m:Nat):Cfg->Bool
 |.ops all rest K st=>(Nq (rest.take m)).isSome
 |_=>false
def Vr:List Prop->Prop
 |[]=>True
 |p::r=>r.foldl And p
theorem Sv {l:List Prop}(h:Vr l):∀p∈l,p:=by
 have:∀(r:List Prop) (p:Prop),r.foldl And p->p/\∀q∈r,q:=by
  intro r
  induction r with
  |nil=>intro p h;exact⟨h,fun q b=>by cases b⟩
  |cons a r ih=>intro p h;obtain⟨⟨h1,c⟩,d⟩:=ih _ h;exact⟨h1,fun q b=>by rcases WH.1 b with rfl|b;exact c;exact d q b⟩
 cases l with
 |nil=>intro p hp;cases hp
 |cons a r=>obtain⟨h1,c⟩:=this _ _ h;exact fun q b=>by rcases WH.1 b with rfl|b;exact h1;exact c q b
section
variable {S:O7}{P:Program}{F:M8}{g:Cfg}{pr pc:Prop}
theorem kB (hS:E7 S P)(n:∀s,S.up s (F .normal)->F .normal s)(hc:pr)(c:pc)(m:Nat)(E:BE)(hk:KG S P F (Vp m E.den (stp P g)))
 (hp:pr=C4 (cnd P g):=by kernel_rfl) (a:(Uf P m (stp P g)).map (·.1)=some E.top:=by kernel_rfl) (b:(Uf P m (stp P g)).map (fun x=>Vr x.2)=some pc:=by kernel_rfl) (f:Vq m (stp P g)=true:=by kernel_rfl):KG S P F g:=by
 refine⟨Cg hS hc ?_ hp⟩;have hk:=hk.out;generalize stp P g=g' at hk a b f;unfold Uf at a b;split at a
 .rename_i all rest K st;simp only[Vq,Wj]at f;obtain⟨d,j⟩:=f;simp only[Vp,j,Db]at hk;cases hb:bev P all st.regs (rest.take m) [] st.env with
  |none=>rw[hb]at a;cases a
  |some q=>
   obtain⟨T,C⟩:=q;simp only[hb]at a b;simp only[Wf,VX]at a b;subst a
   have:=(Vo hS (Q:=kp S P K F) (post:=rest.drop m) (envF:=ins d (.p (.bb E.den)) (Ue (PL (rest.take m)) st.env)) (V:=E.den) (d:=d) ?_ (by rw[Ax,Au rfl]) hk (rest.take m) [] st.env E.top C hb
    (Sv (b ▸ c)) E.top_ev j (fun x hx=>?_) (fun x hx i=>?_)).2
   .rwa [Ys]at this
   .intro s h;cases l:rest.drop m with
    |nil=>rw[l]at h;exact Sd hS n K s h
    |cons o r=>rw[l]at h;exact hS.trans _ _ h
   .rw[Ax,Ay (fun e=>hx e.symm),OJ];split
    .exact .inl (.inl rfl)
    exact .inl (.inr (.inl rfl))
   rw[Ax,Ay (fun e=>i e.symm),OJ,Au hx]
 cases a
end
end Go.AM
namespace Go.AM
def famC (op:OR):Cfg->List Prop
 |.ops _ _ _ st=>match P8 op st with
  |some (c,_)=>c
  |none=>[False]
 |_=>[False]
def famG (op:OR):Cfg->Cfg
 |.ops all rest K st=>match P8 op st with
  |some (_,st)=>mkO st.env st.regs fun env regs=>.ops all rest K ⟨env,regs⟩
  |none=>.ops all rest K st
 |g=>g
section
variable {S:O7}{P:Program}{F:M8}{g:Cfg}{pr pc:Prop}
theorem Fu (hS:E7 S P)(hc:pr)(d:Nat)(op:OR)(b:pc)(hk:KG S P F (famG op (EY P d g)))(hp:pr=C4 (UX P d g):=by kernel_rfl)(f:EJ (EY P d g)=true:=by kernel_rfl)
 (a:pc=C4 (famC op (EY P d g)):=by kernel_rfl):KG S P F g:=by
 refine⟨(Ez (u:=some d) (F:=F) hS 400 [] g (by subst hp;exact hc)).2 ?_⟩;have hk:=hk.out;show G S P F (EY P d g);generalize EY P d g=g' at f a hk;unfold EJ at f;split at f
 .rename_i all o rest K st;simp only[famC]at a;simp only[famG]at hk;cases i:P8 op st with
  |none=>rw[i]at a;subst a;exact b.elim
  |some q=>obtain⟨c,st'⟩:=q;simp only[i,Db]at hk a;subst a;exact MP hS (hS.fam op _ _ c _ i b hk)
 cases f
end
def Vs (j k n:Nat)(e:TypeId)(g:Nat->List PV)(vw:Bool):Cfg->Cfg
 |.ops all rest K st=>mkO st.env (ins j (.vec e k n g vw) st.regs) fun env regs=>.ops all rest K ⟨env,regs⟩
 |g=>g
theorem HT {S:O7}{P:Program}{F:M8}{g:Cfg}{pr:Prop}(hS:E7 S P)(hc:pr)(d j:Nat){k n:Nat}{e:TypeId}{vw:Bool}(f q:Nat->List PV)(c:∀i,i<n->leC (f i) (q i))(hk:KG S P F (Vs j k n e q vw (EY P d g)))
 (hp:pr=C4 (UX P d g):=by kernel_rfl) (a:EJ (EY P d g)=true:=by kernel_rfl) (b:A2 (EY P d g).st.regs j=some (.vec e k n f vw):=by kernel_rfl):KG S P F g:=by
 refine⟨(Ez (u:=some d) (F:=F) hS 400 [] g (by subst hp;exact hc)).2 ?_⟩;have hk:=hk.out;show G S P F (EY P d g);generalize EY P d g=g1 at hk a b;unfold EJ at a;split at a
 .simp only[Vs,Db]at hk;exact MP hS (hS.vecq _ j n k e f q vw _ b c hk)
 cases a
theorem Vt {k:Nat}{g:Nat->List PV}:leC [.v (.slice none 0 0)] [.sl false k 0 g]:=J9 PJ Rq
theorem Nr (l:List PV):leC l l:=⟨rfl,fun _=>.p (.inl rfl)⟩
end Go.AM
namespace Go.AM
end Go.AM
namespace Go.AM
def Mh {P:Program}{f:FuncId}{vw:Bool}{args:List PV}{e:TypeId}{k n:Nat}{g:Nat->List PV}(t:∀as w,(callFunc f as).run P w=.ok (.enter f as) w)(hk:∀i,i<n->(g i).length=k)
 (h:∀(w:World) (Pi:Nat->Nat->Prop) (vs:Array Value),(∀b off,Pi b off->b<w.heap.size)->vs.size=args.length->(∀i,i<args.length->RepP w Pi (vs.getD i undef) (args.getD i default)) ->
  Calls P f vs w fun x w'=>∃v,x=.returned v/\RowKit.Below w.heap.size w w' /\ ((v=.slice none 0 0/\n=0) \/ ∃b cap c,v=.slice (some ⟨b,0,none⟩) n cap/\w.heap.size<=b/\w'.heap[b]? = some (.cells c e (0,0))/\n<=cap/\c.size=cap*k/\cap<=maxLen /\
   ∀i j,i<n->j<k->RepP w Pi (c.getD (i*k+j) undef) ((g i).getD j default)/\(c.getD (i*k+j) undef).oneCell' = true)):FunO (DO P) f (args.map .p) [] (.vec 0) [.vec e k n g vw] []:=by
 intro 𝒢 C w vs rho hG hs hsz;have y:∀j,A2 (objRegs []) j=none:=fun j=>by simp[objRegs,objRegs.go,A2]
 have h0:=h w (Prv C.X (A2 (objRegs [])) rho) vs (fun b off hp=>by
  rcases hp with hp|⟨j,o,a,_⟩
  .exact hs.hp.bound b off hp
  .simp[y]at a) (by simpa using hsz) (fun i s=>by
  have:=hs.env i
  rw[Q5]at this;have e:(args.map AV.p).getD i .top=.p (args.getD i default):=by simp[s]
  rw[e]at this;exact this.toP)
 refine⟨_,_,t _ _,callsIn_wide.2 (h0.mono ?_)⟩;rintro x w' ⟨v,rfl,hb,hv⟩;have hR:∀j o,A2 (objRegs [Obj.vec e k n g vw]) j=some o->j=0/\o=.vec e k n g vw:=fun j o a=>by
  simp only[objRegs,objRegs.go,A2]at a;split at a
  .rename_i hj0;cases a;exact⟨hj0.symm,rfl⟩
  cases a
 have z:A2 (objRegs [Obj.vec e k n g vw]) 0=some (.vec e k n g vw):=rfl
 let rho' : Nat->Value:=fun j=>if j=0 then v else rho j
 have hr0:rho' 0=v:=rfl;have l:∀b,D3 v (.vec e k n g vw) b->w.heap.size<=b/\b<w'.heap.size:=by
  intro b a0;rcases hv with⟨rfl,_⟩ | ⟨b',cap,c,rfl,h1,h2,_⟩
  .cases a0
  cases a0;exact⟨h1,(Wc.1 h2).1⟩
 have a1:∀b o,Prv C.X (A2 (objRegs [Obj.vec e k n g vw])) rho' b o->C.X b o \/ w.heap.size<=b:=by
  rintro b o (hX|⟨j,o',a,d,_⟩)
  .exact .inl hX
  obtain⟨rfl,rfl⟩:=hR j o' a;exact .inr (l b d).1
 have m:Keeps w (Prv C.X (A2 (objRegs [])) rho) w' (Prv C.X (A2 (objRegs [Obj.vec e k n g vw])) rho'):=fun b o u hp hc=>by
  have q:=Xi w ⟨b,o,none⟩ hc;refine⟨by rw[<- hc];exact WB (hb.block b q),fun hpp=>?_⟩;rcases a1 b o hpp with hX|hge
  .exact hp (.inl hX)
  have:b<w.heap.size:=q
  omega
 refine⟨C,.ret (.vec 0),[.vec e k n g vw],[],rho',hG,⟨rfl,rfl,rfl⟩,?_,⟨v,rfl,?_⟩,fun i s=>by simp at s⟩
 .refine⟨⟨fun j o a=>?_,fun i j oi oj b s a _ _=>by rw[(hR i oi s).1,(hR j oj a).1],fun j o b off a d hX=>?_,fun b off hp=>Wz (hs.hp.bound b off hp) hb.size⟩,hs.ext.trans ⟨hb.os,hb.output⟩,WS hs.size hb.size,fun b q hE=>?_,hs.keep.trans m,fun b d=>?_,fun j r b a=>by cases (hR j _ a).2⟩
  .obtain⟨rfl,rfl⟩:=hR j o a;rw[hr0];rcases hv with hn|⟨b,cap,c,rfl,h1,h2,h3,h4,h5,h6⟩
   .exact .inl hn
   exact .inr ⟨b,cap,c,rfl,h2,h3,h4,h5,hk,fun i j s a=>⟨(h6 i j s a).1.keeps m,(h6 i j s a).2⟩⟩
  .obtain⟨rfl,rfl⟩:=hR j o a;have h1:=(l b d).1;have h2:=hs.hp.bound b off hX;omega
  .rw[hb.block b (Wz q hs.size)];exact hs.same b q hE
  obtain⟨j,o,a,d⟩:=d;obtain⟨rfl,rfl⟩:=hR j o a;exact .inr (WS hs.size (l b d).1)
 rcases hv with⟨rfl,_⟩ | ⟨b,cap,c,rfl,_⟩
 .exact .vec 0 none 0 0 (by simp[Lv,z]) rfl
 exact .vec 0 _ n cap (by simp[Lv,z]) rfl
end Go.AM
namespace Go.AM
open Go.RowKit Go.ChangeShapes
end Go.AM
namespace Go.AM
section
variable {S:O7}{P:Program}{F:M8}{K:List It}{st:St}{g:Cfg}{pr:Prop}
def Ug (p:Option PV)(r:Hi):Prop:=match p with
 |none=>∃a,r=.ret a
 |some x=>r=.panic x
def HU (S:O7)(f:FuncId)(first caps:List AV)(objs:List Obj)(L:List (List PV))(p:Option PV):Prop:= S.F f (first ++ .yf objs.length::caps) (objs++[.yld L true]) fun r objs' ks=>∃b,objs'[objs.length]? = some (.yld [] b)/\ks[objs.length]? = some true/\(b=true->Ug p r)/\(b=false->∃a,r=.ret a)
def endP:Option PV->Hh
 |none=>.normal
 |some x=>.panic x
theorem Sw (hS:E7 S P){g:Operand}{ps:Array Tmp}{asg body:Code}{f:FuncId}{first caps as bs:List AV}{objs:List Obj}(ids ts:List Nat)(gh:Nat)(L:List (List PV)){p:Option PV}{X:Type}(s:X->St)(J:List (List PV)->X->Prop)(x0:X)(idl:List (Nat×Nat))
 (hp:Bn st.env g=some (f,first,caps)) (n:∃fn,P.funcs[f]? = some fn/\fn.body.isSome=true/\(fn.name == "runtime.NumGoroutine")=false) (q:H6 ids st.regs ids=some objs) (t:BM objs=true) (hd:E6 ids=true) (u:AD ids first=some as) (v:AD ids caps=some bs) (w:objs.length=ids.length)
 (z:gh<1000) (a0:A2 st.regs gh=none) (a1:ids.length<1000) (a2:E6 ts=true) (d:∀ys∈L,ys.length=ps.size)
 (hF:HU S f as bs objs L p) (hle:Le idl ⟨P7 ts (ts.map (get st.env)),I9 ids (ids.map fun _=>false) st.regs⟩ (s x0)) (h0:J L x0) (hk:∀x,(s x).env.map (·.1)=ts) (hn:∀x,A2 (s x).regs gh=none)
 (c:∀ys rest x,J (ys::rest) x->G S P (W1 S P body gh ts (Sa s J rest) (kp S P K F)) (.code asg [] ⟨Fe ps.toList ys (s x).env,ins gh (.ghost ((s x).env.map (·.2))) (s x).regs⟩))
 (i:∀x,J [] x->G S P F (.pop (endP p) K (s x))):G S P F (.code (.rangeFunc g ps asg body) K st):=by
 have j:∀{l:List Nat},E6 l=true->l.Nodup:=by
  intro l
  induction l with
  |nil=>intro _;exact Xj
  |cons a r ih=>intro h;simp only[E6,Wa,Ws,WM,decide_eq_false_iff_not]at h;exact WL.2 ⟨h.1,ih h.2⟩
 refine⟨f,first,caps,as,bs,objs,ids,ts,gh,L,Sa s J,fun b r=>b=true->Ug p r,hp,n,t,hd,u,v,q,z,a0,a1,j a2,d,hS.le idl _ _ _ hle ⟨hk x0,hn x0,x0,rfl,h0⟩,?_,?_,?_⟩
 .rintro ys rest _ _ _ ⟨x,rfl,hJ⟩;have h:=c ys rest x hJ;have e:W1 S P body gh ts (Sa s J rest) (kp S P K F)=fun e s'=>match e with
   |.normal=>S.up s' fun s'=>awp S P body (Bp S gh ts (Sa s J rest) (kp S P K F)) s'
   |_=>False:=by funext e s';cases e<;>rfl
  rw[e]at h;exact h
 .rintro _ r _ _ ⟨x,rfl,hJ⟩ hf;have h1:=hf rfl;have m:=i x hJ;cases p with
  |none=>obtain⟨a,rfl⟩:=h1;exact m
  |some y=>cases h1;exact m
 rw[<- w];refine hS.monoF _ _ _ _ _ ?_ hF;rintro r o ks ⟨b,h1,m,h3,h4⟩;exact⟨b,h1,m,h3,h4⟩
theorem Sx (hS:E7 S P){g:Operand}{ps:Array Tmp}{asg body:Code}{f:FuncId}{first caps as bs:List AV}{objs:List Obj}{R T A:Type}{enc:T->List PV}{L:List T}{p:Option PV}{mb:(A->Option R)->T->A->Option R}{mk:A->Option R}{a0:A}{r:R}
 (ids ts:List Nat) (gh:Nat) (s:A->St) (idl:List (Nat×Nat)) (h:Z8 L mb mk a0=some r) (y:HU S f as bs objs (L.map enc) p)
 (hp:Bn st.env g=some (f,first,caps)) (j:∃fn,P.funcs[f]? = some fn/\fn.body.isSome=true/\(fn.name == "runtime.NumGoroutine")=false) (l:H6 ids st.regs ids=some objs) (m:BM objs=true) (z:E6 ids=true) (n:AD ids first=some as) (o:AD ids caps=some bs) (q:objs.length=ids.length)
 (u:Nat.blt gh 1000=true) (v:A2 st.regs gh=none) (w:Nat.blt ids.length 1000=true) (x:E6 ts=true) (d:∀t:T,(enc t).length=ps.size)
 (hle:Le idl ⟨P7 ts (ts.map (get st.env)),I9 ids (ids.map fun _=>false) st.regs⟩ (s a0)) (hk:∀a,(s a).env.map (·.1)=ts) (hn:∀a,A2 (s a).regs gh=none)
 (b:∀(t:T) (next:St->Prop) (c:A->Option R) (a:A),(∀(st st1:St) (cs:List AV) (idl:List (Nat×Nat)) (a:A),Le idl st st1->A2 st1.regs gh=some (.ghost cs)->cs.length=ts.length->A2 (del gh st1.regs) gh=none->(⟨P7 ts cs,del gh st1.regs⟩:St)=s a->c a=some r->G S P (Bp S gh ts next (kp S P K F)) (.pop .normal [] st)) ->
  mb c t a=some r->G S P (W1 S P body gh ts next (kp S P K F)) (.code asg [] ⟨Fe ps.toList (enc t) (s a).env,ins gh (.ghost ((s a).env.map (·.2))) (s a).regs⟩))
 (i:∀a,mk a=some r->G S P F (.pop (endP p) K (s a))):G S P F (.code (.rangeFunc g ps asg body) K st):=by
 refine Sw hS ids ts gh (L.map enc) s (fun rest a=>∃L',rest=L'.map enc/\Z8 L' mb mk a=some r) a0 idl hp j l m z n o q (by simpa[Xy]using u) v (by simpa[Xy]using w) x (fun ys hy=>?_) y hle ⟨L,rfl,h⟩ hk hn ?_ ?_
 .obtain⟨t,_,rfl⟩:=XC.1 hy;exact d t
 .rintro ys rest a ⟨L',hL,hx⟩;cases L' with
  |nil=>cases hL
  |cons t L'=>simp only[WA,Xd]at hL;obtain⟨rfl,rfl⟩:=hL;refine b t _ (Z8 L' mb mk) a (fun st st1 cs idl a hle h1 h2 h3 h4 h5=>?_) hx;exact Nl hS st1 a idl hle h1 h2 h3 h4 ⟨L',rfl,h5⟩
 rintro a ⟨L',hL,hx⟩;cases L' with
 |nil=>exact i a hx
 |cons t L'=>cases hL
theorem OK (hS:E7 S P)(hc:pr){f:FuncId}{as bs:List AV}{objs:List Obj}{R T A:Type}{enc:T->List PV}{L:List T}{p:Option PV}{mb:(A->Option R)->T->A->Option R}{mk:A->Option R}{a0:A}{r:R}
 (ids ts:List Nat) (gh:Nat) (s:A->St) {idl:List (Nat×Nat)}(h:Z8 L mb mk a0=some r) (x:HU S f as bs objs (L.map enc) p)
 (i:∀t:T,(enc t).length=(Eh (stp P g)).size) (hk:∀a,(s a).env.map (·.1)=ts) (hn:∀a,A2 (s a).regs gh=none) (m:∀a,(⟨P7 ts ((s a).env.map (·.2)),del gh (ins gh (.ghost ((s a).env.map (·.2))) (s a).regs)⟩:St)=s a)
 (c:∀(t:T) (next:St->Prop) (d:A->Option R) (a:A),
  (∀(g' : Cfg) (ids:List (Nat×Nat)) (pr:Prop) (a:A),pr->d a=some r->(hp:pr=C4 (cnd P g'):=by kernel_rfl)->(b:stp P g' = .pop .normal [] (stp P g').st:=by kernel_rfl)->(hle:KLe ids (stp P g').st (rst gh (s a)):=by exact kl)->KG S P (Bp S gh ts next (kp S P (stp P g).k F)) g') ->
  mb d t a=some r->KG S P (W1 S P (Me (stp P g)) gh ts next (kp S P (stp P g).k F)) (.code (Md (stp P g)) [] (Mg gh (Eh (stp P g)) (enc t) (s a))))
 (j:∀a,mk a=some r->KG S P F (.pop (endP p) (stp P g).k (s a)))
 (hp:pr=C4 (cnd P g):=by kernel_rfl) (b:Mc P ids (stp P g)=some (f,as,bs,objs):=by kernel_rfl) (o:Nat.blt gh 1000=true:=by kernel_rfl) (n:A2 (stp P g).st.regs gh=none:=by kernel_rfl) (q:E6 ts=true:=by kernel_rfl)
 (hle:KLe idl (Mf ids ts (stp P g)) (s a0):=by exact kl):KG S P F g:=by
 refine⟨Cg hS hc ?_ hp⟩;have u:=(DL b).2;replace b:=(DL b).1;generalize stp P g=g1 at i c j b n hle;unfold HR at b;split at b
 .rename_i op ps asg body K st;split at b
  .rename_i f' first caps v
   split at b
   .rename_i objs' as' bs' y z h4;split at b
    .rename_i w;simp only[VX,We]at b;obtain⟨rfl,rfl,rfl,rfl⟩:=b;simp only[Wa,Ws,beq_iff_eq]at w;obtain⟨⟨⟨e3,e4⟩,e5⟩,e6⟩:=w;refine Sx hS ids ts gh s idl h x v u y e3 e4 z h4 e5 o n e6 q i hle.out hk hn (fun t next d a hb hm=>?_) (fun a hm=>(j a hm).out);refine (c t next d a (fun g' ids' pr a hc l hp b hle=>⟨Cg hS hc ?_ hp⟩) hm).out;rw[b];have hl:((s a).env.map (·.2)).length=ts.length:=by rw[<- hk a];simp
     refine hb _ (rst gh (s a)) ((s a).env.map fun p=>p.2) ids' a hle.out (Dc gh (s a)) hl ?_ (m a) l
     have:=congrArg St.regs (m a)
     simp only at this;show A2 (del gh (ins gh _ _)) gh=none;rw[this];exact hn a
    cases b
   cases b
  cases b
 cases b
theorem QS (hS:E7 S P){f:FuncId}{fn:Func}{first caps:List AV}{objs:List Obj}{L:List (List PV)}{p:Option PV}(i:P.funcs[f]? = some fn)
 (h:KG S P (Y6 S P (objs++[Obj.yld L true]).length fn.results.toList fun r objs' ks=>∃b,objs'[objs.length]? = some (.yld [] b)/\ks[objs.length]? = some true/\(b=true->Ug p r)/\(b=false->∃a,r=.ret a)) (.code (fn.body.getD .skip) [] { env:=argEnv (first ++ .yf objs.length::caps),regs:=objRegs (objs++[Obj.yld L true]) }))
 (hc:fn.body.isSome=true:=by kernel_rfl) (hn:Nat.ble (first ++ .yf objs.length::caps).length fn.ntmps=true:=by kernel_rfl) (j:Nat.blt (objs++[Obj.yld L true]).length 1000=true:=by kernel_rfl)
 (d:S4 fn.ntmps (fn.body.getD .skip)=true:=by kernel_rfl) (g:(fn.name == "runtime.NumGoroutine")=false:=by kernel_rfl):HU S f first caps objs L p:=by
 obtain⟨code,c⟩:=Wj.1 hc;rw[c,Wd]at d h;exact Gc hS i c (WO hn) (by simpa[Xy]using j) rfl d g h.out
theorem Sy (hS:E7 S P){f:FuncId}{fn:Func}{args:List AV}{objs:List Obj}{Q:Hi->List Obj->List Bool->Prop}(d:P.funcs[f]? = some fn)
 (h:KG S P (Y6 S P objs.length fn.results.toList Q) (.code (fn.body.getD .skip) [] { env:=argEnv args,regs:=objRegs objs }))
 (hc:fn.body.isSome=true:=by kernel_rfl) (hn:Nat.ble args.length fn.ntmps=true:=by kernel_rfl) (g:Nat.blt objs.length 1000=true:=by kernel_rfl)
 (b:S4 fn.ntmps (fn.body.getD .skip)=true:=by kernel_rfl) (c:(fn.name == "runtime.NumGoroutine")=false:=by kernel_rfl):S.F f args objs Q:=by
 obtain⟨code,a⟩:=Wj.1 hc;rw[a,Wd]at b h;exact Gc hS d a (WO hn) (by simpa[Xy]using g) rfl b c h.out
def panE:Cfg->Option PV
 |.ops all (o::_) _ st=>match Ah all st.env o,o.op with
  |some true,.panic x=>match aev st.env x with
   |.p (.iface t y)=>some (.iface t y)
   |_=>none
  |_,_=>none
 |_=>none
def panC (x:PV):Cfg->Cfg
 |.ops _ _ K st=>.pop (.panic x) K st
 |g=>g
theorem Uh (hS:E7 S P)(hc:pr){x:PV}(hk:KG S P F (panC x (stp P g)))(hp:pr=C4 (cnd P g):=by kernel_rfl)(a:panE (stp P g)=some x:=by kernel_rfl):KG S P F g:=by
 refine⟨Cg hS hc ?_ hp⟩;have hk:=hk.out;generalize stp P g=g1 at hk a;unfold panE at a;split at a
 .rename_i all o rest K st;split at a
  .rename_i y b c;split at a
   .rename_i t z hx;cases a;exact TM hS b c hx hk
   cases a
  cases a
 cases a
def Sz:Cfg->Option PV
 |.pop (.panic x) [] _=>some x
 |_=>none
theorem Te (hS:E7 S P)(hc:pr){n:Nat}{rs:List ResultVar}{Q:Hi->List Obj->List Bool->Prop}{x:PV}{objs:List Obj}(outs:List Nat)(c:Q (.panic x) objs (CH n outs))(hp:pr=C4 (cnd P g):=by kernel_rfl)
 (a:Sz (stp P g)=some x:=by kernel_rfl) (d:E6 outs=true:=by kernel_rfl) (b:H6 outs (stp P g).st.regs outs=some objs:=by kernel_rfl):KG S P (Y6 S P n rs Q) g:=by
 refine⟨Cg hS hc ?_ hp⟩;generalize stp P g=g1 at a b;unfold Sz at a;split at a
 .cases a;exact⟨outs,objs,d,b,c⟩
 cases a
theorem Vu {k:Nat}{g:Nat->List PV}:AV.p (.v (.slice none 0 0))=.p (.sl false k 0 g) \/ ∃x y,AV.p (.v (.slice none 0 0))=.p x/\AV.p (.sl false k 0 g)=.p y/\leQ x y:=
 .inr ⟨_,_,rfl,rfl,.p (.inr (.inr (.inl ⟨_,_,rfl,rfl⟩)))⟩
theorem Ui (hS:E7 S P){all rest:List Oper}{o:Oper}{c:Call}{f:Operand}{as:List AV}{regs:B5}{fn:FuncId}{as' args:List AV}{objs objs' : List Obj}{ks:List Bool}{x:PV}(ids:List Nat)
 (d:Ah all st.env o=some true) (g:o.op=.call c) (b:c.callee=.value f) (ha:II st.regs (c.args.toList.map (aev st.env))=some (as,regs))
 (i:MG st.env f as=some (fn,as')) (j:AD ids as' = some args) (a:H6 ids regs ids=some objs) (l:S.F fn args objs fun res o k=>res=.panic x/\o=objs' /\ k=ks)
 (m:E6 ids=true) (hy:BM objs=true) (hn:Z6 regs ids ks (o.dst.getD 0) objs'.length=true)
 (hk:G S P F (.pop (.panic x) K { env:=st.env,regs:=MM (H9 (o.dst.getD 0) ids ks objs'.length) (H9 (o.dst.getD 0) ids ks objs'.length) objs' (I9 ids ks regs) })) :
 G S P F (.ops all (o::rest) K st):=by
 refine BN hS d ?_;unfold wOp;obtain⟨callee,cargs,types⟩:=c;simp only at b ha;subst b;rw[g];refine .inl ⟨as,regs,_,_,.inl ha,i,ids,args,objs,m,j,a,hy,hS.monoF _ _ _ _ _ ?_ l⟩;rintro _ _ _ ⟨rfl,rfl,rfl⟩;exact⟨hn,hk⟩
def Tf (ids:List Nat)(ks:List Bool)(x:PV)(objs' : List Obj):Cfg->Cfg
 |.ops all (o::rest) K st=>match o.op with
  |.call c=>match II st.regs (c.args.toList.map (aev st.env))with
   |some (_,regs)=>mkO st.env (MM (H9 (o.dst.getD 0) ids ks objs'.length) (H9 (o.dst.getD 0) ids ks objs'.length) objs' (I9 ids ks regs)) fun env regs=>.pop (.panic x) K ⟨env,regs⟩
   |none=>.ops all (o::rest) K st
  |_=>.ops all (o::rest) K st
 |g=>g
theorem Uj (hS:E7 S P)(ids:List Nat)(hc:pr){fn:FuncId}{args:List AV}{objs objs' : List Obj}{x:PV}{ks:List Bool}(i:S.F fn args objs fun res o k=>res=.panic x/\o=objs' /\ k=ks)
 (hk:KG S P F (Tf ids ks x objs' (stp P g))) (hp:pr=C4 (cnd P g):=by kernel_rfl) (a:Pw ids (stp P g)=some (fn,args,objs):=by kernel_rfl) (hn:Px ids ks objs'.length (stp P g)=true:=by kernel_rfl):KG S P F g:=by
 refine⟨Cg hS hc ?_ hp⟩;replace hk:=hk.out;generalize stp P g=g' at a hn hk;unfold Pw at a;split at a
 .split at a
  .rename_i j f;split at a
   .rename_i c;split at a
    .rename_i ha;split at a
     .rename_i l;split at a
      .rename_i m d;split at a
       .rename_i b;cases a;simp only[Wa]at b;simp only[Tf,Px,f,ha,Db]at hk hn;exact Ui hS ids j f c ha l m d i b.1 b.2 hn hk
       cases a
      cases a
     cases a
    cases a
   cases a
  cases a
 cases a
def JW (S:O7)(R:St->Prop)(X:PV->St->Prop):M8
 |.normal,st=>S.up st R
 |.panic x,st=>X x st
 |_,_=>False
theorem K_upN (hS:E7 S P)(hc:pr){R:St->Prop}{X:PV->St->Prop}(st:St){ids:List (Nat×Nat)}(hR:R st)(hp:pr=C4 (cnd P g):=by kernel_rfl)(a:stp P g=.pop .normal [] (stp P g).st:=by kernel_rfl)
 (hle:KLe ids (stp P g).st st:=by exact kl):KG S P (JW S R X) g:=by
 refine⟨Cg hS hc ?_ hp⟩;rw[a];exact hS.le ids _ _ R hle.out hR
theorem K_upP (hS:E7 S P)(hc:pr){R:St->Prop}{X:PV->St->Prop}{x:PV}(b:X x (stp P g).st)(hp:pr=C4 (cnd P g):=by kernel_rfl)(a:Sz (stp P g)=some x:=by kernel_rfl):KG S P (JW S R X) g:=by
 refine⟨Cg hS hc ?_ hp⟩;generalize stp P g=g1 at a b;unfold Sz at a;split at a
 .cases a;exact b
 cases a
end
end Go.AM
namespace Go.AM
section
variable {S:O7}{P:Program}{F:M8}{K:List It}{g:Cfg}{pr:Prop}
end
end Go.AM
namespace Go.AM
open Go.RowKit Go.ChangeShapes Go.Deep
section
variable {P:Program}{t e:TypeId}{m:Nat}{pvs:List PV}
end
end Go.AM
namespace Go.AM
section
variable {S:O7}{P:Program}{sc:SC}{k:Env->B5->Prop}{pr:Prop}
theorem QT (hc:pr){pr2:Prop}(f:pr2){x:PV}(hk:DG S P (HN x (DK P sc)) k)(hp:pr=C4 (QL P sc):=by kernel_rfl)(a:(R6 P (DK P sc)).map (·.2)=some x:=by kernel_rfl)
 (b:((R6 P (DK P sc)).map fun q=>C4 q.1)=some pr2:=by kernel_rfl):DG S P sc k:=by
 refine⟨Vg hc ?_ hp⟩;have hk:=hk.out;generalize DK P sc=s at a b hk;obtain⟨all,cls,rest,env,regs,kn⟩:=s;cases rest with
 |nil=>cases cls<;>simp[R6]at a
 |cons o rest=>
  cases cls with
  |nil=>simp[R6]at a
  |cons cl cls=>
   cases d:AK all env o with
   |none=>simp[R6,d]at a
   |some bb=>
    cases bb with
    |false=>simp[R6,d]at a
    |true=>
     simp only[R6,d]at a b;cases ha:IN P env o.op with
     |none=>rw[ha]at a;cases a
     |some q=>obtain⟨c,y⟩:=q;rw[ha]at a b;simp only[Wf,VX]at a b;subst a;simp only[HN,HM,XO]at hk;exact Ou d ha (by rw[b];exact f) hk
end
end Go.AM
namespace Go.AM
section
variable {κ ν : Type}
end
section
variable {S:O7}{P:Program}{F:M8}{g:Cfg}{pr:Prop}
end
end Go.AM
namespace Go.AM
section
variable {S:O7}{P:Program}{F:M8}{g:Cfg}{pr:Prop}
end
end Go.AM
