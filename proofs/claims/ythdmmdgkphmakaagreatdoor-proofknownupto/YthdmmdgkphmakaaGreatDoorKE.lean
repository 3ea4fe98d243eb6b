/- Part 5. -/
import Derived.Test.YthdmmdgkphmakaaGreatDoorKD
import Derived.KernelRfl
import Derived.Laws.IdiomRangeMap
set_option linter.defProp false
set_option linter.unusedSimpArgs false
set_option linter.unusedVariables false
set_option linter.unusedSectionVars false
namespace Go.AM
def Gr:=True.intro
def Aw5:=@Nat.le_of_ble_eq_true
def Ax4:=@List.tail_cons
def Az3:=@List.mem_singleton
def AE4:=@List.isEmpty_iff
def AE9:=@List.take_append_drop
def AF8:=@List.getD_cons_succ
def AG2:=@List.set_cons_succ
section
variable (P:Program)
def stp (g:Cfg):Cfg:=(run P none 400 [] g).cfg
def cnd (g:Cfg):List Prop:=(run P none 400 [] g).conds
def Gj (d:Nat)(g:Cfg):Cfg:=(run P (some d) 400 [] g).cfg
def Ae0 (d:Nat)(g:Cfg):List Prop:=(run P (some d) 400 [] g).conds
def Cfg.st:Cfg->St
 |.code _ _ s=>s
 |.ops _ _ _ s=>s
 |.pop _ _ s=>s
def Cfg.k:Cfg->List It
 |.code _ K _=>K
 |.ops _ _ K _=>K
 |.pop _ K _=>K
def mkO {R:Type _}(env:Env)(regs:C6)(κ : Env->C6->R):R:=fE env fun env=>fR regs fun regs=>κ env regs
theorem Fb {R:Type _}(env:Env)(regs:C6)(κ : Env->C6->R):mkO env regs κ = κ env regs:=by simp only[mkO,fE_eq,Aa8]
def VR {R:Type _}(d:Option Nat)(a:AV)(env:Env)(regs:C6)(κ : St->R):R:=match d with
 |some d=>mkO (ins d a env) regs fun env regs=>κ ⟨env,regs⟩
 |none=>mkO env regs fun env regs=>κ ⟨env,regs⟩
theorem Es {R:Type _}(d:Option Nat)(a:AV)(env:Env)(regs:C6)(κ : St->R):VR d a env regs κ = κ (put ⟨env,regs⟩ d a):=by cases d<;>simp only[VR,Fb,put]
def YP:Cfg->Option Bool
 |.code (.cond c _ _) _ st=>match aev st.env c with
  |.p (.bb b)=>some b
  |_=>none
 |_=>none
def Ae1:Cfg->Cfg
 |.code (.cond _ t _) K st=>.code t K st
 |g=>g
def Ae2:Cfg->Cfg
 |.code (.cond _ _ e) K st=>.code e K st
 |g=>g
def UV:Cfg->Option Bool
 |.ops all (o::_) _ st=>match o.guard with
  |some (j,_)=>match Aj1 all j with
   |some d=>match get st.env d with
    |.p (.bb b)=>some b
    |_=>none
   |none=>none
  |none=>none
 |_=>none
def MK (b:Bool):Cfg->Cfg
 |.ops all (o::rest) K st=>match o.guard with
  |some (j,_)=>match Aj1 all j with
   |some d=>VR (some d) (.p (.v (.bool b))) st.env st.regs fun st=>.ops all (o::rest) K st
   |none=>.ops all (o::rest) K st
  |none=>.ops all (o::rest) K st
 |g=>g
def VT (ids:List Nat):Cfg->Option (FuncId×List AV×List Obj)
 |.ops all (o::_) _ st=>match AG all st.env o,o.op with
  |some true,.call c=>match c.callee with
   |.value f=>match GC st.regs (c.args.toList.map (aev st.env))with
    |some (as,regs)=>match OO st.env f as with
     |some (fn,as')=>match CD ids as',J6 ids regs ids with
      |some a,some ob=>if H0 ids&&Ea ob then some (fn,a,ob)else none
      |_,_=>none
     |none=>none
    |none=>none
   |_=>none
  |_,_=>none
 |_=>none
def VU (ids:List Nat)(ks:List Bool)(n:Nat):Cfg->Bool
 |.ops _ (o::_) _ st=>match o.op with
  |.call c=>match GC st.regs (c.args.toList.map (aev st.env))with
   |some (_,regs)=>U1 regs ids ks (o.dst.getD 0) n
   |none=>false
  |_=>false
 |_=>false
def YQ (ids:List Nat)(ks:List Bool)(r:AV)(objs' : List Obj):Cfg->Cfg
 |.ops all (o::rest) K st=>match o.op with
  |.call c=>match GC st.regs (c.args.toList.map (aev st.env))with
   |some (_,regs)=>VR o.dst (unA (G4 (o.dst.getD 0) ids ks objs'.length) r) st.env
    (back (G4 (o.dst.getD 0) ids ks objs'.length) (G4 (o.dst.getD 0) ids ks objs'.length) objs' (I9 ids ks regs)) fun st=>.ops all rest K st
   |none=>.ops all (o::rest) K st
  |_=>.ops all (o::rest) K st
 |g=>g
structure LookI where
 kt:TypeId
 e:TypeId
 key:PV
 es:List (PV×PV)
def Ae3:Cfg->Option LookI
 |.ops all (o::_) _ st=>match AG all st.env o,o.op with
  |some true,.lookup t m k _=>match CC st.regs (aev st.env k),aev st.env m with
   |some (key,regs),.mref j=>match A2 regs j,tk P t with
    |some (.map es),some (.map kt e)=>if ES P kt key then some ⟨kt,e,key,es⟩else none
    |_,_=>none
   |_,_=>none
  |_,_=>none
 |_=>none
def YR (e:TypeId):Option PV->Option (PV×Bool)
 |some x=>some (x,true)
 |none=>(Gf P e).map fun z=>(z,false)
def Ae4 (x:PV)(b:Bool):Cfg->Cfg
 |.ops all (o::rest) K st=>match o.op with
  |.lookup _ _ k ok=>match CC st.regs (aev st.env k)with
   |some (_,regs)=>VR o.dst (if ok then .tup [.p x,.bool b]else .p x) st.env regs fun st=>.ops all rest K st
   |none=>.ops all (o::rest) K st
  |_=>.ops all (o::rest) K st
 |g=>g
def updE:Cfg->Option (TypeId×PV×PV×List (PV×PV))
 |.ops all (o::_) _ st=>match AG all st.env o,o.op with
  |some true,.mapUpdate t m k x=>match aev st.env k,aev st.env m,CC st.regs (aev st.env x)with
   |.p key,.mref j,some (y,regs)=>match A2 regs j,tk P t with
    |some (.map es),some (.map kt _)=>if ES P kt (nP key) then some (kt,nP key,y,es)else none
    |_,_=>none
   |_,_,_=>none
  |_,_=>none
 |_=>none
def updK (es' : List (PV×PV)):Cfg->Cfg
 |.ops all (o::rest) K st=>match o.op with
  |.mapUpdate _ m _ x=>match aev st.env m,CC st.regs (aev st.env x)with
   |.mref j,some (_,regs)=>VR o.dst Jo st.env (ins j (.map es') regs) fun st=>.ops all rest K st
   |_,_=>.ops all (o::rest) K st
  |_=>.ops all (o::rest) K st
 |g=>g
def GL:Cfg->Bool
 |.code (.loop _) _ _=>true
 |_=>false
def NV:Cfg->Code
 |.code (.loop b) _ _=>b
 |_=>.skip
def popSt:Cfg->Option St
 |.pop .normal _ st=>some st
 |_=>none
def RX (M:It):Nat->List It->List It
 |0,K=>M::K
 |n+1,i::K=>i::RX M n K
 |_+1,[]=>[M]
def Al1 (n:Nat)(M:St->Prop):Cfg->Cfg
 |.code c K st=>.code c (RX (.mid M) n K) st
 |.ops all rest K st=>.ops all rest (RX (.mid M) n K) st
 |.pop e K st=>.pop e (RX (.mid M) n K) st
def IQ:Cfg->Bool
 |.ops _ (_::_) _ _=>true
 |_=>false
def opsS (st:St):Cfg->Cfg
 |.ops all rest K _=>.ops all rest K st
 |g=>g
def Ae5:Cfg->Option St
 |.pop .ret [] st=>some st
 |.pop .normal [] st=>some st
 |_=>none
inductive Leaf where
 |eq (x y:PV)
 |fn (n m:Nat) (f g:Nat->List PV)
 |mp (x y:List (PV×PV))
 |yl (x y:List (List PV)) (b c:Bool)
 |nt (a b:Nat)
 |ob (n:Nat) (f g:Nat->Obj)
inductive LV where
 |eq (x:PV)
 |fn (n:Nat) (f:Nat->List PV)
 |mp (x:List (PV×PV))
 |yl (x:List (List PV)) (b:Bool)
 |nt (a:Nat)
 |ob (f:Nat->Obj)
def Leaf.src:Leaf->LV
 |.eq x _=>.eq x
 |.fn n _ f _=>.fn n f
 |.mp x _=>.mp x
 |.yl x _ b _=>.yl x b
 |.nt a _=>.nt a
 |.ob _ f _=>.ob f
def Leaf.tgt:Leaf->LV
 |.eq _ y=>.eq y
 |.fn _ m _ g=>.fn m g
 |.mp _ y=>.mp y
 |.yl _ y _ c=>.yl y c
 |.nt _ b=>.nt b
 |.ob _ _ g=>.ob g
def Leaf.ok:Leaf->Prop
 |.eq x y=>x=y
 |.fn n m f g=>n=m/\∀i,i<n->f i=g i
 |.mp x y=>x=y
 |.yl x y b c=>x=y/\b=c
 |.nt a b=>a=b
 |.ob n f g=>∀i,i<n->f i=g i
theorem Leaf.ok_of {l:Leaf}(h:l.src=l.tgt):l.ok:=by
 cases l with
 |eq x y=>simp only[Leaf.src,Leaf.tgt,LV.eq.injEq]at h;exact h
 |fn n m f g=>simp only[Leaf.src,Leaf.tgt,LV.fn.injEq]at h;obtain⟨rfl,rfl⟩:=h;exact⟨rfl,fun _ _=>rfl⟩
 |mp x y=>simp only[Leaf.src,Leaf.tgt,LV.mp.injEq]at h;exact h
 |yl x y b c=>simp only[Leaf.src,Leaf.tgt,LV.yl.injEq]at h;exact h
 |nt a b=>simp only[Leaf.src,Leaf.tgt,LV.nt.injEq]at h;exact h
 |ob n f g=>simp only[Leaf.src,Leaf.tgt,LV.ob.injEq]at h;subst h;exact fun _ _=>rfl
def Ae6:PV->PV->Leaf
 |.v (.bool b),.bb c=>.eq (.bb b) (.bb c)
 |.v (.slice none 0 0),.sl false _ n f=>.fn 0 n f f
 |.sl nn k n f,.sl false l m g=>if k=l then .fn n m f g else .eq (.sl nn k n f) (.sl false l m g)
 |x,y=>.eq x y
mutual
def IR (regs:C6)(ids:List (Nat×Nat))(a b:AV):Option (List Leaf):=
 match b with
 |.top=>some []
 |.p y=>match viewP regs a with
  |some x=>some [Ae6 x y]
  |none=>none
 |.reg j off=>match a with | .reg i off'=>if lk ids j=some i/\off=off' then some []else none|_=>none
 |.vec j=>match a with
  |.vec i=>if lk ids j=some i then some []else none
  |.p (.v (.slice none 0 0))=>if lk ids j=none then some []else none
  |_=>none
 |.vecp j n=>match a with | .vecp i m=>if lk ids j=some i/\n=m then some []else none|_=>none
 |.elt j k n off=>match a with | .elt i k' n' off'=>if lk ids j=some i/\k=k' /\ n=n' /\ off=off' then some []else none|_=>none
 |.mref j=>match a with | .mref i=>if lk ids j=some i then some []else none|_=>none
 |.yf j=>match a with | .yf i=>if lk ids j=some i then some []else none|_=>none
 |.rsl j n=>match a with | .rsl i m=>if lk ids j=some i/\n=m then some []else none|_=>none
 |.clo f x y=>match a with
  |.clo f' x' y'=>match NW regs ids x' x,NW regs ids y' y with|some l,some m=>some (.nt f' f::l++m)|_,_=>none
  |_=>none
 |.tup l=>match a with | .tup l'=>NW regs ids l' l|_=>none
 |.agr l=>match a with | .agr l'=>NW regs ids l' l|_=>none
def NW (regs:C6)(ids:List (Nat×Nat))(a b:List AV):Option (List Leaf):=
 match b with
 |[]=>match a with | []=>some [] | _=>none
 |y::s=>match a with
  |x::r=>match IR regs ids x y,NW regs ids r s with|some l,some m=>some (l++m)|_,_=>none
  |[]=>none
end
def YS (regs:C6)(ids:List (Nat×Nat))(env:Env):Env->Option (List Leaf)
 |[]=>some []
 |(t,b)::r=>match IR regs ids (get env t) b,YS regs ids env r with|some l,some m=>some (l++m)|_,_=>none
def ML (regs:C6)(ids:List (Nat×Nat))(o p:Obj):Option (List Leaf):=
 match p with
 |.cells cs=>match o with | .cells cs'=>NW regs ids cs' cs|_=>none
 |.vec e k n f vw=>match o with
  |.vec e' k' m g vw'=>if e=e' /\ k=k' /\ (vw' = true->vw=true)then some [.fn m n g f]else none
  |_=>none
 |.map es=>match o with | .map es'=>some [.mp es' es] | _=>none
 |.arr n f=>match o with | .arr m g=>some [.fn m n (fun i=>[g i]) (fun i=>[f i])] | _=>none
 |.blk l jr=>match o with | .blk l' jr'=>if lk ids jr=some jr' then some [.ob 1 (fun _=>.blk l' 0) (fun _=>.blk l 0)]else none|_=>none
 |.ghost cs=>match o with | .ghost cs'=>NW regs ids cs' cs|_=>none
 |.yld r b=>match o with | .yld r' b'=>some [.yl r' r b' b] | _=>none
 |.fam e n jr x=>match o with
  |.fam e' m jr' x'=>if e=e' /\ lk ids jr=some jr' then (match x,x' with
   |none,none=>some [.nt m n]
   |some (i,a),some (i',a')=>match nov a' a,IR regs ids a' a with
    |true,some l=>some (.nt m n :: .nt i' i::l)
    |_,_=>none
   |_,_=>none)else none
  |_=>none
 |.rows n g=>match o with | .rows m g'=>some [.nt m n,.ob n g' g] | _=>none
 |.dead=>some []
def YT (regs:C6)(ids:List (Nat×Nat)):C6->Option (List Leaf)
 |[]=>some []
 |(j,p)::r=>match (match lk ids j with
  |some i=>match A2 regs i with
   |some o=>ML regs ids o p
   |none=>none
  |none=>match p with
   |.vec _ _ n f _=>some [.fn 0 n f f]
   |_=>none:Option (List Leaf)),YT regs ids r with
  |some l,some m=>some (l++m)
  |_,_=>none
def leK (ids:List (Nat×Nat))(s t:St):Option (List Leaf):=
 if (wf t&&H0 (ids.map (·.2))&&Vo ids&&OQ ids t.regs&&KX ids (seen s.env t.env++Js ids s.regs t.regs) t.regs) then
  match YS s.regs ids s.env t.env,YT s.regs ids t.regs with
  |some l,some m=>some (l++m)
  |_,_=>none
 else none
theorem YU {x y:PV}(h:(Ae6 x y).ok):leP x y:=by
 unfold Ae6 at h;split at h
 .simp only[Leaf.ok,PV.bb.injEq]at h;subst h;exact .inr (.inr (.inr (.inl ⟨_,rfl,rfl⟩)))
 .obtain⟨rfl,_⟩:=h;exact .inr (.inr (.inl ⟨_,_,rfl,rfl⟩))
 .split at h
  .rename_i hk;subst hk;obtain⟨rfl,h⟩:=h;exact .inr (.inl ⟨_,_,_,_,_,rfl,rfl,h⟩)
  exact .inl h
 exact .inl h
theorem MM {l m:List Leaf}(h:∀x∈l++m,x.ok):(∀x∈l,x.ok)/\∀x∈m,x.ok:=
 ⟨fun x hx=>h x (At9 _ hx),fun x hx=>h x (At5 _ hx)⟩
mutual
theorem Qh {regs:C6}{ids:List (Nat×Nat)}{a:AV}(b:AV){L:List Leaf}(h:IR regs ids a b=some L)(hL:∀x∈L,x.ok):leA regs ids a b:=by
 cases b with
 |top=>unfold leA;trivial
 |p y=>
  unfold IR at h;split at h
  .rename_i x hx;cases h;unfold leA;exact⟨x,hx,YU (hL _ (by simp))⟩
  cases h
 |reg j off=>
  unfold IR at h;split at h
  .split at h
   .rename_i c;obtain⟨h1,rfl⟩:=c;exact Aj4 h1
   cases h
  cases h
 |vec j=>
  unfold IR at h;split at h
  .split at h
   .rename_i h1;exact Aj3 h1
   cases h
  .split at h
   .rename_i h1;exact Ab3 h1
   cases h
  cases h
 |vecp j n=>
  unfold IR at h;split at h
  .split at h
   .rename_i c;obtain⟨h1,rfl⟩:=c;unfold leA;exact⟨_,h1,rfl⟩
   cases h
  cases h
 |elt j k n off=>
  unfold IR at h;split at h
  .split at h
   .rename_i c;obtain⟨h1,rfl,rfl,rfl⟩:=c;unfold leA;exact⟨_,h1,rfl⟩
   cases h
  cases h
 |mref j=>
  unfold IR at h;split at h
  .split at h
   .rename_i h1;exact Ab4 h1
   cases h
  cases h
 |rsl j n=>
  unfold IR at h;split at h
  .split at h
   .rename_i c;obtain⟨h1,rfl⟩:=c;unfold leA;exact⟨_,h1,rfl⟩
   cases h
  cases h
 |yf j=>
  unfold IR at h;split at h
  .split at h
   .rename_i h1;exact le_yf h1
   cases h
  cases h
 |clo f x y=>
  unfold IR at h;split at h
  .split at h
   .rename_i l m h1 g;cases h;have d:=hL _ (Ay5 ..);simp only[Leaf.ok]at d;subst d;obtain⟨i,o⟩:=MM fun x hx=>hL x (At8 _ hx);exact Aj5 (Fw x h1 i) (Fw y g o)
   cases h
  cases h
 |tup l=>
  unfold IR at h;split at h
  .exact Ak9 (Fw l h hL)
  cases h
 |agr l=>
  unfold IR at h;split at h
  .exact Al0 (Fw l h hL)
  cases h
theorem Fw {regs:C6}{ids:List (Nat×Nat)}{a:List AV}(b:List AV){L:List Leaf}(h:NW regs ids a b=some L)(hL:∀x∈L,x.ok):leL regs ids a b:=by
 cases b with
 |nil=>
  unfold NW at h;split at h
  .exact Ab5
  cases h
 |cons y s=>
  unfold NW at h;split at h
  .split at h
   .rename_i l m h1 c;cases h;obtain⟨d,f⟩:=MM hL;exact Yd (Qh y h1 d) (Fw s c f)
   cases h
  cases h
end
theorem UW {regs:C6}{ids:List (Nat×Nat)}{env:Env}:∀(t:Env) {L:List Leaf},YS regs ids env t=some L->(∀x∈L,x.ok)->Wy regs ids env t
 |[],_,_,_=>trivial
 |(t,b)::r,L,h,hL=>by
  simp only[YS]at h;split at h
  .rename_i l m h1 a;cases h;obtain⟨c,d⟩:=MM hL;exact⟨Qh b h1 c,UW r a d⟩
  cases h
theorem YV {regs:C6}{ids:List (Nat×Nat)}{o p:Obj}{L:List Leaf}(h:ML regs ids o p=some L)(hL:∀x∈L,x.ok):leO regs ids o p:=by
 cases p with
 |cells cs=>
  simp only[ML]at h;split at h
  .exact Ye (Fw cs h hL)
  cases h
 |vec e k n f vw=>
  simp only[ML]at h;split at h
  .split at h
   .rename_i c;obtain⟨rfl,rfl,j⟩:=c;cases h;obtain⟨rfl,h1⟩:=hL _ (Az3.2 rfl);exact⟨_,_,rfl,h1,j⟩
   cases h
  cases h
 |map es=>
  simp only[ML]at h;split at h
  .cases h
   have:=hL _ (Az3.2 rfl)
   simp only[Leaf.ok]at this;subst this;rfl
  cases h
 |blk l jr=>
  simp only[ML]at h;split at h
  .split at h
   .rename_i c;cases h;have h1:=hL _ (Az3.2 rfl);have m:=h1 0 (AE3 0);cases m;exact⟨_,rfl,c⟩
   cases h
  cases h
 |arr n f=>
  simp only[ML]at h;split at h
  .cases h;obtain⟨rfl,h1⟩:=hL _ (Az3.2 rfl);exact⟨_,rfl,fun i q=>by simpa using h1 i q⟩
  cases h
 |ghost cs=>
  simp only[ML]at h;split at h
  .exact⟨_,rfl,Fw cs h hL⟩
  cases h
 |yld r b=>
  simp only[ML]at h;split at h
  .cases h;obtain⟨rfl,rfl⟩:=hL _ (Az3.2 rfl);rfl
  cases h
 |fam e n jr x=>
  simp only[ML]at h;split at h
  .split at h
   .rename_i s;obtain⟨rfl,d⟩:=s;split at h
    .cases h;have a:=hL _ (Ay5 ..);simp only[Leaf.ok]at a;subst a;exact⟨_,_,rfl,d,rfl⟩
    .split at h
     .rename_i hn hl;cases h;have a:=hL _ (Ay5 ..);have h1:=hL _ (At8 _ (Ay5 ..));simp only[Leaf.ok]at a h1;subst a h1;exact⟨_,_,rfl,d,_,rfl,hn,Qh _ hl fun x hx=>hL x (by simp[hx])⟩
     cases h
    cases h
   cases h
  cases h
 |rows n g=>
  simp only[ML]at h;split at h
  .cases h;have a:=hL _ (Ay5 ..);simp only[Leaf.ok]at a;subst a;exact⟨_,rfl,hL (.ob _ _ _) (by simp)⟩
  cases h
 |dead=>trivial
theorem UX {regs:C6}{ids:List (Nat×Nat)}:∀(t:C6) {L:List Leaf},YT regs ids t=some L->(∀x∈L,x.ok)->Ro regs ids t
 |[],_,_,_=>trivial
 |(j,p)::r,L,h,hL=>by
  simp only[YT]at h;split at h
  .rename_i l m h1 c;cases h;obtain⟨b,d⟩:=MM hL;refine⟨?_,UX r c d⟩;split at h1
   .rename_i i a;split at h1
    .rename_i o f;exact .inl ⟨i,o,a,f,YV h1 b⟩
    cases h1
   rename_i a;split at h1
   .cases h1;obtain⟨rfl,_⟩:=b _ (Az3.2 rfl);exact .inr ⟨a,_,_,_,_,rfl⟩
   cases h1
  cases h
theorem ZR {ids:List (Nat×Nat)}{s t:St}{L:List Leaf}(h:leK ids s t=some L)(hL:∀x∈L,x.ok):Le ids s t:=by
 unfold leK at h;split at h
 .rename_i a;split at h
  .rename_i l m h1 b;cases h;obtain⟨c,d⟩:=MM hL;exact le_mk a (UW _ h1 c) (UX _ b d)
  cases h
 cases h
theorem kle {ids:List (Nat×Nat)}{s t:St}(h:(leK ids s t).map (·.map Leaf.src)=(leK ids s t).map (·.map Leaf.tgt):=by kernel_rfl)(h1:(leK ids s t).isSome=true:=by kernel_rfl):Le ids s t:=by
 obtain⟨L,hL⟩:=As7.1 h1;rw[hL]at h;simp only[As4,Ar5]at h;refine ZR hL fun x hx=>?_;obtain⟨i,a,rfl⟩:=Az4.1 hx
 have:=congrArg (·[i]?) h
 simp only[Ar9,Ar6 a,As4,Ar5]at this;exact Leaf.ok_of this
def Al2 (is:List Nat)(f:Leaf->LV)(L:List Leaf):List (Option LV):=L.zipIdx.map fun q=>if is.contains q.2 then none else some (f q.1)
theorem kleR {ids:List (Nat×Nat)}{s t:St}(rs:List (Nat×Leaf))(d:∀q∈rs,q.2.ok)(h:(leK ids s t).map (Al2 (rs.map (·.1)) Leaf.src)=(leK ids s t).map (Al2 (rs.map (·.1)) Leaf.tgt):=by kernel_rfl)
 (a:(leK ids s t).map (fun L=>rs.map fun q=>L[q.1]?)=some (rs.map fun q=>some q.2):=by kernel_rfl):Le ids s t:=by
 cases hL:leK ids s t with
 |none=>rw[hL]at a;cases a
 |some L=>
  rw[hL]at h a;simp only[As4,Ar5]at h a;refine ZR hL fun x hx=>?_;obtain⟨i,b,rfl⟩:=Az4.1 hx;by_cases hm:(rs.map (·.1)).contains i=true
  .simp only[Au9,decide_eq_true_eq,Az7]at hm;obtain⟨q,c,rfl⟩:=hm;obtain⟨k,hk,rfl⟩:=Az4.1 c
   have:=congrArg (·[k]?) a
   simp only[Ar9,Ar6 hk,As4,Ar5,Ar6 b]at this;rw[this];exact d _ c
  have:=congrArg (·[i]?) h
  simp only[Al2,Ar9,List.getElem?_zipIdx,Ar6 b,As4,Au5,hm,Ar5]at this;exact Leaf.ok_of (by simpa using this)
end
section
variable {P:Program}
variable {S:S6}{F:M0}{g:Cfg}{pr:Prop}
theorem Eb (hS:G1 S P)(hc:pr)(h:G S P F (stp P g))(hp:pr=C7 (cnd P g):=by kernel_rfl):G S P F g:=
 (Fo (F:=F) hS 400 [] g (by subst hp;exact hc)).2 h
theorem Al3 (hS:G1 S P)(hc:pr){b:Bool}(a:b=true->G S P F (Ae1 (stp P g)))(c:b=false->G S P F (Ae2 (stp P g)))(hp:pr=C7 (cnd P g):=by kernel_rfl)(hb:YP (stp P g)=some b:=by kernel_rfl):G S P F g:=by
 refine Eb hS hc ?_ hp;generalize stp P g=g' at hb a c;unfold YP at hb;split at hb
 .split at hb
  .rename_i hc;cases hb;exact Aj0 hc a c
  cases hb
 cases hb
theorem Ae7 (hS:G1 S P)(hc:pr){b:Bool}(a:b=true->G S P F (MK true (stp P g)))(c:b=false->G S P F (MK false (stp P g)))(hp:pr=C7 (cnd P g):=by kernel_rfl)(hb:UV (stp P g)=some b:=by kernel_rfl):G S P F g:=by
 refine Eb hS hc ?_ hp;generalize stp P g=g' at hb a c;unfold UV at hb;split at hb
 .split at hb
  .rename_i f;split at hb
   .rename_i i;split at hb
    .rename_i d;cases hb;simp only[MK,f,i,Es,put]at a c;exact Ab0 hS f i d a c
    cases hb
   cases hb
  cases hb
 cases hb
theorem Al4 (hS:G1 S P)(ids:List Nat)(hc:pr){fn:FuncId}{args:List AV}{objs objs' : List Obj}{r:AV}{ks:List Bool}(i:FunO S fn args objs r objs' ks)
 (hk:G S P F (YQ ids ks r objs' (stp P g))) (hp:pr=C7 (cnd P g):=by kernel_rfl) (a:VT ids (stp P g)=some (fn,args,objs):=by kernel_rfl) (hn:VU ids ks objs'.length (stp P g)=true:=by kernel_rfl):G S P F g:=by
 refine Eb hS hc ?_ hp;generalize stp P g=g' at a hn hk;unfold VT at a;split at a
 .split at a
  .rename_i j f;split at a
   .rename_i c;split at a
    .rename_i ha;split at a
     .rename_i l;split at a
      .rename_i m d;split at a
       .rename_i b;cases a;simp only[Ar7]at b;simp only[YQ,VU,f,ha,Es]at hk hn;exact Ab1 hS ids j f c ha l m d i b.1 b.2 hn hk
       cases a
      cases a
     cases a
    cases a
   cases a
  cases a
 cases a
theorem YW (hS:G1 S P)(hc:pr){kt e:TypeId}{key:PV}{es:List (PV×PV)}{x:PV}{b:Bool}{fd:Option PV}
 (j:find (IG P kt) key es=some fd) (c:C7 (HP P kt))
 (hk:G S P F (Ae4 x b (stp P g))) (hp:pr=C7 (cnd P g):=by kernel_rfl) (a:Ae3 P (stp P g)=some ⟨kt,e,key,es⟩:=by kernel_rfl) (hx:YR P e fd=some (x,b):=by kernel_rfl):G S P F g:=by
 refine Eb hS hc ?_ hp;generalize stp P g=g' at a hk;unfold Ae3 at a;split at a
 .split at a
  .rename_i l f;split at a
   .rename_i i hm;split at a
    .rename_i m n;split at a
     .rename_i d;simp only[Ar5,LookI.mk.injEq]at a;obtain⟨rfl,rfl,rfl,rfl⟩:=a;simp only[Ae4,f,i,Es]at hk;cases fd with
      |some y=>exact US (fd:=some y) hS l f i hm m n d j hx c hk
      |none=>exact US (fd:=none) hS l f i hm m n d j hx c hk
     cases a
    cases a
   cases a
  cases a
 cases a
theorem YX (hS:G1 S P)(hc:pr){kt:TypeId}{key y:PV}{es es' : List (PV×PV)}
 (j:upd (IG P kt) key y es=some es') (b:C7 (HP P kt)) (hk:G S P F (updK es' (stp P g))) (hp:pr=C7 (cnd P g):=by kernel_rfl) (a:updE P (stp P g)=some (kt,key,y,es):=by kernel_rfl):G S P F g:=by
 refine Eb hS hc ?_ hp;generalize stp P g=g' at a hk;unfold updE at a;split at a
 .split at a
  .rename_i l d;split at a
   .rename_i h1 f i;split at a
    .rename_i m n;split at a
     .rename_i c;simp only[Ar5,As1]at a;obtain⟨rfl,rfl,rfl,rfl⟩:=a;simp only[updK,d,f,i,Es]at hk;exact TG hS l d h1 i f m n c j b hk
     cases a
    cases a
   cases a
  cases a
 cases a
theorem Al5 (hS:G1 S P)(hc:pr)(st:St){ids:List (Nat×Nat)}(hk:G S P F (opsS st (stp P g)))(hp:pr=C7 (cnd P g):=by kernel_rfl)(a:IQ (stp P g)=true:=by kernel_rfl)(hle:Le ids (stp P g).st st:=by exact kle):G S P F g:=by
 refine Eb hS hc ?_ hp;generalize stp P g=g' at a hle hk;unfold IQ at a;split at a
 .exact Xn hS st ids hle hk
 cases a
end
section
variable {S:S6}{P:Program}{F:M0}{g:Cfg}{pr:Prop}
theorem JH (hS:G1 S P){K1 K2:List It}(h:∀e s,kp S P K1 F e s->kp S P K2 F e s):∀(K:List It) (e:HL) (s:St),kp S P (K++K1) F e s->kp S P (K++K2) F e s
 |[],e,s,hk=>h e s hk
 |.code c::K,e,s,hk=>by simp only[Au0,kp]at hk⊢;exact Qf hS (fun t=>Ad hS c (JH hS h K)) (JH hS h K) e s hk
 |.blk id::K,e,s,hk=>by
  simp only[Au0,kp]at hk⊢;cases e with
  |exit i=>
   simp only[blk]at hk⊢;split at hk
   .rename_i a;rw[Dz a];exact JH hS h K _ _ hk
   rename_i a;rw[Ec a];exact JH hS h K _ _ hk
  |_=>exact JH hS h K _ _ hk
 |.lp X s' J m n::K,e,s,hk=>by
  simp only[Au0,kp]at hk⊢;cases e with
  |normal=>exact hk
  |_=>exact JH hS h K _ _ hk
 |.mid M::K,e,s,hk=>by simp only[Au0,kp]at hk⊢;exact Qf hS (fun t h=>h) (JH hS h K) e s hk
 |.scp::K,e,s,hk=>by
  simp only[Au0,kp]at hk⊢;cases e with
  |goto l=>exact hk
  |_=>exact JH hS h K _ _ hk
theorem UY (M:It):∀(n:Nat) (K:List It),n<=K.length->RX M n K=K.take n++M::K.drop n
 |0,K,_=>by simp[RX]
 |n+1,i::K,h=>by simp only[RX,AC8,List.drop_succ_cons,Au0,UY M n K (by simpa using h)]
 |n+1,[],h=>by simp at h
theorem ZS (hS:G1 S P)(a:∀s,S.up s (F .normal)->F .normal s)(n:Nat)(hn:n<=g.k.length){M:St->Prop}(b:∀t,M t->G S P F (.pop .normal (g.k.drop n) t))(h:G S P F (Al1 n M g)):G S P F g:=by
 have hk:∀e s,kp S P (RX (.mid M) n g.k) F e s->kp S P g.k F e s:=by
  intro e s;rw[UY _ _ _ hn]
  conv=>rhs;rw[<- AE9 n g.k]
  exact JH hS (Ak7 hS a b) _ e s
 cases g with
 |code c K st=>exact Ad hS c hk h
 |ops all rest K st=>exact GK hS hk rest h
 |pop e K st=>exact hk e st h
theorem J_cut (hS:G1 S P)(hc:pr)(b:∀s,S.up s (F .normal)->F .normal s)(n:Nat)(s:St)
 (h1:∀(M:St->Prop),(∀(g' : Cfg) (ids:List (Nat×Nat)) (pr:Prop),pr->(hp:pr=C7 (cnd P g'):=by kernel_rfl)->(a:stp P g' = .pop .normal (.mid M::(stp P g).k.drop n) (stp P g').st:=by kernel_rfl)->(hle:Le ids (stp P g').st s:=by exact kle)->G S P F g')->G S P F (Al1 n M (stp P g)))
 (c:G S P F (.pop .normal ((stp P g).k.drop n) s)) (hp:pr=C7 (cnd P g):=by kernel_rfl) (hn:Nat.ble n (stp P g).k.length=true:=by kernel_rfl):G S P F g:=by
 refine Eb hS hc ?_ hp;refine ZS hS b n (Aw5 hn) (M:=fun t=>t=s) (fun t d=>by subst d;exact c) (h1 _ fun g' ids pr hc hp a hle=>?_);refine Eb hS hc ?_ hp;rw[a];exact hS.le ids _ _ _ hle rfl
theorem J_lt (hS:G1 S P)(hc:pr)(c:∀s,S.up s (F .normal)->F .normal s){R A:Type}{f:(A->Option R)->Option R}{k0:A->Option R}{r:R}(h:lt k0 f=some r)(n:Nat)(s:A->St)
 (h1:∀(M:St->Prop) (k:A->Option R),(∀(g' : Cfg) (ids:List (Nat×Nat)) (pr:Prop) (a:A),pr->k a=some r->(hp:pr=C7 (cnd P g'):=by kernel_rfl)->(b:stp P g' = .pop .normal (.mid M::(stp P g).k.drop n) (stp P g').st:=by kernel_rfl)->(hle:Le ids (stp P g').st (s a):=by exact kle)->G S P F g')->f k=some r->G S P F (Al1 n M (stp P g)))
 (d:∀a,k0 a=some r->G S P F (.pop .normal ((stp P g).k.drop n) (s a))) (hp:pr=C7 (cnd P g):=by kernel_rfl) (hn:Nat.ble n (stp P g).k.length=true:=by kernel_rfl):G S P F g:=by
 refine Eb hS hc ?_ hp;refine ZS hS c n (Aw5 hn) (M:=fun t=>∃a,t=s a/\k0 a=some r) (fun t ⟨a,i,hk⟩=>by subst i;exact d a hk) (h1 _ k0 (fun g' ids pr a hc hk hp b hle=>?_) h);refine Eb hS hc ?_ hp;rw[b];exact hS.le ids _ _ _ hle ⟨a,rfl,hk⟩
theorem Qi {g:Cfg}(h:GL g=true):g=.code (.loop (NV g)) g.k g.st:=by
 unfold GL at h;split at h
 .rfl
 cases h
theorem Al6 (hS:G1 S P)(hc:pr){R A:Type}{body:(A->Option R)->A->Option R}{N:Nat}{a0:A}{r:R}(h:Cd N body a0=some r)(s:A->St){ids:List (Nat×Nat)}
 (i:∀(X:Type) (s' : X->St) (J:X->Prop) (m:X->Nat) (n:Nat) (b:A->Option R) (a:A),
  (∀(g' : Cfg) (ids:List (Nat×Nat)) (pr:Prop) (a:A),pr->b a=some r->(hp:pr=C7 (cnd P g'):=by kernel_rfl)->(f:stp P g' = .pop .normal (.lp X s' J m n::(stp P g).k) (stp P g').st:=by kernel_rfl)->(hle:Le ids (stp P g').st (s a):=by exact kle)->G S P F g') ->
  body b a=some r->G S P F (.code (NV (stp P g)) (.lp X s' J m n::(stp P g).k) (s a))) (hp:pr=C7 (cnd P g):=by kernel_rfl) (hl:GL (stp P g)=true:=by kernel_rfl) (hle:Le ids (stp P g).st (s a0):=by exact kle):G S P F g:=by
 refine Eb hS hc ?_ hp;rw[Qi hl];refine Ak8 hS h s ids hle fun X s' J m n b a hb c=>i X s' J m n b a (fun g' ids pr a hc d hp f hle=>?_) c;refine Eb hS hc ?_ hp;rw[f];exact hb _ _ _ hle d
def TI (P:Program)(st:St)(rs:List ResultVar)(outs:List Nat):Option (AV×List Obj):=match GF P st rs with
 |some l=>match PF outs (one l),J6 outs st.regs outs with
  |some a,some o=>if H0 outs then some (a,o)else none
  |_,_=>none
 |none=>none
theorem J_ret (hS:G1 S P)(hc:pr){n:Nat}{rs:List ResultVar}{Q:ARes->List Obj->List Bool->Prop}{a:AV}{objs:List Obj}(outs:List Nat)(c:Q (.ret a) objs (Gg n outs))(hp:pr=C7 (cnd P g):=by kernel_rfl)(d:(Ae5 (stp P g)).bind (fun st=>TI P st rs outs)=some (a,objs):=by kernel_rfl) :G S P (Cl S P n rs Q) g:=by
 refine Eb hS hc ?_ hp;generalize stp P g=g' at d;obtain⟨st,h1,b⟩:=AB5.1 d;unfold TI at b;split at b
 .rename_i l hl;split at b
  .rename_i f i;split at b
   .rename_i j;cases b;unfold Ae5 at h1;split at h1
    .cases h1;exact hS.refl _ _ ⟨l,outs,a,objs,hl,j,f,i,c⟩
    .cases h1;exact hS.refl _ _ ⟨l,outs,a,objs,hl,j,f,i,c⟩
    cases h1
   cases b
  cases b
 cases b
theorem Al7 (hS:G1 S P)(hc:pr){n:Nat}{rs:List ResultVar}{Q:ARes->List Obj->List Bool->Prop}{a:AV}{objs:List Obj}(st:St)(outs:List Nat){ids:List (Nat×Nat)}(f:Q (.ret a) objs (Gg n outs))(hp:pr=C7 (cnd P g):=by kernel_rfl)(c:(Ae5 (stp P g)).isSome=true:=by kernel_rfl)(hle:Le ids (stp P g).st st:=by exact kle)(d:TI P st rs outs=some (a,objs):=by kernel_rfl) :G S P (Cl S P n rs Q) g:=by
 refine Eb hS hc ?_ hp;generalize stp P g=g' at c hle;have b:=d;unfold TI at b;split at b
 .rename_i l hl;split at b
  .rename_i d i;split at b
   .rename_i j;cases b;unfold Ae5 at c;split at c
    .exact hS.le ids _ _ _ hle ⟨l,outs,a,objs,hl,j,d,i,f⟩
    .exact hS.le ids _ _ _ hle ⟨l,outs,a,objs,hl,j,d,i,f⟩
    cases c
   cases b
  cases b
 cases b
theorem Ae8 (hS:G1 S P){f:FuncId}{fn:Func}{args:List AV}{objs objs' : List Obj}{ks:List Bool}{r:AV}(d:P.funcs[f]? = some fn)
 (h:G S P (Cl S P objs.length fn.results.toList fun res o k=>res=.ret r/\o=objs' /\ k=ks) (.code (fn.body.getD .skip) [] { env:=argEnv args,regs:=objRegs objs }))
 (hc:fn.body.isSome=true:=by kernel_rfl) (hn:Nat.ble args.length fn.ntmps=true:=by kernel_rfl) (g:Nat.blt objs.length 1000=true:=by kernel_rfl)
 (b:AF fn.ntmps (fn.body.getD .skip)=true:=by kernel_rfl) (c:(fn.name == "runtime.NumGoroutine")=false:=by kernel_rfl):FunO S f args objs r objs' ks:=by
 obtain⟨code,a⟩:=As7.1 hc;rw[a,As0]at b h;exact WB hS d a (Aw5 hn) (by simpa[Az5]using g) rfl b c h
theorem al0:∀q∈([]:List (Nat×Leaf)),q.2.ok:=fun _ h=>by cases h
theorem al1 {i:Nat}{l:Leaf}{rs:List (Nat×Leaf)}(h:l.ok)(t:∀q∈rs,q.2.ok):∀q∈(i,l)::rs,q.2.ok:=fun q a=>by
 rcases Au2.1 a with rfl|a
 .exact h
 exact t q a
structure SC where
 all:List Oper
 cls:List Cls
 rest:List Oper
 env:Env
 regs:C6
 kn:List Nat
def SG (S:S6)(P:Program)(sc:SC)(k:Env->C6->Prop):Prop:=Jm S P sc.all sc.cls sc.rest sc.env sc.regs k
def Bt (P:Program)(sc:SC):SC:=match NP P sc.kn sc.all sc.cls sc.rest [] sc.env sc.regs with
 |⟨_,cls,rest,env,regs⟩=>⟨sc.all,cls,rest,env,regs,sc.kn⟩
def Pq (P:Program)(sc:SC):List Prop:=(NP P sc.kn sc.all sc.cls sc.rest [] sc.env sc.regs).conds
def BP:Cfg->Bool
 |.code (.region _ _ true) _ _=>true
 |_=>false
def GM:Cfg->SC
 |.code (.region _ ops true) _ st=>⟨ops.toList,ops.toList.map fun o=>Aq6 o.op,ops.toList,st.env,st.regs,[]⟩
 |_=>⟨[],[],[],[],[],[]⟩
theorem Ae9 (hS:G1 S P)(hc:pr)
 (h:SG S P (GM (stp P g)) fun env regs=>G S P F (.pop .normal (stp P g).k ⟨env,regs⟩)) (hp:pr=C7 (cnd P g):=by kernel_rfl) (c:BP (stp P g)=true:=by kernel_rfl) (a:P.follows .mixedOrders=true:=by kernel_rfl) (b:Ld (GM (stp P g)).all (GM (stp P g)).cls=true:=by kernel_rfl):G S P F g:=by
 refine Eb hS hc ?_ hp;generalize stp P g=g' at c b h;unfold BP at c;split at c
 .exact YJ hS a rfl b h
 cases c
section
variable {sc:SC}{k:Env->C6->Prop}
theorem Xo (hc:pr)(h:SG S P (Bt P sc) k)(hp:pr=C7 (Pq P sc):=by kernel_rfl):SG S P sc k:=by subst hp;unfold Bt at h;unfold Pq at hc;unfold SG at *;generalize a:NP P sc.kn sc.all sc.cls sc.rest [] sc.env sc.regs=r at h hc;obtain⟨c,cls,rest,env,regs⟩:=r;exact s_go a hc h
theorem C_end (hc:pr)(h:k (Bt P sc).env (Bt P sc).regs)(hp:pr=C7 (Pq P sc):=by kernel_rfl)(a:(Bt P sc).rest.isEmpty=true:=by kernel_rfl):SG S P sc k:=by
 refine Xo hc ?_ hp;generalize Bt P sc=s at a h;obtain⟨all,cls,rest,env,regs,kn⟩:=s;cases rest with
 |nil=>exact s_end h
 |cons=>simp at a
def YY {R:Type _}(d:Option Nat)(a:AV)(env:Env)(regs:C6)(κ : Env->C6->R):R:=match d with
 |some d=>mkO (ins d a env) regs κ
 |none=>mkO env regs κ
theorem Dw {R:Type _}(d:Option Nat)(a:AV)(env:Env)(regs:C6)(κ : Env->C6->R):YY d a env regs κ = κ (Md d a env) regs:=by cases d<;>simp only[YY,Fb,Md]
theorem ZT:∀{env:Env}{i d:Nat}{b:AV},XY ((i,b)::env)=true->get env d ≠ .top->d<i
 |[],_,_,_,_,h=>Eu rfl h
 |(j,c)::r,i,d,b,hd,h=>by
  simp only[XY,Ar7,decide_eq_true_eq]at hd;by_cases e:j=d
  .subst e;exact hd.1
  simp only[get,e,Ge]at h;exact Nat.lt_trans (ZT hd.2 h) hd.1
theorem Qj:∀{env:Env}{d:Nat}{a:AV},XY env=true->get env d=a->a ≠ .top->ins d a env=env
 |[],_,_,_,h,hn=>Eu h.symm hn
 |(i,b)::r,d,a,hd,h,hn=>by
  by_cases e:i=d
  .subst e;simp only[get,Fe]at h;subst h;simp[ins]
  simp only[get,e,Ge]at h;have c:=ZT hd (by rw[h];exact hn);have f:XY r=true:=by
   cases r with
   |nil=>rfl
   |cons p r=>simp only[XY,Ar7]at hd;exact hd.2
  simp only[ins,show ¬i<d by omega,e,Ge,Qj f h hn]
def Qk (sc:SC):Option Bool:=match sc.rest with
 |o::_=>match o.guard with
  |some (j,_)=>match Aj1 sc.all j with
   |some d=>match get sc.env d with
    |.p (.bb b)=>if XY sc.env then some b else none
    |_=>none
   |none=>none
  |none=>none
 |[]=>none
def MN (v:Bool)(sc:SC):SC:=match sc.rest with
 |o::_=>match o.guard with
  |some (j,_)=>match Aj1 sc.all j with
   |some d=>mkO (ins d (.p (.bb v)) sc.env) sc.regs fun env regs=>⟨sc.all,sc.cls,sc.rest,env,regs,j::sc.kn⟩
   |none=>sc
  |none=>sc
 |[]=>sc
theorem Af0 (hc:pr){b:Bool}(f:b=true->SG S P (MN true (Bt P sc)) k)(g:b=false->SG S P (MN false (Bt P sc)) k)(hp:pr=C7 (Pq P sc))(hb:Qk (Bt P sc)=some b):SG S P sc k:=by
 refine Xo hc ?_ hp;generalize Bt P sc=s at hb f g;obtain⟨all,cls,rest,env,regs,kn⟩:=s;cases rest with
 |nil=>simp[Qk]at hb
 |cons o rest=>
  simp only[Qk]at hb;split at hb
  .rename_i j w i;split at hb
   .rename_i d l;split at hb
    .rename_i b' a;split at hb
     .rename_i c;simp only[Ar5]at hb;subst hb;simp only[MN,i,l,Fb]at f g;cases b' with
      |true=>have:=f rfl;rwa [Qj c a (by simp)]at this
      |false=>have:=g rfl;rwa [Qj c a (by simp)]at this
     cases hb
    cases hb
   cases hb
  cases hb
def MO (ids:List Nat)(sc:SC):Option (FuncId×List AV×List Obj):=match sc.rest with
 |o::_=>match Y4 sc.all sc.env o,o.op with
  |some true,.call c=>match c.callee with
   |.value f=>match GC sc.regs (c.args.toList.map (aev sc.env))with
    |some (as,regs)=>match OO sc.env f as with
     |some (fn,as')=>match CD ids as',J6 ids regs ids with
      |some a,some ob=>if H0 ids&&Ea ob then some (fn,a,ob)else none
      |_,_=>none
     |none=>none
    |none=>none
   |_=>none
  |_,_=>none
 |[]=>none
def YZ (js:List Nat):AV->Bool
 |.vec j=>js.contains j
 |.vecp j _=>js.contains j
 |_=>true
theorem UZ {js:List Nat}{regs' : C6}:∀{l:List AV}{regs:C6}{as:List AV},l.all (YZ js)=true->GC regs l=some (as,regs')->∀q,q ∉ js->A2 regs' q=A2 regs q
 |[],regs,as,_,h,q,_=>by simp only[GC,Ar5,As1]at h;rw[<- h.2]
 |a::r,regs,as,hl,h,q,hq=>by
  simp only[Az2,Ar7]at hl;simp only[GC]at h;split at h
  .rename_i x R1 h1;split at h
   .rename_i l1 R2 c;simp only[Ar5,As1]at h;obtain⟨_,rfl⟩:=h;rw[UZ hl.2 c q hq];cases a with
    |vec j=>
     simp only at h1;split at h1
     .rename_i x2 R3 b;cases h1;exact Qe (by simpa[inJ,YZ]using hl.1) b q hq
     cases h1
    |vecp j m=>
     simp only at h1;split at h1
     .rename_i x2 R3 b;cases h1;exact Qe (by simpa[inJ,YZ]using hl.1) b q hq
     cases h1
    |_=>cases h1;rfl
   cases h
  cases h
def Al8 (R:C6)(a:AV):Option (AV×C6):=match a with | .vec _ | .vecp _ _=>(match CC R a with|some (x,regs)=>some (AV.p x,regs)|none=>none)|a=>some (a,R)
theorem Xp (R:C6)(a:AV)(r:List AV):GC R (a::r)=match Al8 R a with
 |some (a,regs)=>match GC regs r with
  |some (l,regs)=>some (a::l,regs)
  |none=>none
 |none=>none:=rfl
theorem Za {js:List Nat}{a x:AV}{R R2 R' : C6}(hl:inJ js a=true)(d:∀q∈js,A2 R2 q=A2 R q)(hx:Al8 R a=some (x,R')):∃R3,Al8 R2 a=some (x,R3)/\(∀q∈js,A2 R3 q=A2 R' q)/\∀q,q ∉ js->A2 R3 q=A2 R2 q:=by
 have up:∀(i:Nat) (o:Obj),i∈js->(∀q∈js,A2 (ins i o R2) q=A2 (ins i o R) q)/\∀q,q ∉ js->A2 (ins i o R2) q=A2 R2 q:=fun i o g=>
  ⟨fun q f=>by rw[M4,M4,d q f],fun q f=>by rw[M4,Ec (by rintro rfl;exact f g)]⟩
 cases a with
 |p y=>cases hx;exact⟨R2,rfl,d,fun _ _=>rfl⟩
 |vec j=>
  have b:j∈js:=by simpa[inJ]using hl
  simp only[Al8,CC,d j b]at hx⊢;cases c:A2 R j with
  |none=>simp[c]at hx
  |some ob=>cases ob<;>simp only[c]at hx⊢<;>first|(cases hx;exact⟨_,rfl,up _ _ b⟩)|cases hx
 |vecp j m=>
  have b:j∈js:=by simpa[inJ]using hl
  simp only[Al8,CC,d j b]at hx⊢;cases c:A2 R j with
  |none=>simp[c]at hx
  |some ob=>cases ob<;>simp only[c]at hx⊢<;>first|(cases hx;exact⟨_,rfl,up _ _ b⟩)|cases hx
 |_=>cases hl
theorem Ql {js:List Nat}:∀{l:List AV}{R R2 R1:C6}{as:List AV},l.all (inJ js)=true->(∀q∈js,A2 R2 q=A2 R q)->GC R l=some (as,R1) ->
 ∃R3,GC R2 l=some (as,R3)/\(∀q∈js,A2 R3 q=A2 R1 q)/\∀q,q ∉ js->A2 R3 q=A2 R2 q
 |[],R,R2,R1,as,_,h2,h=>by simp only[GC,Ar5,As1]at h;obtain⟨rfl,rfl⟩:=h;exact⟨R2,rfl,h2,fun _ _=>rfl⟩
 |a::r,R,R2,R1,as,hl,h2,h=>by
  simp only[Az2,Ar7]at hl;simp only[Xp]at h⊢;split at h
  .rename_i x R' hx;obtain⟨R3,e1,e2,e3⟩:=Za hl.1 h2 hx;split at h
   .rename_i l1 R'' c;simp only[Ar5,As1]at h;obtain⟨rfl,rfl⟩:=h;obtain⟨R4,f1,f2,f3⟩:=Ql hl.2 e2 c;exact⟨R4,by simp only[e1,f1],f2,fun q b=>(f3 q b).trans (e3 q b)⟩
   cases h
  cases h
theorem MP {m:List Nat}:∀{ids:List Nat}{objs:List Obj}{A B:C6}{q:Nat},A2 A q=A2 B q->A2 (back m ids objs A) q=A2 (back m ids objs B) q
 |[],_,_,_,_,h=>h
 |_::_,[],_,_,_,h=>h
 |j::ids,o::objs,A,B,q,h=>by simp only[back];exact MP (by rw[M4,M4,h])
theorem Af1 {all:List Oper}{k:Env->C6->Prop}{js:List Nat}{cls:List Cls}{o:Oper}{rest:List Oper}{env:Env}{regs regs1:C6}{c:Call}{f:Operand}{as:List AV}{fn:FuncId}{as' args:List AV}{objs' : List Obj}{ks:List Bool}{r:AV}
 (j:Y4 all env o=some true) (l:o.op=.call c) (m:c.callee=.value f) (g:(c.args.toList.map (aev env)).all (inJ js)=true)
 (ha:GC regs (c.args.toList.map (aev env))=some (as,regs1)) (n:OO env f as=some (fn,as')) (s:CD [] as' = some args) (t:FunO S fn args [] r objs' ks)
 (d:((G4 (o.dst.getD 0) [] ks objs'.length).all fun q=>js.contains q)=true) (hn:U1 regs1 [] ks (o.dst.getD 0) objs'.length=true)
 (hk:Jm S P all cls rest (Md o.dst (unA (G4 (o.dst.getD 0) [] ks objs'.length) r) env) (back (G4 (o.dst.getD 0) [] ks objs'.length) (G4 (o.dst.getD 0) [] ks objs'.length) objs' (I9 [] ks regs1)) k) :
 Jm S P all (.a js::cls) (o::rest) env regs k:=by
 have i:∀q,q ∉ js->q ∉ G4 (o.dst.getD 0) [] ks objs'.length:=fun q b h=>b (by simpa using As3.1 d q h);refine⟨true,j,?_⟩;rw[Dz rfl];refine⟨_,_,.inr (.inr (.inr (.inr ⟨js,rfl,fun q b=>?_,fun R2 u=>?_⟩))),hk⟩
 .rw[HE (i q b)];obtain⟨R3,e1,_,e3⟩:=Ql (R2:=regs) g (fun _ _=>rfl) ha;rw[ha]at e1;cases e1;exact e3 q b
 obtain⟨R3,e1,e2,e3⟩:=Ql g u ha;refine⟨_,.inl ⟨c,f,as,R3,fn,as',args,[],objs',ks,r,[],l,m,e1,n,s,rfl,t,rfl,rfl,?_,rfl,rfl⟩,fun q b=>MP (e2 q b),fun q b=>(HE (i q b)).trans (e3 q b)⟩;unfold U1 at hn⊢;rw[As3]at hn⊢;intro p hp;have h1:=hn p hp;have v:nid (o.dst.getD 0) p∈js:=by
  have:=As3.1 d (nid (o.dst.getD 0) p) (by unfold G4;exact Az7.2 ⟨p,hp,rfl⟩)
  simpa using this
 show (A2 R3 (nid (o.dst.getD 0) p)).isNone=true;rw[e2 _ v];exact h1
def MQ (ids:List Nat)(ks:List Bool)(n:Nat)(sc:SC):Bool:=match sc.cls,sc.rest with
 |.w::_,o::_=>match o.op with
  |.call c=>match GC sc.regs (c.args.toList.map (aev sc.env))with
   |some (_,regs)=>U1 regs ids ks (o.dst.getD 0) n
   |none=>false
  |_=>false
 |.b js::_,o::_=>match o.op with
  |.call c=>match GC sc.regs (c.args.toList.map (aev sc.env))with
   |some (_,regs)=>((c.args.toList.map (aev sc.env)).all (YZ js)&&ids.isEmpty)&&(((G4 (o.dst.getD 0) ids ks n).all fun q=>js.contains q)&&U1 regs ids ks (o.dst.getD 0) n)
   |none=>false
  |_=>false
 |.a js::_,o::_=>match o.op with
  |.call c=>match GC sc.regs (c.args.toList.map (aev sc.env))with
   |some (_,regs)=>((c.args.toList.map (aev sc.env)).all (inJ js)&&ids.isEmpty)&&(((G4 (o.dst.getD 0) ids ks n).all fun q=>js.contains q)&&U1 regs ids ks (o.dst.getD 0) n)
   |none=>false
  |_=>false
 |_,_=>false
def MR (ids:List Nat)(ks:List Bool)(r:AV)(objs' : List Obj)(sc:SC):SC:=match sc.rest with
 |o::rest=>match o.op with
  |.call c=>match GC sc.regs (c.args.toList.map (aev sc.env))with
   |some (_,regs)=>YY o.dst (unA (G4 (o.dst.getD 0) ids ks objs'.length) r) sc.env
    (back (G4 (o.dst.getD 0) ids ks objs'.length) (G4 (o.dst.getD 0) ids ks objs'.length) objs' (I9 ids ks regs)) fun env regs=>⟨sc.all,sc.cls.tail,rest,env,regs,sc.kn⟩
   |none=>sc
  |_=>sc
 |[]=>sc
theorem Al9 (ids:List Nat)(hc:pr){fn:FuncId}{args:List AV}{objs objs' : List Obj}{r:AV}{ks:List Bool}(u:FunO S fn args objs r objs' ks)
 (hk:SG S P (MR ids ks r objs' (Bt P sc)) k) (hp:pr=C7 (Pq P sc):=by kernel_rfl) (d:MO ids (Bt P sc)=some (fn,args,objs):=by kernel_rfl) (hn:MQ ids ks objs'.length (Bt P sc)=true:=by kernel_rfl):SG S P sc k:=by
 refine Xo hc ?_ hp;generalize Bt P sc=s at d hn hk;obtain⟨all,cls,rest,env,regs,kn⟩:=s;cases rest with
 |nil=>simp[MO]at d
 |cons o rest=>
  simp only[MO]at d;split at d
  .rename_i c v g;split at d
   .rename_i i;split at d
    .rename_i ha;split at d
     .rename_i x;split at d
      .rename_i y j;split at d
       .rename_i f;cases d;simp only[Ar7]at f;cases cls with
        |nil=>simp[MQ]at hn
        |cons cl cls=>
         cases cl with
         |w=>simp only[MQ,g,ha]at hn;simp only[MR,g,ha,Dw,Ax4]at hk;exact Xj ids (.inl rfl) v g i ha x y j u f.1 f.2 hn hk
         |b js=>simp only[MQ,g,ha,Ar7,AE4]at hn;obtain⟨⟨l,m⟩,n,t⟩:=hn;subst m;simp only[MR,g,ha,Dw,Ax4]at hk;refine Xj [] (.inr ⟨js,rfl,fun q z=>?_⟩) v g i ha x y j u f.1 f.2 t hk;rw[HE (fun h=>z (by simpa using As3.1 n q h))];exact UZ l ha q z
         |a js=>simp only[MQ,g,ha,Ar7,AE4]at hn;obtain⟨⟨l,m⟩,n,t⟩:=hn;subst m;simp only[MR,g,ha,Dw,Ax4]at hk;cases j;exact Af1 v g i l ha x y u n t hk
         |_=>simp[MQ]at hn
       cases d
      cases d
     cases d
    cases d
   cases d
  cases d
def Va (sc:SC):Bool:=match sc.cls,sc.rest with
 |_::_,o::_=>match o.op with
  |.call c=>(c.args.toList.map (aev sc.env)).all Xe
  |_=>false
 |_,_=>false
def Vb (sc:SC):Option (FuncId×List AV):=match sc.rest with
 |o::_=>match Y4 sc.all sc.env o,o.op with
  |some true,.call c=>match c.callee with
   |.value f=>match OO sc.env f (c.args.toList.map (aev sc.env))with
    |some (fn,as')=>match CD [] as' with
     |some a=>some (fn,a)
     |none=>none
    |none=>none
   |_=>none
  |_,_=>none
 |[]=>none
def Xq (r:AV)(sc:SC):SC:=match sc.rest with
 |o::rest=>YY o.dst (unA [] r) sc.env sc.regs fun env regs=>⟨sc.all,sc.cls.tail,rest,env,regs,sc.kn⟩
 |[]=>sc
theorem Am0 (hc:pr){fn:FuncId}{args:List AV}{r:AV}(f:FunO S fn args [] r [] [])
 (hk:SG S P (Xq r (Bt P sc)) k) (hp:pr=C7 (Pq P sc):=by kernel_rfl) (a:Vb (Bt P sc)=some (fn,args):=by kernel_rfl) (hn:Va (Bt P sc)=true:=by kernel_rfl):SG S P sc k:=by
 refine Xo hc ?_ hp;generalize Bt P sc=s at a hn hk;obtain⟨all,cls,rest,env,regs,kn⟩:=s;cases rest with
 |nil=>simp[Vb]at a
 |cons o rest=>
  cases cls with
  |nil=>simp[Va]at hn
  |cons cl cls=>
   simp only[Vb]at a;split at a
   .rename_i c g d;split at a
    .rename_i b;split at a
     .rename_i i;split at a
      .rename_i j;cases a;simp only[Va,d]at hn;simp only[Xq,Dw,Ax4]at hk;exact Ak5 g d b hn i j f hk
      cases a
     cases a
    cases a
   cases a
def Fx (P:Program)(sc:SC):Option (List Prop×PV):=match sc.cls,sc.rest with
 |_::_,o::_=>match Y4 sc.all sc.env o with
  |some true=>NQ P sc.env o.op
  |_=>none
 |_,_=>none
def TJ (x:PV)(sc:SC):SC:=match sc.rest with
 |o::rest=>YY o.dst (.p x) sc.env sc.regs fun env regs=>⟨sc.all,sc.cls.tail,rest,env,regs,sc.kn⟩
 |[]=>sc
theorem Af2 (hc:pr){x:PV}(hk:SG S P (TJ x (Bt P sc)) k)(hp:pr=C7 (Pq P sc):=by kernel_rfl)(a:(Fx P (Bt P sc)).map (·.2)=some x:=by kernel_rfl)(b:((Fx P (Bt P sc)).map fun q=>C7 q.1)=some (true=true):=by kernel_rfl):SG S P sc k:=by
 refine Xo hc ?_ hp;generalize Bt P sc=s at a b hk;obtain⟨all,cls,rest,env,regs,kn⟩:=s;cases rest with
 |nil=>cases cls<;>simp[Fx]at a
 |cons o rest=>
  cases cls with
  |nil=>simp[Fx]at a
  |cons cl cls=>
   cases d:Y4 all env o with
   |none=>simp[Fx,d]at a
   |some bb=>
    cases bb with
    |false=>simp[Fx,d]at a
    |true=>
     simp only[Fx,d]at a b;cases ha:NQ P env o.op with
     |none=>rw[ha]at a;cases a
     |some q=>obtain⟨c,y⟩:=q;rw[ha]at a b;simp only[As4,Ar5]at a b;subst a;simp only[TJ,Dw,Ax4]at hk;exact YI d ha (by rw[b];trivial) hk
def RY (P:Program)(sc:SC):Option LookI:=match sc.cls,sc.rest with
 |cl::_,o::_=>match Y4 sc.all sc.env o,o.op with
  |some true,.lookup t m q _=>match CC sc.regs (aev sc.env q),aev sc.env m with
   |some (key,regs),.mref j=>match A2 regs j,tk P t with
    |some (.map es),some (.map kt e)=>if (ES P kt key&&RU cl sc.env (o.dst.getD 0) o.op) then some ⟨kt,e,key,es⟩else none
    |_,_=>none
   |_,_=>none
  |_,_=>none
 |_,_=>none
def Xr (x:PV)(b:Bool)(sc:SC):SC:=match sc.rest with
 |o::rest=>match o.op with
  |.lookup _ _ q ok=>match CC sc.regs (aev sc.env q)with
   |some (_,regs)=>YY o.dst (if ok then .tup [.p x,.bool b]else .p x) sc.env regs fun env regs=>⟨sc.all,sc.cls.tail,rest,env,regs,sc.kn⟩
   |none=>sc
  |_=>sc
 |[]=>sc
theorem Zb (hc:pr){kt e:TypeId}{key:PV}{es:List (PV×PV)}{x:PV}{b:Bool}{fd:Option PV}
 (j:find (IG P kt) key es=some fd) (g:C7 (HP P kt)) (hk:SG S P (Xr x b (Bt P sc)) k) (hp:pr=C7 (Pq P sc):=by kernel_rfl) (a:RY P (Bt P sc)=some ⟨kt,e,key,es⟩:=by kernel_rfl) (hx:YR P e fd=some (x,b):=by kernel_rfl):SG S P sc k:=by
 refine Xo hc ?_ hp;generalize Bt P sc=s at a hk;obtain⟨all,cls,rest,env,regs,kn⟩:=s;cases rest with
 |nil=>cases cls<;>simp[RY]at a
 |cons o rest=>
  cases cls with
  |nil=>simp[RY]at a
  |cons cl cls=>
   simp only[RY]at a;split at a
   .rename_i l f;split at a
    .rename_i i hm;split at a
     .rename_i m n;split at a
      .rename_i c;simp only[Ar5,LookI.mk.injEq]at a;obtain⟨rfl,rfl,rfl,rfl⟩:=a;simp only[Ar7]at c;simp only[Xr,f,i,Dw,Ax4]at hk;have d:=c.2;simp only[f]at d;cases fd with
       |some y=>exact UU (fd:=some y) l f i hm m n c.1 j hx g (by rw[f];exact d) hk
       |none=>exact UU (fd:=none) l f i hm m n c.1 j hx g (by rw[f];exact d) hk
      cases a
     cases a
    cases a
   cases a
def TL (P:Program)(sc:SC):Option (TypeId×PV×PV×List (PV×PV)):=match sc.cls,sc.rest with
 |.w::_,o::_=>match Y4 sc.all sc.env o,o.op with
  |some true,.mapUpdate t m q x=>match aev sc.env q,aev sc.env m,CC sc.regs (aev sc.env x)with
   |.p key,.mref j,some (y,regs)=>match A2 regs j,tk P t with
    |some (.map es),some (.map kt _)=>if ES P kt (nP key) then some (kt,nP key,y,es)else none
    |_,_=>none
   |_,_,_=>none
  |_,_=>none
 |_,_=>none
def Af3 (es' : List (PV×PV))(sc:SC):SC:=match sc.rest with
 |o::rest=>match o.op with
  |.mapUpdate _ m _ x=>match aev sc.env m,CC sc.regs (aev sc.env x)with
   |.mref j,some (_,regs)=>YY o.dst Jo sc.env (ins j (.map es') regs) fun env regs=>⟨sc.all,sc.cls.tail,rest,env,regs,sc.kn⟩
   |_,_=>sc
  |_=>sc
 |[]=>sc
theorem Zc (hc:pr){kt:TypeId}{key y:PV}{es es' : List (PV×PV)}
 (i:upd (IG P kt) key y es=some es') (b:C7 (HP P kt)) (hk:SG S P (Af3 es' (Bt P sc)) k) (hp:pr=C7 (Pq P sc):=by kernel_rfl) (a:TL P (Bt P sc)=some (kt,key,y,es):=by kernel_rfl):SG S P sc k:=by
 refine Xo hc ?_ hp;generalize Bt P sc=s at a hk;obtain⟨all,cls,rest,env,regs,kn⟩:=s;cases rest with
 |nil=>cases cls with
  |nil=>simp[TL]at a
  |cons cl cls=>cases cl<;>simp[TL]at a
 |cons o rest=>
  cases cls with
  |nil=>simp[TL]at a
  |cons cl cls=>
   cases cl with
   |w=>
    simp only[TL]at a;split at a
    .rename_i j d;split at a
     .rename_i h1 f g;split at a
      .rename_i l m;split at a
       .rename_i c;simp only[Ar5,As1]at a;obtain⟨rfl,rfl,rfl,rfl⟩:=a;simp only[Af3,d,f,g,Dw,Ax4]at hk;exact TH j d h1 g f l m c i b hk
       cases a
      cases a
     cases a
    cases a
   |_=>simp[TL]at a
end
end
structure KG (S:S6) (P:Program) (F:M0) (g:Cfg):Prop where
 out:G S P F g
structure DG (S:S6) (P:Program) (sc:SC) (k:Env->C6->Prop):Prop where
 out:SG S P sc k
structure KLe (ids:List (Nat×Nat)) (s t:St):Prop where
 out:Le ids s t
section
variable {S:S6}{P:Program}{F:M0}{g:Cfg}{pr:Prop}
theorem kl {ids:List (Nat×Nat)}{s t:St}(h:(leK ids s t).map (·.map Leaf.src)=(leK ids s t).map (·.map Leaf.tgt):=by kernel_rfl)(h1:(leK ids s t).isSome=true:=by kernel_rfl):KLe ids s t:=⟨kle h h1⟩
theorem klR {ids:List (Nat×Nat)}{s t:St}(rs:List (Nat×Leaf))(a:∀q∈rs,q.2.ok)(h:(leK ids s t).map (Al2 (rs.map (·.1)) Leaf.src)=(leK ids s t).map (Al2 (rs.map (·.1)) Leaf.tgt):=by kernel_rfl)
 (b:(leK ids s t).map (fun L=>rs.map fun q=>L[q.1]?)=some (rs.map fun q=>some q.2):=by kernel_rfl):KLe ids s t:=⟨kleR rs a h b⟩
theorem D2 (hS:G1 S P)(hc:pr){b:Bool}(a:b=true->KG S P F (Ae1 (stp P g)))(c:b=false->KG S P F (Ae2 (stp P g)))(hp:pr=C7 (cnd P g):=by kernel_rfl)(hb:YP (stp P g)=some b:=by kernel_rfl):KG S P F g:=
 ⟨Al3 hS hc (fun h=>(a h).out) (fun h=>(c h).out) hp hb⟩
theorem IS (hS:G1 S P)(hc:pr){b:Bool}(a:b=true->KG S P F (MK true (stp P g)))(c:b=false->KG S P F (MK false (stp P g)))(hp:pr=C7 (cnd P g):=by kernel_rfl)(hb:UV (stp P g)=some b:=by kernel_rfl):KG S P F g:=
 ⟨Ae7 hS hc (fun h=>(a h).out) (fun h=>(c h).out) hp hb⟩
theorem B7 (hS:G1 S P)(ids:List Nat)(hc:pr){fn:FuncId}{args:List AV}{objs objs' : List Obj}{r:AV}{ks:List Bool}(a:FunO S fn args objs r objs' ks)(hk:KG S P F (YQ ids ks r objs' (stp P g)))
 (hp:pr=C7 (cnd P g):=by kernel_rfl) (b:VT ids (stp P g)=some (fn,args,objs):=by kernel_rfl) (hn:VU ids ks objs'.length (stp P g)=true:=by kernel_rfl):KG S P F g:=⟨Al4 hS ids hc a hk.out hp b hn⟩
theorem X5 (hS:G1 S P)(hc:pr){kt e:TypeId}{key:PV}{es:List (PV×PV)}{x:PV}{b:Bool}{fd:Option PV}(c:find (IG P kt) key es=some fd)(a:C7 (HP P kt))(hk:KG S P F (Ae4 x b (stp P g)))
 (hp:pr=C7 (cnd P g):=by kernel_rfl) (d:Ae3 P (stp P g)=some ⟨kt,e,key,es⟩:=by kernel_rfl) (hx:YR P e fd=some (x,b):=by kernel_rfl):KG S P F g:=⟨YW hS hc c a hk.out hp d hx⟩
theorem HF (hS:G1 S P)(hc:pr){kt:TypeId}{key y:PV}{es es' : List (PV×PV)}(b:upd (IG P kt) key y es=some es')(a:C7 (HP P kt))(hk:KG S P F (updK es' (stp P g)))
 (hp:pr=C7 (cnd P g):=by kernel_rfl) (c:updE P (stp P g)=some (kt,key,y,es):=by kernel_rfl):KG S P F g:=⟨YX hS hc b a hk.out hp c⟩
theorem JI (hS:G1 S P)(hc:pr)(st:St){ids:List (Nat×Nat)}(hk:KG S P F (opsS st (stp P g)))(hp:pr=C7 (cnd P g):=by kernel_rfl)(a:IQ (stp P g)=true:=by kernel_rfl)(hle:KLe ids (stp P g).st st:=by exact kl):KG S P F g:=
 ⟨Al5 hS hc st hk.out hp a hle.out⟩
theorem Xs (hS:G1 S P)(hc:pr)(b:∀s,S.up s (F .normal)->F .normal s)(n:Nat)(s:St)
 (h1:∀(M:St->Prop),(∀(g' : Cfg) (ids:List (Nat×Nat)) (pr:Prop),pr->(hp:pr=C7 (cnd P g'):=by kernel_rfl)->(a:stp P g' = .pop .normal (.mid M::(stp P g).k.drop n) (stp P g').st:=by kernel_rfl)->(hle:KLe ids (stp P g').st s:=by exact kl)->KG S P F g')->KG S P F (Al1 n M (stp P g)))
 (c:KG S P F (.pop .normal ((stp P g).k.drop n) s)) (hp:pr=C7 (cnd P g):=by kernel_rfl) (hn:Nat.ble n (stp P g).k.length=true:=by kernel_rfl):KG S P F g:=
 ⟨J_cut hS hc b n s (fun M hb=>(h1 M fun g' ids pr hc hp a hle=>⟨hb g' ids pr hc hp a hle.out⟩).out) c.out hp hn⟩
theorem MS (hS:G1 S P)(hc:pr)(c:∀s,S.up s (F .normal)->F .normal s){R A:Type}{f:(A->Option R)->Option R}{k0:A->Option R}{r:R}(h:lt k0 f=some r)(n:Nat)(s:A->St)
 (h1:∀(M:St->Prop) (k:A->Option R),(∀(g' : Cfg) (ids:List (Nat×Nat)) (pr:Prop) (a:A),pr->k a=some r->(hp:pr=C7 (cnd P g'):=by kernel_rfl)->(b:stp P g' = .pop .normal (.mid M::(stp P g).k.drop n) (stp P g').st:=by kernel_rfl)->(hle:KLe ids (stp P g').st (s a):=by exact kl)->KG S P F g')->f k=some r->KG S P F (Al1 n M (stp P g)))
 (d:∀a,k0 a=some r->KG S P F (.pop .normal ((stp P g).k.drop n) (s a))) (hp:pr=C7 (cnd P g):=by kernel_rfl) (hn:Nat.ble n (stp P g).k.length=true:=by kernel_rfl):KG S P F g:=
 ⟨J_lt hS hc c h n s (fun M k hb i=>(h1 M k (fun g' ids pr a hc hk hp b hle=>⟨hb g' ids pr a hc hk hp b hle.out⟩) i).out) (fun a hk=>(d a hk).out) hp hn⟩
theorem S9 (hS:G1 S P)(hc:pr){R A:Type}{body:(A->Option R)->A->Option R}{N:Nat}{a0:A}{r:R}(h:Cd N body a0=some r)(s:A->St){ids:List (Nat×Nat)}
 (i:∀(X:Type) (s' : X->St) (J:X->Prop) (m:X->Nat) (n:Nat) (b:A->Option R) (a:A),
  (∀(g' : Cfg) (ids:List (Nat×Nat)) (pr:Prop) (a:A),pr->b a=some r->(hp:pr=C7 (cnd P g'):=by kernel_rfl)->(f:stp P g' = .pop .normal (.lp X s' J m n::(stp P g).k) (stp P g').st:=by kernel_rfl)->(hle:KLe ids (stp P g').st (s a):=by exact kl)->KG S P F g') ->
  body b a=some r->KG S P F (.code (NV (stp P g)) (.lp X s' J m n::(stp P g).k) (s a))) (hp:pr=C7 (cnd P g):=by kernel_rfl) (hl:GL (stp P g)=true:=by kernel_rfl) (hle:KLe ids (stp P g).st (s a0):=by exact kl):KG S P F g:=
 ⟨Al6 hS hc h s (fun X s' J m n b a hb c=>(i X s' J m n b a (fun g' ids pr a hc d hp f hle=>⟨hb g' ids pr a hc d hp f hle.out⟩) c).out) hp hl hle.out⟩
theorem N1 (hS:G1 S P)(hc:pr){R A B:Type}{body:(A->B->Option R)->A->B->Option R}{N:Nat}{a0:A}{b0:B}{r:R}(h:DX N body a0 b0=some r)(s:A->B->St){ids:List (Nat×Nat)}
 (d:∀(X:Type) (s' : X->St) (J:X->Prop) (m:X->Nat) (n:Nat) (c:A->B->Option R) (a:A) (b:B),
  (∀(g' : Cfg) (ids:List (Nat×Nat)) (pr:Prop) (a:A) (b:B),pr->c a b=some r->(hp:pr=C7 (cnd P g'):=by kernel_rfl)->(o:stp P g' = .pop .normal (.lp X s' J m n::(stp P g).k) (stp P g').st:=by kernel_rfl)->(hle:KLe ids (stp P g').st (s a b):=by exact kl)->KG S P F g') ->
  body c a b=some r->KG S P F (.code (NV (stp P g)) (.lp X s' J m n::(stp P g).k) (s a b))) (hp:pr=C7 (cnd P g):=by kernel_rfl) (hl:GL (stp P g)=true:=by kernel_rfl) (hle:KLe ids (stp P g).st (s a0 b0):=by exact kl):KG S P F g:=
 S9 hS hc h (fun x=>s x.1 x.2) (fun X s' J m n c a hb=>d X s' J m n (fun a b=>c (a,b)) a.1 a.2 fun g' ids pr a b h1 f i j l=>hb g' ids pr (a,b) h1 f i j l) hp hl hle
theorem Ps (hS:G1 S P)(hc:pr){R A B C:Type}{body:(A->B->C->Option R)->A->B->C->Option R}{N:Nat}{a0:A}{b0:B}{c0:C}{r:R}(h:Ad8 N body a0 b0 c0=some r)(s:A->B->C->St){ids:List (Nat×Nat)}
 (f:∀(X:Type) (s' : X->St) (J:X->Prop) (m:X->Nat) (n:Nat) (d:A->B->C->Option R) (a:A) (b:B) (c:C),
  (∀(g' : Cfg) (ids:List (Nat×Nat)) (pr:Prop) (a:A) (b:B) (c:C),pr->d a b c=some r->(hp:pr=C7 (cnd P g'):=by kernel_rfl)->(q:stp P g' = .pop .normal (.lp X s' J m n::(stp P g).k) (stp P g').st:=by kernel_rfl)->(hle:KLe ids (stp P g').st (s a b c):=by exact kl)->KG S P F g') ->
  body d a b c=some r->KG S P F (.code (NV (stp P g)) (.lp X s' J m n::(stp P g).k) (s a b c))) (hp:pr=C7 (cnd P g):=by kernel_rfl) (hl:GL (stp P g)=true:=by kernel_rfl) (hle:KLe ids (stp P g).st (s a0 b0 c0):=by exact kl):KG S P F g:=
 S9 hS hc h (fun x=>s x.1 x.2.1 x.2.2) (fun X s' J m n d a hb=>f X s' J m n (fun a b c=>d (a,b,c)) a.1 a.2.1 a.2.2 fun g' ids pr a b c h1 i j l o=>hb g' ids pr (a,b,c) h1 i j l o) hp hl hle
theorem Am1 (hS:G1 S P)(hc:pr){R A B C D E F' : Type}{body:(A->B->C->D->E->F' -> Option R)->A->B->C->D->E->F' -> Option R}{N:Nat}{a0:A}{b0:B}{c0:C}{d0:D}{e0:E}{f0:F'}{r:R}(h:fix6 N body a0 b0 c0 d0 e0 f0=some r)(s:A->B->C->D->E->F' -> St){ids:List (Nat×Nat)}
 (j:∀(X:Type) (s' : X->St) (J:X->Prop) (m:X->Nat) (n:Nat) (i:A->B->C->D->E->F' -> Option R) (a:A) (b:B) (c:C) (d:D) (e:E) (f:F'),
  (∀(g' : Cfg) (ids:List (Nat×Nat)) (pr:Prop) (a:A) (b:B) (c:C) (d:D) (e:E) (f:F'),pr->i a b c d e f=some r->(hp:pr=C7 (cnd P g'):=by kernel_rfl)->(u:stp P g' = .pop .normal (.lp X s' J m n::(stp P g).k) (stp P g').st:=by kernel_rfl)->(hle:KLe ids (stp P g').st (s a b c d e f):=by exact kl)->KG S P F g') ->
  body i a b c d e f=some r->KG S P F (.code (NV (stp P g)) (.lp X s' J m n::(stp P g).k) (s a b c d e f))) (hp:pr=C7 (cnd P g):=by kernel_rfl) (hl:GL (stp P g)=true:=by kernel_rfl) (hle:KLe ids (stp P g).st (s a0 b0 c0 d0 e0 f0):=by exact kl):KG S P F g:=
 S9 hS hc h (fun x=>s x.1 x.2.1 x.2.2.1 x.2.2.2.1 x.2.2.2.2.1 x.2.2.2.2.2) (fun X s' J m n i a hb=>j X s' J m n (fun a b c d e f=>i (a,b,c,d,e,f)) a.1 a.2.1 a.2.2.1 a.2.2.2.1 a.2.2.2.2.1 a.2.2.2.2.2 fun g' ids pr a b c d e f h1 l o q t=>hb g' ids pr (a,b,c,d,e,f) h1 l o q t) hp hl hle
theorem Zd (hS:G1 S P)(hc:pr){n:Nat}{rs:List ResultVar}{Q:ARes->List Obj->List Bool->Prop}{a:AV}{objs:List Obj}(outs:List Nat)(b:Q (.ret a) objs (Gg n outs))(hp:pr=C7 (cnd P g):=by kernel_rfl)
 (c:(Ae5 (stp P g)).bind (fun st=>TI P st rs outs)=some (a,objs):=by kernel_rfl):KG S P (Cl S P n rs Q) g:=⟨J_ret hS hc outs b hp c⟩
theorem A7 (hS:G1 S P)(hc:pr){n:Nat}{rs:List ResultVar}{Q:ARes->List Obj->List Bool->Prop}{a:AV}{objs:List Obj}(st:St)(outs:List Nat){ids:List (Nat×Nat)}(b:Q (.ret a) objs (Gg n outs))(hp:pr=C7 (cnd P g):=by kernel_rfl)
 (c:(Ae5 (stp P g)).isSome=true:=by kernel_rfl) (hle:KLe ids (stp P g).st st:=by exact kl) (d:TI P st rs outs=some (a,objs):=by kernel_rfl):KG S P (Cl S P n rs Q) g:=⟨Al7 hS hc st outs b hp c hle.out d⟩
theorem A5 (hS:G1 S P){f:FuncId}{fn:Func}{args:List AV}{objs objs' : List Obj}{ks:List Bool}{r:AV}(c:P.funcs[f]? = some fn)
 (h:KG S P (Cl S P objs.length fn.results.toList fun res o k=>res=.ret r/\o=objs' /\ k=ks) (.code (fn.body.getD .skip) [] { env:=argEnv args,regs:=objRegs objs }))
 (hc:fn.body.isSome=true:=by kernel_rfl) (hn:Nat.ble args.length fn.ntmps=true:=by kernel_rfl) (d:Nat.blt objs.length 1000=true:=by kernel_rfl)
 (a:AF fn.ntmps (fn.body.getD .skip)=true:=by kernel_rfl) (b:(fn.name == "runtime.NumGoroutine")=false:=by kernel_rfl):FunO S f args objs r objs' ks:=Ae8 hS c h.out hc hn d a b
theorem Dx (hS:G1 S P)(hc:pr)(h:DG S P (GM (stp P g)) fun env regs=>KG S P F (.pop .normal (stp P g).k ⟨env,regs⟩))(hp:pr=C7 (cnd P g):=by kernel_rfl)(c:BP (stp P g)=true:=by kernel_rfl)(a:P.follows .mixedOrders=true:=by kernel_rfl)
 (b:Ld (GM (stp P g)).all (GM (stp P g)).cls=true:=by kernel_rfl):KG S P F g:=by
 have e:(fun env regs=>KG S P F (.pop .normal (stp P g).k ⟨env,regs⟩))=fun env regs=>G S P F (.pop .normal (stp P g).k ⟨env,regs⟩):=by funext env regs;exact propext ⟨fun h=>h.out,fun h=>⟨h⟩⟩
 rw[e]at h;exact⟨Ae9 hS hc h.out hp c a b⟩
section
variable {sc:SC}{k:Env->C6->Prop}
theorem D8 (hc:pr)(h:k (Bt P sc).env (Bt P sc).regs)(hp:pr=C7 (Pq P sc):=by kernel_rfl)(a:(Bt P sc).rest.isEmpty=true:=by kernel_rfl):DG S P sc k:=⟨C_end hc h hp a⟩
theorem T0 (hc:pr){b:Bool}(a:b=true->DG S P (MN true (Bt P sc)) k)(c:b=false->DG S P (MN false (Bt P sc)) k)(hp:pr=C7 (Pq P sc):=by kernel_rfl)(hb:Qk (Bt P sc)=some b:=by kernel_rfl):DG S P sc k:=
 ⟨Af0 hc (fun h=>(a h).out) (fun h=>(c h).out) hp hb⟩
theorem Ib (ids:List Nat)(hc:pr){fn:FuncId}{args:List AV}{objs objs' : List Obj}{r:AV}{ks:List Bool}(a:FunO S fn args objs r objs' ks)(hk:DG S P (MR ids ks r objs' (Bt P sc)) k)
 (hp:pr=C7 (Pq P sc):=by kernel_rfl) (b:MO ids (Bt P sc)=some (fn,args,objs):=by kernel_rfl) (hn:MQ ids ks objs'.length (Bt P sc)=true:=by kernel_rfl):DG S P sc k:=⟨Al9 ids hc a hk.out hp b hn⟩
theorem F7 (hc:pr){fn:FuncId}{args:List AV}{r:AV}(a:FunO S fn args [] r [] [])(hk:DG S P (Xq r (Bt P sc)) k)(hp:pr=C7 (Pq P sc):=by kernel_rfl)(b:Vb (Bt P sc)=some (fn,args):=by kernel_rfl)(hn:Va (Bt P sc)=true:=by kernel_rfl):DG S P sc k:=
 ⟨Am0 hc a hk.out hp b hn⟩
theorem P4 (hc:pr){x:PV}(hk:DG S P (TJ x (Bt P sc)) k)(hp:pr=C7 (Pq P sc):=by kernel_rfl)(b:(Fx P (Bt P sc)).map (·.2)=some x:=by kernel_rfl)(a:((Fx P (Bt P sc)).map fun q=>C7 q.1)=some (true=true):=by kernel_rfl):DG S P sc k:=⟨Af2 hc hk.out hp b a⟩
theorem Fy (hc:pr){kt e:TypeId}{key:PV}{es:List (PV×PV)}{x:PV}{b:Bool}{fd:Option PV}(c:find (IG P kt) key es=some fd)(a:C7 (HP P kt))(hk:DG S P (Xr x b (Bt P sc)) k)
 (hp:pr=C7 (Pq P sc):=by kernel_rfl) (d:RY P (Bt P sc)=some ⟨kt,e,key,es⟩:=by kernel_rfl) (hx:YR P e fd=some (x,b):=by kernel_rfl):DG S P sc k:=⟨Zb hc c a hk.out hp d hx⟩
theorem Db (hc:pr){kt:TypeId}{key y:PV}{es es' : List (PV×PV)}(b:upd (IG P kt) key y es=some es')(a:C7 (HP P kt))(hk:DG S P (Af3 es' (Bt P sc)) k)
 (hp:pr=C7 (Pq P sc):=by kernel_rfl) (c:TL P (Bt P sc)=some (kt,key,y,es):=by kernel_rfl):DG S P sc k:=⟨Zc hc b a hk.out hp c⟩
end
end
end Go.AM
namespace Go.AM
section
variable {S:S6}{P:Program}{F:M0}{g:Cfg}{pr:Prop}
def yldE:Cfg->Option (List PV×List (List PV))
 |.ops all (o::_) _ st=>match AG all st.env o,o.op with
  |some true,.call c=>match c.callee with
   |.value f=>match aev st.env f,EP st.regs (c.args.toList.map (aev st.env))with
    |.yf j,some (xs,regs)=>match A2 regs j with
     |some (.yld (ys::rest) true)=>if Er j regs=true/\xs.length=ys.length then some (xs,ys::rest)else none
     |_=>none
    |_,_=>none
   |_=>none
  |_,_=>none
 |_=>none
def Am2 (b:Bool)(rest:List (List PV)):Cfg->Cfg
 |.ops all (o::ops) K st=>match o.op with
  |.call c=>match c.callee with
   |.value f=>match aev st.env f,EP st.regs (c.args.toList.map (aev st.env))with
    |.yf j,some (_,regs)=>VR o.dst (.p (.bb b)) st.env (ins j (.yld rest b) regs) fun st=>.ops all ops K st
    |_,_=>.ops all (o::ops) K st
   |_=>.ops all (o::ops) K st
  |_=>.ops all (o::ops) K st
 |g=>g
theorem RZ:∀l:List PV,Aa5 l l
 |[]=>trivial
 |x::l=>⟨.inl rfl,RZ l⟩
theorem Af4 (hS:G1 S P)(hc:pr){ys:List PV}{rest:List (List PV)}(d:G S P F (Am2 true rest (stp P g)))(f:G S P F (Am2 false [] (stp P g)))(hp:pr=C7 (cnd P g))(a:yldE (stp P g)=some (ys,ys::rest)):G S P F g:=by
 refine Eb hS hc ?_ hp;generalize stp P g=g' at a d f;unfold yldE at a;split at a
 .split at a
  .rename_i m j;split at a
   .rename_i c;split at a
    .rename_i hy l;split at a
     .rename_i n;split at a
      .rename_i i;simp only[Ar5,As1,Av6]at a;obtain⟨rfl,rfl,rfl⟩:=a;simp only[Am2,j,c,hy,l,Es]at d f;refine Ad5 hS m j c hy l n i.1 (RZ _) fun b=>?_;cases b
       .exact f
       exact d
      cases a
     cases a
    cases a
   cases a
  cases a
 cases a
theorem BQ (hS:G1 S P)(hc:pr){ys:List PV}{rest:List (List PV)}(a:KG S P F (Am2 true rest (stp P g)))(b:KG S P F (Am2 false [] (stp P g)))(hp:pr=C7 (cnd P g):=by kernel_rfl)(c:yldE (stp P g)=some (ys,ys::rest):=by kernel_rfl):KG S P F g:=
 ⟨Af4 hS hc a.out b.out hp c⟩
def IT {T:Type}(x:T)(o:Option (List T)):Option (List T):=o.map (x :: ·)
theorem KH {T:Type}{x:T}{o:Option (List T)}{L:List T}(h:IT x o=some L):∃L',L=x::L' /\ o=some L':=by simp only[IT,At6]at h;obtain⟨l,h1,a⟩:=h;exact⟨l,a.symm,h1⟩
theorem BR (hS:G1 S P)(hc:pr){R A:Type}{body:(A->Option R)->A->Option R}{N:Nat}{a0:A}{r0:R}(h:Cd N body a0=some r0)(s:A->R->St){ids:List (Nat×Nat)}
 (f:∀(X:Type) (s' : X->St) (J:X->Prop) (m:X->Nat) (n:Nat) (b:A->Option R) (a:A) (r:R),
  (∀(g' : Cfg) (ids:List (Nat×Nat)) (pr:Prop) (a:A) (r:R),pr->b a=some r->(hp:pr=C7 (cnd P g'):=by kernel_rfl)->(d:stp P g' = .pop .normal (.lp X s' J m n::(stp P g).k) (stp P g').st:=by kernel_rfl)->(hle:KLe ids (stp P g').st (s a r):=by exact kl)->KG S P F g') ->
  body b a=some r->KG S P F (.code (NV (stp P g)) (.lp X s' J m n::(stp P g).k) (s a r))) (hp:pr=C7 (cnd P g):=by kernel_rfl) (hl:GL (stp P g)=true:=by kernel_rfl) (hle:KLe ids (stp P g).st (s a0 r0):=by exact kl):KG S P F g:=by
 refine⟨Eb hS hc ?_ hp⟩;rw[Qi hl];refine Ut hS (X:=Nat×A×R) (fun x=>s x.2.1 x.2.2) (fun x=>Cd x.1 body x.2.1=some x.2.2) (fun x=>x.1) (N,a0,r0) ids hle.out h ?_;rintro⟨n,a,r⟩ hx;cases n with
 |zero=>cases hx
 |succ n=>exact (f _ _ _ _ _ (Cd n body) a r (fun g' ids pr a r hc c hp d hle=>⟨Eb hS hc (by rw[d];exact Ti hS (n,a,r) ids hle.out c (AE3 n)) hp⟩) hx).out
theorem Qm (hS:G1 S P)(hc:pr){R A B:Type}{body:(A->B->Option R)->A->B->Option R}{N:Nat}{a0:A}{b0:B}{r0:R}(h:DX N body a0 b0=some r0)(s:A->B->R->St){ids:List (Nat×Nat)}
 (d:∀(X:Type) (s' : X->St) (J:X->Prop) (m:X->Nat) (n:Nat) (c:A->B->Option R) (a:A) (b:B) (r:R),
  (∀(g' : Cfg) (ids:List (Nat×Nat)) (pr:Prop) (a:A) (b:B) (r:R),pr->c a b=some r->(hp:pr=C7 (cnd P g'):=by kernel_rfl)->(o:stp P g' = .pop .normal (.lp X s' J m n::(stp P g).k) (stp P g').st:=by kernel_rfl)->(hle:KLe ids (stp P g').st (s a b r):=by exact kl)->KG S P F g') ->
  body c a b=some r->KG S P F (.code (NV (stp P g)) (.lp X s' J m n::(stp P g).k) (s a b r))) (hp:pr=C7 (cnd P g):=by kernel_rfl) (hl:GL (stp P g)=true:=by kernel_rfl) (hle:KLe ids (stp P g).st (s a0 b0 r0):=by exact kl):KG S P F g:=
 BR hS hc h (fun x r=>s x.1 x.2 r) (fun X s' J m n c a r hb=>d X s' J m n (fun a b=>c (a,b)) a.1 a.2 r fun g' ids pr a b r h1 f i j l=>hb g' ids pr (a,b) r h1 f i j l) hp hl hle
theorem Dc (hS:G1 S P){f:FuncId}{fn:Func}{first caps:List AV}{objs:List Obj}{L:List (List PV)}(i:P.funcs[f]? = some fn)
 (h:KG S P (Cl S P (objs++[Obj.yld L true]).length fn.results.toList fun r objs' ks=>∃b,objs'[objs.length]? = some (.yld [] b)/\ks[objs.length]? = some true/\∃a,r=.ret a) (.code (fn.body.getD .skip) [] { env:=argEnv (first ++ .yf objs.length::caps),regs:=objRegs (objs++[Obj.yld L true]) }))
 (hc:fn.body.isSome=true:=by kernel_rfl) (hn:Nat.ble (first ++ .yf objs.length::caps).length fn.ntmps=true:=by kernel_rfl) (j:Nat.blt (objs++[Obj.yld L true]).length 1000=true:=by kernel_rfl)
 (d:AF fn.ntmps (fn.body.getD .skip)=true:=by kernel_rfl) (g:(fn.name == "runtime.NumGoroutine")=false:=by kernel_rfl):Dv S f first caps objs L:=by
 obtain⟨code,c⟩:=As7.1 hc;rw[c,As0]at d h;exact KE hS i c (Aw5 hn) (by simpa[Az5]using j) rfl d g h.out
def Sa (P:Program)(ids:List Nat):Cfg->Option (FuncId×List AV×List AV×List Obj)
 |.code (.rangeFunc op _ _ _) _ st=>match Eo st.env op with
  |some (f,first,caps)=>match P.funcs[f]?,J6 ids st.regs ids,CD ids first,CD ids caps with
   |some fn,some objs,some as,some bs=>if (fn.body.isSome && !(fn.name == "runtime.NumGoroutine")&&Ea objs&&H0 ids&&(objs.length==ids.length)&&Nat.blt ids.length 1000) then some (f,as,bs,objs)else none
   |_,_,_,_=>none
  |none=>none
 |_=>none
def Ic:Cfg->Array Tmp
 |.code (.rangeFunc _ ps _ _) _ _=>ps
 |_=>#[]
def Sb:Cfg->Code
 |.code (.rangeFunc _ _ a _) _ _=>a
 |_=>.skip
def Sc:Cfg->Code
 |.code (.rangeFunc _ _ _ b) _ _=>b
 |_=>.skip
def Sd (ids ts:List Nat)(g:Cfg):St:=⟨V7 ts (ts.map (get g.st.env)),I9 ids (ids.map fun _=>false) g.st.regs⟩
def rst (gh:Nat)(t:St):St:=⟨[],ins gh (.ghost (t.env.map (·.2))) t.regs⟩
def Se (gh:Nat)(ps:Array Tmp)(ys:List PV)(t:St):St:=⟨LF ps.toList ys t.env,ins gh (.ghost (t.env.map (·.2))) t.regs⟩
def exitE:Cfg->HL
 |.pop e _ _=>e
 |_=>.normal
def ZU:Cfg->Bool
 |.pop .ret [] _=>true
 |.pop (.exit _) [] _=>true
 |_=>false
theorem Xt (regs:C6)(d:Nat)(x:Obj):A2 (ins d x regs) d=some x:=by
 induction regs with
 |nil=>simp[ins,A2]
 |cons p r ih=>
  obtain⟨i,b⟩:=p;simp only[ins];split
  .simp[A2]
  split
  .simp[A2]
  rename_i h1 a;simp only[A2,a,Ge,ih]
theorem GN (gh:Nat)(t:St):A2 (rst gh t).regs gh=some (.ghost (t.env.map fun p=>p.2)):=by unfold rst;exact Xt _ _ _
def MT (ids:List Nat):Cfg->Option (FuncId×List AV×List AV×List Obj)
 |.code (.rangeFunc op _ _ _) _ st=>match Eo st.env op with
  |some (f,first,caps)=>match J6 ids st.regs ids,CD ids first,CD ids caps with
   |some objs,some as,some bs=>if (Ea objs&&H0 ids&&(objs.length==ids.length)&&Nat.blt ids.length 1000) then some (f,as,bs,objs)else none
   |_,_,_=>none
  |none=>none
 |_=>none
theorem HG {ids:List Nat}{g:Cfg}{q:FuncId×List AV×List AV×List Obj}(h:Sa P ids g=some q):MT ids g=some q/\∃fn,P.funcs[q.1]? = some fn/\fn.body.isSome=true/\(fn.name == "runtime.NumGoroutine")=false:=by
 unfold Sa at h;split at h
 .split at h
  .rename_i a;split at h
   .rename_i fn objs' as' bs' h1 c d f;split at h
    .rename_i b;cases h;simp only[Ar7,At3,beq_iff_eq]at b;obtain⟨⟨⟨⟨⟨e1,e2⟩,e3⟩,e4⟩,e5⟩,e6⟩:=b;refine⟨?_,fn,h1,e1,by simpa using e2⟩;simp only[MT,a,c,d,f,e3,e4,e5,e6,beq_self_eq_true,AE0,Fe]
    cases h
   cases h
  cases h
 cases h
theorem Mf (hS:G1 S P)(hc:pr){f:FuncId}{as bs:List AV}{objs:List Obj}{R T A:Type}{enc:T->List PV}{L:List T}{mb:(A->Option R)->T->A->Option R}{mk:A->Option R}{a0:A}{r:R}(o:∃fn,P.funcs[f]? = some fn/\fn.body.isSome=true/\(fn.name == "runtime.NumGoroutine")=false)
 (ids ts:List Nat) (gh:Nat) (s:A->St) {idl:List (Nat×Nat)}(h:BI L mb mk a0=some r) (x:Dv S f as bs objs (L.map enc))
 (i:∀t:T,Z9 (enc t)=some (Ic (stp P g)).size) (hk:∀a,(s a).env.map (·.1)=ts) (hn:∀a,A2 (s a).regs gh=none) (m:∀a,(⟨V7 ts ((s a).env.map (·.2)),del gh (ins gh (.ghost ((s a).env.map (·.2))) (s a).regs)⟩:St)=s a)
 (c:∀(t:T) (next:St->Prop) (d:A->Option R) (a:A),
  (∀(g' : Cfg) (ids:List (Nat×Nat)) (pr:Prop) (a:A),pr->d a=some r->(hp:pr=C7 (cnd P g'):=by kernel_rfl)->(b:stp P g' = .pop .normal [] (stp P g').st:=by kernel_rfl)->(hle:KLe ids (stp P g').st (rst gh (s a)):=by exact kl)->KG S P (Fn S gh ts next (kp S P (stp P g).k F)) g') ->
  mb d t a=some r->KG S P (Bw S P (Sc (stp P g)) gh ts next (kp S P (stp P g).k F)) (.code (Sb (stp P g)) [] (Se gh (Ic (stp P g)) (enc t) (s a))))
 (j:∀a,mk a=some r->KG S P F (.pop .normal (stp P g).k (s a)))
 (hp:pr=C7 (cnd P g):=by kernel_rfl) (b:MT ids (stp P g)=some (f,as,bs,objs):=by kernel_rfl) (q:Nat.blt gh 1000=true:=by kernel_rfl) (n:A2 (stp P g).st.regs gh=none:=by kernel_rfl) (u:H0 ts=true:=by kernel_rfl)
 (hle:KLe idl (Sd ids ts (stp P g)) (s a0):=by exact kl):KG S P F g:=by
 refine⟨Eb hS hc ?_ hp⟩;generalize stp P g=g1 at i c j b n hle;unfold MT at b;split at b
 .rename_i op ps asg body K st;split at b
  .rename_i f' first caps v
   split at b
   .rename_i objs' as' bs' y z h4;split at b
    .rename_i w;simp only[Ar5,As1]at b;obtain⟨rfl,rfl,rfl,rfl⟩:=b;simp only[Ar7,At3,beq_iff_eq]at w;obtain⟨⟨⟨e3,e4⟩,e5⟩,e6⟩:=w;refine Ad9 hS ids ts gh s idl h x v o y e3 e4 z h4 e5 q n e6 u i hle.out hk hn (fun t next d a hb hm=>?_) (fun a hm=>(j a hm).out);refine (c t next d a (fun g' ids' pr a hc l hp b hle=>⟨Eb hS hc ?_ hp⟩) hm).out;rw[b];have hl:((s a).env.map (·.2)).length=ts.length:=by rw[<- hk a];simp
     refine hb _ (rst gh (s a)) ((s a).env.map fun p=>p.2) ids' a hle.out (GN gh (s a)) hl ?_ (m a) l
     have:=congrArg St.regs (m a)
     simp only at this;show A2 (del gh (ins gh _ _)) gh=none;rw[this];exact hn a
    cases b
   cases b
  cases b
 cases b
theorem GO (hS:G1 S P)(hc:pr){f:FuncId}{as bs:List AV}{objs:List Obj}{R T A:Type}{enc:T->List PV}{L:List T}{mb:(A->Option R)->T->A->Option R}{mk:A->Option R}{a0:A}{r:R}
 (ids ts:List Nat) (gh:Nat) (s:A->St) {idl:List (Nat×Nat)}(h:BI L mb mk a0=some r) (q:Dv S f as bs objs (L.map enc))
 (d:∀t:T,Z9 (enc t)=some (Ic (stp P g)).size) (hk:∀a,(s a).env.map (·.1)=ts) (hn:∀a,A2 (s a).regs gh=none) (j:∀a,(⟨V7 ts ((s a).env.map (·.2)),del gh (ins gh (.ghost ((s a).env.map (·.2))) (s a).regs)⟩:St)=s a)
 (b:∀(t:T) (next:St->Prop) (c:A->Option R) (a:A),
  (∀(g' : Cfg) (ids:List (Nat×Nat)) (pr:Prop) (a:A),pr->c a=some r->(hp:pr=C7 (cnd P g'):=by kernel_rfl)->(l:stp P g' = .pop .normal [] (stp P g').st:=by kernel_rfl)->(hle:KLe ids (stp P g').st (rst gh (s a)):=by exact kl)->KG S P (Fn S gh ts next (kp S P (stp P g).k F)) g') ->
  mb c t a=some r->KG S P (Bw S P (Sc (stp P g)) gh ts next (kp S P (stp P g).k F)) (.code (Sb (stp P g)) [] (Se gh (Ic (stp P g)) (enc t) (s a))))
 (i:∀a,mk a=some r->KG S P F (.pop .normal (stp P g).k (s a)))
 (hp:pr=C7 (cnd P g):=by kernel_rfl) (l:Sa P ids (stp P g)=some (f,as,bs,objs):=by kernel_rfl) (m:Nat.blt gh 1000=true:=by kernel_rfl) (n:A2 (stp P g).st.regs gh=none:=by kernel_rfl) (o:H0 ts=true:=by kernel_rfl)
 (hle:KLe idl (Sd ids ts (stp P g)) (s a0):=by exact kl):KG S P F g:=
 Mf hS hc (HG l).2 ids ts gh s h q d hk hn j b i hp (HG l).1 m n o hle
theorem Xu (hS:G1 S P)(hc:pr){f:FuncId}{as bs:List AV}{objs:List Obj}{R T A:Type}{enc:T->List PV}{L:List T}{mb:(A->Option R)->T->A->Option R}{mk:A->Option R}{a0:A}{r0:R}(o:∃fn,P.funcs[f]? = some fn/\fn.body.isSome=true/\(fn.name == "runtime.NumGoroutine")=false)
 (ids ts:List Nat) (gh:Nat) (s:A->R->St) {idl:List (Nat×Nat)}(h:BI L mb mk a0=some r0) (x:Dv S f as bs objs (L.map enc))
 (i:∀t:T,Z9 (enc t)=some (Ic (stp P g)).size) (hk:∀a r,(s a r).env.map (·.1)=ts) (hn:∀a r,A2 (s a r).regs gh=none) (m:∀a r,(⟨V7 ts ((s a r).env.map (·.2)),del gh (ins gh (.ghost ((s a r).env.map (·.2))) (s a r).regs)⟩:St)=s a r)
 (c:∀(t:T) (next:St->Prop) (d:A->Option R) (a:A) (r:R),
  (∀(g' : Cfg) (ids:List (Nat×Nat)) (pr:Prop) (a:A) (r:R),pr->d a=some r->(hp:pr=C7 (cnd P g'):=by kernel_rfl)->(b:stp P g' = .pop .normal [] (stp P g').st:=by kernel_rfl)->(hle:KLe ids (stp P g').st (rst gh (s a r)):=by exact kl)->KG S P (Fn S gh ts next (kp S P (stp P g).k F)) g') ->
  mb d t a=some r->KG S P (Bw S P (Sc (stp P g)) gh ts next (kp S P (stp P g).k F)) (.code (Sb (stp P g)) [] (Se gh (Ic (stp P g)) (enc t) (s a r))))
 (j:∀a r,mk a=some r->KG S P F (.pop .normal (stp P g).k (s a r)))
 (hp:pr=C7 (cnd P g):=by kernel_rfl) (b:MT ids (stp P g)=some (f,as,bs,objs):=by kernel_rfl) (q:Nat.blt gh 1000=true:=by kernel_rfl) (n:A2 (stp P g).st.regs gh=none:=by kernel_rfl) (u:H0 ts=true:=by kernel_rfl)
 (hle:KLe idl (Sd ids ts (stp P g)) (s a0 r0):=by exact kl):KG S P F g:=by
 refine⟨Eb hS hc ?_ hp⟩;generalize stp P g=g1 at i c j b n hle;unfold MT at b;split at b
 .rename_i op ps asg body K st;split at b
  .rename_i f' first caps v
   split at b
   .rename_i objs' as' bs' y z h4;split at b
    .rename_i w;simp only[Ar5,As1]at b;obtain⟨rfl,rfl,rfl,rfl⟩:=b;simp only[Ar7,At3,beq_iff_eq]at w;obtain⟨⟨⟨e3,e4⟩,e5⟩,e6⟩:=w;refine YO hS ids ts gh s idl h x v o y e3 e4 z h4 e5 q n e6 u i hle.out hk hn (fun t next d a r hb hm=>?_) (fun a r hm=>(j a r hm).out);refine (c t next d a r (fun g' ids' pr a r hc l hp b hle=>⟨Eb hS hc ?_ hp⟩) hm).out;rw[b];have hl:((s a r).env.map (·.2)).length=ts.length:=by rw[<- hk a r];simp
     refine hb _ (rst gh (s a r)) ((s a r).env.map fun p=>p.2) ids' a r hle.out (GN gh (s a r)) hl ?_ (m a r) l
     have:=congrArg St.regs (m a r)
     simp only at this;show A2 (del gh (ins gh _ _)) gh=none;rw[this];exact hn a r
    cases b
   cases b
  cases b
 cases b
theorem Ze (hS:G1 S P)(hc:pr){f:FuncId}{as bs:List AV}{objs:List Obj}{R T A:Type}{enc:T->List PV}{L:List T}{mb:(A->Option R)->T->A->Option R}{mk:A->Option R}{a0:A}{r0:R}
 (ids ts:List Nat) (gh:Nat) (s:A->R->St) {idl:List (Nat×Nat)}(h:BI L mb mk a0=some r0) (q:Dv S f as bs objs (L.map enc))
 (d:∀t:T,Z9 (enc t)=some (Ic (stp P g)).size) (hk:∀a r,(s a r).env.map (·.1)=ts) (hn:∀a r,A2 (s a r).regs gh=none) (j:∀a r,(⟨V7 ts ((s a r).env.map (·.2)),del gh (ins gh (.ghost ((s a r).env.map (·.2))) (s a r).regs)⟩:St)=s a r)
 (b:∀(t:T) (next:St->Prop) (c:A->Option R) (a:A) (r:R),
  (∀(g' : Cfg) (ids:List (Nat×Nat)) (pr:Prop) (a:A) (r:R),pr->c a=some r->(hp:pr=C7 (cnd P g'):=by kernel_rfl)->(l:stp P g' = .pop .normal [] (stp P g').st:=by kernel_rfl)->(hle:KLe ids (stp P g').st (rst gh (s a r)):=by exact kl)->KG S P (Fn S gh ts next (kp S P (stp P g).k F)) g') ->
  mb c t a=some r->KG S P (Bw S P (Sc (stp P g)) gh ts next (kp S P (stp P g).k F)) (.code (Sb (stp P g)) [] (Se gh (Ic (stp P g)) (enc t) (s a r))))
 (i:∀a r,mk a=some r->KG S P F (.pop .normal (stp P g).k (s a r)))
 (hp:pr=C7 (cnd P g):=by kernel_rfl) (l:Sa P ids (stp P g)=some (f,as,bs,objs):=by kernel_rfl) (m:Nat.blt gh 1000=true:=by kernel_rfl) (n:A2 (stp P g).st.regs gh=none:=by kernel_rfl) (o:H0 ts=true:=by kernel_rfl)
 (hle:KLe idl (Sd ids ts (stp P g)) (s a0 r0):=by exact kl):KG S P F g:=
 Xu hS hc (HG l).2 ids ts gh s h q d hk hn j b i hp (HG l).1 m n o hle
def Aq9 (t:Nat)(a:AV):Cfg->Cfg
 |.ops all rest K st=>mkO (ins t a st.env) st.regs fun env regs=>.ops all rest K ⟨env,regs⟩
 |g=>g
theorem Sf (hS:G1 S P)(hc:pr)(t:Nat){k n:Nat}{f:Nat->List PV}(b:n=0->KG S P F (Aq9 t (.p (.v (.slice none 0 0))) (stp P g)))(h1:KG S P F (Aq9 t (.p (.sl true k n f)) (stp P g)))
 (hp:pr=C7 (cnd P g):=by kernel_rfl) (a:IQ (stp P g)=true:=by kernel_rfl) (c:get (stp P g).st.env t=.p (.sl false k n f):=by kernel_rfl):KG S P F g:=by
 refine⟨Eb hS hc ?_ hp⟩;generalize stp P g=g1 at b h1 a c;unfold IQ at a;split at a
 .refine Aj2 hS t c (fun h=>?_) ?_
  .have:=(b h).out
   simpa only[Aq9,Fb]using this
  have:=h1.out
  simpa only[Aq9,Fb]using this
 cases a
def frzC (j:Nat)(ps:List PV):Cfg->Cfg
 |.code c K st=>mkO (XU j ps st.env) (ins j .dead st.regs) fun env regs=>.code c K ⟨env,regs⟩
 |g=>g
theorem Sg (hS:G1 S P)(hc:pr)(j:Nat)(ps:List PV)(hk:KG S P F (frzC j ps (stp P g)))(hp:pr=C7 (cnd P g):=by kernel_rfl)(c:BP (stp P g)=true:=by kernel_rfl)(b:P.follows .mixedOrders=true:=by kernel_rfl)
 (a:GE (GM (stp P g)).all=true:=by kernel_rfl) (f:A2 (stp P g).st.regs j=some (.cells (ps.map .p)):=by kernel_rfl):KG S P F g:=by
 refine⟨Eb hS hc ?_ hp⟩;generalize stp P g=g1 at hk c a f;unfold BP at c;split at c
 .rename_i id ops K st;have hk:=hk.out;simp only[frzC,Fb]at hk;show awp S P (.region id ops true) (kp S P K F) st;simp only[awp,Fe];have d : Tf S P ops.toList (kp S P K F) ⟨XU j ps st.env,ins j .dead st.regs⟩:=by
   have:awp S P (.region id ops true) (kp S P K F) ⟨XU j ps st.env,ins j .dead st.regs⟩:=hk
   simpa only[awp,Fe]using this
  exact UR hS b a (hS.frz st j ps _ f d)
 cases c
def clsN (js:List Nat):Nat->List Oper->List Cls
 |_,[]=>[]
 |i,o::r=>(if js.contains i then .n else if js.contains (i+1000)then .w else Aq6 o.op)::clsN js (i+1) r
def Qn (js:List Nat):Cfg->SC
 |.code (.region _ ops true) _ st=>⟨ops.toList,clsN js 0 ops.toList,ops.toList,st.env,st.regs,[]⟩
 |_=>⟨[],[],[],[],[],[]⟩
theorem D6 (hS:G1 S P)(hc:pr)(js:List Nat)(h:DG S P (Qn js (stp P g)) fun env regs=>KG S P F (.pop .normal (stp P g).k ⟨env,regs⟩))(hp:pr=C7 (cnd P g):=by kernel_rfl)(c:BP (stp P g)=true:=by kernel_rfl)(a:P.follows .mixedOrders=true:=by kernel_rfl)
 (b:Ld (Qn js (stp P g)).all (Qn js (stp P g)).cls=true:=by kernel_rfl):KG S P F g:=by
 have e:(fun env regs=>KG S P F (.pop .normal (stp P g).k ⟨env,regs⟩))=fun env regs=>G S P F (.pop .normal (stp P g).k ⟨env,regs⟩):=by funext env regs;exact propext ⟨fun h=>h.out,fun h=>⟨h⟩⟩
 rw[e]at h;refine⟨Eb hS hc ?_ hp⟩;have h:=h.out;generalize stp P g=g' at c b h;unfold BP at c;split at c
 .exact UM hS _ a b h
 cases c
def Ar0 (ls:List (Nat×Cls)):Nat->List Oper->List Cls
 |_,[]=>[]
 |i,o::r=>(match ls.find? (fun q=>q.1==i)with|some q=>q.2|none=>Aq6 o.op)::Ar0 ls (i+1) r
def Qo (ls:List (Nat×Cls)):Cfg->SC
 |.code (.region _ ops true) _ st=>⟨ops.toList,Ar0 ls 0 ops.toList,ops.toList,st.env,st.regs,[]⟩
 |_=>⟨[],[],[],[],[],[]⟩
theorem I5 (hS:G1 S P)(hc:pr)(ls:List (Nat×Cls))(h:DG S P (Qo ls (stp P g)) fun env regs=>KG S P F (.pop .normal (stp P g).k ⟨env,regs⟩))(hp:pr=C7 (cnd P g):=by kernel_rfl)(c:BP (stp P g)=true:=by kernel_rfl)(a:P.follows .mixedOrders=true:=by kernel_rfl)
 (b:Ld (Qo ls (stp P g)).all (Qo ls (stp P g)).cls=true:=by kernel_rfl):KG S P F g:=by
 have e:(fun env regs=>KG S P F (.pop .normal (stp P g).k ⟨env,regs⟩))=fun env regs=>G S P F (.pop .normal (stp P g).k ⟨env,regs⟩):=by funext env regs;exact propext ⟨fun h=>h.out,fun h=>⟨h⟩⟩
 rw[e]at h;refine⟨Eb hS hc ?_ hp⟩;have h:=h.out;generalize stp P g=g' at c b h;unfold BP at c;split at c
 .exact UM hS _ a b h
 cases c
theorem JJ (hS:G1 S P)(hc:pr){body:Code}{gh:Nat}{ts:List Nat}{next:St->Prop}{Q:M0}(h:KG S P (Fn S gh ts next Q) (.code body [] (stp P g).st))(hp:pr=C7 (cnd P g):=by kernel_rfl)(a:stp P g=.pop .normal [] (stp P g).st:=by kernel_rfl):KG S P (Bw S P body gh ts next Q) g:=by refine⟨Eb hS hc ?_ hp⟩;rw[a];exact G_asg hS h.out
theorem Qp (hS:G1 S P)(hc:pr){K:List It}{gh:Nat}{ts:List Nat}{next:St->Prop}(t:St){ids:List (Nat×Nat)}(hk:KG S P F (.pop (exitE (stp P g)) K t))(hp:pr=C7 (cnd P g):=by kernel_rfl)(a:ZU (stp P g)=true:=by kernel_rfl)
 (hle:KLe ids (stp P g).st (rst gh t):=by exact kl) (h1:t.env.map (·.1)=ts:=by kernel_rfl) (d:A2 t.regs gh=none:=by kernel_rfl) (b:(⟨V7 ts (t.env.map (·.2)),del gh (ins gh (.ghost (t.env.map (·.2))) t.regs)⟩:St)=t:=by kernel_rfl):KG S P (Fn S gh ts next (kp S P K F)) g:=by
 refine⟨Eb hS hc ?_ hp⟩;generalize stp P g=g1 at hk a hle;have hl:(t.env.map (·.2)).length=ts.length:=by rw[<- h1];simp
 have c:A2 (del gh (ins gh (.ghost (t.env.map (·.2))) t.regs)) gh=none:=by
  have:=congrArg St.regs b
  simp only at this;rw[this];exact d
 unfold ZU at a;split at a
 .exact UQ hS Gr (rst gh t) ids hle.out (GN gh t) hl c (by rw[show (⟨V7 ts (t.env.map (·.2)),del gh (rst gh t).regs⟩:St)=t from b];exact hk.out)
 .exact UQ hS Gr (rst gh t) ids hle.out (GN gh t) hl c (by rw[show (⟨V7 ts (t.env.map (·.2)),del gh (rst gh t).regs⟩:St)=t from b];exact hk.out)
 cases a
end
end Go.AM
namespace Go.AM
section
variable {S:S6}{P:Program}{F:M0}{g:Cfg}{pr:Prop}
def Am3 (j:Nat)(ps:List PV):Cfg->Cfg
 |.ops all rest K st=>mkO (XU j ps st.env) (ins j .dead st.regs) fun env regs=>.ops all rest K ⟨env,regs⟩
 |g=>g
def ZV (ids:List Nat):Cfg->Option (FuncId×List AV×List Obj)
 |.ops all (o::_) _ st=>match AG all st.env o,o.op with
  |some true,.call c=>match c.callee with
   |.value f=>match OO st.env f (c.args.toList.map (aev st.env))with
    |some (fn,as')=>match CD ids as',J6 ids st.regs ids with
     |some a,some ob=>if H0 ids&&Ea ob then some (fn,a,ob)else none
     |_,_=>none
    |none=>none
   |_=>none
  |_,_=>none
 |_=>none
def ZW (ids:List Nat)(ks:List Bool)(n:Nat):Cfg->Bool
 |.ops _ (o::_) _ st=>U1 st.regs ids ks (o.dst.getD 0) n
 |_=>false
def ZX (ids:List Nat)(ks:List Bool)(r:AV)(objs' : List Obj):Cfg->Cfg
 |.ops all (o::rest) K st=>VR o.dst (unA (G4 (o.dst.getD 0) ids ks objs'.length) r) st.env
  (back (G4 (o.dst.getD 0) ids ks objs'.length) (G4 (o.dst.getD 0) ids ks objs'.length) objs' (I9 ids ks st.regs)) fun st=>.ops all rest K st
 |g=>g
theorem Af5 (hS:G1 S P)(ids:List Nat)(hc:pr){fn:FuncId}{args:List AV}{objs objs' : List Obj}{r:AV}{ks:List Bool}(f:FunO S fn args objs r objs' ks)(hk:KG S P F (ZX ids ks r objs' (stp P g)))
 (hp:pr=C7 (cnd P g):=by kernel_rfl) (a:ZV ids (stp P g)=some (fn,args,objs):=by kernel_rfl) (hn:ZW ids ks objs'.length (stp P g)=true:=by kernel_rfl):KG S P F g:=by
 refine⟨Eb hS hc ?_ hp⟩;have hk:=hk.out;generalize stp P g=g' at a hn hk;unfold ZV at a;split at a
 .split at a
  .rename_i i j;split at a
   .rename_i c;split at a
    .rename_i l;split at a
     .rename_i m d;split at a
      .rename_i b;cases a;simp only[Ar7]at b;simp only[ZX,ZW,Es]at hk hn;exact Ab2 hS ids i j c l m d f b.1 b.2 hn hk
      cases a
     cases a
    cases a
   cases a
  cases a
 cases a
def unrT:List (St->Prop)->Nat->St->Prop
 |[],_,_=>False
 |a::_,0,t=>a t
 |_::l,i+1,t=>unrT l i t
theorem Zf (hS:G1 S P)(hc:pr)(n:Nat)(T:Nat->St->Prop)(s0:St){ids:List (Nat×Nat)}(j:T 0 s0)
 (l:∀(X:Type) (s' : X->St) (J:X->Prop) (m:X->Nat) (i k:Nat) (t:St),i<=n->T i t ->
  (∀(g' : Cfg) (ids:List (Nat×Nat)) (pr:Prop) (t' : St),pr->Nat.ble (i+1) n=true->T (i+1) t' -> (hp:pr=C7 (cnd P g'):=by kernel_rfl)->(r:stp P g' = .pop .normal (.lp X s' J m k::(stp P g).k) (stp P g').st:=by kernel_rfl)->(hle:KLe ids (stp P g').st t':=by exact kl)->KG S P F g') ->
  KG S P F (.code (NV (stp P g)) (.lp X s' J m k::(stp P g).k) t)) (hp:pr=C7 (cnd P g):=by kernel_rfl) (hl:GL (stp P g)=true:=by kernel_rfl) (hle:KLe ids (stp P g).st s0:=by exact kl):KG S P F g:=by
 refine⟨Eb hS hc ?_ hp⟩;rw[Qi hl];refine Ut hS (X:=Nat×St) (fun x=>x.2) (fun x=>x.1<=n/\T x.1 x.2) (fun x=>n-x.1) (0,s0) ids hle.out ⟨AB9 _,j⟩ ?_;rintro⟨i,t⟩ ⟨o,q⟩;refine (l (Nat×St) (fun x=>x.2) (fun x=>x.1<=n/\T x.1 x.2) (fun x=>n-x.1) i (n-i) t o q fun g' ids' pr' t' b hn c d f a=>⟨Eb hS b ?_ d⟩).out;rw[f];have hn:i+1<=n:=Aw5 hn;exact hS.le ids' _ _ _ a.out ⟨(i+1,t'),rfl,⟨hn,c⟩,by show n-(i+1)<n-i;omega⟩
end
section
variable {S:S6}{P:Program}{F:M0}{g:Cfg}{pr:Prop}
theorem O2 (hS:G1 S P)(hc:pr)(d:Nat)(st:St){ids:List (Nat×Nat)}(hk:KG S P F (opsS st (Gj P d g)))(hp:pr=C7 (Ae0 P d g):=by kernel_rfl)(a:IQ (Gj P d g)=true:=by kernel_rfl)(hle:KLe ids (Gj P d g).st st:=by exact kl):KG S P F g:=by
 refine⟨(Fo (u:=some d) (F:=F) hS 400 [] g (by subst hp;exact hc)).2 ?_⟩;have hk:=hk.out;have hle:=hle.out;show G S P F (Gj P d g);generalize Gj P d g=g' at a hle hk;unfold IQ at a;split at a
 .exact Xn hS st ids hle hk
 cases a
end
end Go.AM
namespace Go.AM
section
variable {S:S6}{P:Program}{F:M0}{g:Cfg}{pr:Prop}
def Am4 (S:S6)(P:Program)(pv:PV)(m:String)(as:List AV)(r:AV):Prop:=∃t y fn,pv=.iface t y/\Rm P t m=some fn/\Rs S fn (.p (nP y)::as) r
def invE:Cfg->Option (PV×String×List AV)
 |.ops all (o::_) _ st=>match AG all st.env o,o.op with
  |some true,.call c=>match c.callee with
   |.invoke rv m=>match GC st.regs (c.args.toList.map (aev st.env)),aev st.env rv with
    |some (as,_),.p pv=>match CD [] as with
     |some as'=>some (pv,m,as')
     |none=>none
    |_,_=>none
   |_=>none
  |_,_=>none
 |_=>none
def invK (r:AV):Cfg->Cfg
 |.ops all (o::rest) K st=>match o.op with
  |.call c=>match GC st.regs (c.args.toList.map (aev st.env))with
   |some (_,regs)=>VR o.dst (unA [] r) st.env regs fun st=>.ops all rest K st
   |none=>.ops all (o::rest) K st
  |_=>.ops all (o::rest) K st
 |g=>g
theorem Mg (hS:G1 S P)(hc:pr){pv:PV}{m:String}{as:List AV}{r:AV}(b:Am4 S P pv m as r)(hk:KG S P F (invK r (stp P g)))
 (hp:pr=C7 (cnd P g):=by kernel_rfl) (a:invE (stp P g)=some (pv,m,as):=by kernel_rfl):KG S P F g:=by
 obtain⟨t,y,fn,rfl,hm,b⟩:=b;refine⟨Eb hS hc ?_ hp⟩;have hk:=hk.out;generalize stp P g=g' at a hk;unfold invE at a;split at a
 .split at a
  .rename_i i f;split at a
   .rename_i c;split at a
    .rename_i ha d;split at a
     .rename_i j;cases a;simp only[invK,f,ha,Es]at hk;refine YK hS i f c ha d hm (args:=.p (nP y)::_) ?_ b hk;simp only[CD,PF,j]
     cases a
    cases a
   cases a
  cases a
 cases a
theorem F5 (hS:G1 S P)(hc:pr)(d j:Nat)(ps:List PV)(hk:KG S P F (Am3 j ps (Gj P d g)))(hp:pr=C7 (Ae0 P d g):=by kernel_rfl)(a:IQ (Gj P d g)=true:=by kernel_rfl)
 (b:A2 (Gj P d g).st.regs j=some (.cells (ps.map .p)):=by kernel_rfl):KG S P F g:=by
 refine⟨(Fo (u:=some d) (F:=F) hS 400 [] g (by subst hp;exact hc)).2 ?_⟩;have hk:=hk.out;show G S P F (Gj P d g);generalize Gj P d g=g' at a b hk;unfold IQ at a;split at a
 .simp only[Am3,Fb]at hk;exact Th hS (hS.frz _ j ps _ b hk)
 cases a
def Zg (j j' : Nat):AV->AV
 |.vecp i m=>if i=j then .vec j' else .vecp i m
 |a=>a
def Zh (j j' : Nat):List AV->List AV
 |[]=>[]
 |a::r=>Zg j j' a::Zh j j' r
def Zi (j j' : Nat):Env->Env
 |[]=>[]
 |(t,a)::r=>(t,Zg j j' a)::Zi j j' r
def VV (j j' : Nat):C6->C6
 |[]=>[]
 |(t,.cells cs)::r=>(t,.cells (Zh j j' cs))::VV j j' r
 |(t,o)::r=>(t,o)::VV j j' r
def msA (j:Nat)(r:List Nat):AV->List Nat
 |.vecp i m=>if i=j then m::r else r
 |_=>r
def msL (j:Nat):List AV->List Nat
 |[]=>[]
 |a::r=>msA j (msL j r) a
def msE (j:Nat):Env->List Nat
 |[]=>[]
 |(_,a)::r=>msA j (msE j r) a
def msR (j:Nat):C6->List Nat
 |[]=>[]
 |(_,.cells cs)::r=>msL j cs++msR j r
 |_::r=>msR j r
theorem Xv {j:Nat}{r:List Nat}{a:AV}:∀x∈r,x∈msA j r a:=by
 intro x hx;unfold msA;split
 .split
  .exact At8 _ hx
  exact hx
 exact hx
theorem Vc {j n j' : Nat}{r:List Nat}{a:AV}(h:∀m∈msA j r a,m=n):XZ j n j' a=Zg j j' a:=by
 cases a with
 |vecp i m=>
  simp only[XZ,Zg];by_cases e:i=j
  .have:m=n:=h m (by simp[msA,e])
   simp[e,this]
  simp[e]
 |_=>rfl
theorem Vd {j n j' : Nat}:∀{l:List AV},(∀m∈msL j l,m=n)->ZJ j n j' l=Zh j j' l
 |[],_=>rfl
 |a::r,h=>by simp only[ZJ,Zh,Vc (r:=msL j r) h,Vd fun m hm=>h m (Xv m hm)]
theorem Ve {j n j' : Nat}:∀{l:Env},(∀m∈msE j l,m=n)->ZI j n j' l=Zi j j' l
 |[],_=>rfl
 |(t,a)::r,h=>by simp only[ZI,Zi,Vc (r:=msE j r) h,Ve fun m hm=>h m (Xv m hm)]
theorem Qq {j n j' : Nat}:∀{l:C6},(∀m∈msR j l,m=n)->Us j n j' l=VV j j' l
 |[],_=>rfl
 |(t,o)::r,h=>by
  cases o with
  |cells cs=>simp only[Us,VV,Ah6,Vd fun m hm=>h m (At9 _ hm),Qq fun m hm=>h m (At5 _ hm)]
  |_=>simp only[Us,VV,Ah6,Qq (l:=r) h]
def truC (j j' : Nat)(e:TypeId)(k n:Nat)(f:Nat->List PV):Cfg->Cfg
 |.ops all rest K st=>mkO (Zi j j' st.env) (ins j' (.vec e k n f false) (ins j .dead (VV j j' st.regs))) fun env regs=>.ops all rest K ⟨env,regs⟩
 |g=>g
theorem Am5 (hS:G1 S P)(hc:pr)(d j n j' : Nat){e:TypeId}{k N:Nat}{f:Nat->List PV}(hn:n<=N)(hk:KG S P F (truC j j' e k n f (Gj P d g)))(hp:pr=C7 (Ae0 P d g):=by kernel_rfl)(b:IQ (Gj P d g)=true:=by kernel_rfl)
 (c:A2 (Gj P d g).st.regs j=some (.vec e k N f false):=by kernel_rfl) (i:A2 (Gj P d g).st.regs j' = none:=by kernel_rfl) (h1:Nat.ble 1000 j' = true:=by kernel_rfl)
 (hm:(msE j (Gj P d g).st.env++msR j (Gj P d g).st.regs)=List.replicate (msE j (Gj P d g).st.env++msR j (Gj P d g).st.regs).length n:=by kernel_rfl):KG S P F g:=by
 refine⟨(Fo (u:=some d) (F:=F) hS 400 [] g (by subst hp;exact hc)).2 ?_⟩;have hk:=hk.out;show G S P F (Gj P d g);generalize Gj P d g=g' at b c i hk hm;unfold IQ at b;split at b
 .rename_i st;have a:∀m∈msE j st.env++msR j st.regs,m=n:=fun m h=>by rw[show msE j st.env++msR j st.regs=_ from hm]at h;exact (List.mem_replicate.1 h).2
  simp only[truC,Fb]at hk;refine Th hS (hS.trunc _ j j' n N k e f _ c hn i (Aw5 h1) ?_);rw[Ve fun m h=>a m (At9 _ h),Qq fun m h=>a m (At5 _ h)];exact hk
 cases b
end
abbrev cA {α : Type}(n:Nat)(c : α -> PV)(f:Nat -> α):List PV:=CB n (fun i=>c (f i))
theorem F2 (n:Nat)(f:Nat->PV):(CB n f).length=n:=by simp[CB]
theorem E4 (n:Nat)(f:Nat->PV):∀i,i<n->[(CB n f).getD i default]=[f i]:=by intro i a;simp[CB,Ar3,a]
theorem BS {n:Nat}{z:PV}{ps:List PV}(h:ps=List.replicate n z):∀i,i<n->[ps.getD i default]=[z]:=by intro i a;subst h;simp[Ar3,a]
theorem VW {n:Nat}{f g:Nat->PV}(h:∀i,i<n->[f i]=[g i]):CB n f=CB n g:=by unfold CB;exact Au4 fun i a=>by have:=h i (AA5.1 a);injection this
abbrev NX {α : Type}(f:Nat -> α)(k:Nat)(x : α):Nat -> α:=fun i=>if i=k then x else f i
theorem Af6 {α : Type}{c : α -> PV}{n k:Nat}{v:Nat -> α}{f:Nat->PV}{e:PV}{x : α}(h:∀i,i<n->[f i]=[c (v i)])(hx:e=c x):∀i,i<n->[if i=k then e else f i]=[c (if i=k then x else v i)]:=by
 intro i a;by_cases h1:i=k
 .rw[Dz h1,Dz h1,hx]
 rw[Ec h1,Ec h1];exact h i a
theorem app1H {α : Type}{c : α -> List PV}{n:Nat}{v:Sl α}{f g:Nat->List PV}{z : α}(h:∀i,i<n->f i=c (v.g i))(hn:n=v.n):∀i,i<n+1->i≠v.n->S2 n f g i=c ((v.push z).g i):=by
 subst hn;intro i b a;have hl:i<v.n:=by omega
 show (if i<v.n then f i else g (i-v.n))=c (if i<v.n then v.g i else z);rw[Dz hl,Dz hl];exact h i hl
theorem setH {α : Type}{c : α -> List PV}{n k:Nat}{v:Sl α}{f e:Nat->List PV}{x : α}(h:∀i,i<n->i≠k->f i=c (v.g i))(hx:k<n->e k=c x):∀i,i<n->(fun l=>if l=k then e l else f l) i=c ((v.upd k x).g i):=by
 intro i a;show (if i=k then e i else f i)=c (if i=k then x else v.g i);split
 .subst_vars;exact hx a
 exact h i a ‹_›
end Go.AM
namespace Go.AM
section
variable {S:S6}{P:Program}{F:M0}{g:Cfg}{R X:Type}{A B:Option R}{r:R}{b:Bool}
theorem kI (hS:G1 S P)(h:(if b then A else B)=some r)(a:A=some r->KG S P F (Ae1 (stp P g)))(d:B=some r->KG S P F (Ae2 (stp P g)))
 (hp:True=C7 (cnd P g):=by kernel_rfl) (hb:YP (stp P g)=some b:=by kernel_rfl):KG S P F g:=
 D2 hS Gr (fun c=>a (itT c h)) (fun c=>d (itF c h)) hp hb
theorem kG (hS:G1 S P)(h:(if b then A else B)=some r)(a:A=some r->KG S P F (MK true (stp P g)))(d:B=some r->KG S P F (MK false (stp P g)))
 (hp:True=C7 (cnd P g):=by kernel_rfl) (hb:UV (stp P g)=some b:=by kernel_rfl):KG S P F g:=
 IS hS Gr (fun c=>a (itT c h)) (fun c=>d (itF c h)) hp hb
theorem kR (hS:G1 S P){n:Nat}{rs:List ResultVar}{Q:ARes->List Obj->List Bool->Prop}{a:AV}{objs:List Obj}(b:Q (.ret a) objs (Gg n []):=by exact⟨rfl,rfl,rfl⟩)
 (hp:True=C7 (cnd P g):=by kernel_rfl) (c:(Ae5 (stp P g)).bind (fun st=>TI P st rs [])=some (a,objs):=by kernel_rfl):KG S P (Cl S P n rs Q) g:=
 Zd hS Gr [] b hp c
theorem kC (hS:G1 S P){x:Option X}{f:X->Option R}(h:x.bind f=some r){fn:FuncId}{args:List AV}{objs:List Obj}{objs' : X->List Obj}{rr:X->AV}{ks:List Bool}
 (a:∀{y},x=some y->FunO S fn args objs (rr y) (objs' y) ks) (hk:∀y,f y=some r->KG S P F (YQ [] ks (rr y) (objs' y) (stp P g)))
 (hp:True=C7 (cnd P g):=by kernel_rfl) (b:VT [] (stp P g)=some (fn,args,objs):=by kernel_rfl) (hn:∀y,VU [] ks (objs' y).length (stp P g)=true:=by intro y;kernel_rfl):KG S P F g:=by
 obtain⟨y,e,h⟩:=B1 h;exact B7 hS [] Gr (a e) (hk y h) hp b (hn y)
end
end Go.AM
namespace Go.AM
inductive BT where
 |l (b:Bool)
 |n (b:Bool) (t f:BT)
def BT.ev:BT->Bool
 |.l b=>b
 |.n b t f=>if b then t.ev else f.ev
inductive BE where
 |a (b:Bool)
 |n (x y:BE)
 |o (x y:BE)
def BE.den:BE->Bool
 |.a b=>b
 |.n x y=>x.den&&y.den
 |.o x y=>x.den||y.den
def BE.tr:BE->BT->BT->BT
 |.a b,t,f=>.n b t f
 |.n x y,t,f=>x.tr (y.tr t f) f
 |.o x y,t,f=>x.tr t (y.tr t f)
def BE.top:BE->BT
 |.a b=>.l b
 |.n x y=>x.tr y.top (.l false)
 |.o x y=>x.tr (.l true) y.top
theorem BE.tr_ev:∀(e:BE) (t f:BT),(e.tr t f).ev=if e.den then t.ev else f.ev
 |.a b,t,f=>rfl
 |.n x y,t,f=>by simp only[tr,den,x.tr_ev,y.tr_ev];by_cases h:x.den=true<;>simp[h]
 |.o x y,t,f=>by simp only[tr,den,x.tr_ev,y.tr_ev];by_cases h:x.den=true<;>simp[h]
theorem BE.top_ev:∀e:BE,e.top.ev=e.den
 |.a b=>rfl
 |.n x y=>by simp only[top,den,x.tr_ev,y.top_ev,BT.ev];by_cases h:x.den=true<;>simp[h]
 |.o x y=>by simp only[top,den,x.tr_ev,y.top_ev,BT.ev];by_cases h:x.den=true<;>simp[h]
def keeps:Op->Bool
 |.move _ | .assign _ | .pick .. | .load .. | .nilCheck _ | .binOp .. | .unOp .. | .convert .. | .fieldAddr .. | .field .. | .indexAddr .. | .index .. | .extract ..=>true
 |.call { callee:=.builtin .len,.. } | .call { callee:=.builtin .min,.. } | .call { callee:=.builtin .max,.. }=>true
 |_=>false
theorem VX {P:Program}{env:Env}{regs:C6}{d:Nat}{o:Op}{out:Out}(hk:keeps o=true)(h:aop P env regs d o=some out):out.regs=regs:=by unfold keeps at hk;split at hk<;>first|(cases hk;done)|(simp only[aop]at h;(repeat' split at h)<;>first|(cases h;rfl)|cases h)
theorem Pt {o:Op}(hk:keeps o=true):Yb o=true:=by unfold keeps at hk;split at hk<;>first|cases hk;done|rfl
def Zj:List Prop->List Prop
 |[]=>[]
 |c=>[C7 c]
def bgo (P:Program)(regs:C6)(o:Oper)(last:Bool)(rec:List Prop->Env->Option (BT×List Prop))(c:List Prop)(env:Env)(runs:Bool):Option (BT×List Prop):=match runs with
 |true=>match keeps o.op,o.dst with
  |true,some d=>match aop P env regs d o.op with
   |some ⟨p,v,_⟩=>match last with
    |true=>match Ml v with
     |some b=>some (.l b,Zj (p++c))
     |none=>none
    |false=>fA v fun v=>Wz d v env fun env=>rec (p++c) env
   |none=>none
  |_,_=>none
 |false=>match last,o.dst with
  |false,some d=>Wz d Bv env fun env=>rec c env
  |_,_=>none
def bev (P:Program)(all:List Oper)(regs:C6):List Oper->List Prop->Env->Option (BT×List Prop)
 |[],_,_=>none
 |o::rest,c,env=>
  match o.guard with
  |none=>bgo P regs o rest.isEmpty (fun c env=>bev P all regs rest c env) c env true
  |some (j,want)=>match get env (Ep all j)with
   |.p (.v (.bool b))=>bgo P regs o rest.isEmpty (fun c env=>bev P all regs rest c env) c env (b==want)
   |.p (.v (.tuple _))=>bgo P regs o rest.isEmpty (fun c env=>bev P all regs rest c env) c env false
   |.p (.bb b)=>match Wz (Ep all j) (.p (.v (.bool true))) env fun env=>bgo P regs o rest.isEmpty (fun c env=>bev P all regs rest c env) [] env want,
    Wz (Ep all j) (.p (.v (.bool false))) env fun env=>bgo P regs o rest.isEmpty (fun c env=>bev P all regs rest c env) [] env !want with
    |some (t,ct),some (f,cf)=>some (.n b t f,Zj c++(ct.map (fun p=>b=true->p)++cf.map (fun p=>b=false->p)))
    |_,_=>none
   |_=>none
def Wm (l:List Oper):List Nat:=l.filterMap (·.dst)
def Af7 (ks:List Nat)(env:Env):Env:=env.filter fun q=>!ks.contains q.1
theorem Vf (ks:List Nat)(env:Env)(x:Nat):get (Af7 ks env) x=if x∈ks then .top else get env x:=by
 induction env with
 |nil=>simp[Af7,get]
 |cons q r ih=>
  obtain⟨i,a⟩:=q;simp only[Af7,List.filter_cons];by_cases b:i∈ks
  .rw[Ec (by simpa using b)]
   have:=ih
   simp only[Af7]at this;rw[this];by_cases hx:x∈ks
   .simp[hx]
   have:i≠x:=fun e=>hx (e ▸ b)
   simp[hx,get,this]
  rw[Dz (by simpa using b)];simp only[get]
  have:=ih
  simp only[Af7]at this;rw[this];by_cases hx:i=x
  .subst hx;simp[b]
  simp[hx]
def TM:List Oper->Option Nat
 |[]=>none
 |[o]=>o.dst
 |_::r=>TM r
section
variable {S:S6}{P:Program}
theorem Pu {c:List Prop}(h:∀p∈Zj c,p):C7 c:=by
 cases c with
 |nil=>trivial
 |cons p r=>exact h _ (by simp[Zj])
theorem Am6 (hS:G1 S P){all:List Oper}{regs:C6}{Q:M0}{post:List Oper}{envF:Env}{V:Bool}{d:Nat}(hQ:∀s,S.up s (HM S P all post Q)->HM S P all post Q s)(hV:get envF d=.p (.bb V))
 (hw:HM S P all post Q ⟨envF,regs⟩) :
 ∀(L:List Oper) (c:List Prop) (env:Env) (T:BT) (C:List Prop),bev P all regs L c env=some (T,C)->(∀p∈C,p)->T.ev=V->TM L=some d ->
  (∀x,x≠d->PJ (get envF x) (get env x) \/ (x∈Wm L/\get envF x=.top))->(∀x∈Wm L,x≠d->get envF x=.top)->C7 c/\HM S P all (L++post) Q ⟨env,regs⟩:=by
 intro L
 induction L with
 |nil=>intro c env T C h;cases h
 |cons o rest ih=>
  intro c env T C h w i hd hl ht;simp only[bev,IH]at h;have key:∀(c:List Prop) (env:Env) (runs:Bool) (T:BT) (C:List Prop),bgo P regs o rest.isEmpty (fun c env=>bev P all regs rest c env) c env runs=some (T,C)->(∀p∈C,p)->T.ev=V ->
   (∀x,x≠d->PJ (get envF x) (get env x) \/ (x∈Wm (o::rest)/\get envF x=.top)) ->
   C7 c/\(if runs then wOp S P o (HM S P all (rest++post) Q) Q ⟨env,regs⟩else HM S P all (rest++post) Q (put ⟨env,regs⟩ o.dst Bv)):=by
   intro c env runs T C h w i hl;have l:rest.isEmpty=false->TM rest=some d:=by
    intro hr;cases rest with
    |nil=>cases hr
    |cons a r=>simpa[TM]using hd
   have a0:∀{d'},o.dst=some d' -> Wm (o::rest)=d' :: Wm rest:=fun g=>by simp[Wm,g]
   have m:∀d' (v:AV),o.dst=some d' -> ∀x,x≠d->PJ (get envF x) (get (ins d' v env) x) \/ (x∈Wm rest/\get envF x=.top):=by
    intro d' v g x hx;rw[Da];by_cases n:d' = x
    .subst n;exact .inl (.inl (ht _ (by rw[a0 g];exact Ay5 ..) hx))
    rw[Ec n];rcases hl x hx with h|⟨h1,h2⟩
    .exact .inl h
    exact .inl (.inl h2)
   cases runs with
   |true=>
    simp only[bgo,Vp,IH,Fe]at h⊢;split at h
    .rename_i d' hk g;split at h
     .rename_i p v regs' ha;have hr:regs' = regs:=VX hk ha;subst hr;have ha' : aop P env regs' (o.dst.getD 0) o.op=some ⟨p,v,regs'⟩:=by rw[g];exact ha
      split at h
      .rename_i u;split at h
       .rename_i b hb;cases h;have a1:=Pu w;obtain⟨hc,hp⟩:=(BL _ _).1 a1;refine⟨hc,Ma (Pt hk) ha' hp ?_⟩;obtain rfl:rest=[]:=AE4.1 u;simp only[TM]at hd;have e:d' = d:=by rw[g]at hd;exact Aw9 hd
        subst e;refine hQ _ (hS.less _ ⟨envF,regs'⟩ _ (fun x=>?_) (fun _=>by rw[g];rfl) (by simpa using hw));rw[g];show PJ (get envF x) (get (ins d' v env) x);rw[Da];by_cases hx:d' = x
        .subst hx;rw[Dz rfl,hV];have i:b=V:=i;subst i;unfold Ml at hb;split at hb
         .cases hb;exact .inr (.inr ⟨_,rfl,rfl⟩)
         .cases hb;exact .inr (.inl rfl)
         cases hb
        rw[Ec hx];rcases hl x (fun e=>hx e.symm)with h|⟨_,h⟩
        .exact h
        exact .inl h
       cases h
      rename_i u;have hn:∀x,x≠d->PJ (get envF x) (get (ins d' v env) x) \/ (x∈Wm rest/\get envF x=.top):=m d' v g;obtain⟨a1,a2⟩:=ih _ _ _ _ h w i (l (by simpa using u)) hn (fun x hx=>ht x (by rw[a0 g];exact At8 _ hx));obtain⟨hc,hp⟩:=(BL _ _).1 a1;exact⟨hc,Ma (Pt hk) ha' hp (by rw[g];exact a2)⟩
     cases h
    cases h
   |false=>
    simp only[bgo,IH,As2,Ge]at h⊢;split at h
    .rename_i d' u g;have hn:∀x,x≠d->PJ (get envF x) (get (ins d' Bv env) x) \/ (x∈Wm rest/\get envF x=.top):=m d' _ g;obtain⟨hc,a2⟩:=ih _ _ _ _ h w i (l (by simpa using u)) hn (fun x hx=>ht x (by rw[a0 g];exact At8 _ hx));exact⟨hc,by rw[g];exact a2⟩
    cases h
  simp only[Au0,HM];cases hg:o.guard with
  |none=>simp only[hg]at h;obtain⟨hc,hk⟩:=key _ _ _ _ _ h w i hl;exact⟨hc,hS.refl _ _ (by simpa[hg]using hk)⟩
  |some q=>
   obtain⟨j,want⟩:=q;simp only[hg]at h;split at h
   .rename_i b hb;obtain⟨hc,hk⟩:=key _ _ _ _ _ h w i hl;refine⟨hc,hS.refl _ _ ⟨some b,by rw[hb];rfl,?_⟩⟩;have e:(some b=some want)↔(b==want)=true:=by simp
    by_cases z:(b==want)=true
    .rw[Dz (e.2 z)];simpa[z]using hk
    rw[Ec (fun x=>z (e.1 x))];simpa[z]using hk
   .rename_i tt hb;obtain⟨hc,hk⟩:=key _ _ _ _ _ h w i hl;refine⟨hc,hS.refl _ _ ⟨none,by rw[hb];rfl,?_⟩⟩;rw[Ec (by simp)];simpa using hk
   .rename_i b hb;split at h
    .rename_i t ct f cf h1 h2;cases h;have hc:C7 c:=Pu fun p hp=>w p (At9 _ hp);refine⟨hc,hS.bool _ _ b _ hb ?_⟩;have hl2:∀x,x≠d->PJ (get envF x) (get (ins (Ep all j) (.p (.v (.bool b))) env) x) \/ (x∈Wm (o::rest)/\get envF x=.top):=by
      intro x hx;rw[Da];by_cases n:Ep all j=x
      .subst n;rw[Dz rfl];rcases hl _ hx with h|h
       .rw[hb]at h;rcases h with h|h|⟨y,h1,h2⟩
        .exact .inl (.inl h)
        .exact .inl (.inr (.inr ⟨b,h,rfl⟩))
        cases h2
       exact .inr h
      rw[Ec n];exact hl x hx
     cases b with
     |true=>
      obtain⟨_,hk⟩:=key _ _ _ _ _ h1 (fun p hp=>w (true=true->p) (At5 _ (At9 _ (Az7.2 ⟨p,hp,rfl⟩))) rfl) i hl2;refine⟨some true,by show yv (get (ins _ _ _) _)=_;rw[Da,Dz rfl];rfl,?_⟩;cases want with
      |true=>simpa using hk
      |false=>simpa using hk
     |false=>
      obtain⟨_,hk⟩:=key _ _ _ _ _ h2 (fun p hp=>w (false=false->p) (At5 _ (At5 _ (Az7.2 ⟨p,hp,rfl⟩))) rfl) i hl2;refine⟨some false,by show yv (get (ins _ _ _) _)=_;rw[Da,Dz rfl];rfl,?_⟩;cases want with
      |true=>simpa using hk
      |false=>simpa using hk
    cases h
   cases h
end
def Af8 (P:Program)(m:Nat):Cfg->Option (BT×List Prop)
 |.ops all rest K st=>bev P all st.regs (rest.take m) [] st.env
 |_=>none
def Am7 (m:Nat)(b:Bool):Cfg->Cfg
 |.ops all rest K st=>match TM (rest.take m)with
  |some d=>mkO (ins d (.p (.bb b)) (Af7 (Wm (rest.take m)) st.env)) st.regs fun env regs=>.ops all (rest.drop m) K ⟨env,regs⟩
  |none=>.ops all rest K st
 |g=>g
def Am8 (m:Nat):Cfg->Bool
 |.ops all rest K st=>(TM (rest.take m)).isSome
 |_=>false
def Am9:List Prop->Prop
 |[]=>True
 |p::r=>r.foldl And p
theorem Zk {l:List Prop}(h:Am9 l):∀p∈l,p:=by
 have:∀(r:List Prop) (p:Prop),r.foldl And p->p/\∀q∈r,q:=by
  intro r
  induction r with
  |nil=>intro p h;exact⟨h,fun q b=>by cases b⟩
  |cons a r ih=>intro p h;obtain⟨⟨h1,c⟩,d⟩:=ih _ h;exact⟨h1,fun q b=>by rcases Au2.1 b with rfl|b;exact c;exact d q b⟩
 cases l with
 |nil=>intro p hp;cases hp
 |cons a r=>obtain⟨h1,c⟩:=this _ _ h;exact fun q b=>by rcases Au2.1 b with rfl|b;exact h1;exact c q b
section
variable {S:S6}{P:Program}{F:M0}{g:Cfg}{pr pc:Prop}
theorem kB (hS:G1 S P)(n:∀s,S.up s (F .normal)->F .normal s)(hc:pr)(c:pc)(m:Nat)(E:BE)(hk:KG S P F (Am7 m E.den (stp P g)))
 (hp:pr=C7 (cnd P g):=by kernel_rfl) (a:(Af8 P m (stp P g)).map (·.1)=some E.top:=by kernel_rfl) (b:(Af8 P m (stp P g)).map (fun x=>Am9 x.2)=some pc:=by kernel_rfl) (f:Am8 m (stp P g)=true:=by kernel_rfl):KG S P F g:=by
 refine⟨Eb hS hc ?_ hp⟩;have hk:=hk.out;generalize stp P g=g' at hk a b f;unfold Af8 at a b;split at a
 .rename_i all rest K st;simp only[Am8,As7]at f;obtain⟨d,j⟩:=f;simp only[Am7,j,Fb]at hk;cases hb:bev P all st.regs (rest.take m) [] st.env with
  |none=>rw[hb]at a;cases a
  |some q=>
   obtain⟨T,C⟩:=q;simp only[hb]at a b;simp only[As4,Ar5]at a b;subst a
   have:=(Am6 hS (Q:=kp S P K F) (post:=rest.drop m) (envF:=ins d (.p (.bb E.den)) (Af7 (Wm (rest.take m)) st.env)) (V:=E.den) (d:=d) ?_ (by rw[Da,Dz rfl]) hk (rest.take m) [] st.env E.top C hb
    (Zk (b ▸ c)) E.top_ev j (fun x hx=>?_) (fun x hx i=>?_)).2
   .rwa [AE9]at this
   .intro s h;cases l:rest.drop m with
    |nil=>rw[l]at h;exact YN hS n K s h
    |cons o r=>rw[l]at h;exact hS.trans _ _ h
   .rw[Da,Ec (fun e=>hx e.symm),Vf];split
    .exact .inl (.inl rfl)
    exact .inl (.inr (.inl rfl))
   rw[Da,Ec (fun e=>i e.symm),Vf,Dz hx]
 cases a
end
end Go.AM
namespace Go.AM
def famC (op:PI):Cfg->List Prop
 |.ops _ _ _ st=>match S7 op st with
  |some (c,_)=>c
  |none=>[False]
 |_=>[False]
def famG (op:PI):Cfg->Cfg
 |.ops all rest K st=>match S7 op st with
  |some (_,st)=>mkO st.env st.regs fun env regs=>.ops all rest K ⟨env,regs⟩
  |none=>.ops all rest K st
 |g=>g
section
variable {S:S6}{P:Program}{F:M0}{g:Cfg}{pr pc:Prop}
theorem Dy (hS:G1 S P)(hc:pr)(d:Nat)(op:PI)(b:pc)(hk:KG S P F (famG op (Gj P d g)))(hp:pr=C7 (Ae0 P d g):=by kernel_rfl)(f:IQ (Gj P d g)=true:=by kernel_rfl)
 (a:pc=C7 (famC op (Gj P d g)):=by kernel_rfl):KG S P F g:=by
 refine⟨(Fo (u:=some d) (F:=F) hS 400 [] g (by subst hp;exact hc)).2 ?_⟩;have hk:=hk.out;show G S P F (Gj P d g);generalize Gj P d g=g' at f a hk;unfold IQ at f;split at f
 .rename_i all o rest K st;simp only[famC]at a;simp only[famG]at hk;cases i:S7 op st with
  |none=>rw[i]at a;subst a;exact b.elim
  |some q=>obtain⟨c,st'⟩:=q;simp only[i,Fb]at hk a;subst a;exact Th hS (hS.fam op _ _ c _ i b hk)
 cases f
end
def An0 (j k n:Nat)(e:TypeId)(g:Nat->List PV)(vw:Bool):Cfg->Cfg
 |.ops all rest K st=>mkO st.env (ins j (.vec e k n g vw) st.regs) fun env regs=>.ops all rest K ⟨env,regs⟩
 |g=>g
theorem Xw {S:S6}{P:Program}{F:M0}{g:Cfg}{pr:Prop}(hS:G1 S P)(hc:pr)(d j:Nat){k n:Nat}{e:TypeId}{vw:Bool}(f q:Nat->List PV)(c:∀i,i<n->leC (f i) (q i))(hk:KG S P F (An0 j k n e q vw (Gj P d g)))
 (hp:pr=C7 (Ae0 P d g):=by kernel_rfl) (a:IQ (Gj P d g)=true:=by kernel_rfl) (b:A2 (Gj P d g).st.regs j=some (.vec e k n f vw):=by kernel_rfl):KG S P F g:=by
 refine⟨(Fo (u:=some d) (F:=F) hS 400 [] g (by subst hp;exact hc)).2 ?_⟩;have hk:=hk.out;show G S P F (Gj P d g);generalize Gj P d g=g1 at hk a b;unfold IQ at a;split at a
 .simp only[An0,Fb]at hk;exact Th hS (hS.vecq _ j n k e f q vw _ b c hk)
 cases a
theorem Ar1 {k:Nat}{g:Nat->List PV}:leC [.v (.slice none 0 0)] [.sl false k 0 g]:=BH Tb Vq
theorem leCr (l:List PV):leC l l:=⟨rfl,fun _=>.p (.inl rfl)⟩
end Go.AM
namespace Go.AM
def An1 (op:PI):Cfg->List Prop
 |.code _ _ st=>match S7 op st with
  |some (c,_)=>c
  |none=>[False]
 |_=>[False]
def An2 (op:PI):Cfg->Cfg
 |.code c K st=>match S7 op st with
  |some (_,st)=>mkO st.env st.regs fun env regs=>.code c K ⟨env,regs⟩
  |none=>.code c K st
 |g=>g
def Vg {S:S6}{P:Program}{F:M0}{g:Cfg}{pr pc:Prop}(hS:G1 S P)(hc:pr)(op:PI)(d:pc)(hk:KG S P F (An2 op (stp P g)))(hp:pr=C7 (cnd P g):=by kernel_rfl)(i:BP (stp P g)=true:=by kernel_rfl)(f:P.follows .mixedOrders=true:=by kernel_rfl)
 (b:GE (GM (stp P g)).all=true:=by kernel_rfl) (a:pc=C7 (An1 op (stp P g)):=by kernel_rfl):KG S P F g:=by
 refine⟨Eb hS hc ?_ hp⟩;generalize stp P g=g1 at hk i b a;unfold BP at i;split at i
 .rename_i id ops K st;have hk:=hk.out;simp only[An2]at hk;simp only[An1]at a;cases j:S7 op st with
  |none=>rw[j]at a;subst a;exact d.elim
  |some q=>
   obtain⟨c,st'⟩:=q;simp only[j,Fb]at hk a;subst a;show awp S P (.region id ops true) (kp S P K F) st;simp only[awp,Fe];have l : Tf S P ops.toList (kp S P K F) st':=by
    have:awp S P (.region id ops true) (kp S P K F) st':=hk
    simpa only[awp,Fe]using this
   exact UR hS f b (hS.fam op _ _ c _ j d l)
 cases i
end Go.AM
namespace Go.AM
def Sh {P:Program}{f:FuncId}{vw:Bool}{args:List PV}{e:TypeId}{k n:Nat}{g:Nat->List PV}(t:∀as w,(callFunc f as).run P w=.ok (.enter f as) w)(hk:∀i,i<n->(g i).length=k)
 (h:∀(w:World) (Pi:Nat->Nat->Prop) (vs:Array Value),(∀b off,Pi b off->b<w.heap.size)->vs.size=args.length->(∀i,i<args.length->RepP w Pi (vs.getD i undef) (args.getD i default)) ->
  Calls P f vs w fun x w'=>∃v,x=.returned v/\RowKit.Below w.heap.size w w' /\ ((v=.slice none 0 0/\n=0) \/ ∃b cap c,v=.slice (some ⟨b,0,none⟩) n cap/\w.heap.size<=b/\w'.heap[b]? = some (.cells c e (0,0))/\n<=cap/\c.size=cap*k/\cap<=maxLen /\
   ∀i j,i<n->j<k->RepP w Pi (c.getD (i*k+j) undef) ((g i).getD j default)/\(c.getD (i*k+j) undef).oneCell' = true)):FunO (EO P) f (args.map .p) [] (.vec 0) [.vec e k n g vw] []:=by
 intro 𝒢 C w vs rho hG hs hsz;have y:∀j,A2 (objRegs []) j=none:=fun j=>by simp[objRegs,objRegs.go,A2]
 have h0:=h w (Prv C.X (A2 (objRegs [])) rho) vs (fun b off hp=>by
  rcases hp with hp|⟨j,o,a,_⟩
  .exact hs.hp.bound b off hp
  .simp[y]at a) (by simpa using hsz) (fun i s=>by
  have:=hs.env i
  rw[Ab]at this;have e:(args.map AV.p).getD i .top=.p (args.getD i default):=by simp[s]
  rw[e]at this;exact this.toP)
 refine⟨_,_,t _ _,callsIn_wide.2 (h0.mono ?_)⟩;rintro x w' ⟨v,rfl,hb,hv⟩;have hR:∀j o,A2 (objRegs [Obj.vec e k n g vw]) j=some o->j=0/\o=.vec e k n g vw:=fun j o a=>by
  simp only[objRegs,objRegs.go,A2]at a;split at a
  .rename_i hj0;cases a;exact⟨hj0.symm,rfl⟩
  cases a
 have z:A2 (objRegs [Obj.vec e k n g vw]) 0=some (.vec e k n g vw):=rfl
 let rho' : Nat->Value:=fun j=>if j=0 then v else rho j
 have hr0:rho' 0=v:=rfl;have l:∀b,E1 v (.vec e k n g vw) b->w.heap.size<=b/\b<w'.heap.size:=by
  intro b a0;rcases hv with⟨rfl,_⟩ | ⟨b',cap,c,rfl,h1,h2,_⟩
  .cases a0
  cases a0;exact⟨h1,(Ar8.1 h2).1⟩
 have a1:∀b o,Prv C.X (A2 (objRegs [Obj.vec e k n g vw])) rho' b o->C.X b o \/ w.heap.size<=b:=by
  rintro b o (hX|⟨j,o',a,d,_⟩)
  .exact .inl hX
  obtain⟨rfl,rfl⟩:=hR j o' a;exact .inr (l b d).1
 have m:Keeps w (Prv C.X (A2 (objRegs [])) rho) w' (Prv C.X (A2 (objRegs [Obj.vec e k n g vw])) rho'):=fun b o u hp hc=>by
  have q:=Aw6 w ⟨b,o,none⟩ hc;refine⟨by rw[<- hc];exact Au7 (hb.block b q),fun hpp=>?_⟩;rcases a1 b o hpp with hX|hge
  .exact hp (.inl hX)
  have:b<w.heap.size:=q
  omega
 refine⟨C,.ret (.vec 0),[.vec e k n g vw],[],rho',hG,⟨rfl,rfl,rfl⟩,?_,⟨v,rfl,?_⟩,fun i s=>by simp at s⟩
 .refine⟨⟨fun j o a=>?_,fun i j oi oj b s a _ _=>by rw[(hR i oi s).1,(hR j oj a).1],fun j o b off a d hX=>?_,fun b off hp=>Au1 (hs.hp.bound b off hp) hb.size⟩,hs.ext.trans ⟨hb.os,hb.output⟩,Aw0 hs.size hb.size,fun b q hE=>?_,hs.keep.trans m,fun b d=>?_,fun j r b a=>by cases (hR j _ a).2⟩
  .obtain⟨rfl,rfl⟩:=hR j o a;rw[hr0];rcases hv with hn|⟨b,cap,c,rfl,h1,h2,h3,h4,h5,h6⟩
   .exact .inl hn
   exact .inr ⟨b,cap,c,rfl,h2,h3,h4,h5,hk,fun i j s a=>⟨(h6 i j s a).1.keeps m,(h6 i j s a).2⟩⟩
  .obtain⟨rfl,rfl⟩:=hR j o a;have h1:=(l b d).1;have h2:=hs.hp.bound b off hX;omega
  .rw[hb.block b (Au1 q hs.size)];exact hs.same b q hE
  obtain⟨j,o,a,d⟩:=d;obtain⟨rfl,rfl⟩:=hR j o a;exact .inr (Aw0 hs.size (l b d).1)
 rcases hv with⟨rfl,_⟩ | ⟨b,cap,c,rfl,_⟩
 .exact .vec 0 none 0 0 (by simp[Lv,z]) rfl
 exact .vec 0 _ n cap (by simp[Lv,z]) rfl
end Go.AM
namespace Go.AM
open Go.RowKit Go.ChangeShapes
end Go.AM
namespace Go.AM
section
variable {S:S6}{P:Program}{F:M0}{K:List It}{st:St}{g:Cfg}{pr:Prop}
def Af9 (p:Option PV)(r:ARes):Prop:=match p with
 |none=>∃a,r=.ret a
 |some x=>r=.panic x
def MU (S:S6)(f:FuncId)(first caps:List AV)(objs:List Obj)(L:List (List PV))(p:Option PV):Prop:= S.F f (first ++ .yf objs.length::caps) (objs++[.yld L true]) fun r objs' ks=>∃b,objs'[objs.length]? = some (.yld [] b)/\ks[objs.length]? = some true/\(b=true->Af9 p r)/\(b=false->∃a,r=.ret a)
def endP:Option PV->HL
 |none=>.normal
 |some x=>.panic x
theorem Zl (hS:G1 S P){g:Operand}{ps:Array Tmp}{asg body:Code}{f:FuncId}{first caps as bs:List AV}{objs:List Obj}(ids ts:List Nat)(gh:Nat)(L:List (List PV)){p:Option PV}{X:Type}(s:X->St)(J:List (List PV)->X->Prop)(x0:X)(idl:List (Nat×Nat))
 (hp:Eo st.env g=some (f,first,caps)) (n:∃fn,P.funcs[f]? = some fn/\fn.body.isSome=true/\(fn.name == "runtime.NumGoroutine")=false) (q:J6 ids st.regs ids=some objs) (t:Ea objs=true) (hd:H0 ids=true) (u:CD ids first=some as) (v:CD ids caps=some bs) (w:objs.length=ids.length)
 (z:gh<1000) (a0:A2 st.regs gh=none) (a1:ids.length<1000) (a2:H0 ts=true) (d:∀ys∈L,Z9 ys=some ps.size)
 (hF:MU S f as bs objs L p) (hle:Le idl ⟨V7 ts (ts.map (get st.env)),I9 ids (ids.map fun _=>false) st.regs⟩ (s x0)) (h0:J L x0) (hk:∀x,(s x).env.map (·.1)=ts) (hn:∀x,A2 (s x).regs gh=none)
 (c:∀ys rest x,J (ys::rest) x->G S P (Bw S P body gh ts (YL s J rest) (kp S P K F)) (.code asg [] ⟨LF ps.toList ys (s x).env,ins gh (.ghost ((s x).env.map (·.2))) (s x).regs⟩))
 (i:∀x,J [] x->G S P F (.pop (endP p) K (s x))):G S P F (.code (.rangeFunc g ps asg body) K st):=by
 have j:∀{l:List Nat},H0 l=true->l.Nodup:=by
  intro l
  induction l with
  |nil=>intro _;exact Ax8
  |cons a r ih=>intro h;simp only[H0,Ar7,At3,Au9,decide_eq_false_iff_not]at h;exact Av8.2 ⟨h.1,ih h.2⟩
 refine⟨f,first,caps,as,bs,objs,ids,ts,gh,none,L,YL s J,fun b r=>b=true->Af9 p r,hp,n,t,hd,u,v,q,z,a0,a1,j a2,d,hS.le idl _ _ _ hle ⟨hk x0,hn x0,x0,rfl,h0⟩,?_,?_,?_⟩
 .rintro ys rest _ _ _ ⟨x,rfl,hJ⟩;have h:=c ys rest x hJ;have e:Bw S P body gh ts (YL s J rest) (kp S P K F)=fun e s'=>match e with
   |.normal=>S.up s' fun s'=>awp S P body (Fn S gh ts (YL s J rest) (kp S P K F)) s'
   |_=>False:=by funext e s';cases e<;>rfl
  rw[e]at h;exact h
 .rintro _ r _ _ ⟨x,rfl,hJ⟩ hf;have h1:=hf rfl;have m:=i x hJ;cases p with
  |none=>obtain⟨a,rfl⟩:=h1;exact m
  |some y=>cases h1;exact m
 rw[<- w];refine hS.monoF _ _ _ _ _ ?_ hF;rintro r o ks ⟨b,h1,m,h3,h4⟩;exact⟨b,h1,m,h3,h4⟩
theorem Zm (hS:G1 S P){g:Operand}{ps:Array Tmp}{asg body:Code}{f:FuncId}{first caps as bs:List AV}{objs:List Obj}{R T A:Type}{enc:T->List PV}{L:List T}{p:Option PV}{mb:(A->Option R)->T->A->Option R}{mk:A->Option R}{a0:A}{r:R}
 (ids ts:List Nat) (gh:Nat) (s:A->St) (idl:List (Nat×Nat)) (h:BI L mb mk a0=some r) (y:MU S f as bs objs (L.map enc) p)
 (hp:Eo st.env g=some (f,first,caps)) (j:∃fn,P.funcs[f]? = some fn/\fn.body.isSome=true/\(fn.name == "runtime.NumGoroutine")=false) (l:J6 ids st.regs ids=some objs) (m:Ea objs=true) (z:H0 ids=true) (n:CD ids first=some as) (o:CD ids caps=some bs) (q:objs.length=ids.length)
 (u:Nat.blt gh 1000=true) (v:A2 st.regs gh=none) (w:Nat.blt ids.length 1000=true) (x:H0 ts=true) (d:∀t:T,Z9 (enc t)=some ps.size)
 (hle:Le idl ⟨V7 ts (ts.map (get st.env)),I9 ids (ids.map fun _=>false) st.regs⟩ (s a0)) (hk:∀a,(s a).env.map (·.1)=ts) (hn:∀a,A2 (s a).regs gh=none)
 (b:∀(t:T) (next:St->Prop) (c:A->Option R) (a:A),(∀(st st1:St) (cs:List AV) (idl:List (Nat×Nat)) (a:A),Le idl st st1->A2 st1.regs gh=some (.ghost cs)->cs.length=ts.length->A2 (del gh st1.regs) gh=none->(⟨V7 ts cs,del gh st1.regs⟩:St)=s a->c a=some r->G S P (Fn S gh ts next (kp S P K F)) (.pop .normal [] st)) ->
  mb c t a=some r->G S P (Bw S P body gh ts next (kp S P K F)) (.code asg [] ⟨LF ps.toList (enc t) (s a).env,ins gh (.ghost ((s a).env.map (·.2))) (s a).regs⟩))
 (i:∀a,mk a=some r->G S P F (.pop (endP p) K (s a))):G S P F (.code (.rangeFunc g ps asg body) K st):=by
 refine Zl hS ids ts gh (L.map enc) s (fun rest a=>∃L',rest=L'.map enc/\BI L' mb mk a=some r) a0 idl hp j l m z n o q (by simpa[Az5]using u) v (by simpa[Az5]using w) x (fun ys hy=>?_) y hle ⟨L,rfl,h⟩ hk hn ?_ ?_
 .obtain⟨t,_,rfl⟩:=Az7.1 hy;exact d t
 .rintro ys rest a ⟨L',hL,hx⟩;cases L' with
  |nil=>cases hL
  |cons t L'=>simp only[At7,Av6]at hL;obtain⟨rfl,rfl⟩:=hL;refine b t _ (BI L' mb mk) a (fun st st1 cs idl a hle h1 h2 h3 h4 h5=>?_) hx;exact TD hS st1 a idl hle h1 h2 h3 h4 ⟨L',rfl,h5⟩
 rintro a ⟨L',hL,hx⟩;cases L' with
 |nil=>exact i a hx
 |cons t L'=>cases hL
theorem Vh (hS:G1 S P)(hc:pr){f:FuncId}{as bs:List AV}{objs:List Obj}{R T A:Type}{enc:T->List PV}{L:List T}{p:Option PV}{mb:(A->Option R)->T->A->Option R}{mk:A->Option R}{a0:A}{r:R}
 (ids ts:List Nat) (gh:Nat) (s:A->St) {idl:List (Nat×Nat)}(h:BI L mb mk a0=some r) (x:MU S f as bs objs (L.map enc) p)
 (i:∀t:T,Z9 (enc t)=some (Ic (stp P g)).size) (hk:∀a,(s a).env.map (·.1)=ts) (hn:∀a,A2 (s a).regs gh=none) (m:∀a,(⟨V7 ts ((s a).env.map (·.2)),del gh (ins gh (.ghost ((s a).env.map (·.2))) (s a).regs)⟩:St)=s a)
 (c:∀(t:T) (next:St->Prop) (d:A->Option R) (a:A),
  (∀(g' : Cfg) (ids:List (Nat×Nat)) (pr:Prop) (a:A),pr->d a=some r->(hp:pr=C7 (cnd P g'):=by kernel_rfl)->(b:stp P g' = .pop .normal [] (stp P g').st:=by kernel_rfl)->(hle:KLe ids (stp P g').st (rst gh (s a)):=by exact kl)->KG S P (Fn S gh ts next (kp S P (stp P g).k F)) g') ->
  mb d t a=some r->KG S P (Bw S P (Sc (stp P g)) gh ts next (kp S P (stp P g).k F)) (.code (Sb (stp P g)) [] (Se gh (Ic (stp P g)) (enc t) (s a))))
 (j:∀a,mk a=some r->KG S P F (.pop (endP p) (stp P g).k (s a)))
 (hp:pr=C7 (cnd P g):=by kernel_rfl) (b:Sa P ids (stp P g)=some (f,as,bs,objs):=by kernel_rfl) (o:Nat.blt gh 1000=true:=by kernel_rfl) (n:A2 (stp P g).st.regs gh=none:=by kernel_rfl) (q:H0 ts=true:=by kernel_rfl)
 (hle:KLe idl (Sd ids ts (stp P g)) (s a0):=by exact kl):KG S P F g:=by
 refine⟨Eb hS hc ?_ hp⟩;have u:=(HG b).2;replace b:=(HG b).1;generalize stp P g=g1 at i c j b n hle;unfold MT at b;split at b
 .rename_i op ps asg body K st;split at b
  .rename_i f' first caps v
   split at b
   .rename_i objs' as' bs' y z h4;split at b
    .rename_i w;simp only[Ar5,As1]at b;obtain⟨rfl,rfl,rfl,rfl⟩:=b;simp only[Ar7,At3,beq_iff_eq]at w;obtain⟨⟨⟨e3,e4⟩,e5⟩,e6⟩:=w;refine Zm hS ids ts gh s idl h x v u y e3 e4 z h4 e5 o n e6 q i hle.out hk hn (fun t next d a hb hm=>?_) (fun a hm=>(j a hm).out);refine (c t next d a (fun g' ids' pr a hc l hp b hle=>⟨Eb hS hc ?_ hp⟩) hm).out;rw[b];have hl:((s a).env.map (·.2)).length=ts.length:=by rw[<- hk a];simp
     refine hb _ (rst gh (s a)) ((s a).env.map fun p=>p.2) ids' a hle.out (GN gh (s a)) hl ?_ (m a) l
     have:=congrArg St.regs (m a)
     simp only at this;show A2 (del gh (ins gh _ _)) gh=none;rw[this];exact hn a
    cases b
   cases b
  cases b
 cases b
theorem Xx (hS:G1 S P){f:FuncId}{fn:Func}{first caps:List AV}{objs:List Obj}{L:List (List PV)}{p:Option PV}(i:P.funcs[f]? = some fn)
 (h:KG S P (Cl S P (objs++[Obj.yld L true]).length fn.results.toList fun r objs' ks=>∃b,objs'[objs.length]? = some (.yld [] b)/\ks[objs.length]? = some true/\(b=true->Af9 p r)/\(b=false->∃a,r=.ret a)) (.code (fn.body.getD .skip) [] { env:=argEnv (first ++ .yf objs.length::caps),regs:=objRegs (objs++[Obj.yld L true]) }))
 (hc:fn.body.isSome=true:=by kernel_rfl) (hn:Nat.ble (first ++ .yf objs.length::caps).length fn.ntmps=true:=by kernel_rfl) (j:Nat.blt (objs++[Obj.yld L true]).length 1000=true:=by kernel_rfl)
 (d:AF fn.ntmps (fn.body.getD .skip)=true:=by kernel_rfl) (g:(fn.name == "runtime.NumGoroutine")=false:=by kernel_rfl):MU S f first caps objs L p:=by
 obtain⟨code,c⟩:=As7.1 hc;rw[c,As0]at d h;exact KE hS i c (Aw5 hn) (by simpa[Az5]using j) rfl d g h.out
theorem Zn (hS:G1 S P){f:FuncId}{fn:Func}{args:List AV}{objs:List Obj}{Q:ARes->List Obj->List Bool->Prop}(d:P.funcs[f]? = some fn)
 (h:KG S P (Cl S P objs.length fn.results.toList Q) (.code (fn.body.getD .skip) [] { env:=argEnv args,regs:=objRegs objs }))
 (hc:fn.body.isSome=true:=by kernel_rfl) (hn:Nat.ble args.length fn.ntmps=true:=by kernel_rfl) (g:Nat.blt objs.length 1000=true:=by kernel_rfl)
 (b:AF fn.ntmps (fn.body.getD .skip)=true:=by kernel_rfl) (c:(fn.name == "runtime.NumGoroutine")=false:=by kernel_rfl):S.F f args objs Q:=by
 obtain⟨code,a⟩:=As7.1 hc;rw[a,As0]at b h;exact KE hS d a (Aw5 hn) (by simpa[Az5]using g) rfl b c h.out
def panE:Cfg->Option PV
 |.ops all (o::_) _ st=>match AG all st.env o,o.op with
  |some true,.panic x=>match aev st.env x with
   |.p (.iface t y)=>some (.iface t y)
   |_=>none
  |_,_=>none
 |_=>none
def panC (x:PV):Cfg->Cfg
 |.ops _ _ K st=>.pop (.panic x) K st
 |g=>g
theorem Ag0 (hS:G1 S P)(hc:pr){x:PV}(hk:KG S P F (panC x (stp P g)))(hp:pr=C7 (cnd P g):=by kernel_rfl)(a:panE (stp P g)=some x:=by kernel_rfl):KG S P F g:=by
 refine⟨Eb hS hc ?_ hp⟩;have hk:=hk.out;generalize stp P g=g1 at hk a;unfold panE at a;split at a
 .rename_i all o rest K st;split at a
  .rename_i y b c;split at a
   .rename_i t z hx;cases a;exact Ad6 hS b c hx hk
   cases a
  cases a
 cases a
def Zo:Cfg->Option PV
 |.pop (.panic x) [] _=>some x
 |_=>none
theorem ZY (hS:G1 S P)(hc:pr){n:Nat}{rs:List ResultVar}{Q:ARes->List Obj->List Bool->Prop}{x:PV}{objs:List Obj}(outs:List Nat)(c:Q (.panic x) objs (Gg n outs))(hp:pr=C7 (cnd P g):=by kernel_rfl)
 (a:Zo (stp P g)=some x:=by kernel_rfl) (d:H0 outs=true:=by kernel_rfl) (b:J6 outs (stp P g).st.regs outs=some objs:=by kernel_rfl):KG S P (Cl S P n rs Q) g:=by
 refine⟨Eb hS hc ?_ hp⟩;generalize stp P g=g1 at a b;unfold Zo at a;split at a
 .cases a;exact⟨outs,objs,d,b,c⟩
 cases a
theorem Xy {k:Nat}{g:Nat->List PV}:AV.p (.v (.slice none 0 0))=.p (.sl false k 0 g) \/ ∃x y,AV.p (.v (.slice none 0 0))=.p x/\AV.p (.sl false k 0 g)=.p y/\leQ x y:=
 .inr ⟨_,_,rfl,rfl,.p (.inr (.inr (.inl ⟨_,_,rfl,rfl⟩)))⟩
theorem Ag1 (hS:G1 S P){all rest:List Oper}{o:Oper}{c:Call}{f:Operand}{as:List AV}{regs:C6}{fn:FuncId}{as' args:List AV}{objs objs' : List Obj}{ks:List Bool}{x:PV}(ids:List Nat)
 (d:AG all st.env o=some true) (g:o.op=.call c) (b:c.callee=.value f) (ha:GC st.regs (c.args.toList.map (aev st.env))=some (as,regs))
 (i:OO st.env f as=some (fn,as')) (j:CD ids as' = some args) (a:J6 ids regs ids=some objs) (l:S.F fn args objs fun res o k=>res=.panic x/\o=objs' /\ k=ks)
 (m:H0 ids=true) (hy:Ea objs=true) (hn:U1 regs ids ks (o.dst.getD 0) objs'.length=true)
 (hk:G S P F (.pop (.panic x) K { env:=st.env,regs:=back (G4 (o.dst.getD 0) ids ks objs'.length) (G4 (o.dst.getD 0) ids ks objs'.length) objs' (I9 ids ks regs) })) :
 G S P F (.ops all (o::rest) K st):=by
 refine AH hS d ?_;unfold wOp;obtain⟨callee,cargs,types⟩:=c;simp only at b ha;subst b;rw[g];refine .inl ⟨as,regs,_,_,.inl ha,i,ids,args,objs,m,j,a,hy,hS.monoF _ _ _ _ _ ?_ l⟩;rintro _ _ _ ⟨rfl,rfl,rfl⟩;exact⟨hn,hk⟩
def ZZ (ids:List Nat)(ks:List Bool)(x:PV)(objs' : List Obj):Cfg->Cfg
 |.ops all (o::rest) K st=>match o.op with
  |.call c=>match GC st.regs (c.args.toList.map (aev st.env))with
   |some (_,regs)=>mkO st.env (back (G4 (o.dst.getD 0) ids ks objs'.length) (G4 (o.dst.getD 0) ids ks objs'.length) objs' (I9 ids ks regs)) fun env regs=>.pop (.panic x) K ⟨env,regs⟩
   |none=>.ops all (o::rest) K st
  |_=>.ops all (o::rest) K st
 |g=>g
theorem Ag2 (hS:G1 S P)(ids:List Nat)(hc:pr){fn:FuncId}{args:List AV}{objs objs' : List Obj}{x:PV}{ks:List Bool}(i:S.F fn args objs fun res o k=>res=.panic x/\o=objs' /\ k=ks)
 (hk:KG S P F (ZZ ids ks x objs' (stp P g))) (hp:pr=C7 (cnd P g):=by kernel_rfl) (a:VT ids (stp P g)=some (fn,args,objs):=by kernel_rfl) (hn:VU ids ks objs'.length (stp P g)=true:=by kernel_rfl):KG S P F g:=by
 refine⟨Eb hS hc ?_ hp⟩;replace hk:=hk.out;generalize stp P g=g' at a hn hk;unfold VT at a;split at a
 .split at a
  .rename_i j f;split at a
   .rename_i c;split at a
    .rename_i ha;split at a
     .rename_i l;split at a
      .rename_i m d;split at a
       .rename_i b;cases a;simp only[Ar7]at b;simp only[ZZ,VU,f,ha,Fb]at hk hn;exact Ag1 hS ids j f c ha l m d i b.1 b.2 hn hk
       cases a
      cases a
     cases a
    cases a
   cases a
  cases a
 cases a
def Pv (S:S6)(R:St->Prop)(X:PV->St->Prop):M0
 |.normal,st=>S.up st R
 |.panic x,st=>X x st
 |_,_=>False
theorem K_upN (hS:G1 S P)(hc:pr){R:St->Prop}{X:PV->St->Prop}(st:St){ids:List (Nat×Nat)}(hR:R st)(hp:pr=C7 (cnd P g):=by kernel_rfl)(a:stp P g=.pop .normal [] (stp P g).st:=by kernel_rfl)
 (hle:KLe ids (stp P g).st st:=by exact kl):KG S P (Pv S R X) g:=by
 refine⟨Eb hS hc ?_ hp⟩;rw[a];exact hS.le ids _ _ R hle.out hR
theorem K_upP (hS:G1 S P)(hc:pr){R:St->Prop}{X:PV->St->Prop}{x:PV}(b:X x (stp P g).st)(hp:pr=C7 (cnd P g):=by kernel_rfl)(a:Zo (stp P g)=some x:=by kernel_rfl):KG S P (Pv S R X) g:=by
 refine⟨Eb hS hc ?_ hp⟩;generalize stp P g=g1 at a b;unfold Zo at a;split at a
 .cases a;exact b
 cases a
end
end Go.AM
namespace Go.AM
section
variable {S:S6}{P:Program}{F:M0}{K:List It}{g:Cfg}{pr:Prop}
theorem TN (hS:G1 S P){all:List Oper}{o:Oper}{k k' : St->Prop}{Q Q' : M0}(hk:∀s,k s->k' s)(hq:∀x s,Q (.panic x) s->Q' (.panic x) s){st:St}(h:Gy S P all o k Q st):Gy S P all o k' Q' st:=by
 have e:∀st,wOp S P o k Q st->wOp S P o k' Q' st:=by
  intro st h;have u:∀d ids f args st,Td S d ids f args st (GD o.dst k Q)->Td S d ids f args st (GD o.dst k' Q'):=by
   rintro d ids f args st ⟨a,ob,h1,l,q,v,w⟩;refine⟨a,ob,h1,l,q,v,hS.monoF _ _ _ _ _ (fun r o ks ⟨z,h7⟩=>⟨z,?_⟩) w⟩;cases r with
   |ret a=>exact hk _ h7
   |panic x=>exact hq _ _ h7
  unfold wOp at h⊢;split at h
  .rcases h with⟨as,regs,f',as',h1,l,ids,q⟩ | ⟨j,xs,regs,ys,rest,h1,l,q,v,w,z⟩ | ⟨f',as',c,xs,h1,l,q,v⟩ | ⟨j,jw,e,m,n,g,rest,h1,l,q,v⟩
   .exact .inl ⟨as,regs,f',as',h1,l,ids,u _ _ _ _ _ q⟩
   .exact .inr (.inl ⟨j,xs,regs,ys,rest,h1,l,q,v,w,fun b=>hk _ (z b)⟩)
   .exact .inr (.inr (.inl ⟨f',as',c,xs,h1,l,q,hS.monoF _ _ _ _ _ (fun r o ks e=>e.imp (fun⟨a,e1,e2,e3⟩=>⟨a,e1,e2,hk _ e3⟩) fun⟨e0,m,n,g,e1,e2,e3,e4,e5⟩=>⟨e0,m,n,g,e1,e2,e3,e4,hk _ e5⟩) v⟩))
   exact .inr (.inr (.inr ⟨j,jw,e,m,n,g,rest,h1,l,q,fun b=>hk _ (v b)⟩))
  .obtain⟨as,regs,t,y,f',h1,l,q,ids,v⟩:=h;exact⟨as,regs,t,y,f',h1,l,q,ids,u _ _ _ _ _ v⟩
  .obtain⟨t,y,h1,l⟩:=h;exact⟨t,y,h1,hq _ _ l⟩
  .obtain⟨j,cl,last,seen,jm,es,h1,l,q,v,w,z,h7⟩:=h;exact⟨j,cl,last,seen,jm,es,h1,l,q,v,w,fun g=>hk _ (z g),fun i hi hs=>hk _ (h7 i hi hs)⟩
  rcases h with⟨out,h1,l,q⟩ | ⟨c,x,h1,l,q⟩ | ⟨out,h1,l,q⟩
  .exact .inl ⟨out,h1,l,hk _ q⟩
  .exact .inr (.inl ⟨c,x,h1,l,hk _ q⟩)
  exact .inr (.inr ⟨out,h1,l,hk _ q⟩)
 unfold Gy at h⊢;refine hS.mono _ _ _ (fun t h=>?_) h;split at h
 .exact e _ h
 obtain⟨b,h1,l⟩:=h;refine⟨b,h1,?_⟩;split
 .rename_i hb;rw[Dz hb]at l;exact e _ l
 rename_i hb;rw[Ec hb]at l;exact hk _ l
def Ag3 (all:List Oper)(n:Nat):Bool:= Nat.blt n all.length&&(List.range all.length).all fun i=>Nat.blt i n||(List.range i).all fun j=>((Ak3 all).getD i []).contains j
def TO (all:List Oper)(n:Nat):Bool:=(all.take n).all fun o=>match o.guard with
 |some (j,_)=>Nat.blt j n
 |none=>true
theorem VY (all:List Oper){n:Nat}(b:TO all n=true){o:Oper}(c:o∈all.take n){k:St->Prop}{Q:M0}{s:St}(h:Gy S P (all.take n) o k Q s):Gy S P all o k Q s:=by
 have h1:=As3.1 b o c;unfold Gy at h⊢;cases a:o.guard with
 |none=>simpa only[a]using h
 |some q=>
  obtain⟨j,want⟩:=q;simp only[a,Az5]at h1 h⊢;have e:Ep (all.take n) j=Ep all j:=by unfold Ep;rw[Ay4,Dz h1]
  rw[e]at h;exact h
theorem Si (hS:G1 S P){all:List Oper}{n:Nat}{Q:M0}{st:St}(r:GE all=true)(y:Ag3 all n=true)(hg:TO all n=true)
 (h:Tf S P (all.take n) (fun e s=>match e with | .normal=>HM S P all (all.drop n) Q s | .panic x=>Q (.panic x) s|_=>False) st):Tf S P all Q st:=by
 obtain⟨z,hdp,Inv,h0,u,a0⟩:=h;simp only[Ag3,Ar7,Az5,As3,AA5,Ay3,Au9,decide_eq_true_eq]at y;obtain⟨hn,y⟩:=y
 let down:(Nat->Bool)->Prop:=fun D=>∀i o,D i=true->all[i]? = some o->∀e∈o.after.toList,Dm e=true->D e.on=true
 let Inv' : (Nat->Bool)->St->Prop:=fun D s=>down D/\(((∀i,n<=i->D i=false)/\Inv D s) \/ ∃j,n<=j/\j<=all.length/\(∀i,i<all.length->(D i=true↔i<j))/\HM S P all (all.drop j) Q s)
 refine⟨z,r,Inv',⟨fun i o hi=>(by cases hi),.inl ⟨fun _ _=>rfl,h0⟩⟩,?_,?_⟩
 .intro D i s o ⟨hD,hc⟩ ho hDi b;have g:i<all.length:=(As5.1 ho).1;have t:=KD r hD i o ho b;have l:down fun j=>if j=i then true else D j:=by
   intro j oj m v e he hbe;show (if e.on=i then true else D e.on)=true;by_cases e1:j=i
   .subst e1;rw[ho]at v;cases v;split
    .rfl
    exact b e he hbe
   have m:(if j=i then true else D j)=true:=m;rw[Ec e1]at m;split
   .rfl
   exact hD j oj m v e he hbe
  have d:(∀j,j<i->D j=true)->(∀j,i<j->j<all.length->D j=false)->n<=i->S.up s (HM S P all (all.drop i) Q)->Gy S P all o (Inv' fun j=>if j=i then true else D j) Q s:=by
   intro c hhi hni h2;have hd:all.drop i=o::all.drop (i+1):=by rw[AB0 g];congr 1;exact (As5.1 ho).2
   rw[hd]at h2;have h3:Gy S P all o (HM S P all (all.drop (i+1)) Q) Q s:=hS.trans _ _ h2;refine KF hS (fun s' w=>?_) (fun e s h=>h) h3;refine⟨l,.inr ⟨i+1,by omega,g,fun i' hi'=>?_,w⟩⟩;by_cases e:i' = i
   .simp[e]
   simp only[e,Ge];constructor
   .intro q;by_cases h5:i<i'
    .rw[hhi i' h5 hi']at q;cases q
    omega
   intro q;exact c i' (by omega)
  rcases hc with⟨c,hI⟩ | ⟨j,hj1,hj2,f,hw⟩
  .by_cases hi:i<n
   .have ho' : (all.take n)[i]? = some o:=by rw[Ay4,Dz hi];exact ho
    have h1:=VY all hg (At4 ho') (u D i s o hI ho' hDi b);refine TN hS (fun s' w=>?_) (fun x s' h=>h) h1;refine⟨l,.inl ⟨fun i' h'=>?_,w⟩⟩
    have:i' ≠ i:=by omega
    show (if i' = i then true else D i')=false;rw[Ec this];exact c i' h'
   have a:∀j,j<i->D j=true:=fun j m=>t j ((y i g).resolve_left hi j m);have e:i=n:=by
    by_cases q:n<i
    .have:=a n q;rw[c n (As8 _)]at this;cases this
    omega
   subst e;refine d a (fun j m _=>c j (by omega)) (As8 _) ?_;exact a0 D s hI fun j m=>a j (by simp at m;omega)
  have e:i=j:=by
   by_cases q:i<j
   .have:=(f i g).2 q;rw[hDi]at this;cases this
   by_cases h5:j<i
   .have a:D j=true:=t j ((y i g).resolve_left (by omega) j h5)
    have:=(f j (by omega)).1 a;omega
   omega
  subst e;refine d (fun j m=>(f j (by omega)).2 m) (fun j h1 h2=>?_) hj1 (hS.refl _ _ hw);cases hh:D j with
  |false=>rfl
  |true=>have:=(f j h2).1 hh;omega
 rintro D s ⟨hD,hc⟩ a;rcases hc with⟨c,hI⟩ | ⟨j,hj1,hj2,f,hw⟩
 .have:=a n hn;rw[c n (As8 _)]at this;cases this
 have e:j=all.length:=by
  by_cases q:j<all.length
  .have:=(f j q).1 (a j q);omega
  omega
 subst e;rw[List.drop_length]at hw;exact hS.refl _ _ hw
def Mh (n:Nat)(ls:List (Nat×Cls)):Cfg->SC
 |.code (.region _ ops true) _ st=>⟨ops.toList.take n,Ar0 ls 0 (ops.toList.take n),ops.toList.take n,st.env,st.regs,[]⟩
 |_=>⟨[],[],[],[],[],[]⟩
def Xz (n:Nat)(env:Env)(regs:C6):Cfg->Cfg
 |.code (.region _ ops true) K _=>.ops ops.toList (ops.toList.drop n) K ⟨env,regs⟩
 |g=>g
def XA (n:Nat):Cfg->Bool
 |.code (.region _ ops true) _ _=>GE ops.toList&&Ag3 ops.toList n&&TO ops.toList n
 |_=>false
theorem Zp (hS:G1 S P)(hc:pr)(n:Nat)(ls:List (Nat×Cls))(h:DG S P (Mh n ls (stp P g)) fun env regs=>KG S P F (Xz n env regs (stp P g)))(hp:pr=C7 (cnd P g):=by kernel_rfl)(c:BP (stp P g)=true:=by kernel_rfl)(a:P.follows .mixedOrders=true:=by kernel_rfl)
 (b:Ld (Mh n ls (stp P g)).all (Mh n ls (stp P g)).cls=true:=by kernel_rfl) (hb:XA n (stp P g)=true:=by kernel_rfl):KG S P F g:=by
 have e:(fun env regs=>KG S P F (Xz n env regs (stp P g)))=fun env regs=>G S P F (Xz n env regs (stp P g)):=by funext env regs;exact propext ⟨fun h=>h.out,fun h=>⟨h⟩⟩
 rw[e]at h;refine⟨Eb hS hc ?_ hp⟩;have h:=h.out;generalize stp P g=g' at c b h hb;unfold BP at c;split at c
 .rename_i id ops K st;simp only[XA,Ar7]at hb;show awp S P (.region id ops true) (kp S P K F) st;simp only[awp,Fe];refine Si hS hb.1.1 hb.1.2 hb.2 ?_;have d:(ops.toList.take n).toArray.toList=ops.toList.take n:=rfl
  have:=UM hS (F:=fun e s=>match e with | .normal=>HM S P ops.toList (ops.toList.drop n) (kp S P K F) s | .panic x=>kp S P K F (.panic x) s|_=>False) (K:=[]) (id:=id) (ops:=(ops.toList.take n).toArray) (Ar0 ls 0 (ops.toList.take n)) a b h
  simpa only[G,awp,Fe,kp,Mh]using this
 cases c
end
end Go.AM
namespace Go.AM
open Go.RowKit Go.ChangeShapes Go.Deep
section
variable {P:Program}{t e:TypeId}{m:Nat}{pvs:List PV}
end
end Go.AM
namespace Go.AM
section
variable {S:S6}{P:Program}{sc:SC}{k:Env->C6->Prop}{pr:Prop}
end
end Go.AM
namespace Go.AM
section
variable {κ ν : Type}
def GB (eq : κ -> κ -> Bool)(k : κ)(z : ν):List (κ × ν)->Nat × ν×List (κ × ν)
 |[]=>(0,z,[(k,z)])
 |(a,v)::es=>if eq k a then (0,v,(k,v)::es)else ((GB eq k z es).1+1,(GB eq k z es).2.1,(a,v)::(GB eq k z es).2.2)
def Ai1:List (κ × ν)->Nat -> ν -> List (κ × ν)
 |[],_,_=>[]
 |(a,_)::es,0,v=>(a,v)::es
 |p::es,n+1,v=>p::Ai1 es n v
theorem Mi {kP : κ -> PV}{vP : ν -> PV}{cmp:PV->PV->Option Bool}{eq : κ -> κ -> Bool}(hc:∀a b,cmp (kP a) (kP b)=some (eq a b))(k : κ)(z : ν):∀es:List (κ × ν),
 ∃q,DZ cmp (kP k) (C4 kP vP es)=some q/\ent (kP k) (vP z) (C4 kP vP es) q=((GB eq k z es).1,vP (GB eq k z es).2.1,C4 kP vP (GB eq k z es).2.2)
 |[]=>⟨none,rfl,rfl⟩
 |(a,v)::es=>by
  have e0:C4 kP vP ((a,v)::es)=(kP a,vP v)::C4 kP vP es:=rfl;rw[e0];simp only[DZ,hc,GB];cases h:eq k a
  .obtain⟨q,h1,c⟩:=Mi (vP:=vP) hc k z es;refine⟨q.map (· + 1),by simp[h1],?_⟩;cases q with
   |none=>simp only[ent,As1]at c;simp only[ent,AC9,As2,Ge,Av3,As1];refine⟨by rw[c.1],c.2.1,?_⟩;rw[Au0,c.2.2];rfl
   |some j=>simp only[ent,As1]at c;simp only[ent,As4,As2,Ge,As1];refine⟨by rw[c.1],by simpa using c.2.1,?_⟩;rw[AF8,AG2,c.2.2];rfl
  exact⟨some 0,rfl,rfl⟩
theorem Sj {eq : κ -> κ -> Bool}(c:∀a b,eq a b=true->a=b){k : κ}{z v : ν}:∀{es:List (κ × ν)},Bq eq k es=some v->(GB eq k z es).2=(v,es)
 |[],h=>by cases h
 |(a,x)::es,h=>by
  simp only[Bq]at h;simp only[GB];split at h
  .rename_i hk;cases h;rw[Dz hk,c _ _ hk]
  rename_i hk;rw[Ec hk,Sj c h]
theorem IU (eq : κ -> κ -> Bool)(k : κ)(z : ν):∀es:List (κ × ν),(GB eq k z es).1<(GB eq k z es).2.2.length
 |[]=>by simp[GB]
 |(a,v)::es=>by
  have:=IU eq k z es
  simp only[GB];split<;>simp<;>omega
theorem JK {kP : κ -> PV}{vP : ν -> PV}:∀(es:List (κ × ν)) (i:Nat) (v : ν),i<es.length->Aa4 (C4 kP vP es) i (vP v)=C4 kP vP (Ai1 es i v)
 |[],i,v,h=>Eu h (by simp)
 |(a,x)::es,0,v,h=>rfl
 |p::es,n+1,v,h=>by have ih:=JK (kP:=kP) (vP:=vP) es n v (by simpa using h);have e0:C4 kP vP (p::es)=(kP p.1,vP p.2)::C4 kP vP es:=rfl;have e1:C4 kP vP (Ai1 (p::es) (n+1) v)=(kP p.1,vP p.2)::C4 kP vP (Ai1 es n v):=rfl;rw[e0,e1,<- ih];simp only[Aa4,AF8,AG2]
theorem JL (eq : κ -> κ -> Bool)(k : κ)(z v : ν):∀es:List (κ × ν),Ai1 (GB eq k z es).2.2 (GB eq k z es).1 v=Dj eq k v es
 |[]=>rfl
 |(a,x)::es=>by
  have ih:=JL eq k z v es;simp only[GB,Dj];by_cases h:eq k a=true
  .simp only[h,Fe];rfl
  simp only[h,Ge,As2];show (a,x)::Ai1 (GB eq k z es).2.2 (GB eq k z es).1 v=_;rw[ih]
end
section
variable {S:S6}{P:Program}{F:M0}{g:Cfg}{pr:Prop}
structure EntI where
 kt:TypeId
 key:PV
 z:PV
 es:List (PV×PV)
end
end Go.AM
namespace Go.AM
section
variable {S:S6}{P:Program}{F:M0}{g:Cfg}{pr:Prop}
end
end Go.AM
namespace Go.AM
section
variable {S:S6}{P:Program}{pr:Prop}{sc:SC}{k:Env->C6->Prop}
def Zq (P:Program)(sc:SC):Option EntI:=match sc.cls,sc.rest with
 |cl::_,o::_=>match Y4 sc.all sc.env o,o.op,RU cl sc.env (o.dst.getD 0) o.op with
  |some true,.mapEntry t m k,true=>match aev sc.env k,aev sc.env m with
   |.p key,.mref j=>match A2 sc.regs j,tk P t with
    |some (.map es),some (.map kt e)=>match Gf P e with
     |some z=>if ES P kt (nP key) then some ⟨kt,nP key,z,es⟩else none
     |none=>none
    |_,_=>none
   |_,_=>none
  |_,_,_=>none
 |_,_=>none
def Sk (P:Program)(sc:SC):Option EntI:=match sc.cls,sc.rest with
 |.l js::_,o::_=>match Y4 sc.all sc.env o,o.op with
  |some true,.mapEntry t m k=>match aev sc.env k,aev sc.env m with
   |.p key,.mref j=>if js.contains j then match A2 sc.regs j,tk P t with
    |some (.map es),some (.map kt e)=>match Gf P e with
     |some z=>if ES P kt (nP key) then some ⟨kt,nP key,z,es⟩else none
     |none=>none
    |_,_=>none
    else none
   |_,_=>none
  |_,_=>none
 |_,_=>none
def Zr (i:Nat)(y:PV)(es' : List (PV×PV))(sc:SC):SC:=match sc.rest with
 |o::rest=>match o.op with
  |.mapEntry _ m _=>match aev sc.env m with
   |.mref j=>YY o.dst (.tup [.p y,.p (pI .i64 i)]) sc.env (ins j (.map es') sc.regs) fun env regs=>⟨sc.all,sc.cls.tail,rest,env,regs,sc.kn⟩
   |_=>sc
  |_=>sc
 |[]=>sc
theorem XB (hc:pr){kt:TypeId}{key z y:PV}{es es' : List (PV×PV)}{i:Nat}(b:∃q,DZ (IG P kt) key es=some q/\ent key z es q=(i,y,es'))(d:C7 (HP P kt))(hk:DG S P (Zr i y es' (Bt P sc)) k)
 (hp:pr=C7 (Pq P sc):=by kernel_rfl) (a:Zq P (Bt P sc)=some ⟨kt,key,z,es⟩:=by kernel_rfl):DG S P sc k:=by
 refine⟨Xo hc ?_ hp⟩;obtain⟨q,b,r⟩:=b;replace hk:=hk.out;generalize Bt P sc=s at a hk;obtain⟨all,cls,rest,env,regs,kn⟩:=s;cases rest with
 |nil=>cases cls<;>simp[Zq]at a
 |cons o rest=>
  cases cls with
  |nil=>simp[Zq]at a
  |cons cl cls=>
   simp only[Zq]at a;split at a
   .rename_i t m kk u l f;split at a
    .rename_i kp j h1 n;split at a
     .rename_i es0 kt0 e0 w x;split at a
      .rename_i z0 hz;split at a
       .rename_i g;simp only[Ar5,EntI.mk.injEq]at a;obtain⟨rfl,rfl,rfl,rfl⟩:=a;simp only[Zr,l,n,Dw,Ax4]at hk;refine UP (c:=HP P kt0) (v:=.tup [.p y,.p (pI .i64 i)]) (regs':=ins j (.map es') regs) u ?_ d f hk;rw[l];simp only[aop,x,n,h1,w,hz,g,b,r]
       cases a
      cases a
     cases a
    cases a
   cases a
theorem Zs (hc:pr){kt:TypeId}{key z y:PV}{es:List (PV×PV)}{i:Nat}(g:∃q,DZ (IG P kt) key es=some q/\ent key z es q=(i,y,es))(n:C7 (HP P kt))(hk:DG S P (Zr i y es (Bt P sc)) k)
 (hp:pr=C7 (Pq P sc):=by kernel_rfl) (a:Sk P (Bt P sc)=some ⟨kt,key,z,es⟩:=by kernel_rfl):DG S P sc k:=by
 refine⟨Xo hc ?_ hp⟩;obtain⟨q,g,x⟩:=g;replace hk:=hk.out;generalize Bt P sc=s at a hk;obtain⟨all,cls,rest,env,regs,kn⟩:=s;cases rest with
 |nil=>cases cls<;>simp[Sk]at a
 |cons o rest=>
  cases cls with
  |nil=>simp[Sk]at a
  |cons cl cls=>
   cases cl with
   |l js=>
    simp only[Sk]at a;split at a
    .rename_i t m kk hg u;split at a
     .rename_i kp j h1 v;split at a
      .rename_i c;split at a
       .rename_i es0 kt0 e0 f ht;split at a
        .rename_i z0 hz;split at a
         .rename_i r;simp only[Ar5,EntI.mk.injEq]at a;obtain⟨rfl,rfl,rfl,rfl⟩:=a;simp only[Zr,u,v,Dw,Ax4]at hk;have w:∀R2:C6,A2 R2 j=some (.map es0)->aop P env R2 (o.dst.getD 0) o.op=some ⟨HP P kt0,.tup [.p y,.p (pI .i64 i)],ins j (.map es0) R2⟩:=by intro R2 b;rw[u];simp only[aop,ht,v,h1,b,hz,r,g,x]
          have d:∀R2:C6,A2 R2 j=some (.map es0)->∀q,A2 (ins j (.map es0) R2) q=A2 R2 q:=by
           intro R2 b q;rw[M4];split
           .rename_i e;subst e;exact b.symm
           rfl
          refine⟨true,hg,?_⟩;rw[Dz rfl];exact⟨_,_,.inl ⟨_,w regs f,n,trivial,d regs f,fun R2 h=>⟨_,w R2 ((h j (by simpa using c)).trans f),d R2 ((h j (by simpa using c)).trans f)⟩⟩,hk⟩
         cases a
        cases a
       cases a
      cases a
     cases a
    cases a
   |_=>simp[Sk]at a
def Zt (sc:SC):Option (Int×PV×List (PV×PV)):=match sc.cls,sc.rest with
 |cl::_,o::_=>match Y4 sc.all sc.env o,o.op,RU cl sc.env (o.dst.getD 0) o.op with
  |some true,.entryStore _ m s x,true=>match aev sc.env m,asInt (aev sc.env s),CC sc.regs (aev sc.env x)with
   |.mref j,some s,some (y,regs)=>match A2 regs j with
    |some (.map es)=>some (s,y,es)
    |_=>none
   |_,_,_=>none
  |_,_,_=>none
 |_,_=>none
def An3 (es' : List (PV×PV))(sc:SC):SC:=match sc.rest with
 |o::rest=>match o.op with
  |.entryStore _ m s x=>match aev sc.env m,CC sc.regs (aev sc.env x)with
   |.mref j,some (_,regs)=>YY o.dst Jo sc.env (ins j (.map es') regs) fun env regs=>⟨sc.all,sc.cls.tail,rest,env,regs,sc.kn⟩
   |_,_=>sc
  |_=>sc
 |[]=>sc
theorem Qr (hc:pr){i:Nat}{y:PV}{es es' : List (PV×PV)}(r:i<es.length)(g:Aa4 es i y=es')(hk:DG S P (An3 es' (Bt P sc)) k)
 (hp:pr=C7 (Pq P sc):=by kernel_rfl) (a:Zt (Bt P sc)=some ((i:Int),y,es):=by kernel_rfl):DG S P sc k:=by
 refine⟨Xo hc ?_ hp⟩;replace hk:=hk.out;generalize Bt P sc=s at a hk;obtain⟨all,cls,rest,env,regs,kn⟩:=s;cases rest with
 |nil=>cases cls<;>simp[Zt]at a
 |cons o rest=>
  cases cls with
  |nil=>simp[Zt]at a
  |cons cl cls=>
   simp only[Zt]at a;split at a
   .rename_i t m s x l d b;split at a
    .rename_i j sv y0 regs1 h1 n f;split at a
     .rename_i es0 q;simp only[Ar5,As1]at a;obtain⟨rfl,rfl,rfl⟩:=a;subst g;simp only[An3,d,h1,f,Dw,Ax4]at hk;refine UP (c:=[0<=(i:Int)/\(i:Int)<(es0.length:Int)]) (v:=Jo) (regs':=ins j (.map (Aa4 es0 i y0)) regs1) l ?_ (show 0<=(i:Int)/\(i:Int)<(es0.length:Int) by omega) b hk;rw[d];simp only[aop,h1,n,f,q];rfl
     cases a
    cases a
   cases a
end
end Go.AM
namespace Go.AM
section
variable {S:S6}{P:Program}{F:M0}{g:Cfg}{pr:Prop}
end
section
variable {S:S6}{P:Program}{pr:Prop}{sc:SC}{k:Env->C6->Prop}
end
end Go.AM
namespace Go.AM
end Go.AM
namespace Go.AM
end Go.AM
namespace Go.AM
section
variable {S:S6}{P:Program}{F:M0}{g:Cfg}{pr:Prop}
def bldK (P:Program):Cfg->Cfg
 |.ops all (o::rest) K st=>match bop P st.regs (o.dst.getD 0) o.op with
  |some out=>VR o.dst out.val st.env out.regs fun st=>.ops all rest K st
  |none=>.ops all (o::rest) K st
 |g=>g
def bldI (P:Program):Cfg->Bool
 |.ops all (o::rest) K st=>(match AG all st.env o with|some true=>true|_=>false)&&(bop P st.regs (o.dst.getD 0) o.op).isSome
 |_=>false
theorem K_bld (hS:G1 S P)(hc:pr)(d:Nat)(hk:KG S P F (bldK P (Gj P d g)))
 (hp:pr=C7 (Ae0 P d g):=by kernel_rfl) (f:bldI P (Gj P d g)=true:=by kernel_rfl):KG S P F g:=by
 refine⟨(Fo (u:=some d) (F:=F) hS 400 [] g (by subst hp;exact hc)).2 ?_⟩;have hk:=hk.out;show G S P F (Gj P d g);generalize Gj P d g=g1 at hk f;unfold bldI at f;split at f
 .rename_i all o rest K st;simp only[Ar7]at f;obtain⟨j,hb⟩:=f;split at j
  .rename_i i;obtain⟨out,a⟩:=As7.1 hb;simp only[bldK,a,Es]at hk;refine AH hS i ?_;have b:C7 out.cond:=by
    unfold bop at a;split at a
    .split at a
     .cases a;exact trivial
     cases a
    cases a
   unfold wOp;split
   .rename_i c;rw[c]at a;simp[bop]at a
   .rename_i c;rw[c]at a;simp[bop]at a
   .rename_i c;rw[c]at a;simp[bop]at a
   .rename_i c;rw[c]at a;simp[bop]at a
   exact .inr (.inr ⟨out,a,b,hk⟩)
  cases j
 cases f
structure NextI where
 cl:Nat
 last:Nat
 seen:List Nat
 es:List (PV×PV)
def An4:Cfg->Option NextI
 |.ops all (o::rest) K st=>match AG all st.env o,o.op with
  |some true,.next x false=>match aev st.env x with
   |.reg j 0=>match A2 st.regs j with
    |some (.blk (1::cl::last::seen) jm)=>match A2 st.regs jm with
     |some (.map es)=>some ⟨cl,last,seen,es⟩
     |_=>none
    |_=>none
   |_=>none
  |_,_=>none
 |_=>none
def An5:Cfg->Cfg
 |.ops all (o::rest) K st=>VR o.dst (.tup [.p (.bb false)]) st.env st.regs fun st=>.ops all rest K st
 |g=>g
def An6 (i:Nat)(ky vl:PV):Cfg->Cfg
 |.ops all (o::rest) K st=>match o.op with
  |.next x _=>match aev st.env x with
   |.reg j _=>match A2 st.regs j with
    |some (.blk (_::cl::_::seen) jm)=>match A2 st.regs jm with
     |some (.map es)=>VR o.dst (.tup [.p (.bb true),.p ky,.p vl]) st.env (ins j (.blk (1::cl::es.length::(i::seen)) jm) st.regs) fun st=>.ops all rest K st
     |_=>.ops all (o::rest) K st
    |_=>.ops all (o::rest) K st
   |_=>.ops all (o::rest) K st
  |_=>.ops all (o::rest) K st
 |g=>g
theorem An7 (hS:G1 S P)(hc:pr){cl last:Nat}{seen:List Nat}{es:List (PV×PV)}(h1:cl=es.length)(r:cl<=last){ky vl:Nat->PV}(l:∀i,i<es.length->es.getD i default=(ky i,vl i))
 (d:(∀i,i<es.length->i∈seen)->KG S P F (An5 (stp P g))) (f:∀i,i<es.length->i ∉ seen->KG S P F (An6 i (ky i) (vl i) (stp P g)))
 (hp:pr=C7 (cnd P g):=by kernel_rfl) (c:An4 (stp P g)=some ⟨cl,last,seen,es⟩:=by kernel_rfl):KG S P F g:=by
 refine⟨Eb hS hc ?_ hp⟩;replace d:=fun x=>(d x).out;replace f:=fun i a b=>(f i a b).out;generalize stp P g=g1 at d f c;unfold An4 at c;split at c
 .rename_i all o rest K st;split at c
  .rename_i x s m;split at c
   .rename_i j hx;split at c
    .rename_i cl' last' seen' jm n;split at c
     .rename_i es' hm;cases c;simp only[An5,An6,m,hx,n,hm,Es]at d f;refine AH hS s ?_;unfold wOp;rw[m];exact⟨j,cl,last,seen,jm,es,hx,n,hm,h1,r,d,fun i q hs=>by rw[l i q];exact f i q hs⟩
     cases c
    cases c
   cases c
  cases c
 cases c
structure EntVI where
 last:Nat
 i:Nat
 es:List (PV×PV)
def An8:Cfg->Option EntVI
 |.ops all (o::rest) K st=>match AG all st.env o,o.op with
  |some true,.entry x=>match aev st.env x with
   |.reg j 0=>match A2 st.regs j with
    |some (.blk (1::_::last::i::_) jm)=>match A2 st.regs jm with
     |some (.map es)=>some ⟨last,i,es⟩
     |_=>none
    |_=>none
   |_=>none
  |_,_=>none
 |_=>none
def An9 (ky vl:PV):Cfg->Cfg
 |.ops all (o::rest) K st=>VR o.dst (.tup [.p ky,.p vl]) st.env st.regs fun st=>.ops all rest K st
 |g=>g
theorem Ao0 (hS:G1 S P)(hc:pr)(d:Nat){last i:Nat}{es:List (PV×PV)}(h1:last=es.length)(f:i<es.length)(ky vl:PV)(b:es.getD i default=(ky,vl))(hk:KG S P F (An9 ky vl (Gj P d g)))
 (hp:pr=C7 (Ae0 P d g):=by kernel_rfl) (a:An8 (Gj P d g)=some ⟨last,i,es⟩:=by kernel_rfl):KG S P F g:=by
 refine⟨(Fo (u:=some d) (F:=F) hS 400 [] g (by subst hp;exact hc)).2 ?_⟩;have hk:=hk.out;show G S P F (Gj P d g);generalize Gj P d g=g1 at hk a;unfold An8 at a;split at a
 .rename_i all o rest K st;split at a
  .rename_i x l m;split at a
   .rename_i j hx;split at a
    .rename_i cl' last' i' seen' jm n;split at a
     .rename_i es' hm;cases a;simp only[An9,Es]at hk;refine AH hS l ?_;refine IP (c:=[last=es.length/\i<es.length]) (v:=.tup [.p ky,.p vl]) (R':=st.regs) ?_ ⟨h1,f⟩ hk;rw[m];simp only[aop,hx,n,hm,b]
     cases a
    cases a
   cases a
  cases a
 cases a
theorem Ao1 (hS:G1 S P)(hc:pr)(n:Nat)(Pr:Nat->Prop)(s:List Nat->St){ids:List (Nat×Nat)}
 (f:∀(X:Type) (s' : X->St) (J:X->Prop) (m:X->Nat) (k:Nat) (seen:List Nat),(∀i∈seen,i<n/\Pr i) ->
  (∀(g' : Cfg) (ids:List (Nat×Nat)) (pr:Prop) (i:Nat),pr->i<n->i ∉ seen->Pr i->(hp:pr=C7 (cnd P g'):=by kernel_rfl)->(c:stp P g' = .pop .normal (.lp X s' J m k::(stp P g).k) (stp P g').st:=by kernel_rfl)->(hle:KLe ids (stp P g').st (s (i::seen)):=by exact kl)->KG S P F g') ->
  KG S P F (.code (NV (stp P g)) (.lp X s' J m k::(stp P g).k) (s seen)))
 (hp:pr=C7 (cnd P g):=by kernel_rfl) (hl:GL (stp P g)=true:=by kernel_rfl) (hle:KLe ids (stp P g).st (s []):=by exact kl):KG S P F g:=by
 refine⟨Eb hS hc ?_ hp⟩;rw[Qi hl];refine Ut hS s (fun seen=>∀i∈seen,i<n/\Pr i) (fun seen=>((List.range n).filter fun i=>!seen.contains i).length) [] ids hle.out (fun i b=>by cases b) fun seen d=>?_;refine (f (List Nat) s _ _ _ seen d fun g' ids pr i hc b hs j hp c hle=>⟨Eb hS hc ?_ hp⟩).out;rw[c];refine Ti hS (i::seen) ids hle.out (fun q a=>?_) ?_
 .rcases Au2.1 a with rfl|a
  .exact⟨b,j⟩
  exact d q a
 refine filter_lt (fun q=>!seen.contains q) (fun q=>!(i::seen).contains q) (fun q a=>?_) i ?_ ?_ (List.range n) (AA5.2 b)
 .simp only[At3,Au9,decide_eq_false_iff_not,Au2,not_or]at a⊢;exact a.2
 .simpa using hs
 simp
end
end Go.AM
namespace Go.AM
section
variable {S:S6}{P:Program}{pr:Prop}{sc:SC}{k:Env->C6->Prop}
def Ag4:AV->Bool
 |.vec _ | .vecp _ _=>false
 |_=>true
theorem Mj {R:C6}:∀{l:List AV},l.all Ag4=true->GC R l=some (l,R)
 |[],_=>rfl
 |a::r,h=>by simp only[Az2,Ar7]at h;simp only[GC,Mj h.2];cases a<;>first|rfl|exact Eu h.1 (by simp[Ag4])
theorem MV {ids:List Nat}{R R2:C6}:∀{l:List Nat},(∀j∈l,A2 R2 j=A2 R j)->J6 ids R2 l=J6 ids R l
 |[],_=>rfl
 |j::l,h=>by simp only[J6,h j (by simp),MV (l:=l) fun q a=>h q (by simp[a])]
theorem Fc {q:Nat}:∀{ids:List Nat}{ks:List Bool}{R:C6},q ∉ ids->A2 (I9 ids ks R) q=A2 R q
 |[],ks,R,_=>by cases ks<;>rfl
 |j::ids,[],R,h=>by simp only[Au2,not_or]at h;simp only[I9];rw[Fc h.2,M4,Ec (Au8 h.1)]
 |j::ids,b::ks,R,h=>by
  simp only[Au2,not_or]at h;simp only[I9];split
  .exact Fc h.2
  rw[Fc h.2,M4,Ec (Au8 h.1)]
theorem Fz {q:Nat}:∀{ids:List Nat}{ks:List Bool}{A B:C6},A2 A q=A2 B q->A2 (I9 ids ks A) q=A2 (I9 ids ks B) q
 |[],ks,A,B,h=>by cases ks<;>exact h
 |j::ids,[],A,B,h=>by simp only[I9];exact Fz (by rw[M4,M4,h])
 |j::ids,b::ks,A,B,h=>by
  simp only[I9];split
  .exact Fz h
  exact Fz (by rw[M4,M4,h])
def Qs (ids:List Nat)(ks:List Bool)(n:Nat)(sc:SC):Bool:=match sc.cls,sc.rest with
 |.a js::_,o::_=>match o.op with
  |.call c=>((c.args.toList.map (aev sc.env)).all Ag4&&ids.all fun q=>js.contains q)&&(((G4 (o.dst.getD 0) ids ks n).all fun q=>js.contains q)&&((List.range n).all fun p=>js.contains (nid (o.dst.getD 0) p))&&U1 sc.regs ids ks (o.dst.getD 0) n)
  |_=>false
 |_,_=>false
theorem Qt (ids:List Nat)(hc:pr){fn:FuncId}{args:List AV}{objs objs' : List Obj}{r:AV}{ks:List Bool}(hF:FunO S fn args objs r objs' ks)(hk:DG S P (MR ids ks r objs' (Bt P sc)) k)
 (hp:pr=C7 (Pq P sc):=by kernel_rfl) (b:MO ids (Bt P sc)=some (fn,args,objs):=by kernel_rfl) (hn:Qs ids ks objs'.length (Bt P sc)=true:=by kernel_rfl):DG S P sc k:=by
 refine⟨Xo hc ?_ hp⟩;replace hk:=hk.out;generalize Bt P sc=s at b hn hk;obtain⟨all,cls,rest,env,regs,kn⟩:=s;cases rest with
 |nil=>simp[MO]at b
 |cons o rest=>
  simp only[MO]at b;split at b
  .rename_i c hg t;split at b
   .rename_i f u;split at b
    .rename_i as regs1 ha;split at b
     .rename_i fn' as' hw;split at b
      .rename_i a0 ob0 hr v;split at b
       .rename_i i;cases b;simp only[Ar7]at i;cases cls with
        |nil=>simp[Qs]at hn
        |cons cl cls=>
         cases cl with
         |a js=>
          simp only[Qs,t,Ar7]at hn;obtain⟨⟨l,w⟩,⟨x,y⟩,m⟩:=hn;rw[Mj l]at ha;cases ha;simp only[MR,t,Mj l,Dw,Ax4]at hk;have d:∀q∈ids,q∈js:=fun q g=>by simpa using As3.1 w q g
          have n:∀q,q ∉ js->q ∉ G4 (o.dst.getD 0) ids ks objs'.length:=fun q g h=>g (by simpa using As3.1 x q h);refine⟨true,hg,?_⟩;rw[Dz rfl];refine⟨_,_,.inr (.inr (.inr (.inr ⟨js,rfl,fun q g=>?_,fun R2 z=>?_⟩))),hk⟩
          .rw[HE (n q g),Fc fun h=>g (d q h)]
          refine⟨_,.inl ⟨c,f,_,R2,fn,as',args,objs,objs',ks,r,ids,t,u,Mj l,hw,hr,(MV fun j hj=>z j (d j hj)).trans v,hF,i.1,i.2,?_,rfl,rfl⟩,fun q g=>MP (Fz (z q g)),fun q g=>(HE (n q g)).trans (Fc fun h=>g (d q h))⟩;unfold U1 at m⊢;rw[As3]at m⊢;intro p hp;have h1:=m p hp;have h3:nid (o.dst.getD 0) p∈js:=by simpa using As3.1 y p hp
          rw[z _ h3];exact h1
         |_=>simp[Qs]at hn
       cases b
      cases b
     cases b
    cases b
   cases b
  cases b
end
end Go.AM
