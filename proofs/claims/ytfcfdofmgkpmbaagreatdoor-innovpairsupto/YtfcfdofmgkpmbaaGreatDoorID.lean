/- What a law's walk and its plain proof need, part 4: no condition of its own. -/
import Derived.Test.YtfcfdofmgkpmbaaGreatDoorIC
import Derived.KernelRfl
set_option linter.defProp false
set_option linter.unusedSimpArgs false
set_option linter.unusedVariables false
set_option linter.unusedSectionVars false
namespace Go.AM
def ZR:=@Nat.le_of_ble_eq_true
def Aa9:=@List.range_succ
def Ab6:=@List.mem_singleton
def Ah2:=@List.tail_cons
section
variable (P:Program)
def stp (g:Cfg):Cfg:=(run P none 400 [] g).cfg
def cnd (g:Cfg):List Prop:=(run P none 400 [] g).conds
def DT (d:Nat)(g:Cfg):Cfg:=(run P (some d) 400 [] g).cfg
def Xo (d:Nat)(g:Cfg):List Prop:=(run P (some d) 400 [] g).conds
def Cfg.st:Cfg->St
 |.code _ _ s=>s
 |.ops _ _ _ s=>s
 |.pop _ _ s=>s
def Cfg.k:Cfg->List It
 |.code _ K _=>K
 |.ops _ _ K _=>K
 |.pop _ K _=>K
def mkO {R:Type _}(env:Env)(regs:B9)(κ : Env->B9->R):R:=fE env fun env=>fR regs fun regs=>κ env regs
theorem CB {R:Type _}(env:Env)(regs:B9)(κ : Env->B9->R):mkO env regs κ = κ env regs:=by simp only[mkO,fE_eq,VW]
def VB {R:Type _}(d:Option Nat)(a:AV)(env:Env)(regs:B9)(κ : St->R):R:=match d with
 |some d=>mkO (ins d a env) regs fun env regs=>κ ⟨env,regs⟩
 |none=>mkO env regs fun env regs=>κ ⟨env,regs⟩
theorem GU {R:Type _}(d:Option Nat)(a:AV)(env:Env)(regs:B9)(κ : St->R):VB d a env regs κ = κ (put ⟨env,regs⟩ d a):=by cases d<;>simp only[VB,CB,put]
def UI:Cfg->Option Bool
 |.code (.cond c _ _) _ st=>match aev st.env c with
  |.p (.bb b)=>some b
  |_=>none
 |_=>none
def Wz:Cfg->Cfg
 |.code (.cond _ t _) K st=>.code t K st
 |g=>g
def WA:Cfg->Cfg
 |.code (.cond _ _ e) K st=>.code e K st
 |g=>g
def Qt:Cfg->Option Bool
 |.ops all (o::_) _ st=>match o.guard with
  |some (j,_)=>match Xw all j with
   |some d=>match get st.env d with
    |.p (.bb b)=>some b
    |_=>none
   |none=>none
  |none=>none
 |_=>none
def IS (b:Bool):Cfg->Cfg
 |.ops all (o::rest) K st=>match o.guard with
  |some (j,_)=>match Xw all j with
   |some d=>VB (some d) (.p (.v (.bool b))) st.env st.regs fun st=>.ops all (o::rest) K st
   |none=>.ops all (o::rest) K st
  |none=>.ops all (o::rest) K st
 |g=>g
def Ry (ids:List Nat):Cfg->Option (FuncId×List AV×List Obj)
 |.ops all (o::_) _ st=>match AS all st.env o,o.op with
  |some true,.call c=>match c.callee with
   |.value f=>match JQ st.regs (c.args.toList.map (aev st.env))with
    |some (as,regs)=>match OM st.env f as with
     |some (fn,as')=>match Bf ids as',I1 ids regs ids with
      |some a,some ob=>if E7 ids&&Cs ob then some (fn,a,ob)else none
      |_,_=>none
     |none=>none
    |none=>none
   |_=>none
  |_,_=>none
 |_=>none
def Rz (ids:List Nat)(ks:List Bool)(n:Nat):Cfg->Bool
 |.ops _ (o::_) _ st=>match o.op with
  |.call c=>match JQ st.regs (c.args.toList.map (aev st.env))with
   |some (_,regs)=>Bh regs ids ks (o.dst.getD 0) n
   |none=>false
  |_=>false
 |_=>false
def UJ (ids:List Nat)(ks:List Bool)(r:AV)(objs' : List Obj):Cfg->Cfg
 |.ops all (o::rest) K st=>match o.op with
  |.call c=>match JQ st.regs (c.args.toList.map (aev st.env))with
   |some (_,regs)=>VB o.dst (unA (K6 (o.dst.getD 0) ids ks objs'.length) r) st.env
    (RZ (K6 (o.dst.getD 0) ids ks objs'.length) (K6 (o.dst.getD 0) ids ks objs'.length) objs' (K7 ids ks regs)) fun st=>.ops all rest K st
   |none=>.ops all (o::rest) K st
  |_=>.ops all (o::rest) K st
 |g=>g
structure LookI where
 kt:TypeId
 e:TypeId
 key:PV
 es:List (PV×PV)
def WB:Cfg->Option LookI
 |.ops all (o::_) _ st=>match AS all st.env o,o.op with
  |some true,.lookup t m k _=>match FE st.regs (aev st.env k),aev st.env m with
   |some (key,regs),.mref j=>match A3 regs j,tk P t with
    |some (.map es),some (.map kt e)=>if HO P kt key then some ⟨kt,e,key,es⟩else none
    |_,_=>none
   |_,_=>none
  |_,_=>none
 |_=>none
def XW (e:TypeId):Option PV->Option (PV×Bool)
 |some x=>some (x,true)
 |none=>(Io P e).map fun z=>(z,false)
def WC (x:PV)(b:Bool):Cfg->Cfg
 |.ops all (o::rest) K st=>match o.op with
  |.lookup _ _ k ok=>match FE st.regs (aev st.env k)with
   |some (_,regs)=>VB o.dst (if ok then .tup [.p x,.bool b]else .p x) st.env regs fun st=>.ops all rest K st
   |none=>.ops all (o::rest) K st
  |_=>.ops all (o::rest) K st
 |g=>g
def updE:Cfg->Option (TypeId×PV×PV×List (PV×PV))
 |.ops all (o::_) _ st=>match AS all st.env o,o.op with
  |some true,.mapUpdate t m k x=>match aev st.env k,aev st.env m,FE st.regs (aev st.env x)with
   |.p key,.mref j,some (y,regs)=>match A3 regs j,tk P t with
    |some (.map es),some (.map kt _)=>if HO P kt (nP key) then some (kt,nP key,y,es)else none
    |_,_=>none
   |_,_,_=>none
  |_,_=>none
 |_=>none
def updK (es' : List (PV×PV)):Cfg->Cfg
 |.ops all (o::rest) K st=>match o.op with
  |.mapUpdate _ m _ x=>match aev st.env m,FE st.regs (aev st.env x)with
   |.mref j,some (_,regs)=>VB o.dst QT st.env (ins j (.map es') regs) fun st=>.ops all rest K st
   |_,_=>.ops all (o::rest) K st
  |_=>.ops all (o::rest) K st
 |g=>g
def FY:Cfg->Bool
 |.code (.loop _) _ _=>true
 |_=>false
def NI:Cfg->Code
 |.code (.loop b) _ _=>b
 |_=>.skip
def popSt:Cfg->Option St
 |.pop .normal _ st=>some st
 |_=>none
def NJ (M:It):Nat->List It->List It
 |0,K=>M::K
 |n+1,i::K=>i::NJ M n K
 |_+1,[]=>[M]
def XX (n:Nat)(M:St->Prop):Cfg->Cfg
 |.code c K st=>.code c (NJ (.mid M) n K) st
 |.ops all rest K st=>.ops all rest (NJ (.mid M) n K) st
 |.pop e K st=>.pop e (NJ (.mid M) n K) st
def DU:Cfg->Bool
 |.ops _ (_::_) _ _=>true
 |_=>false
def opsS (st:St):Cfg->Cfg
 |.ops all rest K _=>.ops all rest K st
 |g=>g
def WD:Cfg->Option St
 |.pop .ret [] st=>some st
 |.pop .normal [] st=>some st
 |_=>none
inductive Leaf where
 |eq (x y:PV)
 |fn (n m:Nat) (f g:Nat->List PV)
 |mp (x y:List (PV×PV))
 |yl (x y:List (List PV)) (b c:Bool)
 |nt (a b:Nat)
 |ob (n:Nat) (f g:Nat->Obj)
inductive LV where
 |eq (x:PV)
 |fn (n:Nat) (f:Nat->List PV)
 |mp (x:List (PV×PV))
 |yl (x:List (List PV)) (b:Bool)
 |nt (a:Nat)
 |ob (f:Nat->Obj)
def Leaf.src:Leaf->LV
 |.eq x _=>.eq x
 |.fn n _ f _=>.fn n f
 |.mp x _=>.mp x
 |.yl x _ b _=>.yl x b
 |.nt a _=>.nt a
 |.ob _ f _=>.ob f
def Leaf.tgt:Leaf->LV
 |.eq _ y=>.eq y
 |.fn _ m _ g=>.fn m g
 |.mp _ y=>.mp y
 |.yl _ y _ c=>.yl y c
 |.nt _ b=>.nt b
 |.ob _ _ g=>.ob g
def Leaf.ok:Leaf->Prop
 |.eq x y=>x=y
 |.fn n m f g=>n=m/\∀i,i<n->f i=g i
 |.mp x y=>x=y
 |.yl x y b c=>x=y/\b=c
 |.nt a b=>a=b
 |.ob n f g=>∀i,i<n->f i=g i
theorem Leaf.ok_of {l:Leaf}(h:l.src=l.tgt):l.ok:=by
 cases l with
 |eq x y=>simp only[Leaf.src,Leaf.tgt,LV.eq.injEq]at h;exact h
 |fn n m f g=>simp only[Leaf.src,Leaf.tgt,LV.fn.injEq]at h;obtain⟨rfl,rfl⟩:=h;exact⟨rfl,fun _ _=>rfl⟩
 |mp x y=>simp only[Leaf.src,Leaf.tgt,LV.mp.injEq]at h;exact h
 |yl x y b c=>simp only[Leaf.src,Leaf.tgt,LV.yl.injEq]at h;exact h
 |nt a b=>simp only[Leaf.src,Leaf.tgt,LV.nt.injEq]at h;exact h
 |ob n f g=>simp only[Leaf.src,Leaf.tgt,LV.ob.injEq]at h;subst h;exact fun _ _=>rfl
def WE:PV->PV->Leaf
 |.v (.bool b),.bb c=>.eq (.bb b) (.bb c)
 |.v (.slice none 0 0),.sl false _ n f=>.fn 0 n f f
 |.sl nn k n f,.sl false l m g=>if k=l then .fn n m f g else .eq (.sl nn k n f) (.sl false l m g)
 |x,y=>.eq x y
mutual
def FZ (regs:B9)(ids:List (Nat×Nat))(a b:AV):Option (List Leaf):=
 match b with
 |.top=>some []
 |.p y=>match viewP regs a with
  |some x=>some [WE x y]
  |none=>none
 |.reg j off=>match a with | .reg i off'=>if lk ids j=some i/\off=off' then some []else none|_=>none
 |.vec j=>match a with
  |.vec i=>if lk ids j=some i then some []else none
  |.p (.v (.slice none 0 0))=>if lk ids j=none then some []else none
  |_=>none
 |.vecp j n=>match a with | .vecp i m=>if lk ids j=some i/\n=m then some []else none|_=>none
 |.elt j k n off=>match a with | .elt i k' n' off'=>if lk ids j=some i/\k=k' /\ n=n' /\ off=off' then some []else none|_=>none
 |.mref j=>match a with | .mref i=>if lk ids j=some i then some []else none|_=>none
 |.yf j=>match a with | .yf i=>if lk ids j=some i then some []else none|_=>none
 |.clo f x y=>match a with
  |.clo f' x' y'=>match Kb regs ids x' x,Kb regs ids y' y with|some l,some m=>some (.nt f' f::l++m)|_,_=>none
  |_=>none
 |.tup l=>match a with | .tup l'=>Kb regs ids l' l|_=>none
 |.agr l=>match a with | .agr l'=>Kb regs ids l' l|_=>none
def Kb (regs:B9)(ids:List (Nat×Nat))(a b:List AV):Option (List Leaf):=
 match b with
 |[]=>match a with | []=>some [] | _=>none
 |y::s=>match a with
  |x::r=>match FZ regs ids x y,Kb regs ids r s with|some l,some m=>some (l++m)|_,_=>none
  |[]=>none
end
def UK (regs:B9)(ids:List (Nat×Nat))(env:Env):Env->Option (List Leaf)
 |[]=>some []
 |(t,b)::r=>match FZ regs ids (get env t) b,UK regs ids env r with|some l,some m=>some (l++m)|_,_=>none
def Kc (regs:B9)(ids:List (Nat×Nat))(o p:Obj):Option (List Leaf):=
 match p with
 |.cells cs=>match o with | .cells cs'=>Kb regs ids cs' cs|_=>none
 |.vec e k n f vw=>match o with
  |.vec e' k' m g vw'=>if e=e' /\ k=k' /\ (vw' = true->vw=true)then some [.fn m n g f]else none
  |_=>none
 |.map es=>match o with | .map es'=>some [.mp es' es] | _=>none
 |.arr n f=>match o with | .arr m g=>some [.fn m n (fun i=>[g i]) (fun i=>[f i])] | _=>none
 |.ghost cs=>match o with | .ghost cs'=>Kb regs ids cs' cs|_=>none
 |.yld r b=>match o with | .yld r' b'=>some [.yl r' r b' b] | _=>none
 |.fam e n jr x=>match o with
  |.fam e' m jr' x'=>if e=e' /\ lk ids jr=some jr' then (match x,x' with
   |none,none=>some [.nt m n]
   |some (i,a),some (i',a')=>match nov a' a,FZ regs ids a' a with
    |true,some l=>some (.nt m n :: .nt i' i::l)
    |_,_=>none
   |_,_=>none)else none
  |_=>none
 |.rows n g=>match o with | .rows m g'=>some [.nt m n,.ob n g' g] | _=>none
 |.dead=>some []
def UL (regs:B9)(ids:List (Nat×Nat)):B9->Option (List Leaf)
 |[]=>some []
 |(j,p)::r=>match (match lk ids j with
  |some i=>match A3 regs i with
   |some o=>Kc regs ids o p
   |none=>none
  |none=>match p with
   |.vec _ _ n f _=>some [.fn 0 n f f]
   |_=>none:Option (List Leaf)),UL regs ids r with
  |some l,some m=>some (l++m)
  |_,_=>none
def leK (ids:List (Nat×Nat))(s t:St):Option (List Leaf):=
 if (wf t&&E7 (ids.map (·.2))&&QU ids&&KL ids t.regs&&Ho ids (TV s.env t.env++FJ ids s.regs t.regs) t.regs) then
  match UK s.regs ids s.env t.env,UL s.regs ids t.regs with
  |some l,some m=>some (l++m)
  |_,_=>none
 else none
theorem UM {x y:PV}(h:(WE x y).ok):leP x y:=by
 unfold WE at h;split at h
 ·simp only[Leaf.ok,PV.bb.injEq]at h;subst h;exact .inr (.inr (.inr (.inl ⟨_,rfl,rfl⟩)))
 ·obtain⟨rfl,_⟩:=h;exact .inr (.inr (.inl ⟨_,_,rfl,rfl⟩))
 ·split at h
  ·rename_i hk;subst hk;obtain⟨rfl,h⟩:=h;exact .inr (.inl ⟨_,_,_,_,_,rfl,rfl,h⟩)
  ·exact .inl h
 ·exact .inl h
theorem IT {l m:List Leaf}(h:∀x∈l++m,x.ok):(∀x∈l,x.ok)/\∀x∈m,x.ok:=
 ⟨fun x hx=>h x (Zk _ hx),fun x hx=>h x (Zd _ hx)⟩
mutual
theorem LU {regs:B9}{ids:List (Nat×Nat)}{a:AV}(b:AV){L:List Leaf}(h:FZ regs ids a b=some L)(hL:∀x∈L,x.ok):leA regs ids a b:=by
 cases b with
 |top=>unfold leA;trivial
 |p y=>
  unfold FZ at h;split at h
  ·rename_i x hx;cases h;unfold leA;exact⟨x,hx,UM (hL _ (by simp))⟩
  ·cases h
 |reg j off=>
  unfold FZ at h;split at h
  ·split at h
   ·rename_i hh;obtain⟨h1,rfl⟩:=hh;exact Xz h1
   ·cases h
  ·cases h
 |vec j=>
  unfold FZ at h;split at h
  ·split at h
   ·rename_i h1;exact Xy h1
   ·cases h
  ·split at h
   ·rename_i h1;exact Wa h1
   ·cases h
  ·cases h
 |vecp j n=>
  unfold FZ at h;split at h
  ·split at h
   ·rename_i hh;obtain⟨h1,rfl⟩:=hh;unfold leA;exact⟨_,h1,rfl⟩
   ·cases h
  ·cases h
 |elt j k n off=>
  unfold FZ at h;split at h
  ·split at h
   ·rename_i hh;obtain⟨h1,rfl,rfl,rfl⟩:=hh;unfold leA;exact⟨_,h1,rfl⟩
   ·cases h
  ·cases h
 |mref j=>
  unfold FZ at h;split at h
  ·split at h
   ·rename_i h1;exact Wb h1
   ·cases h
  ·cases h
 |yf j=>
  unfold FZ at h;split at h
  ·split at h
   ·rename_i h1;exact le_yf h1
   ·cases h
  ·cases h
 |clo f x y=>
  unfold FZ at h;split at h
  ·split at h
   ·rename_i l m h1 h2;cases h;have hf:=hL _ (ZX ..);simp only[Leaf.ok]at hf;subst hf;obtain⟨h3,h4⟩:=IT fun x hx=>hL x (Zi _ hx);exact XA (CP x h1 h3) (CP y h2 h4)
   ·cases h
  ·cases h
 |tup l=>
  unfold FZ at h;split at h
  ·exact XT (CP l h hL)
  ·cases h
 |agr l=>
  unfold FZ at h;split at h
  ·exact XU (CP l h hL)
  ·cases h
theorem CP {regs:B9}{ids:List (Nat×Nat)}{a:List AV}(b:List AV){L:List Leaf}(h:Kb regs ids a b=some L)(hL:∀x∈L,x.ok):leL regs ids a b:=by
 cases b with
 |nil=>
  unfold Kb at h;split at h
  ·exact Wc
  ·cases h
 |cons y s=>
  unfold Kb at h;split at h
  ·split at h
   ·rename_i l m h1 h2;cases h;obtain⟨h3,h4⟩:=IT hL;exact TY (LU y h1 h3) (CP s h2 h4)
   ·cases h
  ·cases h
end
theorem Qu {regs:B9}{ids:List (Nat×Nat)}{env:Env}:∀(t:Env) {L:List Leaf},UK regs ids env t=some L->(∀x∈L,x.ok)->Sn regs ids env t
 |[],_,_,_=>trivial
 |(t,b)::r,L,h,hL=>by
  simp only[UK]at h;split at h
  ·rename_i l m h1 h2;cases h;obtain⟨h3,h4⟩:=IT hL;exact⟨LU b h1 h3,Qu r h2 h4⟩
  ·cases h
theorem UN {regs:B9}{ids:List (Nat×Nat)}{o p:Obj}{L:List Leaf}(h:Kc regs ids o p=some L)(hL:∀x∈L,x.ok):leO regs ids o p:=by
 cases p with
 |cells cs=>
  simp only[Kc]at h;split at h
  ·exact TZ (CP cs h hL)
  ·cases h
 |vec e k n f vw=>
  simp only[Kc]at h;split at h
  ·split at h
   ·rename_i hh;obtain⟨rfl,rfl,hv⟩:=hh;cases h;obtain⟨rfl,h1⟩:=hL _ (Ab6.2 rfl);exact⟨_,_,rfl,h1,hv⟩
   ·cases h
  ·cases h
 |map es=>
  simp only[Kc]at h;split at h
  ·cases h
   have:=hL _ (Ab6.2 rfl)
   simp only[Leaf.ok]at this;subst this;rfl
  ·cases h
 |arr n f=>
  simp only[Kc]at h;split at h
  ·cases h;obtain⟨rfl,h1⟩:=hL _ (Ab6.2 rfl);exact⟨_,rfl,fun i hi=>by simpa using h1 i hi⟩
  ·cases h
 |ghost cs=>
  simp only[Kc]at h;split at h
  ·exact⟨_,rfl,CP cs h hL⟩
  ·cases h
 |yld r b=>
  simp only[Kc]at h;split at h
  ·cases h;obtain⟨rfl,rfl⟩:=hL _ (Ab6.2 rfl);rfl
  ·cases h
 |fam e n jr x=>
  simp only[Kc]at h;split at h
  ·split at h
   ·rename_i he;obtain⟨rfl,hj⟩:=he;split at h
    ·cases h;have h0:=hL _ (ZX ..);simp only[Leaf.ok]at h0;subst h0;exact⟨_,_,rfl,hj,rfl⟩
    ·split at h
     ·rename_i hn hl;cases h;have h0:=hL _ (ZX ..);have h1:=hL _ (Zi _ (ZX ..));simp only[Leaf.ok]at h0 h1;subst h0 h1;exact⟨_,_,rfl,hj,_,rfl,hn,LU _ hl fun x hx=>hL x (by simp[hx])⟩
     ·cases h
    ·cases h
   ·cases h
  ·cases h
 |rows n g=>
  simp only[Kc]at h;split at h
  ·cases h;have h0:=hL _ (ZX ..);simp only[Leaf.ok]at h0;subst h0;exact⟨_,rfl,hL (.ob _ _ _) (by simp)⟩
  ·cases h
 |dead=>trivial
theorem Qv {regs:B9}{ids:List (Nat×Nat)}:∀(t:B9) {L:List Leaf},UL regs ids t=some L->(∀x∈L,x.ok)->MZ regs ids t
 |[],_,_,_=>trivial
 |(j,p)::r,L,h,hL=>by
  simp only[UL]at h;split at h
  ·rename_i l m h1 h2;cases h;obtain⟨h3,h4⟩:=IT hL;refine⟨?_,Qv r h2 h4⟩;split at h1
   ·rename_i i hi;split at h1
    ·rename_i o ho;exact .inl ⟨i,o,hi,ho,UN h1 h3⟩
    ·cases h1
   ·rename_i hi;split at h1
    ·cases h1;obtain⟨rfl,_⟩:=h3 _ (Ab6.2 rfl);exact .inr ⟨hi,_,_,_,_,rfl⟩
    ·cases h1
  ·cases h
theorem VC {ids:List (Nat×Nat)}{s t:St}{L:List Leaf}(h:leK ids s t=some L)(hL:∀x∈L,x.ok):Le ids s t:=by
 unfold leK at h;split at h
 ·rename_i hw;split at h
  ·rename_i l m h1 h2;cases h;obtain⟨h3,h4⟩:=IT hL;exact le_mk hw (Qu _ h1 h3) (Qv _ h2 h4)
  ·cases h
 ·cases h
theorem kle {ids:List (Nat×Nat)}{s t:St}(h:(leK ids s t).map (·.map Leaf.src)=(leK ids s t).map (·.map Leaf.tgt):=by kernel_rfl)(h1:(leK ids s t).isSome=true:=by kernel_rfl):Le ids s t:=by
 obtain⟨L,hL⟩:=Zb.1 h1;rw[hL]at h;simp only[YW,YP]at h;refine VC hL fun x hx=>?_;obtain⟨i,hi,rfl⟩:=Aa6.1 hx
 have:=congrArg (·[i]?) h
 simp only[YS,YQ hi,YW,YP]at this;exact Leaf.ok_of this
def XY (is:List Nat)(f:Leaf->LV)(L:List Leaf):List (Option LV):=L.zipIdx.map fun q=>if is.contains q.2 then none else some (f q.1)
theorem kleR {ids:List (Nat×Nat)}{s t:St}(rs:List (Nat×Leaf))(hr:∀q∈rs,q.2.ok)(h:(leK ids s t).map (XY (rs.map (·.1)) Leaf.src)=(leK ids s t).map (XY (rs.map (·.1)) Leaf.tgt):=by kernel_rfl)
 (h2:(leK ids s t).map (fun L=>rs.map fun q=>L[q.1]?)=some (rs.map fun q=>some q.2):=by kernel_rfl):Le ids s t:=by
 cases hL:leK ids s t with
 |none=>rw[hL]at h2;cases h2
 |some L=>
  rw[hL]at h h2;simp only[YW,YP]at h h2;refine VC hL fun x hx=>?_;obtain⟨i,hi,rfl⟩:=Aa6.1 hx;by_cases hm:(rs.map (·.1)).contains i=true
  ·simp only[Zt,decide_eq_true_eq,Ae2]at hm;obtain⟨q,hq,rfl⟩:=hm;obtain⟨k,hk,rfl⟩:=Aa6.1 hq
   have:=congrArg (·[k]?) h2
   simp only[YS,YQ hk,YW,YP,YQ hi]at this;rw[this];exact hr _ hq
  ·have:=congrArg (·[i]?) h
   simp only[XY,YS,List.getElem?_zipIdx,YQ hi,YW,ZG,hm,YP]at this;exact Leaf.ok_of (by simpa using this)
end
section
variable {P:Program}
variable {S:X8}{F:J0}{g:Cfg}{pr:Prop}
theorem DH (hS:F6 S P)(hc:pr)(h:G S P F (stp P g))(hp:pr=C4 (cnd P g):=by kernel_rfl):G S P F g:=
 (DL (F:=F) hS 400 [] g (by subst hp;exact hc)).2 h
theorem XZ (hS:F6 S P)(hc:pr){b:Bool}(ht:b=true->G S P F (Wz (stp P g)))(hf:b=false->G S P F (WA (stp P g)))(hp:pr=C4 (cnd P g):=by kernel_rfl)(hb:UI (stp P g)=some b:=by kernel_rfl):G S P F g:=by
 refine DH hS hc ?_ hp;generalize stp P g=g' at hb ht hf;unfold UI at hb;split at hb
 ·split at hb
  ·rename_i hc;cases hb;exact Xv hc ht hf
  ·cases hb
 ·cases hb
theorem WF (hS:F6 S P)(hc:pr){b:Bool}(ht:b=true->G S P F (IS true (stp P g)))(hf:b=false->G S P F (IS false (stp P g)))(hp:pr=C4 (cnd P g):=by kernel_rfl)(hb:Qt (stp P g)=some b:=by kernel_rfl):G S P F g:=by
 refine DH hS hc ?_ hp;generalize stp P g=g' at hb ht hf;unfold Qt at hb;split at hb
 ·split at hb
  ·rename_i hg;split at hb
   ·rename_i hd;split at hb
    ·rename_i hbb;cases hb;simp only[IS,hg,hd,GU,put]at ht hf;exact VY hS hg hd hbb ht hf
    ·cases hb
   ·cases hb
  ·cases hb
 ·cases hb
theorem Ya (hS:F6 S P)(ids:List Nat)(hc:pr){fn:FuncId}{args:List AV}{objs objs' : List Obj}{r:AV}{ks:List Bool}(hF:FunO S fn args objs r objs' ks)
 (hk:G S P F (UJ ids ks r objs' (stp P g))) (hp:pr=C4 (cnd P g):=by kernel_rfl) (he:Ry ids (stp P g)=some (fn,args,objs):=by kernel_rfl) (hn:Rz ids ks objs'.length (stp P g)=true:=by kernel_rfl):G S P F g:=by
 refine DH hS hc ?_ hp;generalize stp P g=g' at he hn hk;unfold Ry at he;split at he
 ·split at he
  ·rename_i hg ho;split at he
   ·rename_i hcl;split at he
    ·rename_i ha;split at he
     ·rename_i hw;split at he
      ·rename_i hr hob;split at he
       ·rename_i hdy;cases he;simp only[YR]at hdy;simp only[UJ,Rz,ho,ha,GU]at hk hn;exact VZ hS ids hg ho hcl ha hw hr hob hF hdy.1 hdy.2 hn hk
       ·cases he
      ·cases he
     ·cases he
    ·cases he
   ·cases he
  ·cases he
 ·cases he
theorem UO (hS:F6 S P)(hc:pr){kt e:TypeId}{key:PV}{es:List (PV×PV)}{x:PV}{b:Bool}{fd:Option PV}
 (hf:find (JV P kt) key es=some fd) (hcc:C4 (Ly P kt))
 (hk:G S P F (WC x b (stp P g))) (hp:pr=C4 (cnd P g):=by kernel_rfl) (he:WB P (stp P g)=some ⟨kt,e,key,es⟩:=by kernel_rfl) (hx:XW P e fd=some (x,b):=by kernel_rfl):G S P F g:=by
 refine DH hS hc ?_ hp;generalize stp P g=g' at he hk;unfold WB at he;split at he
 ·split at he
  ·rename_i hg ho;split at he
   ·rename_i hv hm;split at he
    ·rename_i hr ht;split at he
     ·rename_i hko;simp only[YP,LookI.mk.injEq]at he;obtain⟨rfl,rfl,rfl,rfl⟩:=he;simp only[WC,ho,hv,GU]at hk;cases fd with
      |some y=>exact Qs (fd:=some y) hS hg ho hv hm hr ht hko hf hx hcc hk
      |none=>exact Qs (fd:=none) hS hg ho hv hm hr ht hko hf hx hcc hk
     ·cases he
    ·cases he
   ·cases he
  ·cases he
 ·cases he
theorem UP (hS:F6 S P)(hc:pr){kt:TypeId}{key y:PV}{es es' : List (PV×PV)}
 (hu:upd (JV P kt) key y es=some es') (hcc:C4 (Ly P kt)) (hk:G S P F (updK es' (stp P g))) (hp:pr=C4 (cnd P g):=by kernel_rfl) (he:updE P (stp P g)=some (kt,key,y,es):=by kernel_rfl):G S P F g:=by
 refine DH hS hc ?_ hp;generalize stp P g=g' at he hk;unfold updE at he;split at he
 ·split at he
  ·rename_i hg ho;split at he
   ·rename_i h1 h2 hv;split at he
    ·rename_i hr ht;split at he
     ·rename_i hko;simp only[YP,Zj]at he;obtain⟨rfl,rfl,rfl,rfl⟩:=he;simp only[updK,ho,h2,hv,GU]at hk;exact Pl hS hg ho h1 hv h2 hr ht hko hu hcc hk
     ·cases he
    ·cases he
   ·cases he
  ·cases he
 ·cases he
theorem Yb (hS:F6 S P)(hc:pr)(st:St){ids:List (Nat×Nat)}(hk:G S P F (opsS st (stp P g)))(hp:pr=C4 (cnd P g):=by kernel_rfl)(ho:DU (stp P g)=true:=by kernel_rfl)(hle:Le ids (stp P g).st st:=by exact kle):G S P F g:=by
 refine DH hS hc ?_ hp;generalize stp P g=g' at ho hle hk;unfold DU at ho;split at ho
 ·exact Td hS st ids hle hk
 ·cases ho
end
section
variable {S:X8}{P:Program}{F:J0}{g:Cfg}{pr:Prop}
theorem Ga (hS:F6 S P){K1 K2:List It}(h:∀e s,kp S P K1 F e s->kp S P K2 F e s):∀(K:List It) (e:Ip) (s:St),kp S P (K++K1) F e s->kp S P (K++K2) F e s
 |[],e,s,hk=>h e s hk
 |.code c::K,e,s,hk=>by simp only[ZC,kp]at hk⊢;exact LT hS (fun t=>Y9 hS c (Ga hS h K)) (Ga hS h K) e s hk
 |.blk id::K,e,s,hk=>by
  simp only[ZC,kp]at hk⊢;cases e with
  |exit i=>
   simp only[blk]at hk⊢;split at hk
   ·rename_i hi;rw[if_pos hi];exact Ga hS h K _ _ hk
   ·rename_i hi;rw[if_neg hi];exact Ga hS h K _ _ hk
  |_=>exact Ga hS h K _ _ hk
 |.lp X s' J m n::K,e,s,hk=>by
  simp only[ZC,kp]at hk⊢;cases e with
  |normal=>exact hk
  |_=>exact Ga hS h K _ _ hk
 |.mid M::K,e,s,hk=>by simp only[ZC,kp]at hk⊢;exact LT hS (fun t h=>h) (Ga hS h K) e s hk
 |.scp::K,e,s,hk=>by
  simp only[ZC,kp]at hk⊢;cases e with
  |goto l=>exact hk
  |_=>exact Ga hS h K _ _ hk
theorem Qw (M:It):∀(n:Nat) (K:List It),n<=K.length->NJ M n K=K.take n++M::K.drop n
 |0,K,_=>by simp[NJ]
 |n+1,i::K,h=>by simp only[NJ,Ab1,List.drop_succ_cons,ZC,Qw M n K (by simpa using h)]
 |n+1,[],h=>by simp at h
theorem VD (hS:F6 S P)(hF:∀s,S.up s (F .normal)->F .normal s)(n:Nat)(hn:n<=g.k.length){M:St->Prop}(hM:∀t,M t->G S P F (.pop .normal (g.k.drop n) t))(h:G S P F (XX n M g)):G S P F g:=by
 have hk:∀e s,kp S P (NJ (.mid M) n g.k) F e s->kp S P g.k F e s:=by
  intro e s;rw[Qw _ _ _ hn]
  conv=>rhs;rw[<- Ac1 n g.k]
  exact Ga hS (XO hS hF hM) _ e s
 cases g with
 |code c K st=>exact Y9 hS c hk h
 |ops all rest K st=>exact DS hS hk rest h
 |pop e K st=>exact hk e st h
theorem J_cut (hS:F6 S P)(hc:pr)(hF:∀s,S.up s (F .normal)->F .normal s)(n:Nat)(s:St)
 (h1:∀(M:St->Prop),(∀(g' : Cfg) (ids:List (Nat×Nat)) (pr:Prop),pr->(hp:pr=C4 (cnd P g'):=by kernel_rfl)->(he:stp P g' = .pop .normal (.mid M::(stp P g).k.drop n) (stp P g').st:=by kernel_rfl)->(hle:Le ids (stp P g').st s:=by exact kle)->G S P F g')->G S P F (XX n M (stp P g)))
 (h2:G S P F (.pop .normal ((stp P g).k.drop n) s)) (hp:pr=C4 (cnd P g):=by kernel_rfl) (hn:Nat.ble n (stp P g).k.length=true:=by kernel_rfl):G S P F g:=by
 refine DH hS hc ?_ hp;refine VD hS hF n (ZR hn) (M:=fun t=>t=s) (fun t ht=>by subst ht;exact h2) (h1 _ fun g' ids pr hc hp he hle=>?_);refine DH hS hc ?_ hp;rw[he];exact hS.le ids _ _ _ hle rfl
theorem J_lt (hS:F6 S P)(hc:pr)(hF:∀s,S.up s (F .normal)->F .normal s){R A:Type}{f:(A->Option R)->Option R}{k0:A->Option R}{r:R}(h:lt k0 f=some r)(n:Nat)(s:A->St)
 (h1:∀(M:St->Prop) (k:A->Option R),(∀(g' : Cfg) (ids:List (Nat×Nat)) (pr:Prop) (a:A),pr->k a=some r->(hp:pr=C4 (cnd P g'):=by kernel_rfl)->(he:stp P g' = .pop .normal (.mid M::(stp P g).k.drop n) (stp P g').st:=by kernel_rfl)->(hle:Le ids (stp P g').st (s a):=by exact kle)->G S P F g')->f k=some r->G S P F (XX n M (stp P g)))
 (h2:∀a,k0 a=some r->G S P F (.pop .normal ((stp P g).k.drop n) (s a))) (hp:pr=C4 (cnd P g):=by kernel_rfl) (hn:Nat.ble n (stp P g).k.length=true:=by kernel_rfl):G S P F g:=by
 refine DH hS hc ?_ hp;refine VD hS hF n (ZR hn) (M:=fun t=>∃a,t=s a/\k0 a=some r) (fun t ⟨a,ht,hk⟩=>by subst ht;exact h2 a hk) (h1 _ k0 (fun g' ids pr a hc hk hp he hle=>?_) h);refine DH hS hc ?_ hp;rw[he];exact hS.le ids _ _ _ hle ⟨a,rfl,hk⟩
theorem Te {g:Cfg}(h:FY g=true):g=.code (.loop (NI g)) g.k g.st:=by
 unfold FY at h;split at h
 ·rfl
 ·cases h
theorem Yc (hS:F6 S P)(hc:pr){R A:Type}{body:(A->Option R)->A->Option R}{N:Nat}{a0:A}{r:R}(h:CA N body a0=some r)(s:A->St){ids:List (Nat×Nat)}
 (hr:∀(X:Type) (s' : X->St) (J:X->Prop) (m:X->Nat) (n:Nat) (self:A->Option R) (a:A),
  (∀(g' : Cfg) (ids:List (Nat×Nat)) (pr:Prop) (a:A),pr->self a=some r->(hp:pr=C4 (cnd P g'):=by kernel_rfl)->(he:stp P g' = .pop .normal (.lp X s' J m n::(stp P g).k) (stp P g').st:=by kernel_rfl)->(hle:Le ids (stp P g').st (s a):=by exact kle)->G S P F g') ->
  body self a=some r->G S P F (.code (NI (stp P g)) (.lp X s' J m n::(stp P g).k) (s a))) (hp:pr=C4 (cnd P g):=by kernel_rfl) (hl:FY (stp P g)=true:=by kernel_rfl) (hle:Le ids (stp P g).st (s a0):=by exact kle):G S P F g:=by
 refine DH hS hc ?_ hp;rw[Te hl];refine XR hS h s ids hle fun X s' J m n self a hb hbody=>hr X s' J m n self a (fun g' ids pr a hc hself hp he hle=>?_) hbody;refine DH hS hc ?_ hp;rw[he];exact hb _ _ _ hle hself
def Pm (P:Program)(st:St)(rs:List ResultVar)(outs:List Nat):Option (AV×List Obj):=match DK P st rs with
 |some l=>match MS outs (one l),I1 outs st.regs outs with
  |some a,some o=>if E7 outs then some (a,o)else none
  |_,_=>none
 |none=>none
theorem J_ret (hS:F6 S P)(hc:pr){n:Nat}{rs:List ResultVar}{Q:Iq->List Obj->List Bool->Prop}{a:AV}{objs:List Obj}(outs:List Nat)(hQ:Q (.ret a) objs (Ds n outs))(hp:pr=C4 (cnd P g):=by kernel_rfl)(he:(WD (stp P g)).bind (fun st=>Pm P st rs outs)=some (a,objs):=by kernel_rfl) :G S P (Aq S P n rs Q) g:=by
 refine DH hS hc ?_ hp;generalize stp P g=g' at he;obtain⟨st,h1,h2⟩:=Ab3.1 he;unfold Pm at h2;split at h2
 ·rename_i l hl;split at h2
  ·rename_i hr ho;split at h2
   ·rename_i hd;cases h2;unfold WD at h1;split at h1
    ·cases h1;exact hS.refl _ _ ⟨l,outs,a,objs,hl,hd,hr,ho,hQ⟩
    ·cases h1;exact hS.refl _ _ ⟨l,outs,a,objs,hl,hd,hr,ho,hQ⟩
    ·cases h1
   ·cases h2
  ·cases h2
 ·cases h2
theorem Yd (hS:F6 S P)(hc:pr){n:Nat}{rs:List ResultVar}{Q:Iq->List Obj->List Bool->Prop}{a:AV}{objs:List Obj}(st:St)(outs:List Nat){ids:List (Nat×Nat)}(hQ:Q (.ret a) objs (Ds n outs))(hp:pr=C4 (cnd P g):=by kernel_rfl)(he:(WD (stp P g)).isSome=true:=by kernel_rfl)(hle:Le ids (stp P g).st st:=by exact kle)(hr:Pm P st rs outs=some (a,objs):=by kernel_rfl) :G S P (Aq S P n rs Q) g:=by
 refine DH hS hc ?_ hp;generalize stp P g=g' at he hle;have h2:=hr;unfold Pm at h2;split at h2
 ·rename_i l hl;split at h2
  ·rename_i hr ho;split at h2
   ·rename_i hd;cases h2;unfold WD at he;split at he
    ·exact hS.le ids _ _ _ hle ⟨l,outs,a,objs,hl,hd,hr,ho,hQ⟩
    ·exact hS.le ids _ _ _ hle ⟨l,outs,a,objs,hl,hd,hr,ho,hQ⟩
    ·cases he
   ·cases h2
  ·cases h2
 ·cases h2
theorem WG (hS:F6 S P){f:FuncId}{fn:Func}{args:List AV}{objs objs' : List Obj}{ks:List Bool}{r:AV}(hf:P.funcs[f]? = some fn)
 (h:G S P (Aq S P objs.length fn.results.toList fun res o k=>res=.ret r/\o=objs' /\ k=ks) (.code (fn.body.getD .skip) [] { env:=argEnv args,regs:=objRegs objs }))
 (hc:fn.body.isSome=true:=by kernel_rfl) (hn:Nat.ble args.length fn.ntmps=true:=by kernel_rfl) (ho:Nat.blt objs.length 1000=true:=by kernel_rfl)
 (hco:U8 fn.ntmps (fn.body.getD .skip)=true:=by kernel_rfl) (hnm:(fn.name == "runtime.NumGoroutine")=false:=by kernel_rfl):FunO S f args objs r objs' ks:=by
 obtain⟨code,hcode⟩:=Zb.1 hc;rw[hcode,YU]at hco h;exact Sx hS hf hcode (ZR hn) (by simpa[Ac2]using ho) rfl hco hnm h
theorem al0:∀q∈([]:List (Nat×Leaf)),q.2.ok:=fun _ h=>by cases h
theorem al1 {i:Nat}{l:Leaf}{rs:List (Nat×Leaf)}(h:l.ok)(t:∀q∈rs,q.2.ok):∀q∈(i,l)::rs,q.2.ok:=fun q hq=>by
 rcases Zz.1 hq with rfl|hq
 ·exact h
 ·exact t q hq
structure SC where
 all:List Oper
 cls:List Cls
 rest:List Oper
 env:Env
 regs:B9
 kn:List Nat
def SG (S:X8)(P:Program)(sc:SC)(k:Env->B9->Prop):Prop:=JR S P sc.all sc.cls sc.rest sc.env sc.regs k
def DI (P:Program)(sc:SC):SC:=match JS P sc.kn sc.all sc.cls sc.rest [] sc.env sc.regs with
 |⟨_,cls,rest,env,regs⟩=>⟨sc.all,cls,rest,env,regs,sc.kn⟩
def Sc (P:Program)(sc:SC):List Prop:=(JS P sc.kn sc.all sc.cls sc.rest [] sc.env sc.regs).conds
def CQ:Cfg->Bool
 |.code (.region _ _ true) _ _=>true
 |_=>false
def Fr:Cfg->SC
 |.code (.region _ ops true) _ st=>⟨ops.toList,ops.toList.map fun o=>YJ o.op,ops.toList,st.env,st.regs,[]⟩
 |_=>⟨[],[],[],[],[],[]⟩
theorem WH (hS:F6 S P)(hc:pr)
 (h:SG S P (Fr (stp P g)) fun env regs=>G S P F (.pop .normal (stp P g).k ⟨env,regs⟩)) (hp:pr=C4 (cnd P g):=by kernel_rfl) (hd:CQ (stp P g)=true:=by kernel_rfl) (hmix:P.follows .mixedOrders=true:=by kernel_rfl) (hok:IN (Fr (stp P g)).all (Fr (stp P g)).cls=true:=by kernel_rfl):G S P F g:=by
 refine DH hS hc ?_ hp;generalize stp P g=g' at hd hok h;unfold CQ at hd;split at hd
 ·exact UB hS hmix rfl hok h
 ·cases hd
section
variable {sc:SC}{k:Env->B9->Prop}
theorem Ye (hc:pr)(h:SG S P (DI P sc) k)(hp:pr=C4 (Sc P sc):=by kernel_rfl):SG S P sc k:=by subst hp;unfold DI at h;unfold Sc at hc;unfold SG at *;generalize hr:JS P sc.kn sc.all sc.cls sc.rest [] sc.env sc.regs=r at h hc;obtain⟨c,cls,rest,env,regs⟩:=r;exact s_go hr hc h
theorem C_end (hc:pr)(h:k (DI P sc).env (DI P sc).regs)(hp:pr=C4 (Sc P sc):=by kernel_rfl)(he:(DI P sc).rest.isEmpty=true:=by kernel_rfl):SG S P sc k:=by
 refine Ye hc ?_ hp;generalize DI P sc=s at he h;obtain⟨all,cls,rest,env,regs,kn⟩:=s;cases rest with
 |nil=>exact s_end h
 |cons=>simp at he
def Yf {R:Type _}(d:Option Nat)(a:AV)(env:Env)(regs:B9)(κ : Env->B9->R):R:=match d with
 |some d=>mkO (ins d a env) regs κ
 |none=>mkO env regs κ
theorem Pn {R:Type _}(d:Option Nat)(a:AV)(env:Env)(regs:B9)(κ : Env->B9->R):Yf d a env regs κ = κ (Lb d a env) regs:=by cases d<;>simp only[Yf,CB,Lb]
theorem VE:∀{env:Env}{i d:Nat}{b:AV},TU ((i,b)::env)=true->get env d ≠ .top->d<i
 |[],_,_,_,_,h=>absurd rfl h
 |(j,c)::r,i,d,b,hd,h=>by
  simp only[TU,YR,decide_eq_true_eq]at hd;by_cases e:j=d
  ·subst e;exact hd.1
  ·simp only[get,e,if_false]at h;exact Nat.lt_trans (VE hd.2 h) hd.1
theorem LW:∀{env:Env}{d:Nat}{a:AV},TU env=true->get env d=a->a ≠ .top->ins d a env=env
 |[],_,_,_,h,hn=>absurd h.symm hn
 |(i,b)::r,d,a,hd,h,hn=>by
  by_cases e:i=d
  ·subst e;simp only[get,if_true]at h;subst h;simp[ins]
  ·simp only[get,e,if_false]at h;have hlt:=VE hd (by rw[h];exact hn);have hr:TU r=true:=by
    cases r with
    |nil=>rfl
    |cons p r=>simp only[TU,YR]at hd;exact hd.2
   simp only[ins,show ¬i<d by omega,e,if_false,LW hr h hn]
def LX (sc:SC):Option Bool:=match sc.rest with
 |o::_=>match o.guard with
  |some (j,_)=>match Xw sc.all j with
   |some d=>match get sc.env d with
    |.p (.bb b)=>if TU sc.env then some b else none
    |_=>none
   |none=>none
  |none=>none
 |[]=>none
def IU (v:Bool)(sc:SC):SC:=match sc.rest with
 |o::_=>match o.guard with
  |some (j,_)=>match Xw sc.all j with
   |some d=>mkO (ins d (.p (.bb v)) sc.env) sc.regs fun env regs=>⟨sc.all,sc.cls,sc.rest,env,regs,j::sc.kn⟩
   |none=>sc
  |none=>sc
 |[]=>sc
theorem WI (hc:pr){b:Bool}(ht:b=true->SG S P (IU true (DI P sc)) k)(hf:b=false->SG S P (IU false (DI P sc)) k)(hp:pr=C4 (Sc P sc))(hb:LX (DI P sc)=some b):SG S P sc k:=by
 refine Ye hc ?_ hp;generalize DI P sc=s at hb ht hf;obtain⟨all,cls,rest,env,regs,kn⟩:=s;cases rest with
 |nil=>simp[LX]at hb
 |cons o rest=>
  simp only[LX]at hb;split at hb
  ·rename_i j w hg;split at hb
   ·rename_i d hd;split at hb
    ·rename_i b' hbb;split at hb
     ·rename_i hds;simp only[YP]at hb;subst hb;simp only[IU,hg,hd,CB]at ht hf;cases b' with
      |true=>have:=ht rfl;rwa [LW hds hbb (by simp)]at this
      |false=>have:=hf rfl;rwa [LW hds hbb (by simp)]at this
     ·cases hb
    ·cases hb
   ·cases hb
  ·cases hb
def Qx (ids:List Nat)(sc:SC):Option (FuncId×List AV×List Obj):=match sc.rest with
 |o::_=>match BJ sc.all sc.env o,o.op with
  |some true,.call c=>match c.callee with
   |.value f=>match JQ sc.regs (c.args.toList.map (aev sc.env))with
    |some (as,regs)=>match OM sc.env f as with
     |some (fn,as')=>match Bf ids as',I1 ids regs ids with
      |some a,some ob=>if E7 ids&&Cs ob then some (fn,a,ob)else none
      |_,_=>none
     |none=>none
    |none=>none
   |_=>none
  |_,_=>none
 |[]=>none
def NK (ids:List Nat)(ks:List Bool)(n:Nat)(sc:SC):Bool:=match sc.cls,sc.rest with
 |.w::_,o::_=>match o.op with
  |.call c=>match JQ sc.regs (c.args.toList.map (aev sc.env))with
   |some (_,regs)=>Bh regs ids ks (o.dst.getD 0) n
   |none=>false
  |_=>false
 |_,_=>false
def Tf (ids:List Nat)(ks:List Bool)(r:AV)(objs' : List Obj)(sc:SC):SC:=match sc.rest with
 |o::rest=>match o.op with
  |.call c=>match JQ sc.regs (c.args.toList.map (aev sc.env))with
   |some (_,regs)=>Yf o.dst (unA (K6 (o.dst.getD 0) ids ks objs'.length) r) sc.env
    (RZ (K6 (o.dst.getD 0) ids ks objs'.length) (K6 (o.dst.getD 0) ids ks objs'.length) objs' (K7 ids ks regs)) fun env regs=>⟨sc.all,sc.cls.tail,rest,env,regs,sc.kn⟩
   |none=>sc
  |_=>sc
 |[]=>sc
theorem Yg (ids:List Nat)(hc:pr){fn:FuncId}{args:List AV}{objs objs' : List Obj}{r:AV}{ks:List Bool}(hF:FunO S fn args objs r objs' ks)
 (hk:SG S P (Tf ids ks r objs' (DI P sc)) k) (hp:pr=C4 (Sc P sc):=by kernel_rfl) (he:Qx ids (DI P sc)=some (fn,args,objs):=by kernel_rfl) (hn:NK ids ks objs'.length (DI P sc)=true:=by kernel_rfl):SG S P sc k:=by
 refine Ye hc ?_ hp;generalize DI P sc=s at he hn hk;obtain⟨all,cls,rest,env,regs,kn⟩:=s;cases rest with
 |nil=>simp[Qx]at he
 |cons o rest=>
  simp only[Qx]at he;split at he
  ·rename_i c hg ho;split at he
   ·rename_i hcl;split at he
    ·rename_i ha;split at he
     ·rename_i hw;split at he
      ·rename_i hr hob;split at he
       ·rename_i hdy;cases he;simp only[YR]at hdy;cases cls with
        |nil=>simp[NK]at hn
        |cons cl cls=>
         cases cl with
         |w=>simp only[NK,ho,ha]at hn;simp only[Tf,ho,ha,Pn,Ah2]at hk;exact Wu ids hg ho hcl ha hw hr hob hF hdy.1 hdy.2 hn hk
         |_=>simp[NK]at hn
       ·cases he
      ·cases he
     ·cases he
    ·cases he
   ·cases he
  ·cases he
def Qy (sc:SC):Bool:=match sc.cls,sc.rest with
 |_::_,o::_=>match o.op with
  |.call c=>(c.args.toList.map (aev sc.env)).all SW
  |_=>false
 |_,_=>false
def Qz (sc:SC):Option (FuncId×List AV):=match sc.rest with
 |o::_=>match BJ sc.all sc.env o,o.op with
  |some true,.call c=>match c.callee with
   |.value f=>match OM sc.env f (c.args.toList.map (aev sc.env))with
    |some (fn,as')=>match Bf [] as' with
     |some a=>some (fn,a)
     |none=>none
    |none=>none
   |_=>none
  |_,_=>none
 |[]=>none
def Tg (r:AV)(sc:SC):SC:=match sc.rest with
 |o::rest=>Yf o.dst (unA [] r) sc.env sc.regs fun env regs=>⟨sc.all,sc.cls.tail,rest,env,regs,sc.kn⟩
 |[]=>sc
theorem Yh (hc:pr){fn:FuncId}{args:List AV}{r:AV}(hF:FunO S fn args [] r [] [])
 (hk:SG S P (Tg r (DI P sc)) k) (hp:pr=C4 (Sc P sc):=by kernel_rfl) (he:Qz (DI P sc)=some (fn,args):=by kernel_rfl) (hn:Qy (DI P sc)=true:=by kernel_rfl):SG S P sc k:=by
 refine Ye hc ?_ hp;generalize DI P sc=s at he hn hk;obtain⟨all,cls,rest,env,regs,kn⟩:=s;cases rest with
 |nil=>simp[Qz]at he
 |cons o rest=>
  cases cls with
  |nil=>simp[Qy]at hn
  |cons cl cls=>
   simp only[Qz]at he;split at he
   ·rename_i c hg ho;split at he
    ·rename_i hcl;split at he
     ·rename_i hw;split at he
      ·rename_i hr;cases he;simp only[Qy,ho]at hn;simp only[Tg,Pn,Ah2]at hk;exact XM hg ho hcl hn hw hr hF hk
      ·cases he
     ·cases he
    ·cases he
   ·cases he
def CR (P:Program)(sc:SC):Option (List Prop×PV):=match sc.cls,sc.rest with
 |_::_,o::_=>match BJ sc.all sc.env o with
  |some true=>MX P sc.env o.op
  |_=>none
 |_,_=>none
def Po (x:PV)(sc:SC):SC:=match sc.rest with
 |o::rest=>Yf o.dst (.p x) sc.env sc.regs fun env regs=>⟨sc.all,sc.cls.tail,rest,env,regs,sc.kn⟩
 |[]=>sc
theorem WJ (hc:pr){x:PV}(hk:SG S P (Po x (DI P sc)) k)(hp:pr=C4 (Sc P sc):=by kernel_rfl)(he:(CR P (DI P sc)).map (·.2)=some x:=by kernel_rfl)(hc2:((CR P (DI P sc)).map fun q=>C4 q.1)=some (true=true):=by kernel_rfl):SG S P sc k:=by
 refine Ye hc ?_ hp;generalize DI P sc=s at he hc2 hk;obtain⟨all,cls,rest,env,regs,kn⟩:=s;cases rest with
 |nil=>cases cls<;>simp[CR]at he
 |cons o rest=>
  cases cls with
  |nil=>simp[CR]at he
  |cons cl cls=>
   cases hg:BJ all env o with
   |none=>simp[CR,hg]at he
   |some bb=>
    cases bb with
    |false=>simp[CR,hg]at he
    |true=>
     simp only[CR,hg]at he hc2;cases ha:MX P env o.op with
     |none=>rw[ha]at he;cases he
     |some q=>obtain⟨c,y⟩:=q;rw[ha]at he hc2;simp only[YW,YP]at he hc2;subst he;simp only[Po,Pn,Ah2]at hk;exact UA hg ha (by rw[hc2];trivial) hk
end
end
structure KG (S:X8) (P:Program) (F:J0) (g:Cfg):Prop where
 out:G S P F g
structure DG (S:X8) (P:Program) (sc:SC) (k:Env->B9->Prop):Prop where
 out:SG S P sc k
structure KLe (ids:List (Nat×Nat)) (s t:St):Prop where
 out:Le ids s t
section
variable {S:X8}{P:Program}{F:J0}{g:Cfg}{pr:Prop}
theorem kl {ids:List (Nat×Nat)}{s t:St}(h:(leK ids s t).map (·.map Leaf.src)=(leK ids s t).map (·.map Leaf.tgt):=by kernel_rfl)(h1:(leK ids s t).isSome=true:=by kernel_rfl):KLe ids s t:=⟨kle h h1⟩
theorem klR {ids:List (Nat×Nat)}{s t:St}(rs:List (Nat×Leaf))(hr:∀q∈rs,q.2.ok)(h:(leK ids s t).map (XY (rs.map (·.1)) Leaf.src)=(leK ids s t).map (XY (rs.map (·.1)) Leaf.tgt):=by kernel_rfl)
 (h2:(leK ids s t).map (fun L=>rs.map fun q=>L[q.1]?)=some (rs.map fun q=>some q.2):=by kernel_rfl):KLe ids s t:=⟨kleR rs hr h h2⟩
theorem D5 (hS:F6 S P)(hc:pr){b:Bool}(ht:b=true->KG S P F (Wz (stp P g)))(hf:b=false->KG S P F (WA (stp P g)))(hp:pr=C4 (cnd P g):=by kernel_rfl)(hb:UI (stp P g)=some b:=by kernel_rfl):KG S P F g:=
 ⟨XZ hS hc (fun h=>(ht h).out) (fun h=>(hf h).out) hp hb⟩
theorem LY (hS:F6 S P)(hc:pr){b:Bool}(ht:b=true->KG S P F (IS true (stp P g)))(hf:b=false->KG S P F (IS false (stp P g)))(hp:pr=C4 (cnd P g):=by kernel_rfl)(hb:Qt (stp P g)=some b:=by kernel_rfl):KG S P F g:=
 ⟨WF hS hc (fun h=>(ht h).out) (fun h=>(hf h).out) hp hb⟩
theorem B6 (hS:F6 S P)(ids:List Nat)(hc:pr){fn:FuncId}{args:List AV}{objs objs' : List Obj}{r:AV}{ks:List Bool}(hF:FunO S fn args objs r objs' ks)(hk:KG S P F (UJ ids ks r objs' (stp P g)))
 (hp:pr=C4 (cnd P g):=by kernel_rfl) (he:Ry ids (stp P g)=some (fn,args,objs):=by kernel_rfl) (hn:Rz ids ks objs'.length (stp P g)=true:=by kernel_rfl):KG S P F g:=⟨Ya hS ids hc hF hk.out hp he hn⟩
theorem EE (hS:F6 S P)(hc:pr){kt e:TypeId}{key:PV}{es:List (PV×PV)}{x:PV}{b:Bool}{fd:Option PV}(hf:find (JV P kt) key es=some fd)(hcc:C4 (Ly P kt))(hk:KG S P F (WC x b (stp P g)))
 (hp:pr=C4 (cnd P g):=by kernel_rfl) (he:WB P (stp P g)=some ⟨kt,e,key,es⟩:=by kernel_rfl) (hx:XW P e fd=some (x,b):=by kernel_rfl):KG S P F g:=⟨UO hS hc hf hcc hk.out hp he hx⟩
theorem Ij (hS:F6 S P)(hc:pr){kt:TypeId}{key y:PV}{es es' : List (PV×PV)}(hu:upd (JV P kt) key y es=some es')(hcc:C4 (Ly P kt))(hk:KG S P F (updK es' (stp P g)))
 (hp:pr=C4 (cnd P g):=by kernel_rfl) (he:updE P (stp P g)=some (kt,key,y,es):=by kernel_rfl):KG S P F g:=⟨UP hS hc hu hcc hk.out hp he⟩
theorem BK (hS:F6 S P)(hc:pr)(st:St){ids:List (Nat×Nat)}(hk:KG S P F (opsS st (stp P g)))(hp:pr=C4 (cnd P g):=by kernel_rfl)(ho:DU (stp P g)=true:=by kernel_rfl)(hle:KLe ids (stp P g).st st:=by exact kl):KG S P F g:=
 ⟨Yb hS hc st hk.out hp ho hle.out⟩
theorem Th (hS:F6 S P)(hc:pr)(hF:∀s,S.up s (F .normal)->F .normal s)(n:Nat)(s:St)
 (h1:∀(M:St->Prop),(∀(g' : Cfg) (ids:List (Nat×Nat)) (pr:Prop),pr->(hp:pr=C4 (cnd P g'):=by kernel_rfl)->(he:stp P g' = .pop .normal (.mid M::(stp P g).k.drop n) (stp P g').st:=by kernel_rfl)->(hle:KLe ids (stp P g').st s:=by exact kl)->KG S P F g')->KG S P F (XX n M (stp P g)))
 (h2:KG S P F (.pop .normal ((stp P g).k.drop n) s)) (hp:pr=C4 (cnd P g):=by kernel_rfl) (hn:Nat.ble n (stp P g).k.length=true:=by kernel_rfl):KG S P F g:=
 ⟨J_cut hS hc hF n s (fun M hb=>(h1 M fun g' ids pr hc hp he hle=>⟨hb g' ids pr hc hp he hle.out⟩).out) h2.out hp hn⟩
theorem JT (hS:F6 S P)(hc:pr)(hF:∀s,S.up s (F .normal)->F .normal s){R A:Type}{f:(A->Option R)->Option R}{k0:A->Option R}{r:R}(h:lt k0 f=some r)(n:Nat)(s:A->St)
 (h1:∀(M:St->Prop) (k:A->Option R),(∀(g' : Cfg) (ids:List (Nat×Nat)) (pr:Prop) (a:A),pr->k a=some r->(hp:pr=C4 (cnd P g'):=by kernel_rfl)->(he:stp P g' = .pop .normal (.mid M::(stp P g).k.drop n) (stp P g').st:=by kernel_rfl)->(hle:KLe ids (stp P g').st (s a):=by exact kl)->KG S P F g')->f k=some r->KG S P F (XX n M (stp P g)))
 (h2:∀a,k0 a=some r->KG S P F (.pop .normal ((stp P g).k.drop n) (s a))) (hp:pr=C4 (cnd P g):=by kernel_rfl) (hn:Nat.ble n (stp P g).k.length=true:=by kernel_rfl):KG S P F g:=
 ⟨J_lt hS hc hF h n s (fun M k hb hf=>(h1 M k (fun g' ids pr a hc hk hp he hle=>⟨hb g' ids pr a hc hk hp he hle.out⟩) hf).out) (fun a hk=>(h2 a hk).out) hp hn⟩
theorem Z6 (hS:F6 S P)(hc:pr){R A:Type}{body:(A->Option R)->A->Option R}{N:Nat}{a0:A}{r:R}(h:CA N body a0=some r)(s:A->St){ids:List (Nat×Nat)}
 (hr:∀(X:Type) (s' : X->St) (J:X->Prop) (m:X->Nat) (n:Nat) (self:A->Option R) (a:A),
  (∀(g' : Cfg) (ids:List (Nat×Nat)) (pr:Prop) (a:A),pr->self a=some r->(hp:pr=C4 (cnd P g'):=by kernel_rfl)->(he:stp P g' = .pop .normal (.lp X s' J m n::(stp P g).k) (stp P g').st:=by kernel_rfl)->(hle:KLe ids (stp P g').st (s a):=by exact kl)->KG S P F g') ->
  body self a=some r->KG S P F (.code (NI (stp P g)) (.lp X s' J m n::(stp P g).k) (s a))) (hp:pr=C4 (cnd P g):=by kernel_rfl) (hl:FY (stp P g)=true:=by kernel_rfl) (hle:KLe ids (stp P g).st (s a0):=by exact kl):KG S P F g:=
 ⟨Yc hS hc h s (fun X s' J m n self a hb hbody=>(hr X s' J m n self a (fun g' ids pr a hc hself hp he hle=>⟨hb g' ids pr a hc hself hp he hle.out⟩) hbody).out) hp hl hle.out⟩
theorem N1 (hS:F6 S P)(hc:pr){R A B:Type}{body:(A->B->Option R)->A->B->Option R}{N:Nat}{a0:A}{b0:B}{r:R}(h:Dv N body a0 b0=some r)(s:A->B->St){ids:List (Nat×Nat)}
 (hr:∀(X:Type) (s' : X->St) (J:X->Prop) (m:X->Nat) (n:Nat) (self:A->B->Option R) (a:A) (b:B),
  (∀(g' : Cfg) (ids:List (Nat×Nat)) (pr:Prop) (a:A) (b:B),pr->self a b=some r->(hp:pr=C4 (cnd P g'):=by kernel_rfl)->(he:stp P g' = .pop .normal (.lp X s' J m n::(stp P g).k) (stp P g').st:=by kernel_rfl)->(hle:KLe ids (stp P g').st (s a b):=by exact kl)->KG S P F g') ->
  body self a b=some r->KG S P F (.code (NI (stp P g)) (.lp X s' J m n::(stp P g).k) (s a b))) (hp:pr=C4 (cnd P g):=by kernel_rfl) (hl:FY (stp P g)=true:=by kernel_rfl) (hle:KLe ids (stp P g).st (s a0 b0):=by exact kl):KG S P F g:=
 Z6 hS hc h (fun x=>s x.1 x.2) (fun X s' J m n self a hb=>hr X s' J m n (fun a b=>self (a,b)) a.1 a.2 fun g' ids pr a b h1 h2 h3 h4 h5=>hb g' ids pr (a,b) h1 h2 h3 h4 h5) hp hl hle
theorem QA (hS:F6 S P)(hc:pr){R A B C:Type}{body:(A->B->C->Option R)->A->B->C->Option R}{N:Nat}{a0:A}{b0:B}{c0:C}{r:R}(h:XQ N body a0 b0 c0=some r)(s:A->B->C->St){ids:List (Nat×Nat)}
 (hr:∀(X:Type) (s' : X->St) (J:X->Prop) (m:X->Nat) (n:Nat) (self:A->B->C->Option R) (a:A) (b:B) (c:C),
  (∀(g' : Cfg) (ids:List (Nat×Nat)) (pr:Prop) (a:A) (b:B) (c:C),pr->self a b c=some r->(hp:pr=C4 (cnd P g'):=by kernel_rfl)->(he:stp P g' = .pop .normal (.lp X s' J m n::(stp P g).k) (stp P g').st:=by kernel_rfl)->(hle:KLe ids (stp P g').st (s a b c):=by exact kl)->KG S P F g') ->
  body self a b c=some r->KG S P F (.code (NI (stp P g)) (.lp X s' J m n::(stp P g).k) (s a b c))) (hp:pr=C4 (cnd P g):=by kernel_rfl) (hl:FY (stp P g)=true:=by kernel_rfl) (hle:KLe ids (stp P g).st (s a0 b0 c0):=by exact kl):KG S P F g:=
 Z6 hS hc h (fun x=>s x.1 x.2.1 x.2.2) (fun X s' J m n self a hb=>hr X s' J m n (fun a b c=>self (a,b,c)) a.1 a.2.1 a.2.2 fun g' ids pr a b c h1 h2 h3 h4 h5=>hb g' ids pr (a,b,c) h1 h2 h3 h4 h5) hp hl hle
theorem Yi (hS:F6 S P)(hc:pr){R A B C D:Type}{body:(A->B->C->D->Option R)->A->B->C->D->Option R}{N:Nat}{a0:A}{b0:B}{c0:C}{d0:D}{r:R}(h:fix4 N body a0 b0 c0 d0=some r)(s:A->B->C->D->St){ids:List (Nat×Nat)}
 (hr:∀(X:Type) (s' : X->St) (J:X->Prop) (m:X->Nat) (n:Nat) (self:A->B->C->D->Option R) (a:A) (b:B) (c:C) (d:D),
  (∀(g' : Cfg) (ids:List (Nat×Nat)) (pr:Prop) (a:A) (b:B) (c:C) (d:D),pr->self a b c d=some r->(hp:pr=C4 (cnd P g'):=by kernel_rfl)->(he:stp P g' = .pop .normal (.lp X s' J m n::(stp P g).k) (stp P g').st:=by kernel_rfl)->(hle:KLe ids (stp P g').st (s a b c d):=by exact kl)->KG S P F g') ->
  body self a b c d=some r->KG S P F (.code (NI (stp P g)) (.lp X s' J m n::(stp P g).k) (s a b c d))) (hp:pr=C4 (cnd P g):=by kernel_rfl) (hl:FY (stp P g)=true:=by kernel_rfl) (hle:KLe ids (stp P g).st (s a0 b0 c0 d0):=by exact kl):KG S P F g:=
 Z6 hS hc h (fun x=>s x.1 x.2.1 x.2.2.1 x.2.2.2) (fun X s' J m n self a hb=>hr X s' J m n (fun a b c d=>self (a,b,c,d)) a.1 a.2.1 a.2.2.1 a.2.2.2 fun g' ids pr a b c d h1 h2 h3 h4 h5=>hb g' ids pr (a,b,c,d) h1 h2 h3 h4 h5) hp hl hle
theorem RA (hS:F6 S P)(hc:pr){n:Nat}{rs:List ResultVar}{Q:Iq->List Obj->List Bool->Prop}{a:AV}{objs:List Obj}(outs:List Nat)(hQ:Q (.ret a) objs (Ds n outs))(hp:pr=C4 (cnd P g):=by kernel_rfl)
 (he:(WD (stp P g)).bind (fun st=>Pm P st rs outs)=some (a,objs):=by kernel_rfl):KG S P (Aq S P n rs Q) g:=⟨J_ret hS hc outs hQ hp he⟩
theorem A6 (hS:F6 S P)(hc:pr){n:Nat}{rs:List ResultVar}{Q:Iq->List Obj->List Bool->Prop}{a:AV}{objs:List Obj}(st:St)(outs:List Nat){ids:List (Nat×Nat)}(hQ:Q (.ret a) objs (Ds n outs))(hp:pr=C4 (cnd P g):=by kernel_rfl)
 (he:(WD (stp P g)).isSome=true:=by kernel_rfl) (hle:KLe ids (stp P g).st st:=by exact kl) (hr:Pm P st rs outs=some (a,objs):=by kernel_rfl):KG S P (Aq S P n rs Q) g:=⟨Yd hS hc st outs hQ hp he hle.out hr⟩
theorem A4 (hS:F6 S P){f:FuncId}{fn:Func}{args:List AV}{objs objs' : List Obj}{ks:List Bool}{r:AV}(hf:P.funcs[f]? = some fn)
 (h:KG S P (Aq S P objs.length fn.results.toList fun res o k=>res=.ret r/\o=objs' /\ k=ks) (.code (fn.body.getD .skip) [] { env:=argEnv args,regs:=objRegs objs }))
 (hc:fn.body.isSome=true:=by kernel_rfl) (hn:Nat.ble args.length fn.ntmps=true:=by kernel_rfl) (ho:Nat.blt objs.length 1000=true:=by kernel_rfl)
 (hco:U8 fn.ntmps (fn.body.getD .skip)=true:=by kernel_rfl) (hnm:(fn.name == "runtime.NumGoroutine")=false:=by kernel_rfl):FunO S f args objs r objs' ks:=WG hS hf h.out hc hn ho hco hnm
theorem Fs (hS:F6 S P)(hc:pr)(h:DG S P (Fr (stp P g)) fun env regs=>KG S P F (.pop .normal (stp P g).k ⟨env,regs⟩))(hp:pr=C4 (cnd P g):=by kernel_rfl)(hd:CQ (stp P g)=true:=by kernel_rfl)(hmix:P.follows .mixedOrders=true:=by kernel_rfl)
 (hok:IN (Fr (stp P g)).all (Fr (stp P g)).cls=true:=by kernel_rfl):KG S P F g:=by
 have e:(fun env regs=>KG S P F (.pop .normal (stp P g).k ⟨env,regs⟩))=fun env regs=>G S P F (.pop .normal (stp P g).k ⟨env,regs⟩):=by funext env regs;exact propext ⟨fun h=>h.out,fun h=>⟨h⟩⟩
 rw[e]at h;exact⟨WH hS hc h.out hp hd hmix hok⟩
section
variable {sc:SC}{k:Env->B9->Prop}
theorem P3 (hc:pr)(h:k (DI P sc).env (DI P sc).regs)(hp:pr=C4 (Sc P sc):=by kernel_rfl)(he:(DI P sc).rest.isEmpty=true:=by kernel_rfl):DG S P sc k:=⟨C_end hc h hp he⟩
theorem WK (hc:pr){b:Bool}(ht:b=true->DG S P (IU true (DI P sc)) k)(hf:b=false->DG S P (IU false (DI P sc)) k)(hp:pr=C4 (Sc P sc):=by kernel_rfl)(hb:LX (DI P sc)=some b:=by kernel_rfl):DG S P sc k:=
 ⟨WI hc (fun h=>(ht h).out) (fun h=>(hf h).out) hp hb⟩
theorem Ti (ids:List Nat)(hc:pr){fn:FuncId}{args:List AV}{objs objs' : List Obj}{r:AV}{ks:List Bool}(hF:FunO S fn args objs r objs' ks)(hk:DG S P (Tf ids ks r objs' (DI P sc)) k)
 (hp:pr=C4 (Sc P sc):=by kernel_rfl) (he:Qx ids (DI P sc)=some (fn,args,objs):=by kernel_rfl) (hn:NK ids ks objs'.length (DI P sc)=true:=by kernel_rfl):DG S P sc k:=⟨Yg ids hc hF hk.out hp he hn⟩
theorem At (hc:pr){fn:FuncId}{args:List AV}{r:AV}(hF:FunO S fn args [] r [] [])(hk:DG S P (Tg r (DI P sc)) k)(hp:pr=C4 (Sc P sc):=by kernel_rfl)(he:Qz (DI P sc)=some (fn,args):=by kernel_rfl)(hn:Qy (DI P sc)=true:=by kernel_rfl):DG S P sc k:=
 ⟨Yh hc hF hk.out hp he hn⟩
theorem CS (hc:pr){x:PV}(hk:DG S P (Po x (DI P sc)) k)(hp:pr=C4 (Sc P sc):=by kernel_rfl)(he:(CR P (DI P sc)).map (·.2)=some x:=by kernel_rfl)(hc2:((CR P (DI P sc)).map fun q=>C4 q.1)=some (true=true):=by kernel_rfl):DG S P sc k:=⟨WJ hc hk.out hp he hc2⟩
end
end
end Go.AM
namespace Go.AM
section
variable {S:X8}{P:Program}{F:J0}{g:Cfg}{pr:Prop}
def yldE:Cfg->Option (List PV×List (List PV))
 |.ops all (o::_) _ st=>match AS all st.env o,o.op with
  |some true,.call c=>match c.callee with
   |.value f=>match aev st.env f,GJ st.regs (c.args.toList.map (aev st.env))with
    |.yf j,some (xs,regs)=>match A3 regs j with
     |some (.yld (ys::rest) true)=>if CK j regs=true/\xs.length=ys.length then some (xs,ys::rest)else none
     |_=>none
    |_,_=>none
   |_=>none
  |_,_=>none
 |_=>none
def Yj (b:Bool)(rest:List (List PV)):Cfg->Cfg
 |.ops all (o::ops) K st=>match o.op with
  |.call c=>match c.callee with
   |.value f=>match aev st.env f,GJ st.regs (c.args.toList.map (aev st.env))with
    |.yf j,some (_,regs)=>VB o.dst (.p (.bb b)) st.env (ins j (.yld rest b) regs) fun st=>.ops all ops K st
    |_,_=>.ops all (o::ops) K st
   |_=>.ops all (o::ops) K st
  |_=>.ops all (o::ops) K st
 |g=>g
theorem NL:∀l:List PV,VU l l
 |[]=>trivial
 |x::l=>⟨.inl rfl,NL l⟩
theorem WL (hS:F6 S P)(hc:pr){ys:List PV}{rest:List (List PV)}(ht:G S P F (Yj true rest (stp P g)))(hf:G S P F (Yj false [] (stp P g)))(hp:pr=C4 (cnd P g))(he:yldE (stp P g)=some (ys,ys::rest)):G S P F g:=by
 refine DH hS hc ?_ hp;generalize stp P g=g' at he ht hf;unfold yldE at he;split at he
 ·split at he
  ·rename_i hg ho;split at he
   ·rename_i hcl;split at he
    ·rename_i hy hv;split at he
     ·rename_i hr;split at he
      ·rename_i ho2;simp only[YP,Zj,ZZ]at he;obtain⟨rfl,rfl,rfl⟩:=he;simp only[Yj,ho,hcl,hy,hv,GU]at ht hf;refine Wv hS hg ho hcl hy hv hr ho2.1 (NL _) fun b=>?_;cases b
       ·exact hf
       ·exact ht
      ·cases he
     ·cases he
    ·cases he
   ·cases he
  ·cases he
 ·cases he
theorem Bo (hS:F6 S P)(hc:pr){ys:List PV}{rest:List (List PV)}(ht:KG S P F (Yj true rest (stp P g)))(hf:KG S P F (Yj false [] (stp P g)))(hp:pr=C4 (cnd P g):=by kernel_rfl)(he:yldE (stp P g)=some (ys,ys::rest):=by kernel_rfl):KG S P F g:=
 ⟨WL hS hc ht.out hf.out hp he⟩
def Gb {T:Type}(x:T)(o:Option (List T)):Option (List T):=o.map (x :: ·)
theorem IV {T:Type}{x:T}{o:Option (List T)}{L:List T}(h:Gb x o=some L):∃L',L=x::L' /\ o=some L':=by simp only[Gb,Ze]at h;obtain⟨l,h1,h2⟩:=h;exact⟨l,h2.symm,h1⟩
theorem DV (hS:F6 S P)(hc:pr){R A:Type}{body:(A->Option R)->A->Option R}{N:Nat}{a0:A}{r0:R}(h:CA N body a0=some r0)(s:A->R->St){ids:List (Nat×Nat)}
 (hr:∀(X:Type) (s' : X->St) (J:X->Prop) (m:X->Nat) (n:Nat) (self:A->Option R) (a:A) (r:R),
  (∀(g' : Cfg) (ids:List (Nat×Nat)) (pr:Prop) (a:A) (r:R),pr->self a=some r->(hp:pr=C4 (cnd P g'):=by kernel_rfl)->(he:stp P g' = .pop .normal (.lp X s' J m n::(stp P g).k) (stp P g').st:=by kernel_rfl)->(hle:KLe ids (stp P g').st (s a r):=by exact kl)->KG S P F g') ->
  body self a=some r->KG S P F (.code (NI (stp P g)) (.lp X s' J m n::(stp P g).k) (s a r))) (hp:pr=C4 (cnd P g):=by kernel_rfl) (hl:FY (stp P g)=true:=by kernel_rfl) (hle:KLe ids (stp P g).st (s a0 r0):=by exact kl):KG S P F g:=by
 refine⟨DH hS hc ?_ hp⟩;rw[Te hl];refine Vw hS (X:=Nat×A×R) (fun x=>s x.2.1 x.2.2) (fun x=>CA x.1 body x.2.1=some x.2.2) (fun x=>x.1) (N,a0,r0) ids hle.out h ?_;rintro⟨n,a,r⟩ hx;cases n with
 |zero=>cases hx
 |succ n=>exact (hr _ _ _ _ _ (CA n body) a r (fun g' ids pr a r hc hself hp he hle=>⟨DH hS hc (by rw[he];exact Sw hS (n,a,r) ids hle.out hself (Nat.lt_succ_self n)) hp⟩) hx).out
theorem LZ (hS:F6 S P)(hc:pr){R A B:Type}{body:(A->B->Option R)->A->B->Option R}{N:Nat}{a0:A}{b0:B}{r0:R}(h:Dv N body a0 b0=some r0)(s:A->B->R->St){ids:List (Nat×Nat)}
 (hr:∀(X:Type) (s' : X->St) (J:X->Prop) (m:X->Nat) (n:Nat) (self:A->B->Option R) (a:A) (b:B) (r:R),
  (∀(g' : Cfg) (ids:List (Nat×Nat)) (pr:Prop) (a:A) (b:B) (r:R),pr->self a b=some r->(hp:pr=C4 (cnd P g'):=by kernel_rfl)->(he:stp P g' = .pop .normal (.lp X s' J m n::(stp P g).k) (stp P g').st:=by kernel_rfl)->(hle:KLe ids (stp P g').st (s a b r):=by exact kl)->KG S P F g') ->
  body self a b=some r->KG S P F (.code (NI (stp P g)) (.lp X s' J m n::(stp P g).k) (s a b r))) (hp:pr=C4 (cnd P g):=by kernel_rfl) (hl:FY (stp P g)=true:=by kernel_rfl) (hle:KLe ids (stp P g).st (s a0 b0 r0):=by exact kl):KG S P F g:=
 DV hS hc h (fun x r=>s x.1 x.2 r) (fun X s' J m n self a r hb=>hr X s' J m n (fun a b=>self (a,b)) a.1 a.2 r fun g' ids pr a b r h1 h2 h3 h4 h5=>hb g' ids pr (a,b) r h1 h2 h3 h4 h5) hp hl hle
theorem CT (hS:F6 S P){f:FuncId}{fn:Func}{first caps:List AV}{objs:List Obj}{L:List (List PV)}(hf:P.funcs[f]? = some fn)
 (h:KG S P (Aq S P (objs++[Obj.yld L true]).length fn.results.toList fun r objs' ks=>∃b,objs'[objs.length]? = some (.yld [] b)/\ks[objs.length]? = some true/\∃a,r=.ret a) (.code (fn.body.getD .skip) [] { env:=argEnv (first ++ .yf objs.length::caps),regs:=objRegs (objs++[Obj.yld L true]) }))
 (hc:fn.body.isSome=true:=by kernel_rfl) (hn:Nat.ble (first ++ .yf objs.length::caps).length fn.ntmps=true:=by kernel_rfl) (ho:Nat.blt (objs++[Obj.yld L true]).length 1000=true:=by kernel_rfl)
 (hco:U8 fn.ntmps (fn.body.getD .skip)=true:=by kernel_rfl) (hnm:(fn.name == "runtime.NumGoroutine")=false:=by kernel_rfl):CO S f first caps objs L:=by
 obtain⟨code,hcode⟩:=Zb.1 hc;rw[hcode,YU]at hco h;exact GT hS hf hcode (ZR hn) (by simpa[Ac2]using ho) rfl hco hnm h.out
def NM (P:Program)(ids:List Nat):Cfg->Option (FuncId×List AV×List AV×List Obj)
 |.code (.rangeFunc op _ _ _) _ st=>match BW st.env op with
  |some (f,first,caps)=>match P.funcs[f]?,I1 ids st.regs ids,Bf ids first,Bf ids caps with
   |some fn,some objs,some as,some bs=>if (fn.body.isSome && !(fn.name == "runtime.NumGoroutine")&&Cs objs&&E7 ids&&(objs.length==ids.length)&&Nat.blt ids.length 1000) then some (f,as,bs,objs)else none
   |_,_,_,_=>none
  |none=>none
 |_=>none
def EP:Cfg->Array Tmp
 |.code (.rangeFunc _ ps _ _) _ _=>ps
 |_=>#[]
def NN:Cfg->Code
 |.code (.rangeFunc _ _ a _) _ _=>a
 |_=>.skip
def NO:Cfg->Code
 |.code (.rangeFunc _ _ _ b) _ _=>b
 |_=>.skip
def NP (ids ts:List Nat)(g:Cfg):St:=⟨R6 ts (ts.map (get g.st.env)),K7 ids (ids.map fun _=>false) g.st.regs⟩
def rst (gh:Nat)(t:St):St:=⟨[],ins gh (.ghost (t.env.map (·.2))) t.regs⟩
def NQ (gh:Nat)(ps:Array Tmp)(ys:List PV)(t:St):St:=⟨FH ps.toList ys t.env,ins gh (.ghost (t.env.map (·.2))) t.regs⟩
def exitE:Cfg->Ip
 |.pop e _ _=>e
 |_=>.normal
def VF:Cfg->Bool
 |.pop .ret [] _=>true
 |.pop (.exit _) [] _=>true
 |_=>false
theorem Tj (regs:B9)(d:Nat)(x:Obj):A3 (ins d x regs) d=some x:=by
 induction regs with
 |nil=>simp[ins,A3]
 |cons p r ih=>
  obtain⟨i,b⟩:=p;simp only[ins];split
  ·simp[A3]
  split
  ·simp[A3]
  ·rename_i h1 h2;simp only[A3,h2,if_false,ih]
theorem DW (gh:Nat)(t:St):A3 (rst gh t).regs gh=some (.ghost (t.env.map fun p=>p.2)):=by unfold rst;exact Tj _ _ _
def IW (ids:List Nat):Cfg->Option (FuncId×List AV×List AV×List Obj)
 |.code (.rangeFunc op _ _ _) _ st=>match BW st.env op with
  |some (f,first,caps)=>match I1 ids st.regs ids,Bf ids first,Bf ids caps with
   |some objs,some as,some bs=>if (Cs objs&&E7 ids&&(objs.length==ids.length)&&Nat.blt ids.length 1000) then some (f,as,bs,objs)else none
   |_,_,_=>none
  |none=>none
 |_=>none
theorem EF {ids:List Nat}{g:Cfg}{q:FuncId×List AV×List AV×List Obj}(h:NM P ids g=some q):IW ids g=some q/\∃fn,P.funcs[q.1]? = some fn/\fn.body.isSome=true/\(fn.name == "runtime.NumGoroutine")=false:=by
 unfold NM at h;split at h
 ·split at h
  ·rename_i hpo;split at h
   ·rename_i fn objs' as' bs' h1 h2 h3 h4;split at h
    ·rename_i hh;cases h;simp only[YR,Zf,beq_iff_eq]at hh;obtain⟨⟨⟨⟨⟨e1,e2⟩,e3⟩,e4⟩,e5⟩,e6⟩:=hh;refine⟨?_,fn,h1,e1,by simpa using e2⟩;simp only[IW,hpo,h2,h3,h4,e3,e4,e5,e6,beq_self_eq_true,Af7,if_true]
    ·cases h
   ·cases h
  ·cases h
 ·cases h
theorem Ma (hS:F6 S P)(hc:pr){f:FuncId}{as bs:List AV}{objs:List Obj}{R T A:Type}{enc:T->List PV}{L:List T}{mb:(A->Option R)->T->A->Option R}{mk:A->Option R}{a0:A}{r:R}(hfn:∃fn,P.funcs[f]? = some fn/\fn.body.isSome=true/\(fn.name == "runtime.NumGoroutine")=false)
 (ids ts:List Nat) (gh:Nat) (s:A->St) {idl:List (Nat×Nat)}(h:V4 L mb mk a0=some r) (hF:CO S f as bs objs (L.map enc))
 (hlen:∀t:T,(enc t).length=(EP (stp P g)).size) (hk:∀a,(s a).env.map (·.1)=ts) (hn:∀a,A3 (s a).regs gh=none) (hb0:∀a,(⟨R6 ts ((s a).env.map (·.2)),del gh (ins gh (.ghost ((s a).env.map (·.2))) (s a).regs)⟩:St)=s a)
 (hround:∀(t:T) (next:St->Prop) (self:A->Option R) (a:A),
  (∀(g' : Cfg) (ids:List (Nat×Nat)) (pr:Prop) (a:A),pr->self a=some r->(hp:pr=C4 (cnd P g'):=by kernel_rfl)->(he:stp P g' = .pop .normal [] (stp P g').st:=by kernel_rfl)->(hle:KLe ids (stp P g').st (rst gh (s a)):=by exact kl)->KG S P (BY S gh ts next (kp S P (stp P g).k F)) g') ->
  mb self t a=some r->KG S P (Y8 S P (NO (stp P g)) gh ts next (kp S P (stp P g).k F)) (.code (NN (stp P g)) [] (NQ gh (EP (stp P g)) (enc t) (s a))))
 (hend:∀a,mk a=some r->KG S P F (.pop .normal (stp P g).k (s a)))
 (hp:pr=C4 (cnd P g):=by kernel_rfl) (he:IW ids (stp P g)=some (f,as,bs,objs):=by kernel_rfl) (hgh:Nat.blt gh 1000=true:=by kernel_rfl) (hng:A3 (stp P g).st.regs gh=none:=by kernel_rfl) (hts:E7 ts=true:=by kernel_rfl)
 (hle:KLe idl (NP ids ts (stp P g)) (s a0):=by exact kl):KG S P F g:=by
 refine⟨DH hS hc ?_ hp⟩;generalize stp P g=g1 at hlen hround hend he hng hle;unfold IW at he;split at he
 ·rename_i op ps asg body K st;split at he
  ·rename_i f' first caps hpo
   split at he
   ·rename_i objs' as' bs' h2 h3 h4;split at he
    ·rename_i hh;simp only[YP,Zj]at he;obtain⟨rfl,rfl,rfl,rfl⟩:=he;simp only[YR,Zf,beq_iff_eq]at hh;obtain⟨⟨⟨e3,e4⟩,e5⟩,e6⟩:=hh;refine Wy hS ids ts gh s idl h hF hpo hfn h2 e3 e4 h3 h4 e5 hgh hng e6 hts hlen hle.out hk hn (fun t next self a hb hm=>?_) (fun a hm=>(hend a hm).out);refine (hround t next self a (fun g' ids' pr a hc hself hp he hle=>⟨DH hS hc ?_ hp⟩) hm).out;rw[he];have hl:((s a).env.map (·.2)).length=ts.length:=by rw[<- hk a];simp
     refine hb _ (rst gh (s a)) ((s a).env.map fun p=>p.2) ids' a hle.out (DW gh (s a)) hl ?_ (hb0 a) hself
     have:=congrArg St.regs (hb0 a)
     simp only at this;show A3 (del gh (ins gh _ _)) gh=none;rw[this];exact hn a
    ·cases he
   ·cases he
  ·cases he
 ·cases he
theorem CU (hS:F6 S P)(hc:pr){f:FuncId}{as bs:List AV}{objs:List Obj}{R T A:Type}{enc:T->List PV}{L:List T}{mb:(A->Option R)->T->A->Option R}{mk:A->Option R}{a0:A}{r:R}
 (ids ts:List Nat) (gh:Nat) (s:A->St) {idl:List (Nat×Nat)}(h:V4 L mb mk a0=some r) (hF:CO S f as bs objs (L.map enc))
 (hlen:∀t:T,(enc t).length=(EP (stp P g)).size) (hk:∀a,(s a).env.map (·.1)=ts) (hn:∀a,A3 (s a).regs gh=none) (hb0:∀a,(⟨R6 ts ((s a).env.map (·.2)),del gh (ins gh (.ghost ((s a).env.map (·.2))) (s a).regs)⟩:St)=s a)
 (hround:∀(t:T) (next:St->Prop) (self:A->Option R) (a:A),
  (∀(g' : Cfg) (ids:List (Nat×Nat)) (pr:Prop) (a:A),pr->self a=some r->(hp:pr=C4 (cnd P g'):=by kernel_rfl)->(he:stp P g' = .pop .normal [] (stp P g').st:=by kernel_rfl)->(hle:KLe ids (stp P g').st (rst gh (s a)):=by exact kl)->KG S P (BY S gh ts next (kp S P (stp P g).k F)) g') ->
  mb self t a=some r->KG S P (Y8 S P (NO (stp P g)) gh ts next (kp S P (stp P g).k F)) (.code (NN (stp P g)) [] (NQ gh (EP (stp P g)) (enc t) (s a))))
 (hend:∀a,mk a=some r->KG S P F (.pop .normal (stp P g).k (s a)))
 (hp:pr=C4 (cnd P g):=by kernel_rfl) (he:NM P ids (stp P g)=some (f,as,bs,objs):=by kernel_rfl) (hgh:Nat.blt gh 1000=true:=by kernel_rfl) (hng:A3 (stp P g).st.regs gh=none:=by kernel_rfl) (hts:E7 ts=true:=by kernel_rfl)
 (hle:KLe idl (NP ids ts (stp P g)) (s a0):=by exact kl):KG S P F g:=
 Ma hS hc (EF he).2 ids ts gh s h hF hlen hk hn hb0 hround hend hp (EF he).1 hgh hng hts hle
theorem Tk (hS:F6 S P)(hc:pr){f:FuncId}{as bs:List AV}{objs:List Obj}{R T A:Type}{enc:T->List PV}{L:List T}{mb:(A->Option R)->T->A->Option R}{mk:A->Option R}{a0:A}{r0:R}(hfn:∃fn,P.funcs[f]? = some fn/\fn.body.isSome=true/\(fn.name == "runtime.NumGoroutine")=false)
 (ids ts:List Nat) (gh:Nat) (s:A->R->St) {idl:List (Nat×Nat)}(h:V4 L mb mk a0=some r0) (hF:CO S f as bs objs (L.map enc))
 (hlen:∀t:T,(enc t).length=(EP (stp P g)).size) (hk:∀a r,(s a r).env.map (·.1)=ts) (hn:∀a r,A3 (s a r).regs gh=none) (hb0:∀a r,(⟨R6 ts ((s a r).env.map (·.2)),del gh (ins gh (.ghost ((s a r).env.map (·.2))) (s a r).regs)⟩:St)=s a r)
 (hround:∀(t:T) (next:St->Prop) (self:A->Option R) (a:A) (r:R),
  (∀(g' : Cfg) (ids:List (Nat×Nat)) (pr:Prop) (a:A) (r:R),pr->self a=some r->(hp:pr=C4 (cnd P g'):=by kernel_rfl)->(he:stp P g' = .pop .normal [] (stp P g').st:=by kernel_rfl)->(hle:KLe ids (stp P g').st (rst gh (s a r)):=by exact kl)->KG S P (BY S gh ts next (kp S P (stp P g).k F)) g') ->
  mb self t a=some r->KG S P (Y8 S P (NO (stp P g)) gh ts next (kp S P (stp P g).k F)) (.code (NN (stp P g)) [] (NQ gh (EP (stp P g)) (enc t) (s a r))))
 (hend:∀a r,mk a=some r->KG S P F (.pop .normal (stp P g).k (s a r)))
 (hp:pr=C4 (cnd P g):=by kernel_rfl) (he:IW ids (stp P g)=some (f,as,bs,objs):=by kernel_rfl) (hgh:Nat.blt gh 1000=true:=by kernel_rfl) (hng:A3 (stp P g).st.regs gh=none:=by kernel_rfl) (hts:E7 ts=true:=by kernel_rfl)
 (hle:KLe idl (NP ids ts (stp P g)) (s a0 r0):=by exact kl):KG S P F g:=by
 refine⟨DH hS hc ?_ hp⟩;generalize stp P g=g1 at hlen hround hend he hng hle;unfold IW at he;split at he
 ·rename_i op ps asg body K st;split at he
  ·rename_i f' first caps hpo
   split at he
   ·rename_i objs' as' bs' h2 h3 h4;split at he
    ·rename_i hh;simp only[YP,Zj]at he;obtain⟨rfl,rfl,rfl,rfl⟩:=he;simp only[YR,Zf,beq_iff_eq]at hh;obtain⟨⟨⟨e3,e4⟩,e5⟩,e6⟩:=hh;refine UH hS ids ts gh s idl h hF hpo hfn h2 e3 e4 h3 h4 e5 hgh hng e6 hts hlen hle.out hk hn (fun t next self a r hb hm=>?_) (fun a r hm=>(hend a r hm).out);refine (hround t next self a r (fun g' ids' pr a r hc hself hp he hle=>⟨DH hS hc ?_ hp⟩) hm).out;rw[he];have hl:((s a r).env.map (·.2)).length=ts.length:=by rw[<- hk a r];simp
     refine hb _ (rst gh (s a r)) ((s a r).env.map fun p=>p.2) ids' a r hle.out (DW gh (s a r)) hl ?_ (hb0 a r) hself
     have:=congrArg St.regs (hb0 a r)
     simp only at this;show A3 (del gh (ins gh _ _)) gh=none;rw[this];exact hn a r
    ·cases he
   ·cases he
  ·cases he
 ·cases he
theorem UQ (hS:F6 S P)(hc:pr){f:FuncId}{as bs:List AV}{objs:List Obj}{R T A:Type}{enc:T->List PV}{L:List T}{mb:(A->Option R)->T->A->Option R}{mk:A->Option R}{a0:A}{r0:R}
 (ids ts:List Nat) (gh:Nat) (s:A->R->St) {idl:List (Nat×Nat)}(h:V4 L mb mk a0=some r0) (hF:CO S f as bs objs (L.map enc))
 (hlen:∀t:T,(enc t).length=(EP (stp P g)).size) (hk:∀a r,(s a r).env.map (·.1)=ts) (hn:∀a r,A3 (s a r).regs gh=none) (hb0:∀a r,(⟨R6 ts ((s a r).env.map (·.2)),del gh (ins gh (.ghost ((s a r).env.map (·.2))) (s a r).regs)⟩:St)=s a r)
 (hround:∀(t:T) (next:St->Prop) (self:A->Option R) (a:A) (r:R),
  (∀(g' : Cfg) (ids:List (Nat×Nat)) (pr:Prop) (a:A) (r:R),pr->self a=some r->(hp:pr=C4 (cnd P g'):=by kernel_rfl)->(he:stp P g' = .pop .normal [] (stp P g').st:=by kernel_rfl)->(hle:KLe ids (stp P g').st (rst gh (s a r)):=by exact kl)->KG S P (BY S gh ts next (kp S P (stp P g).k F)) g') ->
  mb self t a=some r->KG S P (Y8 S P (NO (stp P g)) gh ts next (kp S P (stp P g).k F)) (.code (NN (stp P g)) [] (NQ gh (EP (stp P g)) (enc t) (s a r))))
 (hend:∀a r,mk a=some r->KG S P F (.pop .normal (stp P g).k (s a r)))
 (hp:pr=C4 (cnd P g):=by kernel_rfl) (he:NM P ids (stp P g)=some (f,as,bs,objs):=by kernel_rfl) (hgh:Nat.blt gh 1000=true:=by kernel_rfl) (hng:A3 (stp P g).st.regs gh=none:=by kernel_rfl) (hts:E7 ts=true:=by kernel_rfl)
 (hle:KLe idl (NP ids ts (stp P g)) (s a0 r0):=by exact kl):KG S P F g:=
 Tk hS hc (EF he).2 ids ts gh s h hF hlen hk hn hb0 hround hend hp (EF he).1 hgh hng hts hle
def YL (t:Nat)(a:AV):Cfg->Cfg
 |.ops all rest K st=>mkO (ins t a st.env) st.regs fun env regs=>.ops all rest K ⟨env,regs⟩
 |g=>g
theorem UR (hS:F6 S P)(hc:pr)(t:Nat){k n:Nat}{f:Nat->List PV}(h0:n=0->KG S P F (YL t (.p (.v (.slice none 0 0))) (stp P g)))(h1:KG S P F (YL t (.p (.sl true k n f)) (stp P g)))
 (hp:pr=C4 (cnd P g):=by kernel_rfl) (ho:DU (stp P g)=true:=by kernel_rfl) (hg:get (stp P g).st.env t=.p (.sl false k n f):=by kernel_rfl):KG S P F g:=by
 refine⟨DH hS hc ?_ hp⟩;generalize stp P g=g1 at h0 h1 ho hg;unfold DU at ho;split at ho
 ·refine Xx hS t hg (fun h=>?_) ?_
  ·have:=(h0 h).out
   simpa only[YL,CB]using this
  ·have:=h1.out
   simpa only[YL,CB]using this
 ·cases ho
def frzC (j:Nat)(ps:List PV):Cfg->Cfg
 |.code c K st=>mkO (Sa j ps st.env) (ins j .dead st.regs) fun env regs=>.code c K ⟨env,regs⟩
 |g=>g
theorem US (hS:F6 S P)(hc:pr)(j:Nat)(ps:List PV)(hk:KG S P F (frzC j ps (stp P g)))(hp:pr=C4 (cnd P g):=by kernel_rfl)(hd:CQ (stp P g)=true:=by kernel_rfl)(hmix:P.follows .mixedOrders=true:=by kernel_rfl)
 (hdep:Hn (Fr (stp P g)).all=true:=by kernel_rfl) (hr:A3 (stp P g).st.regs j=some (.cells (ps.map .p)):=by kernel_rfl):KG S P F g:=by
 refine⟨DH hS hc ?_ hp⟩;generalize stp P g=g1 at hk hd hdep hr;unfold CQ at hd;split at hd
 ·rename_i id ops K st;have hk:=hk.out;simp only[frzC,CB]at hk;show awp S P (.region id ops true) (kp S P K F) st;simp only[awp,if_true];have hk' : TT S P ops.toList (kp S P K F) ⟨Sa j ps st.env,ins j .dead st.regs⟩:=by
   have:awp S P (.region id ops true) (kp S P K F) ⟨Sa j ps st.env,ins j .dead st.regs⟩:=hk
   simpa only[awp,if_true]using this
  exact UF hS hmix hdep (hS.frz st j ps _ hr hk')
 ·cases hd
def clsN (js:List Nat):Nat->List Oper->List Cls
 |_,[]=>[]
 |i,o::r=>(if js.contains i then .n else if js.contains (i+1000)then .w else YJ o.op)::clsN js (i+1) r
def Mb (js:List Nat):Cfg->SC
 |.code (.region _ ops true) _ st=>⟨ops.toList,clsN js 0 ops.toList,ops.toList,st.env,st.regs,[]⟩
 |_=>⟨[],[],[],[],[],[]⟩
theorem N0 (hS:F6 S P)(hc:pr)(js:List Nat)(h:DG S P (Mb js (stp P g)) fun env regs=>KG S P F (.pop .normal (stp P g).k ⟨env,regs⟩))(hp:pr=C4 (cnd P g):=by kernel_rfl)(hd:CQ (stp P g)=true:=by kernel_rfl)(hmix:P.follows .mixedOrders=true:=by kernel_rfl)
 (hok:IN (Mb js (stp P g)).all (Mb js (stp P g)).cls=true:=by kernel_rfl):KG S P F g:=by
 have e:(fun env regs=>KG S P F (.pop .normal (stp P g).k ⟨env,regs⟩))=fun env regs=>G S P F (.pop .normal (stp P g).k ⟨env,regs⟩):=by funext env regs;exact propext ⟨fun h=>h.out,fun h=>⟨h⟩⟩
 rw[e]at h;refine⟨DH hS hc ?_ hp⟩;have h:=h.out;generalize stp P g=g' at hd hok h;unfold CQ at hd;split at hd
 ·exact SY hS _ hmix hok h
 ·cases hd
def clsL (ls:List (Nat×Cls)):Nat->List Oper->List Cls
 |_,[]=>[]
 |i,o::r=>(match ls.find? (fun q=>q.1==i)with|some q=>q.2|none=>YJ o.op)::clsL ls (i+1) r
def Mc (ls:List (Nat×Cls)):Cfg->SC
 |.code (.region _ ops true) _ st=>⟨ops.toList,clsL ls 0 ops.toList,ops.toList,st.env,st.regs,[]⟩
 |_=>⟨[],[],[],[],[],[]⟩
theorem S9 (hS:F6 S P)(hc:pr)(ls:List (Nat×Cls))(h:DG S P (Mc ls (stp P g)) fun env regs=>KG S P F (.pop .normal (stp P g).k ⟨env,regs⟩))(hp:pr=C4 (cnd P g):=by kernel_rfl)(hd:CQ (stp P g)=true:=by kernel_rfl)(hmix:P.follows .mixedOrders=true:=by kernel_rfl)
 (hok:IN (Mc ls (stp P g)).all (Mc ls (stp P g)).cls=true:=by kernel_rfl):KG S P F g:=by
 have e:(fun env regs=>KG S P F (.pop .normal (stp P g).k ⟨env,regs⟩))=fun env regs=>G S P F (.pop .normal (stp P g).k ⟨env,regs⟩):=by funext env regs;exact propext ⟨fun h=>h.out,fun h=>⟨h⟩⟩
 rw[e]at h;refine⟨DH hS hc ?_ hp⟩;have h:=h.out;generalize stp P g=g' at hd hok h;unfold CQ at hd;split at hd
 ·exact SY hS _ hmix hok h
 ·cases hd
theorem Gc (hS:F6 S P)(hc:pr){body:Code}{gh:Nat}{ts:List Nat}{next:St->Prop}{Q:J0}(h:KG S P (BY S gh ts next Q) (.code body [] (stp P g).st))(hp:pr=C4 (cnd P g):=by kernel_rfl)(he:stp P g=.pop .normal [] (stp P g).st:=by kernel_rfl):KG S P (Y8 S P body gh ts next Q) g:=by refine⟨DH hS hc ?_ hp⟩;rw[he];exact G_asg hS h.out
theorem Md (hS:F6 S P)(hc:pr){K:List It}{gh:Nat}{ts:List Nat}{next:St->Prop}(t:St){ids:List (Nat×Nat)}(hk:KG S P F (.pop (exitE (stp P g)) K t))(hp:pr=C4 (cnd P g):=by kernel_rfl)(he:VF (stp P g)=true:=by kernel_rfl)
 (hle:KLe ids (stp P g).st (rst gh t):=by exact kl) (h1:t.env.map (·.1)=ts:=by kernel_rfl) (h2:A3 t.regs gh=none:=by kernel_rfl) (h3:(⟨R6 ts (t.env.map (·.2)),del gh (ins gh (.ghost (t.env.map (·.2))) t.regs)⟩:St)=t:=by kernel_rfl):KG S P (BY S gh ts next (kp S P K F)) g:=by
 refine⟨DH hS hc ?_ hp⟩;generalize stp P g=g1 at hk he hle;have hl:(t.env.map (·.2)).length=ts.length:=by rw[<- h1];simp
 have hd:A3 (del gh (ins gh (.ghost (t.env.map (·.2))) t.regs)) gh=none:=by
  have:=congrArg St.regs h3
  simp only at this;rw[this];exact h2
 unfold VF at he;split at he
 ·exact Qq hS trivial (rst gh t) ids hle.out (DW gh t) hl hd (by rw[show (⟨R6 ts (t.env.map (·.2)),del gh (rst gh t).regs⟩:St)=t from h3];exact hk.out)
 ·exact Qq hS trivial (rst gh t) ids hle.out (DW gh t) hl hd (by rw[show (⟨R6 ts (t.env.map (·.2)),del gh (rst gh t).regs⟩:St)=t from h3];exact hk.out)
 ·cases he
end
end Go.AM
namespace Go.AM
section
variable {S:X8}{P:Program}{F:J0}{g:Cfg}{pr:Prop}
def Yk (j:Nat)(ps:List PV):Cfg->Cfg
 |.ops all rest K st=>mkO (Sa j ps st.env) (ins j .dead st.regs) fun env regs=>.ops all rest K ⟨env,regs⟩
 |g=>g
end
section
variable {S:X8}{P:Program}{F:J0}{g:Cfg}{pr:Prop}
theorem U0 (hS:F6 S P)(hc:pr)(d:Nat)(st:St){ids:List (Nat×Nat)}(hk:KG S P F (opsS st (DT P d g)))(hp:pr=C4 (Xo P d g):=by kernel_rfl)(ho:DU (DT P d g)=true:=by kernel_rfl)(hle:KLe ids (DT P d g).st st:=by exact kl):KG S P F g:=by
 refine⟨(DL (u:=some d) (F:=F) hS 400 [] g (by subst hp;exact hc)).2 ?_⟩;have hk:=hk.out;have hle:=hle.out;show G S P F (DT P d g);generalize DT P d g=g' at ho hle hk;unfold DU at ho;split at ho
 ·exact Td hS st ids hle hk
 ·cases ho
end
end Go.AM
namespace Go.AM
section
variable {S:X8}{P:Program}{F:J0}{g:Cfg}{pr:Prop}
def Yl (S:X8)(P:Program)(pv:PV)(m:String)(as:List AV)(r:AV):Prop:=∃t y fn,pv=.iface t y/\MY P t m=some fn/\Sv S fn (.p (nP y)::as) r
def invE:Cfg->Option (PV×String×List AV)
 |.ops all (o::_) _ st=>match AS all st.env o,o.op with
  |some true,.call c=>match c.callee with
   |.invoke rv m=>match JQ st.regs (c.args.toList.map (aev st.env)),aev st.env rv with
    |some (as,_),.p pv=>match Bf [] as with
     |some as'=>some (pv,m,as')
     |none=>none
    |_,_=>none
   |_=>none
  |_,_=>none
 |_=>none
def invK (r:AV):Cfg->Cfg
 |.ops all (o::rest) K st=>match o.op with
  |.call c=>match JQ st.regs (c.args.toList.map (aev st.env))with
   |some (_,regs)=>VB o.dst (unA [] r) st.env regs fun st=>.ops all rest K st
   |none=>.ops all (o::rest) K st
  |_=>.ops all (o::rest) K st
 |g=>g
theorem Ik (hS:F6 S P)(hc:pr){pv:PV}{m:String}{as:List AV}{r:AV}(hF:Yl S P pv m as r)(hk:KG S P F (invK r (stp P g)))
 (hp:pr=C4 (cnd P g):=by kernel_rfl) (he:invE (stp P g)=some (pv,m,as):=by kernel_rfl):KG S P F g:=by
 obtain⟨t,y,fn,rfl,hm,hF⟩:=hF;refine⟨DH hS hc ?_ hp⟩;have hk:=hk.out;generalize stp P g=g' at he hk;unfold invE at he;split at he
 ·split at he
  ·rename_i hg ho;split at he
   ·rename_i hcl;split at he
    ·rename_i ha hrv;split at he
     ·rename_i hr;cases he;simp only[invK,ho,ha,GU]at hk;refine UC hS hg ho hcl ha hrv hm (args:=.p (nP y)::_) ?_ hF hk;simp only[Bf,MS,hr]
     ·cases he
    ·cases he
   ·cases he
  ·cases he
 ·cases he
theorem J6 (hS:F6 S P)(hc:pr)(d j:Nat)(ps:List PV)(hk:KG S P F (Yk j ps (DT P d g)))(hp:pr=C4 (Xo P d g):=by kernel_rfl)(ho:DU (DT P d g)=true:=by kernel_rfl)
 (hr:A3 (DT P d g).st.regs j=some (.cells (ps.map .p)):=by kernel_rfl):KG S P F g:=by
 refine⟨(DL (u:=some d) (F:=F) hS 400 [] g (by subst hp;exact hc)).2 ?_⟩;have hk:=hk.out;show G S P F (DT P d g);generalize DT P d g=g' at ho hr hk;unfold DU at ho;split at ho
 ·simp only[Yk,CB]at hk;exact Nd hS (hS.frz _ j ps _ hr hk)
 ·cases ho
def UT (j j' : Nat):AV->AV
 |.vecp i m=>if i=j then .vec j' else .vecp i m
 |a=>a
def UU (j j' : Nat):List AV->List AV
 |[]=>[]
 |a::r=>UT j j' a::UU j j' r
def UV (j j' : Nat):Env->Env
 |[]=>[]
 |(t,a)::r=>(t,UT j j' a)::UV j j' r
def RB (j j' : Nat):B9->B9
 |[]=>[]
 |(t,.cells cs)::r=>(t,.cells (UU j j' cs))::RB j j' r
 |(t,o)::r=>(t,o)::RB j j' r
def msA (j:Nat)(r:List Nat):AV->List Nat
 |.vecp i m=>if i=j then m::r else r
 |_=>r
def msL (j:Nat):List AV->List Nat
 |[]=>[]
 |a::r=>msA j (msL j r) a
def msE (j:Nat):Env->List Nat
 |[]=>[]
 |(_,a)::r=>msA j (msE j r) a
def msR (j:Nat):B9->List Nat
 |[]=>[]
 |(_,.cells cs)::r=>msL j cs++msR j r
 |_::r=>msR j r
theorem Tl {j:Nat}{r:List Nat}{a:AV}:∀x∈r,x∈msA j r a:=by
 intro x hx;unfold msA;split
 ·split
  ·exact Zi _ hx
  ·exact hx
 ·exact hx
theorem QB {j n j' : Nat}{r:List Nat}{a:AV}(h:∀m∈msA j r a,m=n):TW j n j' a=UT j j' a:=by
 cases a with
 |vecp i m=>
  simp only[TW,UT];by_cases e:i=j
  ·have:m=n:=h m (by simp[msA,e])
   simp[e,this]
  ·simp[e]
 |_=>rfl
theorem QC {j n j' : Nat}:∀{l:List AV},(∀m∈msL j l,m=n)->Vs j n j' l=UU j j' l
 |[],_=>rfl
 |a::r,h=>by simp only[Vs,UU,QB (r:=msL j r) h,QC fun m hm=>h m (Tl m hm)]
theorem QD {j n j' : Nat}:∀{l:Env},(∀m∈msE j l,m=n)->Vr j n j' l=UV j j' l
 |[],_=>rfl
 |(t,a)::r,h=>by simp only[Vr,UV,QB (r:=msE j r) h,QD fun m hm=>h m (Tl m hm)]
theorem Me {j n j' : Nat}:∀{l:B9},(∀m∈msR j l,m=n)->PW j n j' l=RB j j' l
 |[],_=>rfl
 |(t,o)::r,h=>by
  cases o with
  |cells cs=>simp only[PW,RB,Xl,QC fun m hm=>h m (Zk _ hm),Me fun m hm=>h m (Zd _ hm)]
  |_=>simp only[PW,RB,Xl,Me (l:=r) h]
def truC (j j' : Nat)(e:TypeId)(k n:Nat)(f:Nat->List PV):Cfg->Cfg
 |.ops all rest K st=>mkO (UV j j' st.env) (ins j' (.vec e k n f false) (ins j .dead (RB j j' st.regs))) fun env regs=>.ops all rest K ⟨env,regs⟩
 |g=>g
theorem Ym (hS:F6 S P)(hc:pr)(d j n j' : Nat){e:TypeId}{k N:Nat}{f:Nat->List PV}(hn:n<=N)(hk:KG S P F (truC j j' e k n f (DT P d g)))(hp:pr=C4 (Xo P d g):=by kernel_rfl)(ho:DU (DT P d g)=true:=by kernel_rfl)
 (hr:A3 (DT P d g).st.regs j=some (.vec e k N f false):=by kernel_rfl) (hf:A3 (DT P d g).st.regs j' = none:=by kernel_rfl) (h1:Nat.ble 1000 j' = true:=by kernel_rfl)
 (hm:(msE j (DT P d g).st.env++msR j (DT P d g).st.regs)=List.replicate (msE j (DT P d g).st.env++msR j (DT P d g).st.regs).length n:=by kernel_rfl):KG S P F g:=by
 refine⟨(DL (u:=some d) (F:=F) hS 400 [] g (by subst hp;exact hc)).2 ?_⟩;have hk:=hk.out;show G S P F (DT P d g);generalize DT P d g=g' at ho hr hf hk hm;unfold DU at ho;split at ho
 ·rename_i st;have hall:∀m∈msE j st.env++msR j st.regs,m=n:=fun m h=>by rw[show msE j st.env++msR j st.regs=_ from hm]at h;exact (List.mem_replicate.1 h).2
  simp only[truC,CB]at hk;refine Nd hS (hS.trunc _ j j' n N k e f _ hr hn hf (ZR h1) ?_);rw[QD fun m h=>hall m (Zk _ h),Me fun m h=>hall m (Zd _ h)];exact hk
 ·cases ho
end
abbrev cA {α : Type}(n:Nat)(c : α -> PV)(f:Nat -> α):List PV:=Y4 n (fun i=>c (f i))
theorem D2 (n:Nat)(f:Nat->PV):(Y4 n f).length=n:=by simp[Y4]
theorem C5 (n:Nat)(f:Nat->PV):∀i,i<n->[(Y4 n f).getD i default]=[f i]:=by intro i hi;simp[Y4,YM,hi]
theorem Z0 {n:Nat}{z:PV}{ps:List PV}(h:ps=List.replicate n z):∀i,i<n->[ps.getD i default]=[z]:=by intro i hi;subst h;simp[YM,hi]
theorem RC {n:Nat}{f g:Nat->PV}(h:∀i,i<n->[f i]=[g i]):Y4 n f=Y4 n g:=by unfold Y4;exact ZA fun i hi=>by have:=h i (ZE.1 hi);injection this
abbrev Il {α : Type}(f:Nat -> α)(k:Nat)(x : α):Nat -> α:=fun i=>if i=k then x else f i
theorem VG {α : Type}{c : α -> PV}{n k:Nat}{v:Nat -> α}{f:Nat->PV}{e:PV}{x : α}(h:∀i,i<n->[f i]=[c (v i)])(hx:e=c x):∀i,i<n->[if i=k then e else f i]=[c (if i=k then x else v i)]:=by
 intro i hi;by_cases h1:i=k
 ·rw[if_pos h1,if_pos h1,hx]
 ·rw[if_neg h1,if_neg h1];exact h i hi
theorem app1H {α : Type}{c : α -> List PV}{n:Nat}{v:Sl α}{f g:Nat->List PV}{z : α}(h:∀i,i<n->f i=c (v.g i))(hn:n=v.n):∀i,i<n+1->i≠v.n->AD n f g i=c ((v.push z).g i):=by
 subst hn;intro i hi hne;have hl:i<v.n:=by omega
 show (if i<v.n then f i else g (i-v.n))=c (if i<v.n then v.g i else z);rw[if_pos hl,if_pos hl];exact h i hl
theorem setH {α : Type}{c : α -> List PV}{n k:Nat}{v:Sl α}{f e:Nat->List PV}{x : α}(h:∀i,i<n->i≠k->f i=c (v.g i))(hx:k<n->e k=c x):∀i,i<n->(fun l=>if l=k then e l else f l) i=c ((v.upd k x).g i):=by
 intro i hi;show (if i=k then e i else f i)=c (if i=k then x else v.g i);split
 ·subst_vars;exact hx hi
 ·exact h i hi ‹_›
end Go.AM
namespace Go.AM
section
variable {S:X8}{P:Program}{F:J0}{g:Cfg}{R X:Type}{A B:Option R}{r:R}{b:Bool}
theorem kI (hS:F6 S P)(h:(if b then A else B)=some r)(ht:A=some r->KG S P F (Wz (stp P g)))(hf:B=some r->KG S P F (WA (stp P g)))
 (hp:True=C4 (cnd P g):=by kernel_rfl) (hb:UI (stp P g)=some b:=by kernel_rfl):KG S P F g:=
 D5 hS trivial (fun c=>ht (itT c h)) (fun c=>hf (itF c h)) hp hb
theorem kG (hS:F6 S P)(h:(if b then A else B)=some r)(ht:A=some r->KG S P F (IS true (stp P g)))(hf:B=some r->KG S P F (IS false (stp P g)))
 (hp:True=C4 (cnd P g):=by kernel_rfl) (hb:Qt (stp P g)=some b:=by kernel_rfl):KG S P F g:=
 LY hS trivial (fun c=>ht (itT c h)) (fun c=>hf (itF c h)) hp hb
theorem kR (hS:F6 S P){n:Nat}{rs:List ResultVar}{Q:Iq->List Obj->List Bool->Prop}{a:AV}{objs:List Obj}(hQ:Q (.ret a) objs (Ds n []):=by exact⟨rfl,rfl,rfl⟩)
 (hp:True=C4 (cnd P g):=by kernel_rfl) (he:(WD (stp P g)).bind (fun st=>Pm P st rs [])=some (a,objs):=by kernel_rfl):KG S P (Aq S P n rs Q) g:=
 RA hS trivial [] hQ hp he
theorem kC (hS:F6 S P){x:Option X}{f:X->Option R}(h:x.bind f=some r){fn:FuncId}{args:List AV}{objs:List Obj}{objs' : X->List Obj}{rr:X->AV}{ks:List Bool}
 (hF:∀{y},x=some y->FunO S fn args objs (rr y) (objs' y) ks) (hk:∀y,f y=some r->KG S P F (UJ [] ks (rr y) (objs' y) (stp P g)))
 (hp:True=C4 (cnd P g):=by kernel_rfl) (he:Ry [] (stp P g)=some (fn,args,objs):=by kernel_rfl) (hn:∀y,Rz [] ks (objs' y).length (stp P g)=true:=by intro y;kernel_rfl):KG S P F g:=by
 obtain⟨y,e,h⟩:=B5 h;exact B6 hS [] trivial (hF e) (hk y h) hp he (hn y)
end
end Go.AM
namespace Go.AM
inductive BT where
 |l (b:Bool)
 |n (b:Bool) (t f:BT)
def BT.ev:BT->Bool
 |.l b=>b
 |.n b t f=>if b then t.ev else f.ev
inductive BE where
 |a (b:Bool)
 |n (x y:BE)
 |o (x y:BE)
def BE.den:BE->Bool
 |.a b=>b
 |.n x y=>x.den&&y.den
 |.o x y=>x.den||y.den
def BE.tr:BE->BT->BT->BT
 |.a b,t,f=>.n b t f
 |.n x y,t,f=>x.tr (y.tr t f) f
 |.o x y,t,f=>x.tr t (y.tr t f)
def BE.top:BE->BT
 |.a b=>.l b
 |.n x y=>x.tr y.top (.l false)
 |.o x y=>x.tr (.l true) y.top
theorem BE.tr_ev:∀(e:BE) (t f:BT),(e.tr t f).ev=if e.den then t.ev else f.ev
 |.a b,t,f=>rfl
 |.n x y,t,f=>by simp only[tr,den,x.tr_ev,y.tr_ev];by_cases h:x.den=true<;>simp[h]
 |.o x y,t,f=>by simp only[tr,den,x.tr_ev,y.tr_ev];by_cases h:x.den=true<;>simp[h]
theorem BE.top_ev:∀e:BE,e.top.ev=e.den
 |.a b=>rfl
 |.n x y=>by simp only[top,den,x.tr_ev,y.top_ev,BT.ev];by_cases h:x.den=true<;>simp[h]
 |.o x y=>by simp only[top,den,x.tr_ev,y.top_ev,BT.ev];by_cases h:x.den=true<;>simp[h]
def keeps:Op->Bool
 |.move _ | .assign _ | .pick .. | .load .. | .nilCheck _ | .binOp .. | .unOp .. | .convert .. | .fieldAddr .. | .field .. | .indexAddr .. | .index .. | .extract ..=>true
 |.call { callee:=.builtin .len,.. } | .call { callee:=.builtin .min,.. } | .call { callee:=.builtin .max,.. }=>true
 |_=>false
theorem RD {P:Program}{env:Env}{regs:B9}{d:Nat}{o:Op}{out:Out}(hk:keeps o=true)(h:aop P env regs d o=some out):out.regs=regs:=by unfold keeps at hk;split at hk<;>first|(cases hk;done)|(simp only[aop]at h;(repeat' split at h)<;>first|(cases h;rfl)|cases h)
theorem Lj {o:Op}(hk:keeps o=true):Vt o=true:=by unfold keeps at hk;split at hk<;>first|cases hk;done|rfl
def UW:List Prop->List Prop
 |[]=>[]
 |c=>[C4 c]
def bgo (P:Program)(regs:B9)(o:Oper)(last:Bool)(rec:List Prop->Env->Option (BT×List Prop))(c:List Prop)(env:Env)(runs:Bool):Option (BT×List Prop):=match runs with
 |true=>match keeps o.op,o.dst with
  |true,some d=>match aop P env regs d o.op with
   |some ⟨p,v,_⟩=>match last with
    |true=>match Ir v with
     |some b=>some (.l b,UW (p++c))
     |none=>none
    |false=>fA v fun v=>Ss d v env fun env=>rec (p++c) env
   |none=>none
  |_,_=>none
 |false=>match last,o.dst with
  |false,some d=>Ss d Y5 env fun env=>rec c env
  |_,_=>none
def bev (P:Program)(all:List Oper)(regs:B9):List Oper->List Prop->Env->Option (BT×List Prop)
 |[],_,_=>none
 |o::rest,c,env=>
  match o.guard with
  |none=>bgo P regs o rest.isEmpty (fun c env=>bev P all regs rest c env) c env true
  |some (j,want)=>match get env (DF all j)with
   |.p (.v (.bool b))=>bgo P regs o rest.isEmpty (fun c env=>bev P all regs rest c env) c env (b==want)
   |.p (.v (.tuple _))=>bgo P regs o rest.isEmpty (fun c env=>bev P all regs rest c env) c env false
   |.p (.bb b)=>match Ss (DF all j) (.p (.v (.bool true))) env fun env=>bgo P regs o rest.isEmpty (fun c env=>bev P all regs rest c env) [] env want,
    Ss (DF all j) (.p (.v (.bool false))) env fun env=>bgo P regs o rest.isEmpty (fun c env=>bev P all regs rest c env) [] env !want with
    |some (t,ct),some (f,cf)=>some (.n b t f,UW c++(ct.map (fun p=>b=true->p)++cf.map (fun p=>b=false->p)))
    |_,_=>none
   |_=>none
def Sd (l:List Oper):List Nat:=l.filterMap (·.dst)
def WM (ks:List Nat)(env:Env):Env:=env.filter fun q=>!ks.contains q.1
theorem QE (ks:List Nat)(env:Env)(x:Nat):get (WM ks env) x=if x∈ks then .top else get env x:=by
 induction env with
 |nil=>simp[WM,get]
 |cons q r ih=>
  obtain⟨i,a⟩:=q;simp only[WM,List.filter_cons];by_cases hi:i∈ks
  ·rw[if_neg (by simpa using hi)]
   have:=ih
   simp only[WM]at this;rw[this];by_cases hx:x∈ks
   ·simp[hx]
   ·have:i≠x:=fun e=>hx (e ▸ hi)
    simp[hx,get,this]
  ·rw[if_pos (by simpa using hi)];simp only[get]
   have:=ih
   simp only[WM]at this;rw[this];by_cases hx:i=x
   ·subst hx;simp[hi]
   ·simp[hx]
def Pp:List Oper->Option Nat
 |[]=>none
 |[o]=>o.dst
 |_::r=>Pp r
section
variable {S:X8}{P:Program}
theorem Lk {c:List Prop}(h:∀p∈UW c,p):C4 c:=by
 cases c with
 |nil=>trivial
 |cons p r=>exact h _ (by simp[UW])
theorem Yn (hS:F6 S P){all:List Oper}{regs:B9}{Q:J0}{post:List Oper}{envF:Env}{V:Bool}{d:Nat}(hQ:∀s,S.up s (GF S P all post Q)->GF S P all post Q s)(hV:get envF d=.p (.bb V))
 (hw:GF S P all post Q ⟨envF,regs⟩) :
 ∀(L:List Oper) (c:List Prop) (env:Env) (T:BT) (C:List Prop),bev P all regs L c env=some (T,C)->(∀p∈C,p)->T.ev=V->Pp L=some d ->
  (∀x,x≠d->LB (get envF x) (get env x) \/ (x∈Sd L/\get envF x=.top))->(∀x∈Sd L,x≠d->get envF x=.top)->C4 c/\GF S P all (L++post) Q ⟨env,regs⟩:=by
 intro L
 induction L with
 |nil=>intro c env T C h;cases h
 |cons o rest ih=>
  intro c env T C h hC hT hd hl ht;simp only[bev,Fk]at h;have key:∀(c:List Prop) (env:Env) (runs:Bool) (T:BT) (C:List Prop),bgo P regs o rest.isEmpty (fun c env=>bev P all regs rest c env) c env runs=some (T,C)->(∀p∈C,p)->T.ev=V ->
   (∀x,x≠d->LB (get envF x) (get env x) \/ (x∈Sd (o::rest)/\get envF x=.top)) ->
   C4 c/\(if runs then wOp S P o (GF S P all (rest++post) Q) Q ⟨env,regs⟩else GF S P all (rest++post) Q (put ⟨env,regs⟩ o.dst Y5)):=by
   intro c env runs T C h hC hT hl;have hlast:rest.isEmpty=false->Pp rest=some d:=by
    intro hr;cases rest with
    |nil=>cases hr
    |cons a r=>simpa[Pp]using hd
   have hds:∀{d'},o.dst=some d' -> Sd (o::rest)=d' :: Sd rest:=fun ho=>by simp[Sd,ho]
   have hnext:∀d' (v:AV),o.dst=some d' -> ∀x,x≠d->LB (get envF x) (get (ins d' v env) x) \/ (x∈Sd rest/\get envF x=.top):=by
    intro d' v ho x hx;rw[AZ];by_cases hx2:d' = x
    ·subst hx2;exact .inl (.inl (ht _ (by rw[hds ho];exact ZX ..) hx))
    ·rw[if_neg hx2];rcases hl x hx with h|⟨h1,h2⟩
     ·exact .inl h
     ·exact .inl (.inl h2)
   cases runs with
   |true=>
    simp only[bgo,QW,Fk,if_true]at h⊢;split at h
    ·rename_i d' hk ho;split at h
     ·rename_i p v regs' ha;have hr:regs' = regs:=RD hk ha;subst hr;have ha' : aop P env regs' (o.dst.getD 0) o.op=some ⟨p,v,regs'⟩:=by rw[ho];exact ha
      split at h
      ·rename_i hre;split at h
       ·rename_i b hb;cases h;have hcp:=Lk hC;obtain⟨hc,hp⟩:=(Bi _ _).1 hcp;refine⟨hc,Ig (Lj hk) ha' hp ?_⟩;obtain rfl:rest=[]:=List.isEmpty_iff.1 hre;simp only[Pp]at hd;have e:d' = d:=by rw[ho]at hd;exact Ac8 hd
        subst e;refine hQ _ (hS.less _ ⟨envF,regs'⟩ _ (fun x=>?_) (fun _=>by rw[ho];rfl) (by simpa using hw));rw[ho];show LB (get envF x) (get (ins d' v env) x);rw[AZ];by_cases hx:d' = x
        ·subst hx;rw[if_pos rfl,hV];have hT:b=V:=hT;subst hT;unfold Ir at hb;split at hb
         ·cases hb;exact .inr (.inr ⟨_,rfl,rfl⟩)
         ·cases hb;exact .inr (.inl rfl)
         ·cases hb
        ·rw[if_neg hx];rcases hl x (fun e=>hx e.symm)with h|⟨_,h⟩
         ·exact h
         ·exact .inl h
       ·cases h
      ·rename_i hre;have hn:∀x,x≠d->LB (get envF x) (get (ins d' v env) x) \/ (x∈Sd rest/\get envF x=.top):=hnext d' v ho;obtain⟨hcp,hk2⟩:=ih _ _ _ _ h hC hT (hlast (by simpa using hre)) hn (fun x hx=>ht x (by rw[hds ho];exact Zi _ hx));obtain⟨hc,hp⟩:=(Bi _ _).1 hcp;exact⟨hc,Ig (Lj hk) ha' hp (by rw[ho];exact hk2)⟩
     ·cases h
    ·cases h
   |false=>
    simp only[bgo,Fk,YV,if_false]at h⊢;split at h
    ·rename_i d' hre ho;have hn:∀x,x≠d->LB (get envF x) (get (ins d' Y5 env) x) \/ (x∈Sd rest/\get envF x=.top):=hnext d' _ ho;obtain⟨hc,hk2⟩:=ih _ _ _ _ h hC hT (hlast (by simpa using hre)) hn (fun x hx=>ht x (by rw[hds ho];exact Zi _ hx));exact⟨hc,by rw[ho];exact hk2⟩
    ·cases h
  simp only[ZC,GF];cases hg:o.guard with
  |none=>simp only[hg]at h;obtain⟨hc,hk⟩:=key _ _ _ _ _ h hC hT hl;exact⟨hc,hS.refl _ _ (by simpa[hg]using hk)⟩
  |some q=>
   obtain⟨j,want⟩:=q;simp only[hg]at h;split at h
   ·rename_i b hb;obtain⟨hc,hk⟩:=key _ _ _ _ _ h hC hT hl;refine⟨hc,hS.refl _ _ ⟨some b,by rw[hb];rfl,?_⟩⟩;have e:(some b=some want)↔(b==want)=true:=by simp
    by_cases hbw:(b==want)=true
    ·rw[if_pos (e.2 hbw)];simpa[hbw]using hk
    ·rw[if_neg (fun x=>hbw (e.1 x))];simpa[hbw]using hk
   ·rename_i tt hb;obtain⟨hc,hk⟩:=key _ _ _ _ _ h hC hT hl;refine⟨hc,hS.refl _ _ ⟨none,by rw[hb];rfl,?_⟩⟩;rw[if_neg (by simp)];simpa using hk
   ·rename_i b hb;split at h
    ·rename_i t ct f cf h1 h2;cases h;have hc:C4 c:=Lk fun p hp=>hC p (Zk _ hp);refine⟨hc,hS.bool _ _ b _ hb ?_⟩;have hl2:∀x,x≠d->LB (get envF x) (get (ins (DF all j) (.p (.v (.bool b))) env) x) \/ (x∈Sd (o::rest)/\get envF x=.top):=by
      intro x hx;rw[AZ];by_cases hx2:DF all j=x
      ·subst hx2;rw[if_pos rfl];rcases hl _ hx with h|h
       ·rw[hb]at h;rcases h with h|h|⟨y,h1,h2⟩
        ·exact .inl (.inl h)
        ·exact .inl (.inr (.inr ⟨b,h,rfl⟩))
        ·cases h2
       ·exact .inr h
      ·rw[if_neg hx2];exact hl x hx
     cases b with
     |true=>
      obtain⟨_,hk⟩:=key _ _ _ _ _ h1 (fun p hp=>hC (true=true->p) (Zd _ (Zk _ (Ae2.2 ⟨p,hp,rfl⟩))) rfl) hT hl2;refine⟨some true,by show yv (get (ins _ _ _) _)=_;rw[AZ,if_pos rfl];rfl,?_⟩;cases want with
      |true=>simpa using hk
      |false=>simpa using hk
     |false=>
      obtain⟨_,hk⟩:=key _ _ _ _ _ h2 (fun p hp=>hC (false=false->p) (Zd _ (Zd _ (Ae2.2 ⟨p,hp,rfl⟩))) rfl) hT hl2;refine⟨some false,by show yv (get (ins _ _ _) _)=_;rw[AZ,if_pos rfl];rfl,?_⟩;cases want with
      |true=>simpa using hk
      |false=>simpa using hk
    ·cases h
   ·cases h
end
def WN (P:Program)(m:Nat):Cfg->Option (BT×List Prop)
 |.ops all rest K st=>bev P all st.regs (rest.take m) [] st.env
 |_=>none
def Yo (m:Nat)(b:Bool):Cfg->Cfg
 |.ops all rest K st=>match Pp (rest.take m)with
  |some d=>mkO (ins d (.p (.bb b)) (WM (Sd (rest.take m)) st.env)) st.regs fun env regs=>.ops all (rest.drop m) K ⟨env,regs⟩
  |none=>.ops all rest K st
 |g=>g
def Yp (m:Nat):Cfg->Bool
 |.ops all rest K st=>(Pp (rest.take m)).isSome
 |_=>false
def Yq:List Prop->Prop
 |[]=>True
 |p::r=>r.foldl And p
theorem UX {l:List Prop}(h:Yq l):∀p∈l,p:=by
 have:∀(r:List Prop) (p:Prop),r.foldl And p->p/\∀q∈r,q:=by
  intro r
  induction r with
  |nil=>intro p h;exact⟨h,fun q hq=>by cases hq⟩
  |cons a r ih=>intro p h;obtain⟨⟨h1,h2⟩,h3⟩:=ih _ h;exact⟨h1,fun q hq=>by rcases Zz.1 hq with rfl|hq;exact h2;exact h3 q hq⟩
 cases l with
 |nil=>intro p hp;cases hp
 |cons a r=>obtain⟨h1,h2⟩:=this _ _ h;exact fun q hq=>by rcases Zz.1 hq with rfl|hq;exact h1;exact h2 q hq
section
variable {S:X8}{P:Program}{F:J0}{g:Cfg}{pr pc:Prop}
theorem kB (hS:F6 S P)(hF:∀s,S.up s (F .normal)->F .normal s)(hc:pr)(hcc:pc)(m:Nat)(E:BE)(hk:KG S P F (Yo m E.den (stp P g)))
 (hp:pr=C4 (cnd P g):=by kernel_rfl) (hT:(WN P m (stp P g)).map (·.1)=some E.top:=by kernel_rfl) (hC:(WN P m (stp P g)).map (fun x=>Yq x.2)=some pc:=by kernel_rfl) (hD:Yp m (stp P g)=true:=by kernel_rfl):KG S P F g:=by
 refine⟨DH hS hc ?_ hp⟩;have hk:=hk.out;generalize stp P g=g' at hk hT hC hD;unfold WN at hT hC;split at hT
 ·rename_i all rest K st;simp only[Yp,Zb]at hD;obtain⟨d,hd⟩:=hD;simp only[Yo,hd,CB]at hk;cases hb:bev P all st.regs (rest.take m) [] st.env with
  |none=>rw[hb]at hT;cases hT
  |some q=>
   obtain⟨T,C⟩:=q;simp only[hb]at hT hC;simp only[YW,YP]at hT hC;subst hT
   have:=(Yn hS (Q:=kp S P K F) (post:=rest.drop m) (envF:=ins d (.p (.bb E.den)) (WM (Sd (rest.take m)) st.env)) (V:=E.den) (d:=d) ?_ (by rw[AZ,if_pos rfl]) hk (rest.take m) [] st.env E.top C hb
    (UX (hC ▸ hcc)) E.top_ev hd (fun x hx=>?_) (fun x hx hxd=>?_)).2
   ·rwa [Ac1]at this
   ·intro s h;cases hr:rest.drop m with
    |nil=>rw[hr]at h;exact UG hS hF K s h
    |cons o r=>rw[hr]at h;exact hS.trans _ _ h
   ·rw[AZ,if_neg (fun e=>hx e.symm),QE];split
    ·exact .inl (.inl rfl)
    ·exact .inl (.inr (.inl rfl))
   ·rw[AZ,if_neg (fun e=>hxd e.symm),QE,if_pos hx]
 ·cases hT
end
end Go.AM
namespace Go.AM
def famC (op:QV):Cfg->List Prop
 |.ops _ _ _ st=>match W9 op st with
  |some (c,_)=>c
  |none=>[False]
 |_=>[False]
def famG (op:QV):Cfg->Cfg
 |.ops all rest K st=>match W9 op st with
  |some (_,st)=>mkO st.env st.regs fun env regs=>.ops all rest K ⟨env,regs⟩
  |none=>.ops all rest K st
 |g=>g
section
variable {S:X8}{P:Program}{F:J0}{g:Cfg}{pr pc:Prop}
theorem QF (hS:F6 S P)(hc:pr)(d:Nat)(op:QV)(hcc:pc)(hk:KG S P F (famG op (DT P d g)))(hp:pr=C4 (Xo P d g):=by kernel_rfl)(ho:DU (DT P d g)=true:=by kernel_rfl)
 (hpc:pc=C4 (famC op (DT P d g)):=by kernel_rfl):KG S P F g:=by
 refine⟨(DL (u:=some d) (F:=F) hS 400 [] g (by subst hp;exact hc)).2 ?_⟩;have hk:=hk.out;show G S P F (DT P d g);generalize DT P d g=g' at ho hpc hk;unfold DU at ho;split at ho
 ·rename_i all o rest K st;simp only[famC]at hpc;simp only[famG]at hk;cases he:W9 op st with
  |none=>rw[he]at hpc;subst hpc;exact hcc.elim
  |some q=>obtain⟨c,st'⟩:=q;simp only[he,CB]at hk hpc;subst hpc;exact Nd hS (hS.fam op _ _ c _ he hcc hk)
 ·cases ho
end
def Yr (j n:Nat)(f:Nat->PV):Cfg->Cfg
 |.ops all rest K st=>mkO (Sa j (Y4 n f) st.env) (ins j .dead st.regs) fun env regs=>.ops all rest K ⟨env,regs⟩
 |g=>g
theorem Ys {S:X8}{P:Program}{F:J0}{g:Cfg}{pr:Prop}(hS:F6 S P)(hc:pr)(d j n:Nat)(f:Nat->PV)(hk:KG S P F (Yr j n f (DT P d g)))(hp:pr=C4 (Xo P d g):=by kernel_rfl)
 (ho:DU (DT P d g)=true:=by kernel_rfl) (hr:A3 (DT P d g).st.regs j=some (.arr n f):=by kernel_rfl):KG S P F g:=by
 refine⟨(DL (u:=some d) (F:=F) hS 400 [] g (by subst hp;exact hc)).2 ?_⟩;have hk:=hk.out;show G S P F (DT P d g);generalize DT P d g=g1 at hk ho hr;unfold DU at ho;split at ho
 ·rename_i all o rest K st;simp only[Yr,CB]at hk;have h3:S.up ⟨Sa j (Y4 n f) st.env,ins j .dead (ins j (.cells (So n f)) st.regs)⟩ (fun t=>G S P F (.ops all (o::rest) K t)):=
   hS.eqv _ ⟨_,ins j .dead st.regs⟩ _ (fun _=>rfl) (fun i=>by simp only[DQ];split<;>rfl) hk
  refine Nd hS (hS.trans _ _ (hS.ofArr _ j n f _ hr (hS.trans _ _ (hS.frz ⟨st.env,_⟩ j (Y4 n f) _ ?_ h3))));show A3 (ins j _ _) j=_;rw[DQ,if_pos rfl,So,Y4,ZY];rfl
 ·cases ho
def Yt (j k n:Nat)(e:TypeId)(g:Nat->List PV)(vw:Bool):Cfg->Cfg
 |.ops all rest K st=>mkO st.env (ins j (.vec e k n g vw) st.regs) fun env regs=>.ops all rest K ⟨env,regs⟩
 |g=>g
theorem WO {S:X8}{P:Program}{F:J0}{g:Cfg}{pr:Prop}(hS:F6 S P)(hc:pr)(d j:Nat){k n:Nat}{e:TypeId}{vw:Bool}(f q:Nat->List PV)(hq:∀i,i<n->leC (f i) (q i))(hk:KG S P F (Yt j k n e q vw (DT P d g)))
 (hp:pr=C4 (Xo P d g):=by kernel_rfl) (ho:DU (DT P d g)=true:=by kernel_rfl) (hr:A3 (DT P d g).st.regs j=some (.vec e k n f vw):=by kernel_rfl):KG S P F g:=by
 refine⟨(DL (u:=some d) (F:=F) hS 400 [] g (by subst hp;exact hc)).2 ?_⟩;have hk:=hk.out;show G S P F (DT P d g);generalize DT P d g=g1 at hk ho hr;unfold DU at ho;split at ho
 ·simp only[Yt,CB]at hk;exact Nd hS (hS.vecq _ j n k e f q vw _ hr hq hk)
 ·cases ho
theorem leCn {k:Nat}{g:Nat->List PV}:leC [.v (.slice none 0 0)] [.sl false k 0 g]:=⟨rfl,fun j=>by
 cases j with
 |zero=>exact .inr (.inr (.inl ⟨_,_,rfl,rfl⟩))
 |succ j=>exact .inl rfl⟩
theorem leCr (l:List PV):leC l l:=⟨rfl,fun _=>.inl rfl⟩
theorem arrG {n:Nat}(f:Nat->PV){i:Nat}(hi:i<n):[(Y4 n f).getD i default]=[f i]:=C5 n f i hi
end Go.AM
namespace Go.AM
theorem NR {P:Program}{f:FuncId}{vw:Bool}{args:List PV}{e:TypeId}{k n:Nat}{g:Nat->List PV}(hent:∀as w,(callFunc f as).run P w=.ok (.enter f as) w)(hk:∀i,i<n->(g i).length=k)
 (h:∀(w:World) (Pi:Nat->Nat->Prop) (vs:Array Value),(∀b off,Pi b off->b<w.heap.size)->vs.size=args.length->(∀i,i<args.length->RepP w Pi (vs.getD i undef) (args.getD i default)) ->
  Calls P f vs w fun x w'=>∃v,x=.returned v/\RowKit.Below w.heap.size w w' /\ ((v=.slice none 0 0/\n=0) \/ ∃b cap c,v=.slice (some ⟨b,0,none⟩) n cap/\w.heap.size<=b/\w'.heap[b]? = some (.cells c e (0,0))/\n<=cap/\c.size=cap*k/\cap<=maxLen /\
   ∀i j,i<n->j<k->RepP w Pi (c.getD (i*k+j) undef) ((g i).getD j default)/\(c.getD (i*k+j) undef).oneCell' = true)):FunO (EH P) f (args.map .p) [] (.vec 0) [.vec e k n g vw] []:=by
 intro 𝒢 C w vs rho hG hs hsz;have hno0:∀j,A3 (objRegs []) j=none:=fun j=>by simp[objRegs,objRegs.go,A3]
 have h0:=h w (Prv C.X (A3 (objRegs [])) rho) vs (fun b off hp=>by
  rcases hp with hp|⟨j,o,hj,_⟩
  ·exact hs.hp.bound b off hp
  ·simp[hno0]at hj) (by simpa using hsz) (fun i hi=>by
  have:=hs.env i
  rw[Y0]at this;have e:(args.map AV.p).getD i .top=.p (args.getD i default):=by simp[hi]
  rw[e]at this;exact this.toP)
 refine⟨_,_,hent _ _,callsIn_wide.2 (h0.mono ?_)⟩;rintro x w' ⟨v,rfl,hb,hv⟩;have hR:∀j o,A3 (objRegs [Obj.vec e k n g vw]) j=some o->j=0/\o=.vec e k n g vw:=fun j o hj=>by
  simp only[objRegs,objRegs.go,A3]at hj;split at hj
  ·rename_i hj0;cases hj;exact⟨hj0.symm,rfl⟩
  ·cases hj
 have hR0:A3 (objRegs [Obj.vec e k n g vw]) 0=some (.vec e k n g vw):=rfl
 let rho' : Nat->Value:=fun j=>if j=0 then v else rho j
 have hr0:rho' 0=v:=rfl;have hblk:∀b,D6 v (.vec e k n g vw) b->w.heap.size<=b/\b<w'.heap.size:=by
  intro b hbv;rcases hv with⟨rfl,_⟩ | ⟨b',cap,c,rfl,h1,h2,_⟩
  ·cases hbv
  ·cases hbv;exact⟨h1,(YT.1 h2).1⟩
 have hprv:∀b o,Prv C.X (A3 (objRegs [Obj.vec e k n g vw])) rho' b o->C.X b o \/ w.heap.size<=b:=by
  rintro b o (hX|⟨j,o',hj,hbo,_⟩)
  ·exact .inl hX
  ·obtain⟨rfl,rfl⟩:=hR j o' hj;exact .inr (hblk b hbo).1
 have hkeep:Keeps w (Prv C.X (A3 (objRegs [])) rho) w' (Prv C.X (A3 (objRegs [Obj.vec e k n g vw])) rho'):=fun b o u hp hc=>by
  have hlt:=ZS w ⟨b,o,none⟩ hc;refine⟨by rw[<- hc];exact Zs (hb.block b hlt),fun hpp=>?_⟩;rcases hprv b o hpp with hX|hge
  ·exact hp (.inl hX)
  ·have:b<w.heap.size:=hlt
   omega
 refine⟨C,.ret (.vec 0),[.vec e k n g vw],[],rho',hG,⟨rfl,rfl,rfl⟩,?_,⟨v,rfl,?_⟩,fun i hi=>by simp at hi⟩
 ·refine⟨⟨fun j o hj=>?_,fun i j oi oj b hi hj _ _=>by rw[(hR i oi hi).1,(hR j oj hj).1],fun j o b off hj hbo hX=>?_,fun b off hp=>Zl (hs.hp.bound b off hp) hb.size⟩,hs.ext.trans ⟨hb.os,hb.output⟩,ZI hs.size hb.size,fun b hlt hE=>?_,hs.keep.trans hkeep,fun b hbo=>?_,fun j r b hj=>by cases (hR j _ hj).2⟩
  ·obtain⟨rfl,rfl⟩:=hR j o hj;rw[hr0];rcases hv with hn|⟨b,cap,c,rfl,h1,h2,h3,h4,h5,h6⟩
   ·exact .inl hn
   ·exact .inr ⟨b,cap,c,rfl,h2,h3,h4,h5,hk,fun i j hi hj=>⟨(h6 i j hi hj).1.keeps hkeep,(h6 i j hi hj).2⟩⟩
  ·obtain⟨rfl,rfl⟩:=hR j o hj;have h1:=(hblk b hbo).1;have h2:=hs.hp.bound b off hX;omega
  ·rw[hb.block b (Zl hlt hs.size)];exact hs.same b hlt hE
  ·obtain⟨j,o,hj,hbo⟩:=hbo;obtain⟨rfl,rfl⟩:=hR j o hj;exact .inr (ZI hs.size (hblk b hbo).1)
 ·rcases hv with⟨rfl,_⟩ | ⟨b,cap,c,rfl,_⟩
  ·exact .vec 0 none 0 0 (by simp[Lv,hR0]) rfl
  ·exact .vec 0 _ n cap (by simp[Lv,hR0]) rfl
end Go.AM
namespace Go.AM
open Go.RowKit Go.ChangeShapes
end Go.AM
namespace Go.AM
section
variable {S:X8}{P:Program}{F:J0}{K:List It}{st:St}{g:Cfg}{pr:Prop}
def WQ (p:Option PV)(r:Iq):Prop:=match p with
 |none=>∃a,r=.ret a
 |some x=>r=.panic x
def IX (S:X8)(f:FuncId)(first caps:List AV)(objs:List Obj)(L:List (List PV))(p:Option PV):Prop:=
 S.F f (first ++ .yf objs.length::caps) (objs++[.yld L true]) fun r objs' ks=>∃b,objs'[objs.length]? = some (.yld [] b)/\ks[objs.length]? = some true/\(b=true->WQ p r)/\(b=false->∃a,r=.ret a)
def endP:Option PV->Ip
 |none=>.normal
 |some x=>.panic x
theorem UY (hS:F6 S P){g:Operand}{ps:Array Tmp}{asg body:Code}{f:FuncId}{first caps as bs:List AV}{objs:List Obj}(ids ts:List Nat)(gh:Nat)(L:List (List PV)){p:Option PV}{X:Type}(s:X->St)(J:List (List PV)->X->Prop)(x0:X)(idl:List (Nat×Nat))
 (hp:BW st.env g=some (f,first,caps)) (hfn:∃fn,P.funcs[f]? = some fn/\fn.body.isSome=true/\(fn.name == "runtime.NumGoroutine")=false) (hob:I1 ids st.regs ids=some objs) (hny:Cs objs=true) (hd:E7 ids=true) (hr1:Bf ids first=some as) (hr2:Bf ids caps=some bs) (hol:objs.length=ids.length)
 (hgh:gh<1000) (hng:A3 st.regs gh=none) (hil:ids.length<1000) (hts:E7 ts=true) (hlen:∀ys∈L,ys.length=ps.size)
 (hF:IX S f as bs objs L p) (hle:Le idl ⟨R6 ts (ts.map (get st.env)),K7 ids (ids.map fun _=>false) st.regs⟩ (s x0)) (h0:J L x0) (hk:∀x,(s x).env.map (·.1)=ts) (hn:∀x,A3 (s x).regs gh=none)
 (hround:∀ys rest x,J (ys::rest) x->G S P (Y8 S P body gh ts (UD s J rest) (kp S P K F)) (.code asg [] ⟨FH ps.toList ys (s x).env,ins gh (.ghost ((s x).env.map (·.2))) (s x).regs⟩))
 (hend:∀x,J [] x->G S P F (.pop (endP p) K (s x))):G S P F (.code (.rangeFunc g ps asg body) K st):=by
 have hdup:∀{l:List Nat},E7 l=true->l.Nodup:=by
  intro l
  induction l with
  |nil=>intro _;exact Aa5
  |cons a r ih=>intro h;simp only[E7,YR,Zf,Zt,decide_eq_false_iff_not]at h;exact ZD.2 ⟨h.1,ih h.2⟩
 refine⟨f,first,caps,as,bs,objs,ids,ts,gh,L,UD s J,fun b r=>b=true->WQ p r,hp,hfn,hny,hd,hr1,hr2,hob,hgh,hng,hil,hdup hts,hlen,hS.le idl _ _ _ hle ⟨hk x0,hn x0,x0,rfl,h0⟩,?_,?_,?_⟩
 ·rintro ys rest _ _ _ ⟨x,rfl,hJ⟩;have h:=hround ys rest x hJ;have e:Y8 S P body gh ts (UD s J rest) (kp S P K F)=fun e s'=>match e with
   |.normal=>S.up s' fun s'=>awp S P body (BY S gh ts (UD s J rest) (kp S P K F)) s'
   |_=>False:=by funext e s';cases e<;>rfl
  rw[e]at h;exact h
 ·rintro _ r _ _ ⟨x,rfl,hJ⟩ hf;have h1:=hf rfl;have h2:=hend x hJ;cases p with
  |none=>obtain⟨a,rfl⟩:=h1;exact h2
  |some y=>cases h1;exact h2
 ·rw[<- hol];refine hS.monoF _ _ _ _ _ ?_ hF;rintro r o ks ⟨b,h1,h2,h3,h4⟩;exact⟨b,h1,h2,h3,h4⟩
theorem UZ (hS:F6 S P){g:Operand}{ps:Array Tmp}{asg body:Code}{f:FuncId}{first caps as bs:List AV}{objs:List Obj}{R T A:Type}{enc:T->List PV}{L:List T}{p:Option PV}{mb:(A->Option R)->T->A->Option R}{mk:A->Option R}{a0:A}{r:R}
 (ids ts:List Nat) (gh:Nat) (s:A->St) (idl:List (Nat×Nat)) (h:V4 L mb mk a0=some r) (hF:IX S f as bs objs (L.map enc) p)
 (hp:BW st.env g=some (f,first,caps)) (hfn:∃fn,P.funcs[f]? = some fn/\fn.body.isSome=true/\(fn.name == "runtime.NumGoroutine")=false) (hob:I1 ids st.regs ids=some objs) (hny:Cs objs=true) (hd:E7 ids=true) (hr1:Bf ids first=some as) (hr2:Bf ids caps=some bs) (hol:objs.length=ids.length)
 (hgh:Nat.blt gh 1000=true) (hng:A3 st.regs gh=none) (hil:Nat.blt ids.length 1000=true) (hts:E7 ts=true) (hlen:∀t:T,(enc t).length=ps.size)
 (hle:Le idl ⟨R6 ts (ts.map (get st.env)),K7 ids (ids.map fun _=>false) st.regs⟩ (s a0)) (hk:∀a,(s a).env.map (·.1)=ts) (hn:∀a,A3 (s a).regs gh=none)
 (hround:∀(t:T) (next:St->Prop) (self:A->Option R) (a:A),(∀(st st1:St) (cs:List AV) (idl:List (Nat×Nat)) (a:A),Le idl st st1->A3 st1.regs gh=some (.ghost cs)->cs.length=ts.length->A3 (del gh st1.regs) gh=none->(⟨R6 ts cs,del gh st1.regs⟩:St)=s a->self a=some r->G S P (BY S gh ts next (kp S P K F)) (.pop .normal [] st)) ->
  mb self t a=some r->G S P (Y8 S P body gh ts next (kp S P K F)) (.code asg [] ⟨FH ps.toList (enc t) (s a).env,ins gh (.ghost ((s a).env.map (·.2))) (s a).regs⟩))
 (hend:∀a,mk a=some r->G S P F (.pop (endP p) K (s a))):G S P F (.code (.rangeFunc g ps asg body) K st):=by
 refine UY hS ids ts gh (L.map enc) s (fun rest a=>∃L',rest=L'.map enc/\V4 L' mb mk a=some r) a0 idl hp hfn hob hny hd hr1 hr2 hol (by simpa[Ac2]using hgh) hng (by simpa[Ac2]using hil) hts (fun ys hy=>?_) hF hle ⟨L,rfl,h⟩ hk hn ?_ ?_
 ·obtain⟨t,_,rfl⟩:=Ae2.1 hy;exact hlen t
 ·rintro ys rest a ⟨L',hL,hx⟩;cases L' with
  |nil=>cases hL
  |cons t L'=>simp only[Zr,ZZ]at hL;obtain⟨rfl,rfl⟩:=hL;refine hround t _ (V4 L' mb mk) a (fun st st1 cs idl a hle h1 h2 h3 h4 h5=>?_) hx;exact Pj hS st1 a idl hle h1 h2 h3 h4 ⟨L',rfl,h5⟩
 ·rintro a ⟨L',hL,hx⟩;cases L' with
  |nil=>exact hend a hx
  |cons t L'=>cases hL
theorem QG (hS:F6 S P)(hc:pr){f:FuncId}{as bs:List AV}{objs:List Obj}{R T A:Type}{enc:T->List PV}{L:List T}{p:Option PV}{mb:(A->Option R)->T->A->Option R}{mk:A->Option R}{a0:A}{r:R}
 (ids ts:List Nat) (gh:Nat) (s:A->St) {idl:List (Nat×Nat)}(h:V4 L mb mk a0=some r) (hF:IX S f as bs objs (L.map enc) p)
 (hlen:∀t:T,(enc t).length=(EP (stp P g)).size) (hk:∀a,(s a).env.map (·.1)=ts) (hn:∀a,A3 (s a).regs gh=none) (hb0:∀a,(⟨R6 ts ((s a).env.map (·.2)),del gh (ins gh (.ghost ((s a).env.map (·.2))) (s a).regs)⟩:St)=s a)
 (hround:∀(t:T) (next:St->Prop) (self:A->Option R) (a:A),
  (∀(g' : Cfg) (ids:List (Nat×Nat)) (pr:Prop) (a:A),pr->self a=some r->(hp:pr=C4 (cnd P g'):=by kernel_rfl)->(he:stp P g' = .pop .normal [] (stp P g').st:=by kernel_rfl)->(hle:KLe ids (stp P g').st (rst gh (s a)):=by exact kl)->KG S P (BY S gh ts next (kp S P (stp P g).k F)) g') ->
  mb self t a=some r->KG S P (Y8 S P (NO (stp P g)) gh ts next (kp S P (stp P g).k F)) (.code (NN (stp P g)) [] (NQ gh (EP (stp P g)) (enc t) (s a))))
 (hend:∀a,mk a=some r->KG S P F (.pop (endP p) (stp P g).k (s a)))
 (hp:pr=C4 (cnd P g):=by kernel_rfl) (he:NM P ids (stp P g)=some (f,as,bs,objs):=by kernel_rfl) (hgh:Nat.blt gh 1000=true:=by kernel_rfl) (hng:A3 (stp P g).st.regs gh=none:=by kernel_rfl) (hts:E7 ts=true:=by kernel_rfl)
 (hle:KLe idl (NP ids ts (stp P g)) (s a0):=by exact kl):KG S P F g:=by
 refine⟨DH hS hc ?_ hp⟩;have hfn:=(EF he).2;replace he:=(EF he).1;generalize stp P g=g1 at hlen hround hend he hng hle;unfold IW at he;split at he
 ·rename_i op ps asg body K st;split at he
  ·rename_i f' first caps hpo
   split at he
   ·rename_i objs' as' bs' h2 h3 h4;split at he
    ·rename_i hh;simp only[YP,Zj]at he;obtain⟨rfl,rfl,rfl,rfl⟩:=he;simp only[YR,Zf,beq_iff_eq]at hh;obtain⟨⟨⟨e3,e4⟩,e5⟩,e6⟩:=hh;refine UZ hS ids ts gh s idl h hF hpo hfn h2 e3 e4 h3 h4 e5 hgh hng e6 hts hlen hle.out hk hn (fun t next self a hb hm=>?_) (fun a hm=>(hend a hm).out);refine (hround t next self a (fun g' ids' pr a hc hself hp he hle=>⟨DH hS hc ?_ hp⟩) hm).out;rw[he];have hl:((s a).env.map (·.2)).length=ts.length:=by rw[<- hk a];simp
     refine hb _ (rst gh (s a)) ((s a).env.map fun p=>p.2) ids' a hle.out (DW gh (s a)) hl ?_ (hb0 a) hself
     have:=congrArg St.regs (hb0 a)
     simp only at this;show A3 (del gh (ins gh _ _)) gh=none;rw[this];exact hn a
    ·cases he
   ·cases he
  ·cases he
 ·cases he
theorem Tm (hS:F6 S P){f:FuncId}{fn:Func}{first caps:List AV}{objs:List Obj}{L:List (List PV)}{p:Option PV}(hf:P.funcs[f]? = some fn)
 (h:KG S P (Aq S P (objs++[Obj.yld L true]).length fn.results.toList fun r objs' ks=>∃b,objs'[objs.length]? = some (.yld [] b)/\ks[objs.length]? = some true/\(b=true->WQ p r)/\(b=false->∃a,r=.ret a)) (.code (fn.body.getD .skip) [] { env:=argEnv (first ++ .yf objs.length::caps),regs:=objRegs (objs++[Obj.yld L true]) }))
 (hc:fn.body.isSome=true:=by kernel_rfl) (hn:Nat.ble (first ++ .yf objs.length::caps).length fn.ntmps=true:=by kernel_rfl) (ho:Nat.blt (objs++[Obj.yld L true]).length 1000=true:=by kernel_rfl)
 (hco:U8 fn.ntmps (fn.body.getD .skip)=true:=by kernel_rfl) (hnm:(fn.name == "runtime.NumGoroutine")=false:=by kernel_rfl):IX S f first caps objs L p:=by
 obtain⟨code,hcode⟩:=Zb.1 hc;rw[hcode,YU]at hco h;exact GT hS hf hcode (ZR hn) (by simpa[Ac2]using ho) rfl hco hnm h.out
theorem Va (hS:F6 S P){f:FuncId}{fn:Func}{args:List AV}{objs:List Obj}{Q:Iq->List Obj->List Bool->Prop}(hf:P.funcs[f]? = some fn)
 (h:KG S P (Aq S P objs.length fn.results.toList Q) (.code (fn.body.getD .skip) [] { env:=argEnv args,regs:=objRegs objs }))
 (hc:fn.body.isSome=true:=by kernel_rfl) (hn:Nat.ble args.length fn.ntmps=true:=by kernel_rfl) (ho:Nat.blt objs.length 1000=true:=by kernel_rfl)
 (hco:U8 fn.ntmps (fn.body.getD .skip)=true:=by kernel_rfl) (hnm:(fn.name == "runtime.NumGoroutine")=false:=by kernel_rfl):S.F f args objs Q:=by
 obtain⟨code,hcode⟩:=Zb.1 hc;rw[hcode,YU]at hco h;exact GT hS hf hcode (ZR hn) (by simpa[Ac2]using ho) rfl hco hnm h.out
def panE:Cfg->Option PV
 |.ops all (o::_) _ st=>match AS all st.env o,o.op with
  |some true,.panic x=>match aev st.env x with
   |.p (.iface t y)=>some (.iface t y)
   |_=>none
  |_,_=>none
 |_=>none
def panC (x:PV):Cfg->Cfg
 |.ops _ _ K st=>.pop (.panic x) K st
 |g=>g
theorem WR (hS:F6 S P)(hc:pr){x:PV}(hk:KG S P F (panC x (stp P g)))(hp:pr=C4 (cnd P g):=by kernel_rfl)(he:panE (stp P g)=some x:=by kernel_rfl):KG S P F g:=by
 refine⟨DH hS hc ?_ hp⟩;have hk:=hk.out;generalize stp P g=g1 at hk he;unfold panE at he;split at he
 ·rename_i all o rest K st;split at he
  ·rename_i y hg ho;split at he
   ·rename_i t z hx;cases he;exact Ww hS hg ho hx hk
   ·cases he
  ·cases he
 ·cases he
def Vb:Cfg->Option PV
 |.pop (.panic x) [] _=>some x
 |_=>none
theorem VH (hS:F6 S P)(hc:pr){n:Nat}{rs:List ResultVar}{Q:Iq->List Obj->List Bool->Prop}{x:PV}{objs:List Obj}(outs:List Nat)(hQ:Q (.panic x) objs (Ds n outs))(hp:pr=C4 (cnd P g):=by kernel_rfl)
 (he:Vb (stp P g)=some x:=by kernel_rfl) (hd:E7 outs=true:=by kernel_rfl) (hr:I1 outs (stp P g).st.regs outs=some objs:=by kernel_rfl):KG S P (Aq S P n rs Q) g:=by
 refine⟨DH hS hc ?_ hp⟩;generalize stp P g=g1 at he hr;unfold Vb at he;split at he
 ·cases he;exact⟨outs,objs,hd,hr,hQ⟩
 ·cases he
theorem WS (hS:F6 S P){all rest:List Oper}{o:Oper}{c:Call}{f:Operand}{as:List AV}{regs:B9}{fn:FuncId}{as' args:List AV}{objs objs' : List Obj}{ks:List Bool}{x:PV}(ids:List Nat)
 (hg:AS all st.env o=some true) (ho:o.op=.call c) (hf:c.callee=.value f) (ha:JQ st.regs (c.args.toList.map (aev st.env))=some (as,regs))
 (hw:OM st.env f as=some (fn,as')) (hr:Bf ids as' = some args) (hob:I1 ids regs ids=some objs) (hF:S.F fn args objs fun res o k=>res=.panic x/\o=objs' /\ k=ks)
 (hd:E7 ids=true) (hy:Cs objs=true) (hn:Bh regs ids ks (o.dst.getD 0) objs'.length=true)
 (hk:G S P F (.pop (.panic x) K { env:=st.env,regs:=RZ (K6 (o.dst.getD 0) ids ks objs'.length) (K6 (o.dst.getD 0) ids ks objs'.length) objs' (K7 ids ks regs) })) :
 G S P F (.ops all (o::rest) K st):=by
 refine Ct hS hg ?_;unfold wOp;obtain⟨callee,cargs,types⟩:=c;simp only at hf ha;subst hf;rw[ho];refine .inl ⟨as,regs,_,_,.inl ha,hw,ids,args,objs,hd,hr,hob,hy,hS.monoF _ _ _ _ _ ?_ hF⟩;rintro _ _ _ ⟨rfl,rfl,rfl⟩;exact⟨hn,hk⟩
def VJ (ids:List Nat)(ks:List Bool)(x:PV)(objs' : List Obj):Cfg->Cfg
 |.ops all (o::rest) K st=>match o.op with
  |.call c=>match JQ st.regs (c.args.toList.map (aev st.env))with
   |some (_,regs)=>mkO st.env (RZ (K6 (o.dst.getD 0) ids ks objs'.length) (K6 (o.dst.getD 0) ids ks objs'.length) objs' (K7 ids ks regs)) fun env regs=>.pop (.panic x) K ⟨env,regs⟩
   |none=>.ops all (o::rest) K st
  |_=>.ops all (o::rest) K st
 |g=>g
theorem WT (hS:F6 S P)(ids:List Nat)(hc:pr){fn:FuncId}{args:List AV}{objs objs' : List Obj}{x:PV}{ks:List Bool}(hF:S.F fn args objs fun res o k=>res=.panic x/\o=objs' /\ k=ks)
 (hk:KG S P F (VJ ids ks x objs' (stp P g))) (hp:pr=C4 (cnd P g):=by kernel_rfl) (he:Ry ids (stp P g)=some (fn,args,objs):=by kernel_rfl) (hn:Rz ids ks objs'.length (stp P g)=true:=by kernel_rfl):KG S P F g:=by
 refine⟨DH hS hc ?_ hp⟩;replace hk:=hk.out;generalize stp P g=g' at he hn hk;unfold Ry at he;split at he
 ·split at he
  ·rename_i hg ho;split at he
   ·rename_i hcl;split at he
    ·rename_i ha;split at he
     ·rename_i hw;split at he
      ·rename_i hr hob;split at he
       ·rename_i hdy;cases he;simp only[YR]at hdy;simp only[VJ,Rz,ho,ha,CB]at hk hn;exact WS hS ids hg ho hcl ha hw hr hob hF hdy.1 hdy.2 hn hk
       ·cases he
      ·cases he
     ·cases he
    ·cases he
   ·cases he
  ·cases he
 ·cases he
def Ll (S:X8)(R:St->Prop)(X:PV->St->Prop):J0
 |.normal,st=>S.up st R
 |.panic x,st=>X x st
 |_,_=>False
theorem K_upN (hS:F6 S P)(hc:pr){R:St->Prop}{X:PV->St->Prop}(st:St){ids:List (Nat×Nat)}(hR:R st)(hp:pr=C4 (cnd P g):=by kernel_rfl)(he:stp P g=.pop .normal [] (stp P g).st:=by kernel_rfl)
 (hle:KLe ids (stp P g).st st:=by exact kl):KG S P (Ll S R X) g:=by
 refine⟨DH hS hc ?_ hp⟩;rw[he];exact hS.le ids _ _ R hle.out hR
theorem K_upP (hS:F6 S P)(hc:pr){R:St->Prop}{X:PV->St->Prop}{x:PV}(hX:X x (stp P g).st)(hp:pr=C4 (cnd P g):=by kernel_rfl)(he:Vb (stp P g)=some x:=by kernel_rfl):KG S P (Ll S R X) g:=by
 refine⟨DH hS hc ?_ hp⟩;generalize stp P g=g1 at he hX;unfold Vb at he;split at he
 ·cases he;exact hX
 ·cases he
end
end Go.AM
namespace Go.AM
section
variable {S:X8}{P:Program}{F:J0}{K:List It}{g:Cfg}{pr:Prop}
end
end Go.AM
namespace Go.AM
open Go.RowKit Go.ChangeShapes Go.Deep
mutual
inductive LeD:PV->PV->Prop
 |refl (x:PV):LeD x x
 |sl {k n:Nat}{f g:Nat->List PV}(h:∀i,i<n->LeDs (f i) (g i)):LeD (.sl false k n f) (.sl false k n g)
inductive LeDs:List PV->List PV->Prop
 |nil:LeDs [] []
 |cons {x y:PV}{l r:List PV}(h:LeD x y) (h' : LeDs l r):LeDs (x::l) (y::r)
end
theorem LeDs.refl:∀l:List PV,LeDs l l
 |[]=>.nil
 |x::l=>.cons (.refl x) (LeDs.refl l)
theorem LeDs.length {l r:List PV}(h:LeDs l r):l.length=r.length:=by
 induction l generalizing r with
 |nil=>cases h;rfl
 |cons x l ih=>cases h with|cons _ h'=>simp[ih h']
theorem LeDs.get {l r:List PV}(h:LeDs l r):∀i,LeD (l.getD i default) (r.getD i default):=by
 induction l generalizing r with
 |nil=>cases h;exact fun i=>.refl _
 |cons x l ih=>
  cases h with
  |cons h h'=>
   intro i;cases i with
   |zero=>exact h
   |succ i=>simpa using ih h' i
theorem LeDs.append {a b c d:List PV}(h:LeDs a b)(h' : LeDs c d):LeDs (a++c) (b++d):=by
 induction a generalizing b with
 |nil=>cases h;exact h'
 |cons x l ih=>cases h with|cons h1 h2=>exact .cons h1 (ih h2)
theorem RepP.leD {w:World}{Pi:Nat->Nat->Prop}{v:Value}{x:PV}(h:RepP w Pi v x):∀{y:PV},LeD x y->RepP w Pi v y:=by
 induction h with
 |slnil k f=>intro y hy;cases hy with
  |refl=>exact .slnil _ _
  |sl h=>exact .slnil _ _
 |sl nn b off cap k n f c hn hk hc h sp hsp ih=>
  intro y hy;cases hy with
  |refl=>exact .sl nn b off cap k n f c hn hk hc h sp hsp
  |sl h'=>exact .sl false b off cap k n _ c hn (fun i hi=>by rw[<- (h' i hi).length];exact hk i hi) hc (fun i j hi hj=>ih i j hi hj ((h' i hi).get j)) sp hsp
 |v x=>intro y hy;cases hy;exact .v x
 |bb b=>intro y hy;cases hy;exact .bb b
 |str l=>intro y hy;cases hy;exact .str l
 |agg vs cs hs h1 h ih=>intro y hy;cases hy;exact .agg vs cs hs h1 h
 |ptr b off cs c hc h ih=>intro y hy;cases hy;exact .ptr b off cs c hc h
 |iface t x a h ih=>intro y hy;cases hy;exact .iface t x a h
 |fn f x y a b hx hy ha hb iha ihb=>intro y hy;cases hy;exact .fn f x _ a b hx ‹_› ha hb
theorem CRep.leD {W:World}{cs:List Value}{p q:List PV}(h:CRep W cs p)(hl:LeDs p q):CRep W cs q:=
 ⟨by rw[h.1,hl.length],fun i hi=>⟨(h.2 i (by rw[hl.length];exact hi)).1.leD (hl.get i),(h.2 i (by rw[hl.length];exact hi)).2⟩⟩
section
variable {P:Program}{t e:TypeId}{m:Nat}{pvs:List PV}
def TO (f:Nat->Nat):Nat->Nat
 |0=>0
 |k+1=>TO f k+f k
theorem NS {f g:Nat->Nat}:∀{n:Nat},(∀i,i<n->f i<=g i)->TO f n<=TO g n
 |0,_=>YY _
 |n+1,h=>by have h1:=NS (n:=n) fun i hi=>h i (by omega);have h2:=h n (by omega);simp only[TO];omega
theorem RE (f:Nat->Nat):∀n,OK ((List.range n).map f)=TO f n:=by
 have app:∀a b:List Nat,OK (a++b)=OK a+OK b:=by
  intro a b
  induction a with
  |nil=>simp[OK]
  |cons x r ih=>simp only[ZC,NE,ih];omega
 intro n
 induction n with
 |zero=>rfl
 |succ n ih=>rw[Aa9,List.map_append,app,ih];simp[TO,OK]
def Vc (P:Program)(t:TypeId){T:Type}(c:T->List PV)(W:T->Prop)(sz:T->Nat):Prop:=
 ∀(m:Nat) (pvs:List PV),Fq P m t pvs->∃x:T,LeDs pvs (c x)/\W x/\sz x<=m
theorem FG {k:IntKind}(ht:P.underlying t=some (.int k)):Vc P t (cI k) (fun n=>(Lit.int k n).wf=true) (fun _=>1):=by
 intro m pvs h;cases h with
 |bool ht'=>rw[ht]at ht';cases ht'
 |str ht'=>rw[ht]at ht';cases ht'
 |slice _ ht'=>rw[ht]at ht';cases ht'
 |arr ht'=>rw[ht]at ht';cases ht'
 |struct ht'=>rw[ht]at ht';cases ht'
 |int ht' hw hm=>rw[ht]at ht';cases ht';exact⟨_,LeDs.refl _,hw,hm⟩
theorem Pq {T:Type}[Inhabited T]{c:T->List PV}{W:T->Prop}{sz:T->Nat}{k:Nat}(ht:P.underlying t=some (.slice e))(hk:P.cellsOf e=k)(h:Vc P e c W sz) :Vc P t (cL k c) (fun s=>∀i,i<s.n->W (s.g i)) (fun s=>TO (fun i=>sz (s.g i)) s.n+1):=by
 intro m pvs hs;cases hs with
 |int ht'=>rw[ht]at ht';cases ht'
 |bool ht'=>rw[ht]at ht';cases ht'
 |str ht'=>rw[ht]at ht';cases ht'
 |arr ht'=>rw[ht]at ht';cases ht'
 |struct ht'=>rw[ht]at ht';cases ht'
 | @slice _ _ e' n f ms ht' hl hel hm=>
  rw[ht]at ht';cases ht';obtain⟨g,hg⟩:=choose_lt (α:=T) (p:=fun i x=>LeDs (f i) (c x)/\W x/\sz x<=ms i) fun i hi=>h _ _ (hel i hi);refine⟨⟨n,g⟩,?_,fun i hi=>(hg i hi).2.1,?_⟩
  ·subst hk;exact .cons (.sl fun i hi=>(hg i hi).1) .nil
  ·have h1:=NS (n:=n) fun i hi=>(hg i hi).2.2;rw[RE]at hm;show TO (fun i=>sz (g i)) n+1<=m;omega
theorem NT {fs:Array Field}(ht:P.underlying t=some (.struct fs))(h:Fq P m t pvs):∃m',DR P m' (fs.toList.map (·.type)) pvs/\m' + 1<=m:=by
 cases h with
 |int ht'=>rw[ht]at ht';cases ht'
 |bool ht'=>rw[ht]at ht';cases ht'
 |str ht'=>rw[ht]at ht';cases ht'
 |slice _ ht'=>rw[ht]at ht';cases ht'
 |arr ht'=>rw[ht]at ht';cases ht'
 |struct ht' h hm=>rw[ht]at ht';cases ht';exact⟨_,h,hm⟩
theorem IY {ts:List TypeId}(h:DR P m (t::ts) pvs):∃a b p q,pvs=p++q/\Fq P a t p/\DR P b ts q/\a+b<=m:=by
 cases h with
 |cons h h' hm=>exact⟨_,_,_,_,rfl,h,h',hm⟩
theorem RF (h:DR P m [] pvs):pvs=[]:=by cases h;rfl
end
end Go.AM
