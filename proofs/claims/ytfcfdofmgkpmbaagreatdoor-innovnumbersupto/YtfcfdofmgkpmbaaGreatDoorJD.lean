/- What a law's walk and its plain proof need, part 4: no condition of its own. -/
import Derived.Test.YtfcfdofmgkpmbaaGreatDoorJC
import Derived.KernelRfl
set_option linter.unusedSimpArgs false
set_option linter.unusedVariables false
set_option linter.unusedSectionVars false
namespace Go.AM
section
variable (P:Program)
def stp (g:Cfg):Cfg:=(run P none 400 [] g).cfg
def cnd (g:Cfg):List Prop:=(run P none 400 [] g).conds
def ES (d:Nat)(g:Cfg):Cfg:=(run P (some d) 400 [] g).cfg
def ZG (d:Nat)(g:Cfg):List Prop:=(run P (some d) 400 [] g).conds
def Cfg.st:Cfg->St
 |.code _ _ s=>s
 |.ops _ _ _ s=>s
 |.pop _ _ s=>s
def Cfg.k:Cfg->List It
 |.code _ K _=>K
 |.ops _ _ K _=>K
 |.pop _ K _=>K
def mkO {R:Type _}(env:Env)(regs:C7)(κ : Env->C7->R):R:=fE env fun env=>fR regs fun regs=>κ env regs
theorem Dr {R:Type _}(env:Env)(regs:C7)(κ : Env->C7->R):mkO env regs κ = κ env regs:=by simp only[mkO,fE_eq,Yq]
def Ya {R:Type _}(d:Option Nat)(a:AV)(env:Env)(regs:C7)(κ : St->R):R:=match d with
 |some d=>mkO (ins d a env) regs fun env regs=>κ ⟨env,regs⟩
 |none=>mkO env regs fun env regs=>κ ⟨env,regs⟩
theorem Ii {R:Type _}(d:Option Nat)(a:AV)(env:Env)(regs:C7)(κ : St->R):Ya d a env regs κ = κ (put ⟨env,regs⟩ d a):=by cases d<;>simp only[Ya,Dr,put]
def Xb:Cfg->Option Bool
 |.code (.cond c _ _) _ st=>match aev st.env c with
  |.p (.bb b)=>some b
  |_=>none
 |_=>none
def YT:Cfg->Cfg
 |.code (.cond _ t _) K st=>.code t K st
 |g=>g
def YU:Cfg->Cfg
 |.code (.cond _ _ e) K st=>.code e K st
 |g=>g
def Sz:Cfg->Option Bool
 |.ops all (o::_) _ st=>match o.guard with
  |some (j,_)=>match ZP all j with
   |some d=>match get st.env d with
    |.p (.bb b)=>some b
    |_=>none
   |none=>none
  |none=>none
 |_=>none
def Kn (b:Bool):Cfg->Cfg
 |.ops all (o::rest) K st=>match o.guard with
  |some (j,_)=>match ZP all j with
   |some d=>Ya (some d) (.p (.v (.bool b))) st.env st.regs fun st=>.ops all (o::rest) K st
   |none=>.ops all (o::rest) K st
  |none=>.ops all (o::rest) K st
 |g=>g
def TM (ids:List Nat):Cfg->Option (FuncId×List AV×List Obj)
 |.ops all (o::_) _ st=>match Bu all st.env o,o.op with
  |some true,.call c=>match c.callee with
   |.value f=>match Lx st.regs (c.args.toList.map (aev st.env))with
    |some (as,regs)=>match QN st.env f as with
     |some (fn,as')=>match BK ids as',J9 ids regs ids with
      |some a,some ob=>if F9 ids&&Dh ob then some (fn,a,ob)else none
      |_,_=>none
     |none=>none
    |none=>none
   |_=>none
  |_,_=>none
 |_=>none
def TN (ids:List Nat)(ks:List Bool)(n:Nat):Cfg->Bool
 |.ops _ (o::_) _ st=>match o.op with
  |.call c=>match Lx st.regs (c.args.toList.map (aev st.env))with
   |some (_,regs)=>BP regs ids ks (o.dst.getD 0) n
   |none=>false
  |_=>false
 |_=>false
def Xc (ids:List Nat)(ks:List Bool)(r:AV)(objs' : List Obj):Cfg->Cfg
 |.ops all (o::rest) K st=>match o.op with
  |.call c=>match Lx st.regs (c.args.toList.map (aev st.env))with
   |some (_,regs)=>Ya o.dst (unA (O0 (o.dst.getD 0) ids ks objs'.length) r) st.env
    (Ux (O0 (o.dst.getD 0) ids ks objs'.length) (O0 (o.dst.getD 0) ids ks objs'.length) objs' (O1 ids ks regs)) fun st=>.ops all rest K st
   |none=>.ops all (o::rest) K st
  |_=>.ops all (o::rest) K st
 |g=>g
structure LookI where
 kt:TypeId
 e:TypeId
 key:PV
 es:List (PV×PV)
def YV:Cfg->Option LookI
 |.ops all (o::_) _ st=>match Bu all st.env o,o.op with
  |some true,.lookup t m k _=>match GO st.regs (aev st.env k),aev st.env m with
   |some (key,regs),.mref j=>match A3 regs j,tk P t with
    |some (.map es),some (.map kt e)=>if Ji P kt key then some ⟨kt,e,key,es⟩else none
    |_,_=>none
   |_,_=>none
  |_,_=>none
 |_=>none
def Ab2 (e:TypeId):Option PV->Option (PV×Bool)
 |some x=>some (x,true)
 |none=>(JL P e).map fun z=>(z,false)
def YW (x:PV)(b:Bool):Cfg->Cfg
 |.ops all (o::rest) K st=>match o.op with
  |.lookup _ _ k ok=>match GO st.regs (aev st.env k)with
   |some (_,regs)=>Ya o.dst (if ok then .tup [.p x,.bool b]else .p x) st.env regs fun st=>.ops all rest K st
   |none=>.ops all (o::rest) K st
  |_=>.ops all (o::rest) K st
 |g=>g
def updE:Cfg->Option (TypeId×PV×PV×List (PV×PV))
 |.ops all (o::_) _ st=>match Bu all st.env o,o.op with
  |some true,.mapUpdate t m k x=>match aev st.env k,aev st.env m,GO st.regs (aev st.env x)with
   |.p key,.mref j,some (y,regs)=>match A3 regs j,tk P t with
    |some (.map es),some (.map kt _)=>if Ji P kt (nP key) then some (kt,nP key,y,es)else none
    |_,_=>none
   |_,_,_=>none
  |_,_=>none
 |_=>none
def updK (es' : List (PV×PV)):Cfg->Cfg
 |.ops all (o::rest) K st=>match o.op with
  |.mapUpdate _ m _ x=>match aev st.env m,GO st.regs (aev st.env x)with
   |.mref j,some (_,regs)=>Ya o.dst Tg st.env (ins j (.map es') regs) fun st=>.ops all rest K st
   |_,_=>.ops all (o::rest) K st
  |_=>.ops all (o::rest) K st
 |g=>g
def Hg:Cfg->Bool
 |.code (.loop _) _ _=>true
 |_=>false
def PH:Cfg->Code
 |.code (.loop b) _ _=>b
 |_=>.skip
def popSt:Cfg->Option St
 |.pop .normal _ st=>some st
 |_=>none
def PI (M:It):Nat->List It->List It
 |0,K=>M::K
 |n+1,i::K=>i::PI M n K
 |_+1,[]=>[M]
def Ab3 (n:Nat)(M:St->Prop):Cfg->Cfg
 |.code c K st=>.code c (PI (.mid M) n K) st
 |.ops all rest K st=>.ops all rest (PI (.mid M) n K) st
 |.pop e K st=>.pop e (PI (.mid M) n K) st
def ET:Cfg->Bool
 |.ops _ (_::_) _ _=>true
 |_=>false
def opsS (st:St):Cfg->Cfg
 |.ops all rest K _=>.ops all rest K st
 |g=>g
def YX:Cfg->Option St
 |.pop .ret [] st=>some st
 |.pop .normal [] st=>some st
 |_=>none
inductive Leaf where
 |eq (x y:PV)
 |fn (n m:Nat) (f g:Nat->List PV)
 |mp (x y:List (PV×PV))
 |yl (x y:List (List PV)) (b c:Bool)
 |nt (a b:Nat)
 |ob (n:Nat) (f g:Nat->Obj)
inductive LV where
 |eq (x:PV)
 |fn (n:Nat) (f:Nat->List PV)
 |mp (x:List (PV×PV))
 |yl (x:List (List PV)) (b:Bool)
 |nt (a:Nat)
 |ob (f:Nat->Obj)
def Leaf.src:Leaf->LV
 |.eq x _=>.eq x
 |.fn n _ f _=>.fn n f
 |.mp x _=>.mp x
 |.yl x _ b _=>.yl x b
 |.nt a _=>.nt a
 |.ob _ f _=>.ob f
def Leaf.tgt:Leaf->LV
 |.eq _ y=>.eq y
 |.fn _ m _ g=>.fn m g
 |.mp _ y=>.mp y
 |.yl _ y _ c=>.yl y c
 |.nt _ b=>.nt b
 |.ob _ _ g=>.ob g
def Leaf.ok:Leaf->Prop
 |.eq x y=>x=y
 |.fn n m f g=>n=m/\∀i,i<n->f i=g i
 |.mp x y=>x=y
 |.yl x y b c=>x=y/\b=c
 |.nt a b=>a=b
 |.ob n f g=>∀i,i<n->f i=g i
theorem Leaf.ok_of {l:Leaf}(h:l.src=l.tgt):l.ok:=by
 cases l with
 |eq x y=>simp only[Leaf.src,Leaf.tgt,LV.eq.injEq]at h;exact h
 |fn n m f g=>simp only[Leaf.src,Leaf.tgt,LV.fn.injEq]at h;obtain⟨rfl,rfl⟩:=h;exact⟨rfl,fun _ _=>rfl⟩
 |mp x y=>simp only[Leaf.src,Leaf.tgt,LV.mp.injEq]at h;exact h
 |yl x y b c=>simp only[Leaf.src,Leaf.tgt,LV.yl.injEq]at h;exact h
 |nt a b=>simp only[Leaf.src,Leaf.tgt,LV.nt.injEq]at h;exact h
 |ob n f g=>simp only[Leaf.src,Leaf.tgt,LV.ob.injEq]at h;subst h;exact fun _ _=>rfl
def YY:PV->PV->Leaf
 |.v (.bool b),.bb c=>.eq (.bb b) (.bb c)
 |.v (.slice none 0 0),.sl false _ n f=>.fn 0 n f f
 |.sl nn k n f,.sl false l m g=>if k=l then .fn n m f g else .eq (.sl nn k n f) (.sl false l m g)
 |x,y=>.eq x y
mutual
def Hh (regs:C7)(ids:List (Nat×Nat))(a b:AV):Option (List Leaf):=
 match b with
 |.top=>some []
 |.p y=>match viewP regs a with
  |some x=>some [YY x y]
  |none=>none
 |.reg j off=>match a with | .reg i off'=>if lk ids j=some i/\off=off' then some []else none|_=>none
 |.vec j=>match a with
  |.vec i=>if lk ids j=some i then some []else none
  |.p (.v (.slice none 0 0))=>if lk ids j=none then some []else none
  |_=>none
 |.vecp j n=>match a with | .vecp i m=>if lk ids j=some i/\n=m then some []else none|_=>none
 |.elt j k n off=>match a with | .elt i k' n' off'=>if lk ids j=some i/\k=k' /\ n=n' /\ off=off' then some []else none|_=>none
 |.mref j=>match a with | .mref i=>if lk ids j=some i then some []else none|_=>none
 |.yf j=>match a with | .yf i=>if lk ids j=some i then some []else none|_=>none
 |.clo f x y=>match a with
  |.clo f' x' y'=>match LI regs ids x' x,LI regs ids y' y with|some l,some m=>some (.nt f' f::l++m)|_,_=>none
  |_=>none
 |.tup l=>match a with | .tup l'=>LI regs ids l' l|_=>none
 |.agr l=>match a with | .agr l'=>LI regs ids l' l|_=>none
def LI (regs:C7)(ids:List (Nat×Nat))(a b:List AV):Option (List Leaf):=
 match b with
 |[]=>match a with | []=>some [] | _=>none
 |y::s=>match a with
  |x::r=>match Hh regs ids x y,LI regs ids r s with|some l,some m=>some (l++m)|_,_=>none
  |[]=>none
end
def Xd (regs:C7)(ids:List (Nat×Nat))(env:Env):Env->Option (List Leaf)
 |[]=>some []
 |(t,b)::r=>match Hh regs ids (get env t) b,Xd regs ids env r with|some l,some m=>some (l++m)|_,_=>none
def LJ (regs:C7)(ids:List (Nat×Nat))(o p:Obj):Option (List Leaf):=
 match p with
 |.cells cs=>match o with | .cells cs'=>LI regs ids cs' cs|_=>none
 |.vec e k n f vw=>match o with
  |.vec e' k' m g vw'=>if e=e' /\ k=k' /\ (vw' = true->vw=true)then some [.fn m n g f]else none
  |_=>none
 |.map es=>match o with | .map es'=>some [.mp es' es] | _=>none
 |.arr n f=>match o with | .arr m g=>some [.fn m n (fun i=>[g i]) (fun i=>[f i])] | _=>none
 |.ghost cs=>match o with | .ghost cs'=>LI regs ids cs' cs|_=>none
 |.yld r b=>match o with | .yld r' b'=>some [.yl r' r b' b] | _=>none
 |.fam e n jr x=>match o with
  |.fam e' m jr' x'=>if e=e' /\ lk ids jr=some jr' then (match x,x' with
   |none,none=>some [.nt m n]
   |some (i,a),some (i',a')=>match nov a' a,Hh regs ids a' a with
    |true,some l=>some (.nt m n :: .nt i' i::l)
    |_,_=>none
   |_,_=>none)else none
  |_=>none
 |.rows n g=>match o with | .rows m g'=>some [.nt m n,.ob n g' g] | _=>none
 |.dead=>some []
def Xe (regs:C7)(ids:List (Nat×Nat)):C7->Option (List Leaf)
 |[]=>some []
 |(j,p)::r=>match (match lk ids j with
  |some i=>match A3 regs i with
   |some o=>LJ regs ids o p
   |none=>none
  |none=>match p with
   |.vec _ _ n f _=>some [.fn 0 n f f]
   |_=>none:Option (List Leaf)),Xe regs ids r with
  |some l,some m=>some (l++m)
  |_,_=>none
def leK (ids:List (Nat×Nat))(s t:St):Option (List Leaf):=
 if (wf t&&F9 (ids.map (·.2))&&Th ids&&Mt ids t.regs&&IF ids (Wm s.env t.env++GT ids s.regs t.regs) t.regs) then
  match Xd s.regs ids s.env t.env,Xe s.regs ids t.regs with
  |some l,some m=>some (l++m)
  |_,_=>none
 else none
theorem Xf {x y:PV}(h:(YY x y).ok):leP x y:=by
 unfold YY at h;split at h
 ·simp only[Leaf.ok,PV.bb.injEq]at h;subst h;exact .inr (.inr (.inr (.inl ⟨_,rfl,rfl⟩)))
 ·obtain⟨rfl,_⟩:=h;exact .inr (.inr (.inl ⟨_,_,rfl,rfl⟩))
 ·split at h
  ·rename_i hk;subst hk;obtain⟨rfl,h⟩:=h;exact .inr (.inl ⟨_,_,_,_,_,rfl,rfl,h⟩)
  ·exact .inl h
 ·exact .inl h
theorem Ko {l m:List Leaf}(h:∀x∈l++m,x.ok):(∀x∈l,x.ok)/\∀x∈m,x.ok:=
 ⟨fun x hx=>h x (List.mem_append_left _ hx),fun x hx=>h x (List.mem_append_right _ hx)⟩
mutual
theorem NI {regs:C7}{ids:List (Nat×Nat)}{a:AV}(b:AV){L:List Leaf}(h:Hh regs ids a b=some L)(hL:∀x∈L,x.ok):leA regs ids a b:=by
 cases b with
 |top=>unfold leA;trivial
 |p y=>
  unfold Hh at h;split at h
  ·rename_i x hx;cases h;unfold leA;exact⟨x,hx,Xf (hL _ (by simp))⟩
  ·cases h
 |reg j off=>
  unfold Hh at h;split at h
  ·split at h
   ·rename_i hh;obtain⟨h1,rfl⟩:=hh;exact ZS h1
   ·cases h
  ·cases h
 |vec j=>
  unfold Hh at h;split at h
  ·split at h
   ·rename_i h1;exact ZR h1
   ·cases h
  ·split at h
   ·rename_i h1;exact Yu h1
   ·cases h
  ·cases h
 |vecp j n=>
  unfold Hh at h;split at h
  ·split at h
   ·rename_i hh;obtain⟨h1,rfl⟩:=hh;unfold leA;exact⟨_,h1,rfl⟩
   ·cases h
  ·cases h
 |elt j k n off=>
  unfold Hh at h;split at h
  ·split at h
   ·rename_i hh;obtain⟨h1,rfl,rfl,rfl⟩:=hh;unfold leA;exact⟨_,h1,rfl⟩
   ·cases h
  ·cases h
 |mref j=>
  unfold Hh at h;split at h
  ·split at h
   ·rename_i h1;exact Yv h1
   ·cases h
  ·cases h
 |yf j=>
  unfold Hh at h;split at h
  ·split at h
   ·rename_i h1;exact le_yf h1
   ·cases h
  ·cases h
 |clo f x y=>
  unfold Hh at h;split at h
  ·split at h
   ·rename_i l m h1 h2;cases h;have hf:=hL _ (List.mem_cons_self ..);simp only[Leaf.ok]at hf;subst hf;obtain⟨h3,h4⟩:=Ko fun x hx=>hL x (List.mem_cons_of_mem _ hx);exact ZT (DJ x h1 h3) (DJ y h2 h4)
   ·cases h
  ·cases h
 |tup l=>
  unfold Hh at h;split at h
  ·exact Aa9 (DJ l h hL)
  ·cases h
 |agr l=>
  unfold Hh at h;split at h
  ·exact Ab0 (DJ l h hL)
  ·cases h
theorem DJ {regs:C7}{ids:List (Nat×Nat)}{a:List AV}(b:List AV){L:List Leaf}(h:LI regs ids a b=some L)(hL:∀x∈L,x.ok):leL regs ids a b:=by
 cases b with
 |nil=>
  unfold LI at h;split at h
  ·exact Yw
  ·cases h
 |cons y s=>
  unfold LI at h;split at h
  ·split at h
   ·rename_i l m h1 h2;cases h;obtain⟨h3,h4⟩:=Ko hL;exact Wp (NI y h1 h3) (DJ s h2 h4)
   ·cases h
  ·cases h
end
theorem SA {regs:C7}{ids:List (Nat×Nat)}{env:Env}:∀(t:Env) {L:List Leaf},Xd regs ids env t=some L->(∀x∈L,x.ok)->UK regs ids env t
 |[],_,_,_=>trivial
 |(t,b)::r,L,h,hL=>by
  simp only[Xd]at h;split at h
  ·rename_i l m h1 h2;cases h;obtain⟨h3,h4⟩:=Ko hL;exact⟨NI b h1 h3,SA r h2 h4⟩
  ·cases h
theorem Xg {regs:C7}{ids:List (Nat×Nat)}{o p:Obj}{L:List Leaf}(h:LJ regs ids o p=some L)(hL:∀x∈L,x.ok):leO regs ids o p:=by
 cases p with
 |cells cs=>
  simp only[LJ]at h;split at h
  ·exact Wq (DJ cs h hL)
  ·cases h
 |vec e k n f vw=>
  simp only[LJ]at h;split at h
  ·split at h
   ·rename_i hh;obtain⟨rfl,rfl,hv⟩:=hh;cases h;obtain⟨rfl,h1⟩:=hL _ (List.mem_singleton.2 rfl);exact⟨_,_,rfl,h1,hv⟩
   ·cases h
  ·cases h
 |map es=>
  simp only[LJ]at h;split at h
  ·cases h
   have:=hL _ (List.mem_singleton.2 rfl)
   simp only[Leaf.ok]at this;subst this;rfl
  ·cases h
 |arr n f=>
  simp only[LJ]at h;split at h
  ·cases h;obtain⟨rfl,h1⟩:=hL _ (List.mem_singleton.2 rfl);exact⟨_,rfl,fun i hi=>by simpa using h1 i hi⟩
  ·cases h
 |ghost cs=>
  simp only[LJ]at h;split at h
  ·exact⟨_,rfl,DJ cs h hL⟩
  ·cases h
 |yld r b=>
  simp only[LJ]at h;split at h
  ·cases h;obtain⟨rfl,rfl⟩:=hL _ (List.mem_singleton.2 rfl);rfl
  ·cases h
 |fam e n jr x=>
  simp only[LJ]at h;split at h
  ·split at h
   ·rename_i he;obtain⟨rfl,hj⟩:=he;split at h
    ·cases h;have h0:=hL _ (List.mem_cons_self ..);simp only[Leaf.ok]at h0;subst h0;exact⟨_,_,rfl,hj,rfl⟩
    ·split at h
     ·rename_i hn hl;cases h;have h0:=hL _ (List.mem_cons_self ..);have h1:=hL _ (List.mem_cons_of_mem _ (List.mem_cons_self ..));simp only[Leaf.ok]at h0 h1;subst h0 h1;exact⟨_,_,rfl,hj,_,rfl,hn,NI _ hl fun x hx=>hL x (by simp[hx])⟩
     ·cases h
    ·cases h
   ·cases h
  ·cases h
 |rows n g=>
  simp only[LJ]at h;split at h
  ·cases h;have h0:=hL _ (List.mem_cons_self ..);simp only[Leaf.ok]at h0;subst h0;exact⟨_,rfl,hL (.ob _ _ _) (by simp)⟩
  ·cases h
 |dead=>trivial
theorem SB {regs:C7}{ids:List (Nat×Nat)}:∀(t:C7) {L:List Leaf},Xe regs ids t=some L->(∀x∈L,x.ok)->OZ regs ids t
 |[],_,_,_=>trivial
 |(j,p)::r,L,h,hL=>by
  simp only[Xe]at h;split at h
  ·rename_i l m h1 h2;cases h;obtain⟨h3,h4⟩:=Ko hL;refine⟨?_,SB r h2 h4⟩;split at h1
   ·rename_i i hi;split at h1
    ·rename_i o ho;exact .inl ⟨i,o,hi,ho,Xg h1 h3⟩
    ·cases h1
   ·rename_i hi;split at h1
    ·cases h1;obtain⟨rfl,_⟩:=h3 _ (List.mem_singleton.2 rfl);exact .inr ⟨hi,_,_,_,_,rfl⟩
    ·cases h1
  ·cases h
theorem Yb {ids:List (Nat×Nat)}{s t:St}{L:List Leaf}(h:leK ids s t=some L)(hL:∀x∈L,x.ok):Le ids s t:=by
 unfold leK at h;split at h
 ·rename_i hw;split at h
  ·rename_i l m h1 h2;cases h;obtain⟨h3,h4⟩:=Ko hL;exact le_mk hw (SA _ h1 h3) (SB _ h2 h4)
  ·cases h
 ·cases h
theorem kle {ids:List (Nat×Nat)}{s t:St}(h:(leK ids s t).map (·.map Leaf.src)=(leK ids s t).map (·.map Leaf.tgt):=by kernel_rfl)(h1:(leK ids s t).isSome=true:=by kernel_rfl):Le ids s t:=by
 obtain⟨L,hL⟩:=Option.isSome_iff_exists.1 h1;rw[hL]at h;simp only[Option.map_some,Option.some.injEq]at h;refine Yb hL fun x hx=>?_;obtain⟨i,hi,rfl⟩:=List.mem_iff_getElem.1 hx
 have:=congrArg (·[i]?) h
 simp only[List.getElem?_map,List.getElem?_eq_getElem hi,Option.map_some,Option.some.injEq]at this;exact Leaf.ok_of this
def Ab4 (is:List Nat)(f:Leaf->LV)(L:List Leaf):List (Option LV):=L.zipIdx.map fun q=>if is.contains q.2 then none else some (f q.1)
theorem kleR {ids:List (Nat×Nat)}{s t:St}(rs:List (Nat×Leaf))(hr:∀q∈rs,q.2.ok)(h:(leK ids s t).map (Ab4 (rs.map (·.1)) Leaf.src)=(leK ids s t).map (Ab4 (rs.map (·.1)) Leaf.tgt):=by kernel_rfl)
 (h2:(leK ids s t).map (fun L=>rs.map fun q=>L[q.1]?)=some (rs.map fun q=>some q.2):=by kernel_rfl):Le ids s t:=by
 cases hL:leK ids s t with
 |none=>rw[hL]at h2;cases h2
 |some L=>
  rw[hL]at h h2;simp only[Option.map_some,Option.some.injEq]at h h2;refine Yb hL fun x hx=>?_;obtain⟨i,hi,rfl⟩:=List.mem_iff_getElem.1 hx;by_cases hm:(rs.map (·.1)).contains i=true
  ·simp only[List.contains_eq_mem,decide_eq_true_eq,List.mem_map]at hm;obtain⟨q,hq,rfl⟩:=hm;obtain⟨k,hk,rfl⟩:=List.mem_iff_getElem.1 hq
   have:=congrArg (·[k]?) h2
   simp only[List.getElem?_map,List.getElem?_eq_getElem hk,Option.map_some,Option.some.injEq,List.getElem?_eq_getElem hi]at this;rw[this];exact hr _ hq
  ·have:=congrArg (·[i]?) h
   simp only[Ab4,List.getElem?_map,List.getElem?_zipIdx,List.getElem?_eq_getElem hi,Option.map_some,Nat.zero_add,hm,Option.some.injEq]at this;exact Leaf.ok_of (by simpa using this)
end
section
variable {P:Program}
variable {S:Y7}{F:J8}{g:Cfg}{pr:Prop}
theorem EC (hS:H0 S P)(hc:pr)(h:G S P F (stp P g))(hp:pr=D1 (cnd P g):=by kernel_rfl):G S P F g:=
 (EK (F:=F) hS 400 [] g (by subst hp;exact hc)).2 h
theorem Ab5 (hS:H0 S P)(hc:pr){b:Bool}(ht:b=true->G S P F (YT (stp P g)))(hf:b=false->G S P F (YU (stp P g)))(hp:pr=D1 (cnd P g):=by kernel_rfl)(hb:Xb (stp P g)=some b:=by kernel_rfl):G S P F g:=by
 refine EC hS hc ?_ hp;generalize stp P g=g' at hb ht hf;unfold Xb at hb;split at hb
 ·split at hb
  ·rename_i hc;cases hb;exact ZO hc ht hf
  ·cases hb
 ·cases hb
theorem YZ (hS:H0 S P)(hc:pr){b:Bool}(ht:b=true->G S P F (Kn true (stp P g)))(hf:b=false->G S P F (Kn false (stp P g)))(hp:pr=D1 (cnd P g):=by kernel_rfl)(hb:Sz (stp P g)=some b:=by kernel_rfl):G S P F g:=by
 refine EC hS hc ?_ hp;generalize stp P g=g' at hb ht hf;unfold Sz at hb;split at hb
 ·split at hb
  ·rename_i hg;split at hb
   ·rename_i hd;split at hb
    ·rename_i hbb;cases hb;simp only[Kn,hg,hd,Ii,put]at ht hf;exact Ys hS hg hd hbb ht hf
    ·cases hb
   ·cases hb
  ·cases hb
 ·cases hb
theorem Ab6 (hS:H0 S P)(ids:List Nat)(hc:pr){fn:FuncId}{args:List AV}{objs objs' : List Obj}{r:AV}{ks:List Bool}(hF:FunO S fn args objs r objs' ks)
 (hk:G S P F (Xc ids ks r objs' (stp P g))) (hp:pr=D1 (cnd P g):=by kernel_rfl) (he:TM ids (stp P g)=some (fn,args,objs):=by kernel_rfl) (hn:TN ids ks objs'.length (stp P g)=true:=by kernel_rfl):G S P F g:=by
 refine EC hS hc ?_ hp;generalize stp P g=g' at he hn hk;unfold TM at he;split at he
 ·split at he
  ·rename_i hg ho;split at he
   ·rename_i hcl;split at he
    ·rename_i ha;split at he
     ·rename_i hw;split at he
      ·rename_i hr hob;split at he
       ·rename_i hdy;cases he;simp only[Bool.and_eq_true]at hdy;simp only[Xc,TN,ho,ha,Ii]at hk hn;exact Yt hS ids hg ho hcl ha hw hr hob hF hdy.1 hdy.2 hn hk
       ·cases he
      ·cases he
     ·cases he
    ·cases he
   ·cases he
  ·cases he
 ·cases he
theorem Xh (hS:H0 S P)(hc:pr){kt e:TypeId}{key:PV}{es:List (PV×PV)}{x:PV}{b:Bool}{fd:Option PV}
 (hf:find (LC P kt) key es=some fd) (hcc:D1 (Nm P kt))
 (hk:G S P F (YW x b (stp P g))) (hp:pr=D1 (cnd P g):=by kernel_rfl) (he:YV P (stp P g)=some ⟨kt,e,key,es⟩:=by kernel_rfl) (hx:Ab2 P e fd=some (x,b):=by kernel_rfl):G S P F g:=by
 refine EC hS hc ?_ hp;generalize stp P g=g' at he hk;unfold YV at he;split at he
 ·split at he
  ·rename_i hg ho;split at he
   ·rename_i hv hm;split at he
    ·rename_i hr ht;split at he
     ·rename_i hko;simp only[Option.some.injEq,LookI.mk.injEq]at he;obtain⟨rfl,rfl,rfl,rfl⟩:=he;simp only[YW,ho,hv,Ii]at hk;cases fd with
      |some y=>exact Sy (fd:=some y) hS hg ho hv hm hr ht hko hf hx hcc hk
      |none=>exact Sy (fd:=none) hS hg ho hv hm hr ht hko hf hx hcc hk
     ·cases he
    ·cases he
   ·cases he
  ·cases he
 ·cases he
theorem Xi (hS:H0 S P)(hc:pr){kt:TypeId}{key y:PV}{es es' : List (PV×PV)}
 (hu:upd (LC P kt) key y es=some es') (hcc:D1 (Nm P kt)) (hk:G S P F (updK es' (stp P g))) (hp:pr=D1 (cnd P g):=by kernel_rfl) (he:updE P (stp P g)=some (kt,key,y,es):=by kernel_rfl):G S P F g:=by
 refine EC hS hc ?_ hp;generalize stp P g=g' at he hk;unfold updE at he;split at he
 ·split at he
  ·rename_i hg ho;split at he
   ·rename_i h1 h2 hv;split at he
    ·rename_i hr ht;split at he
     ·rename_i hko;simp only[Option.some.injEq,Prod.mk.injEq]at he;obtain⟨rfl,rfl,rfl,rfl⟩:=he;simp only[updK,ho,h2,hv,Ii]at hk;exact Rl hS hg ho h1 hv h2 hr ht hko hu hcc hk
     ·cases he
    ·cases he
   ·cases he
  ·cases he
 ·cases he
theorem Ab7 (hS:H0 S P)(hc:pr)(st:St){ids:List (Nat×Nat)}(hk:G S P F (opsS st (stp P g)))(hp:pr=D1 (cnd P g):=by kernel_rfl)(ho:ET (stp P g)=true:=by kernel_rfl)(hle:Le ids (stp P g).st st:=by exact kle):G S P F g:=by
 refine EC hS hc ?_ hp;generalize stp P g=g' at ho hle hk;unfold ET at ho;split at ho
 ·exact Vx hS st ids hle hk
 ·cases ho
end
section
variable {S:Y7}{P:Program}{F:J8}{g:Cfg}{pr:Prop}
theorem Hi (hS:H0 S P){K1 K2:List It}(h:∀e s,kp S P K1 F e s->kp S P K2 F e s):∀(K:List It) (e:JM) (s:St),kp S P (K++K1) F e s->kp S P (K++K2) F e s
 |[],e,s,hk=>h e s hk
 |.code c::K,e,s,hk=>by simp only[List.cons_append,kp]at hk⊢;exact NH hS (fun t=>Am hS c (Hi hS h K)) (Hi hS h K) e s hk
 |.blk id::K,e,s,hk=>by
  simp only[List.cons_append,kp]at hk⊢;cases e with
  |exit i=>
   simp only[blk]at hk⊢;split at hk
   ·rename_i hi;rw[if_pos hi];exact Hi hS h K _ _ hk
   ·rename_i hi;rw[if_neg hi];exact Hi hS h K _ _ hk
  |_=>exact Hi hS h K _ _ hk
 |.lp X s' J m n::K,e,s,hk=>by
  simp only[List.cons_append,kp]at hk⊢;cases e with
  |normal=>exact hk
  |_=>exact Hi hS h K _ _ hk
 |.mid M::K,e,s,hk=>by simp only[List.cons_append,kp]at hk⊢;exact NH hS (fun t h=>h) (Hi hS h K) e s hk
 |.scp::K,e,s,hk=>by
  simp only[List.cons_append,kp]at hk⊢;cases e with
  |goto l=>exact hk
  |_=>exact Hi hS h K _ _ hk
theorem SD (M:It):∀(n:Nat) (K:List It),n<=K.length->PI M n K=K.take n++M::K.drop n
 |0,K,_=>by simp[PI]
 |n+1,i::K,h=>by simp only[PI,List.take_succ_cons,List.drop_succ_cons,List.cons_append,SD M n K (by simpa using h)]
 |n+1,[],h=>by simp at h
theorem Yc (hS:H0 S P)(hF:∀s,S.up s (F .normal)->F .normal s)(n:Nat)(hn:n<=g.k.length){M:St->Prop}(hM:∀t,M t->G S P F (.pop .normal (g.k.drop n) t))(h:G S P F (Ab3 n M g)):G S P F g:=by
 have hk:∀e s,kp S P (PI (.mid M) n g.k) F e s->kp S P g.k F e s:=by
  intro e s;rw[SD _ _ _ hn]
  conv=>rhs;rw[<- List.take_append_drop n g.k]
  exact Hi hS (Aa6 hS hF hM) _ e s
 cases g with
 |code c K st=>exact Am hS c hk h
 |ops all rest K st=>exact ER hS hk rest h
 |pop e K st=>exact hk e st h
theorem J_cut (hS:H0 S P)(hc:pr)(hF:∀s,S.up s (F .normal)->F .normal s)(n:Nat)(s:St)
 (h1:∀(M:St->Prop),(∀(g' : Cfg) (ids:List (Nat×Nat)) (pr:Prop),pr->(hp:pr=D1 (cnd P g'):=by kernel_rfl)->(he:stp P g' = .pop .normal (.mid M::(stp P g).k.drop n) (stp P g').st:=by kernel_rfl)->(hle:Le ids (stp P g').st s:=by exact kle)->G S P F g')->G S P F (Ab3 n M (stp P g)))
 (h2:G S P F (.pop .normal ((stp P g).k.drop n) s)) (hp:pr=D1 (cnd P g):=by kernel_rfl) (hn:Nat.ble n (stp P g).k.length=true:=by kernel_rfl):G S P F g:=by
 refine EC hS hc ?_ hp;refine Yc hS hF n (Nat.le_of_ble_eq_true hn) (M:=fun t=>t=s) (fun t ht=>by subst ht;exact h2) (h1 _ fun g' ids pr hc hp he hle=>?_);refine EC hS hc ?_ hp;rw[he];exact hS.le ids _ _ _ hle rfl
theorem J_lt (hS:H0 S P)(hc:pr)(hF:∀s,S.up s (F .normal)->F .normal s){R A:Type}{f:(A->Option R)->Option R}{k0:A->Option R}{r:R}(h:lt k0 f=some r)(n:Nat)(s:A->St)
 (h1:∀(M:St->Prop) (k:A->Option R),(∀(g' : Cfg) (ids:List (Nat×Nat)) (pr:Prop) (a:A),pr->k a=some r->(hp:pr=D1 (cnd P g'):=by kernel_rfl)->(he:stp P g' = .pop .normal (.mid M::(stp P g).k.drop n) (stp P g').st:=by kernel_rfl)->(hle:Le ids (stp P g').st (s a):=by exact kle)->G S P F g')->f k=some r->G S P F (Ab3 n M (stp P g)))
 (h2:∀a,k0 a=some r->G S P F (.pop .normal ((stp P g).k.drop n) (s a))) (hp:pr=D1 (cnd P g):=by kernel_rfl) (hn:Nat.ble n (stp P g).k.length=true:=by kernel_rfl):G S P F g:=by
 refine EC hS hc ?_ hp;refine Yc hS hF n (Nat.le_of_ble_eq_true hn) (M:=fun t=>∃a,t=s a/\k0 a=some r) (fun t ⟨a,ht,hk⟩=>by subst ht;exact h2 a hk) (h1 _ k0 (fun g' ids pr a hc hk hp he hle=>?_) h);refine EC hS hc ?_ hp;rw[he];exact hS.le ids _ _ _ hle ⟨a,rfl,hk⟩
theorem Vy {g:Cfg}(h:Hg g=true):g=.code (.loop (PH g)) g.k g.st:=by
 unfold Hg at h;split at h
 ·rfl
 ·cases h
theorem Ab8 (hS:H0 S P)(hc:pr){R A:Type}{body:(A->Option R)->A->Option R}{N:Nat}{a0:A}{r:R}(h:Co N body a0=some r)(s:A->St){ids:List (Nat×Nat)}
 (hr:∀(X:Type) (s' : X->St) (J:X->Prop) (m:X->Nat) (n:Nat) (self:A->Option R) (a:A),
  (∀(g' : Cfg) (ids:List (Nat×Nat)) (pr:Prop) (a:A),pr->self a=some r->(hp:pr=D1 (cnd P g'):=by kernel_rfl)->(he:stp P g' = .pop .normal (.lp X s' J m n::(stp P g).k) (stp P g').st:=by kernel_rfl)->(hle:Le ids (stp P g').st (s a):=by exact kle)->G S P F g') ->
  body self a=some r->G S P F (.code (PH (stp P g)) (.lp X s' J m n::(stp P g).k) (s a))) (hp:pr=D1 (cnd P g):=by kernel_rfl) (hl:Hg (stp P g)=true:=by kernel_rfl) (hle:Le ids (stp P g).st (s a0):=by exact kle):G S P F g:=by
 refine EC hS hc ?_ hp;rw[Vy hl];refine Aa7 hS h s ids hle fun X s' J m n self a hb hbody=>hr X s' J m n self a (fun g' ids pr a hc hself hp he hle=>?_) hbody;refine EC hS hc ?_ hp;rw[he];exact hb _ _ _ hle hself
def Rm (P:Program)(st:St)(rs:List ResultVar)(outs:List Nat):Option (AV×List Obj):=match EJ P st rs with
 |some l=>match OQ outs (one l),J9 outs st.regs outs with
  |some a,some o=>if F9 outs then some (a,o)else none
  |_,_=>none
 |none=>none
theorem J_ret (hS:H0 S P)(hc:pr){n:Nat}{rs:List ResultVar}{Q:JN->List Obj->List Bool->Prop}{a:AV}{objs:List Obj}(outs:List Nat)(hQ:Q (.ret a) objs (Ep n outs))(hp:pr=D1 (cnd P g):=by kernel_rfl)(he:(YX (stp P g)).bind (fun st=>Rm P st rs outs)=some (a,objs):=by kernel_rfl) :G S P (AU S P n rs Q) g:=by
 refine EC hS hc ?_ hp;generalize stp P g=g' at he;obtain⟨st,h1,h2⟩:=Option.bind_eq_some_iff.1 he;unfold Rm at h2;split at h2
 ·rename_i l hl;split at h2
  ·rename_i hr ho;split at h2
   ·rename_i hd;cases h2;unfold YX at h1;split at h1
    ·cases h1;exact hS.refl _ _ ⟨l,outs,a,objs,hl,hd,hr,ho,hQ⟩
    ·cases h1;exact hS.refl _ _ ⟨l,outs,a,objs,hl,hd,hr,ho,hQ⟩
    ·cases h1
   ·cases h2
  ·cases h2
 ·cases h2
theorem Ab9 (hS:H0 S P)(hc:pr){n:Nat}{rs:List ResultVar}{Q:JN->List Obj->List Bool->Prop}{a:AV}{objs:List Obj}(st:St)(outs:List Nat){ids:List (Nat×Nat)}(hQ:Q (.ret a) objs (Ep n outs))(hp:pr=D1 (cnd P g):=by kernel_rfl)(he:(YX (stp P g)).isSome=true:=by kernel_rfl)(hle:Le ids (stp P g).st st:=by exact kle)(hr:Rm P st rs outs=some (a,objs):=by kernel_rfl) :G S P (AU S P n rs Q) g:=by
 refine EC hS hc ?_ hp;generalize stp P g=g' at he hle;have h2:=hr;unfold Rm at h2;split at h2
 ·rename_i l hl;split at h2
  ·rename_i hr ho;split at h2
   ·rename_i hd;cases h2;unfold YX at he;split at he
    ·exact hS.le ids _ _ _ hle ⟨l,outs,a,objs,hl,hd,hr,ho,hQ⟩
    ·exact hS.le ids _ _ _ hle ⟨l,outs,a,objs,hl,hd,hr,ho,hQ⟩
    ·cases he
   ·cases h2
  ·cases h2
 ·cases h2
theorem Za (hS:H0 S P){f:FuncId}{fn:Func}{args:List AV}{objs objs' : List Obj}{ks:List Bool}{r:AV}(hf:P.funcs[f]? = some fn)
 (h:G S P (AU S P objs.length fn.results.toList fun res o k=>res=.ret r/\o=objs' /\ k=ks) (.code (fn.body.getD .skip) [] { env:=argEnv args,regs:=objRegs objs }))
 (hc:fn.body.isSome=true:=by kernel_rfl) (hn:Nat.ble args.length fn.ntmps=true:=by kernel_rfl) (ho:Nat.blt objs.length 1000=true:=by kernel_rfl)
 (hco:X7 fn.ntmps (fn.body.getD .skip)=true:=by kernel_rfl) (hnm:(fn.name == "runtime.NumGoroutine")=false:=by kernel_rfl):FunO S f args objs r objs' ks:=by
 obtain⟨code,hcode⟩:=Option.isSome_iff_exists.1 hc;rw[hcode,Option.getD_some]at hco h;exact UT hS hf hcode (Nat.le_of_ble_eq_true hn) (by simpa[Nat.blt_eq]using ho) rfl hco hnm h
theorem al0:∀q∈([]:List (Nat×Leaf)),q.2.ok:=fun _ h=>by cases h
theorem al1 {i:Nat}{l:Leaf}{rs:List (Nat×Leaf)}(h:l.ok)(t:∀q∈rs,q.2.ok):∀q∈(i,l)::rs,q.2.ok:=fun q hq=>by
 rcases List.mem_cons.1 hq with rfl|hq
 ·exact h
 ·exact t q hq
structure SC where
 all:List Oper
 cls:List Cls
 rest:List Oper
 env:Env
 regs:C7
 kn:List Nat
def SG (S:Y7)(P:Program)(sc:SC)(k:Env->C7->Prop):Prop:=Ly S P sc.all sc.cls sc.rest sc.env sc.regs k
def ED (P:Program)(sc:SC):SC:=match Lz P sc.kn sc.all sc.cls sc.rest [] sc.env sc.regs with
 |⟨_,cls,rest,env,regs⟩=>⟨sc.all,cls,rest,env,regs,sc.kn⟩
def UA (P:Program)(sc:SC):List Prop:=(Lz P sc.kn sc.all sc.cls sc.rest [] sc.env sc.regs).conds
def DK:Cfg->Bool
 |.code (.region _ _ true) _ _=>true
 |_=>false
def Gz:Cfg->SC
 |.code (.region _ ops true) _ st=>⟨ops.toList,ops.toList.map fun o=>Af4 o.op,ops.toList,st.env,st.regs,[]⟩
 |_=>⟨[],[],[],[],[],[]⟩
theorem Zb (hS:H0 S P)(hc:pr)
 (h:SG S P (Gz (stp P g)) fun env regs=>G S P F (.pop .normal (stp P g).k ⟨env,regs⟩)) (hp:pr=D1 (cnd P g):=by kernel_rfl) (hd:DK (stp P g)=true:=by kernel_rfl) (hmix:P.follows .mixedOrders=true:=by kernel_rfl) (hok:Ki (Gz (stp P g)).all (Gz (stp P g)).cls=true:=by kernel_rfl):G S P F g:=by
 refine EC hS hc ?_ hp;generalize stp P g=g' at hd hok h;unfold DK at hd;split at hd
 ·exact WT hS hmix rfl hok h
 ·cases hd
section
variable {sc:SC}{k:Env->C7->Prop}
theorem Ac0 (hc:pr)(h:SG S P (ED P sc) k)(hp:pr=D1 (UA P sc):=by kernel_rfl):SG S P sc k:=by subst hp;unfold ED at h;unfold UA at hc;unfold SG at *;generalize hr:Lz P sc.kn sc.all sc.cls sc.rest [] sc.env sc.regs=r at h hc;obtain⟨c,cls,rest,env,regs⟩:=r;exact s_go hr hc h
theorem C_end (hc:pr)(h:k (ED P sc).env (ED P sc).regs)(hp:pr=D1 (UA P sc):=by kernel_rfl)(he:(ED P sc).rest.isEmpty=true:=by kernel_rfl):SG S P sc k:=by
 refine Ac0 hc ?_ hp;generalize ED P sc=s at he h;obtain⟨all,cls,rest,env,regs,kn⟩:=s;cases rest with
 |nil=>exact s_end h
 |cons=>simp at he
def Ac1 {R:Type _}(d:Option Nat)(a:AV)(env:Env)(regs:C7)(κ : Env->C7->R):R:=match d with
 |some d=>mkO (ins d a env) regs κ
 |none=>mkO env regs κ
theorem Rn {R:Type _}(d:Option Nat)(a:AV)(env:Env)(regs:C7)(κ : Env->C7->R):Ac1 d a env regs κ = κ (MJ d a env) regs:=by cases d<;>simp only[Ac1,Dr,MJ]
theorem Yd:∀{env:Env}{i d:Nat}{b:AV},Wl ((i,b)::env)=true->get env d ≠ .top->d<i
 |[],_,_,_,_,h=>absurd rfl h
 |(j,c)::r,i,d,b,hd,h=>by
  simp only[Wl,Bool.and_eq_true,decide_eq_true_eq]at hd;by_cases e:j=d
  ·subst e;exact hd.1
  ·simp only[get,e,if_false]at h;exact Nat.lt_trans (Yd hd.2 h) hd.1
theorem NJ:∀{env:Env}{d:Nat}{a:AV},Wl env=true->get env d=a->a ≠ .top->ins d a env=env
 |[],_,_,_,h,hn=>absurd h.symm hn
 |(i,b)::r,d,a,hd,h,hn=>by
  by_cases e:i=d
  ·subst e;simp only[get,if_true]at h;subst h;simp[ins]
  ·simp only[get,e,if_false]at h;have hlt:=Yd hd (by rw[h];exact hn);have hr:Wl r=true:=by
    cases r with
    |nil=>rfl
    |cons p r=>simp only[Wl,Bool.and_eq_true]at hd;exact hd.2
   simp only[ins,show ¬i<d by omega,e,if_false,NJ hr h hn]
def NK (sc:SC):Option Bool:=match sc.rest with
 |o::_=>match o.guard with
  |some (j,_)=>match ZP sc.all j with
   |some d=>match get sc.env d with
    |.p (.bb b)=>if Wl sc.env then some b else none
    |_=>none
   |none=>none
  |none=>none
 |[]=>none
def Kq (v:Bool)(sc:SC):SC:=match sc.rest with
 |o::_=>match o.guard with
  |some (j,_)=>match ZP sc.all j with
   |some d=>mkO (ins d (.p (.bb v)) sc.env) sc.regs fun env regs=>⟨sc.all,sc.cls,sc.rest,env,regs,j::sc.kn⟩
   |none=>sc
  |none=>sc
 |[]=>sc
theorem Zc (hc:pr){b:Bool}(ht:b=true->SG S P (Kq true (ED P sc)) k)(hf:b=false->SG S P (Kq false (ED P sc)) k)(hp:pr=D1 (UA P sc))(hb:NK (ED P sc)=some b):SG S P sc k:=by
 refine Ac0 hc ?_ hp;generalize ED P sc=s at hb ht hf;obtain⟨all,cls,rest,env,regs,kn⟩:=s;cases rest with
 |nil=>simp[NK]at hb
 |cons o rest=>
  simp only[NK]at hb;split at hb
  ·rename_i j w hg;split at hb
   ·rename_i d hd;split at hb
    ·rename_i b' hbb;split at hb
     ·rename_i hds;simp only[Option.some.injEq]at hb;subst hb;simp only[Kq,hg,hd,Dr]at ht hf;cases b' with
      |true=>have:=ht rfl;rwa [NJ hds hbb (by simp)]at this
      |false=>have:=hf rfl;rwa [NJ hds hbb (by simp)]at this
     ·cases hb
    ·cases hb
   ·cases hb
  ·cases hb
def SE (ids:List Nat)(sc:SC):Option (FuncId×List AV×List Obj):=match sc.rest with
 |o::_=>match Ct sc.all sc.env o,o.op with
  |some true,.call c=>match c.callee with
   |.value f=>match Lx sc.regs (c.args.toList.map (aev sc.env))with
    |some (as,regs)=>match QN sc.env f as with
     |some (fn,as')=>match BK ids as',J9 ids regs ids with
      |some a,some ob=>if F9 ids&&Dh ob then some (fn,a,ob)else none
      |_,_=>none
     |none=>none
    |none=>none
   |_=>none
  |_,_=>none
 |[]=>none
def PJ (ids:List Nat)(ks:List Bool)(n:Nat)(sc:SC):Bool:=match sc.cls,sc.rest with
 |.w::_,o::_=>match o.op with
  |.call c=>match Lx sc.regs (c.args.toList.map (aev sc.env))with
   |some (_,regs)=>BP regs ids ks (o.dst.getD 0) n
   |none=>false
  |_=>false
 |_,_=>false
def Vz (ids:List Nat)(ks:List Bool)(r:AV)(objs' : List Obj)(sc:SC):SC:=match sc.rest with
 |o::rest=>match o.op with
  |.call c=>match Lx sc.regs (c.args.toList.map (aev sc.env))with
   |some (_,regs)=>Ac1 o.dst (unA (O0 (o.dst.getD 0) ids ks objs'.length) r) sc.env
    (Ux (O0 (o.dst.getD 0) ids ks objs'.length) (O0 (o.dst.getD 0) ids ks objs'.length) objs' (O1 ids ks regs)) fun env regs=>⟨sc.all,sc.cls.tail,rest,env,regs,sc.kn⟩
   |none=>sc
  |_=>sc
 |[]=>sc
theorem Ac2 (ids:List Nat)(hc:pr){fn:FuncId}{args:List AV}{objs objs' : List Obj}{r:AV}{ks:List Bool}(hF:FunO S fn args objs r objs' ks)
 (hk:SG S P (Vz ids ks r objs' (ED P sc)) k) (hp:pr=D1 (UA P sc):=by kernel_rfl) (he:SE ids (ED P sc)=some (fn,args,objs):=by kernel_rfl) (hn:PJ ids ks objs'.length (ED P sc)=true:=by kernel_rfl):SG S P sc k:=by
 refine Ac0 hc ?_ hp;generalize ED P sc=s at he hn hk;obtain⟨all,cls,rest,env,regs,kn⟩:=s;cases rest with
 |nil=>simp[SE]at he
 |cons o rest=>
  simp only[SE]at he;split at he
  ·rename_i c hg ho;split at he
   ·rename_i hcl;split at he
    ·rename_i ha;split at he
     ·rename_i hw;split at he
      ·rename_i hr hob;split at he
       ·rename_i hdy;cases he;simp only[Bool.and_eq_true]at hdy;cases cls with
        |nil=>simp[PJ]at hn
        |cons cl cls=>
         cases cl with
         |w=>simp only[PJ,ho,ha]at hn;simp only[Vz,ho,ha,Rn,List.tail_cons]at hk;exact YO ids hg ho hcl ha hw hr hob hF hdy.1 hdy.2 hn hk
         |_=>simp[PJ]at hn
       ·cases he
      ·cases he
     ·cases he
    ·cases he
   ·cases he
  ·cases he
def SF (sc:SC):Bool:=match sc.cls,sc.rest with
 |_::_,o::_=>match o.op with
  |.call c=>(c.args.toList.map (aev sc.env)).all Vq
  |_=>false
 |_,_=>false
def SH (sc:SC):Option (FuncId×List AV):=match sc.rest with
 |o::_=>match Ct sc.all sc.env o,o.op with
  |some true,.call c=>match c.callee with
   |.value f=>match QN sc.env f (c.args.toList.map (aev sc.env))with
    |some (fn,as')=>match BK [] as' with
     |some a=>some (fn,a)
     |none=>none
    |none=>none
   |_=>none
  |_,_=>none
 |[]=>none
def VA (r:AV)(sc:SC):SC:=match sc.rest with
 |o::rest=>Ac1 o.dst (unA [] r) sc.env sc.regs fun env regs=>⟨sc.all,sc.cls.tail,rest,env,regs,sc.kn⟩
 |[]=>sc
theorem Ac3 (hc:pr){fn:FuncId}{args:List AV}{r:AV}(hF:FunO S fn args [] r [] [])
 (hk:SG S P (VA r (ED P sc)) k) (hp:pr=D1 (UA P sc):=by kernel_rfl) (he:SH (ED P sc)=some (fn,args):=by kernel_rfl) (hn:SF (ED P sc)=true:=by kernel_rfl):SG S P sc k:=by
 refine Ac0 hc ?_ hp;generalize ED P sc=s at he hn hk;obtain⟨all,cls,rest,env,regs,kn⟩:=s;cases rest with
 |nil=>simp[SH]at he
 |cons o rest=>
  cases cls with
  |nil=>simp[SF]at hn
  |cons cl cls=>
   simp only[SH]at he;split at he
   ·rename_i c hg ho;split at he
    ·rename_i hcl;split at he
     ·rename_i hw;split at he
      ·rename_i hr;cases he;simp only[SF,ho]at hn;simp only[VA,Rn,List.tail_cons]at hk;exact Aa4 hg ho hcl hn hw hr hF hk
      ·cases he
     ·cases he
    ·cases he
   ·cases he
def DL (P:Program)(sc:SC):Option (List Prop×PV):=match sc.cls,sc.rest with
 |_::_,o::_=>match Ct sc.all sc.env o with
  |some true=>OX P sc.env o.op
  |_=>none
 |_,_=>none
def Ro (x:PV)(sc:SC):SC:=match sc.rest with
 |o::rest=>Ac1 o.dst (.p x) sc.env sc.regs fun env regs=>⟨sc.all,sc.cls.tail,rest,env,regs,sc.kn⟩
 |[]=>sc
theorem Zd (hc:pr){x:PV}(hk:SG S P (Ro x (ED P sc)) k)(hp:pr=D1 (UA P sc):=by kernel_rfl)(he:(DL P (ED P sc)).map (·.2)=some x:=by kernel_rfl)(hc2:((DL P (ED P sc)).map fun q=>D1 q.1)=some (true=true):=by kernel_rfl):SG S P sc k:=by
 refine Ac0 hc ?_ hp;generalize ED P sc=s at he hc2 hk;obtain⟨all,cls,rest,env,regs,kn⟩:=s;cases rest with
 |nil=>cases cls<;>simp[DL]at he
 |cons o rest=>
  cases cls with
  |nil=>simp[DL]at he
  |cons cl cls=>
   cases hg:Ct all env o with
   |none=>simp[DL,hg]at he
   |some bb=>
    cases bb with
    |false=>simp[DL,hg]at he
    |true=>
     simp only[DL,hg]at he hc2;cases ha:OX P env o.op with
     |none=>rw[ha]at he;cases he
     |some q=>obtain⟨c,y⟩:=q;rw[ha]at he hc2;simp only[Option.map_some,Option.some.injEq]at he hc2;subst he;simp only[Ro,Rn,List.tail_cons]at hk;exact WS hg ha (by rw[hc2];trivial) hk
end
end
structure KG (S:Y7) (P:Program) (F:J8) (g:Cfg):Prop where
 out:G S P F g
structure DG (S:Y7) (P:Program) (sc:SC) (k:Env->C7->Prop):Prop where
 out:SG S P sc k
structure KLe (ids:List (Nat×Nat)) (s t:St):Prop where
 out:Le ids s t
section
variable {S:Y7}{P:Program}{F:J8}{g:Cfg}{pr:Prop}
theorem kl {ids:List (Nat×Nat)}{s t:St}(h:(leK ids s t).map (·.map Leaf.src)=(leK ids s t).map (·.map Leaf.tgt):=by kernel_rfl)(h1:(leK ids s t).isSome=true:=by kernel_rfl):KLe ids s t:=⟨kle h h1⟩
theorem klR {ids:List (Nat×Nat)}{s t:St}(rs:List (Nat×Leaf))(hr:∀q∈rs,q.2.ok)(h:(leK ids s t).map (Ab4 (rs.map (·.1)) Leaf.src)=(leK ids s t).map (Ab4 (rs.map (·.1)) Leaf.tgt):=by kernel_rfl)
 (h2:(leK ids s t).map (fun L=>rs.map fun q=>L[q.1]?)=some (rs.map fun q=>some q.2):=by kernel_rfl):KLe ids s t:=⟨kleR rs hr h h2⟩
theorem D9 (hS:H0 S P)(hc:pr){b:Bool}(ht:b=true->KG S P F (YT (stp P g)))(hf:b=false->KG S P F (YU (stp P g)))(hp:pr=D1 (cnd P g):=by kernel_rfl)(hb:Xb (stp P g)=some b:=by kernel_rfl):KG S P F g:=
 ⟨Ab5 hS hc (fun h=>(ht h).out) (fun h=>(hf h).out) hp hb⟩
theorem NL (hS:H0 S P)(hc:pr){b:Bool}(ht:b=true->KG S P F (Kn true (stp P g)))(hf:b=false->KG S P F (Kn false (stp P g)))(hp:pr=D1 (cnd P g):=by kernel_rfl)(hb:Sz (stp P g)=some b:=by kernel_rfl):KG S P F g:=
 ⟨YZ hS hc (fun h=>(ht h).out) (fun h=>(hf h).out) hp hb⟩
theorem B7 (hS:H0 S P)(ids:List Nat)(hc:pr){fn:FuncId}{args:List AV}{objs objs' : List Obj}{r:AV}{ks:List Bool}(hF:FunO S fn args objs r objs' ks)(hk:KG S P F (Xc ids ks r objs' (stp P g)))
 (hp:pr=D1 (cnd P g):=by kernel_rfl) (he:TM ids (stp P g)=some (fn,args,objs):=by kernel_rfl) (hn:TN ids ks objs'.length (stp P g)=true:=by kernel_rfl):KG S P F g:=⟨Ab6 hS ids hc hF hk.out hp he hn⟩
theorem FF (hS:H0 S P)(hc:pr){kt e:TypeId}{key:PV}{es:List (PV×PV)}{x:PV}{b:Bool}{fd:Option PV}(hf:find (LC P kt) key es=some fd)(hcc:D1 (Nm P kt))(hk:KG S P F (YW x b (stp P g)))
 (hp:pr=D1 (cnd P g):=by kernel_rfl) (he:YV P (stp P g)=some ⟨kt,e,key,es⟩:=by kernel_rfl) (hx:Ab2 P e fd=some (x,b):=by kernel_rfl):KG S P F g:=⟨Xh hS hc hf hcc hk.out hp he hx⟩
theorem JC (hS:H0 S P)(hc:pr){kt:TypeId}{key y:PV}{es es' : List (PV×PV)}(hu:upd (LC P kt) key y es=some es')(hcc:D1 (Nm P kt))(hk:KG S P F (updK es' (stp P g)))
 (hp:pr=D1 (cnd P g):=by kernel_rfl) (he:updE P (stp P g)=some (kt,key,y,es):=by kernel_rfl):KG S P F g:=⟨Xi hS hc hu hcc hk.out hp he⟩
theorem Cu (hS:H0 S P)(hc:pr)(st:St){ids:List (Nat×Nat)}(hk:KG S P F (opsS st (stp P g)))(hp:pr=D1 (cnd P g):=by kernel_rfl)(ho:ET (stp P g)=true:=by kernel_rfl)(hle:KLe ids (stp P g).st st:=by exact kl):KG S P F g:=
 ⟨Ab7 hS hc st hk.out hp ho hle.out⟩
theorem TO (hS:H0 S P)(hc:pr)(hF:∀s,S.up s (F .normal)->F .normal s)(n:Nat)(s:St)
 (h1:∀(M:St->Prop),(∀(g' : Cfg) (ids:List (Nat×Nat)) (pr:Prop),pr->(hp:pr=D1 (cnd P g'):=by kernel_rfl)->(he:stp P g' = .pop .normal (.mid M::(stp P g).k.drop n) (stp P g').st:=by kernel_rfl)->(hle:KLe ids (stp P g').st s:=by exact kl)->KG S P F g')->KG S P F (Ab3 n M (stp P g)))
 (h2:KG S P F (.pop .normal ((stp P g).k.drop n) s)) (hp:pr=D1 (cnd P g):=by kernel_rfl) (hn:Nat.ble n (stp P g).k.length=true:=by kernel_rfl):KG S P F g:=
 ⟨J_cut hS hc hF n s (fun M hb=>(h1 M fun g' ids pr hc hp he hle=>⟨hb g' ids pr hc hp he hle.out⟩).out) h2.out hp hn⟩
theorem Kr (hS:H0 S P)(hc:pr)(hF:∀s,S.up s (F .normal)->F .normal s){R A:Type}{f:(A->Option R)->Option R}{k0:A->Option R}{r:R}(h:lt k0 f=some r)(n:Nat)(s:A->St)
 (h1:∀(M:St->Prop) (k:A->Option R),(∀(g' : Cfg) (ids:List (Nat×Nat)) (pr:Prop) (a:A),pr->k a=some r->(hp:pr=D1 (cnd P g'):=by kernel_rfl)->(he:stp P g' = .pop .normal (.mid M::(stp P g).k.drop n) (stp P g').st:=by kernel_rfl)->(hle:KLe ids (stp P g').st (s a):=by exact kl)->KG S P F g')->f k=some r->KG S P F (Ab3 n M (stp P g)))
 (h2:∀a,k0 a=some r->KG S P F (.pop .normal ((stp P g).k.drop n) (s a))) (hp:pr=D1 (cnd P g):=by kernel_rfl) (hn:Nat.ble n (stp P g).k.length=true:=by kernel_rfl):KG S P F g:=
 ⟨J_lt hS hc hF h n s (fun M k hb hf=>(h1 M k (fun g' ids pr a hc hk hp he hle=>⟨hb g' ids pr a hc hk hp he hle.out⟩) hf).out) (fun a hk=>(h2 a hk).out) hp hn⟩
theorem W6 (hS:H0 S P)(hc:pr){R A:Type}{body:(A->Option R)->A->Option R}{N:Nat}{a0:A}{r:R}(h:Co N body a0=some r)(s:A->St){ids:List (Nat×Nat)}
 (hr:∀(X:Type) (s' : X->St) (J:X->Prop) (m:X->Nat) (n:Nat) (self:A->Option R) (a:A),
  (∀(g' : Cfg) (ids:List (Nat×Nat)) (pr:Prop) (a:A),pr->self a=some r->(hp:pr=D1 (cnd P g'):=by kernel_rfl)->(he:stp P g' = .pop .normal (.lp X s' J m n::(stp P g).k) (stp P g').st:=by kernel_rfl)->(hle:KLe ids (stp P g').st (s a):=by exact kl)->KG S P F g') ->
  body self a=some r->KG S P F (.code (PH (stp P g)) (.lp X s' J m n::(stp P g).k) (s a))) (hp:pr=D1 (cnd P g):=by kernel_rfl) (hl:Hg (stp P g)=true:=by kernel_rfl) (hle:KLe ids (stp P g).st (s a0):=by exact kl):KG S P F g:=
 ⟨Ab8 hS hc h s (fun X s' J m n self a hb hbody=>(hr X s' J m n self a (fun g' ids pr a hc hself hp he hle=>⟨hb g' ids pr a hc hself hp he hle.out⟩) hbody).out) hp hl hle.out⟩
theorem N0 (hS:H0 S P)(hc:pr){R A B:Type}{body:(A->B->Option R)->A->B->Option R}{N:Nat}{a0:A}{b0:B}{r:R}(h:Dq N body a0 b0=some r)(s:A->B->St){ids:List (Nat×Nat)}
 (hr:∀(X:Type) (s' : X->St) (J:X->Prop) (m:X->Nat) (n:Nat) (self:A->B->Option R) (a:A) (b:B),
  (∀(g' : Cfg) (ids:List (Nat×Nat)) (pr:Prop) (a:A) (b:B),pr->self a b=some r->(hp:pr=D1 (cnd P g'):=by kernel_rfl)->(he:stp P g' = .pop .normal (.lp X s' J m n::(stp P g).k) (stp P g').st:=by kernel_rfl)->(hle:KLe ids (stp P g').st (s a b):=by exact kl)->KG S P F g') ->
  body self a b=some r->KG S P F (.code (PH (stp P g)) (.lp X s' J m n::(stp P g).k) (s a b))) (hp:pr=D1 (cnd P g):=by kernel_rfl) (hl:Hg (stp P g)=true:=by kernel_rfl) (hle:KLe ids (stp P g).st (s a0 b0):=by exact kl):KG S P F g:=
 W6 hS hc h (fun x=>s x.1 x.2) (fun X s' J m n self a hb=>hr X s' J m n (fun a b=>self (a,b)) a.1 a.2 fun g' ids pr a b h1 h2 h3 h4 h5=>hb g' ids pr (a,b) h1 h2 h3 h4 h5) hp hl hle
theorem Ks (hS:H0 S P)(hc:pr){R A B C:Type}{body:(A->B->C->Option R)->A->B->C->Option R}{N:Nat}{a0:A}{b0:B}{c0:C}{r:R}(h:WZ N body a0 b0 c0=some r)(s:A->B->C->St){ids:List (Nat×Nat)}
 (hr:∀(X:Type) (s' : X->St) (J:X->Prop) (m:X->Nat) (n:Nat) (self:A->B->C->Option R) (a:A) (b:B) (c:C),
  (∀(g' : Cfg) (ids:List (Nat×Nat)) (pr:Prop) (a:A) (b:B) (c:C),pr->self a b c=some r->(hp:pr=D1 (cnd P g'):=by kernel_rfl)->(he:stp P g' = .pop .normal (.lp X s' J m n::(stp P g).k) (stp P g').st:=by kernel_rfl)->(hle:KLe ids (stp P g').st (s a b c):=by exact kl)->KG S P F g') ->
  body self a b c=some r->KG S P F (.code (PH (stp P g)) (.lp X s' J m n::(stp P g).k) (s a b c))) (hp:pr=D1 (cnd P g):=by kernel_rfl) (hl:Hg (stp P g)=true:=by kernel_rfl) (hle:KLe ids (stp P g).st (s a0 b0 c0):=by exact kl):KG S P F g:=
 W6 hS hc h (fun x=>s x.1 x.2.1 x.2.2) (fun X s' J m n self a hb=>hr X s' J m n (fun a b c=>self (a,b,c)) a.1 a.2.1 a.2.2 fun g' ids pr a b c h1 h2 h3 h4 h5=>hb g' ids pr (a,b,c) h1 h2 h3 h4 h5) hp hl hle
theorem Ye (hS:H0 S P)(hc:pr){R A B C D:Type}{body:(A->B->C->D->Option R)->A->B->C->D->Option R}{N:Nat}{a0:A}{b0:B}{c0:C}{d0:D}{r:R}(h:Af6 N body a0 b0 c0 d0=some r)(s:A->B->C->D->St){ids:List (Nat×Nat)}
 (hr:∀(X:Type) (s' : X->St) (J:X->Prop) (m:X->Nat) (n:Nat) (self:A->B->C->D->Option R) (a:A) (b:B) (c:C) (d:D),
  (∀(g' : Cfg) (ids:List (Nat×Nat)) (pr:Prop) (a:A) (b:B) (c:C) (d:D),pr->self a b c d=some r->(hp:pr=D1 (cnd P g'):=by kernel_rfl)->(he:stp P g' = .pop .normal (.lp X s' J m n::(stp P g).k) (stp P g').st:=by kernel_rfl)->(hle:KLe ids (stp P g').st (s a b c d):=by exact kl)->KG S P F g') ->
  body self a b c d=some r->KG S P F (.code (PH (stp P g)) (.lp X s' J m n::(stp P g).k) (s a b c d))) (hp:pr=D1 (cnd P g):=by kernel_rfl) (hl:Hg (stp P g)=true:=by kernel_rfl) (hle:KLe ids (stp P g).st (s a0 b0 c0 d0):=by exact kl):KG S P F g:=
 W6 hS hc h (fun x=>s x.1 x.2.1 x.2.2.1 x.2.2.2) (fun X s' J m n self a hb=>hr X s' J m n (fun a b c d=>self (a,b,c,d)) a.1 a.2.1 a.2.2.1 a.2.2.2 fun g' ids pr a b c d h1 h2 h3 h4 h5=>hb g' ids pr (a,b,c,d) h1 h2 h3 h4 h5) hp hl hle
theorem Rp (hS:H0 S P)(hc:pr){n:Nat}{rs:List ResultVar}{Q:JN->List Obj->List Bool->Prop}{a:AV}{objs:List Obj}(outs:List Nat)(hQ:Q (.ret a) objs (Ep n outs))(hp:pr=D1 (cnd P g):=by kernel_rfl)
 (he:(YX (stp P g)).bind (fun st=>Rm P st rs outs)=some (a,objs):=by kernel_rfl):KG S P (AU S P n rs Q) g:=⟨J_ret hS hc outs hQ hp he⟩
theorem A6 (hS:H0 S P)(hc:pr){n:Nat}{rs:List ResultVar}{Q:JN->List Obj->List Bool->Prop}{a:AV}{objs:List Obj}(st:St)(outs:List Nat){ids:List (Nat×Nat)}(hQ:Q (.ret a) objs (Ep n outs))(hp:pr=D1 (cnd P g):=by kernel_rfl)
 (he:(YX (stp P g)).isSome=true:=by kernel_rfl) (hle:KLe ids (stp P g).st st:=by exact kl) (hr:Rm P st rs outs=some (a,objs):=by kernel_rfl):KG S P (AU S P n rs Q) g:=⟨Ab9 hS hc st outs hQ hp he hle.out hr⟩
theorem A4 (hS:H0 S P){f:FuncId}{fn:Func}{args:List AV}{objs objs' : List Obj}{ks:List Bool}{r:AV}(hf:P.funcs[f]? = some fn)
 (h:KG S P (AU S P objs.length fn.results.toList fun res o k=>res=.ret r/\o=objs' /\ k=ks) (.code (fn.body.getD .skip) [] { env:=argEnv args,regs:=objRegs objs }))
 (hc:fn.body.isSome=true:=by kernel_rfl) (hn:Nat.ble args.length fn.ntmps=true:=by kernel_rfl) (ho:Nat.blt objs.length 1000=true:=by kernel_rfl)
 (hco:X7 fn.ntmps (fn.body.getD .skip)=true:=by kernel_rfl) (hnm:(fn.name == "runtime.NumGoroutine")=false:=by kernel_rfl):FunO S f args objs r objs' ks:=Za hS hf h.out hc hn ho hco hnm
theorem EU (hS:H0 S P)(hc:pr)(h:DG S P (Gz (stp P g)) fun env regs=>KG S P F (.pop .normal (stp P g).k ⟨env,regs⟩))(hp:pr=D1 (cnd P g):=by kernel_rfl)(hd:DK (stp P g)=true:=by kernel_rfl)(hmix:P.follows .mixedOrders=true:=by kernel_rfl)
 (hok:Ki (Gz (stp P g)).all (Gz (stp P g)).cls=true:=by kernel_rfl):KG S P F g:=by
 have e:(fun env regs=>KG S P F (.pop .normal (stp P g).k ⟨env,regs⟩))=fun env regs=>G S P F (.pop .normal (stp P g).k ⟨env,regs⟩):=by funext env regs;exact propext ⟨fun h=>h.out,fun h=>⟨h⟩⟩
 rw[e]at h;exact⟨Zb hS hc h.out hp hd hmix hok⟩
section
variable {sc:SC}{k:Env->C7->Prop}
theorem J2 (hc:pr)(h:k (ED P sc).env (ED P sc).regs)(hp:pr=D1 (UA P sc):=by kernel_rfl)(he:(ED P sc).rest.isEmpty=true:=by kernel_rfl):DG S P sc k:=⟨C_end hc h hp he⟩
theorem Bi (hc:pr){b:Bool}(ht:b=true->DG S P (Kq true (ED P sc)) k)(hf:b=false->DG S P (Kq false (ED P sc)) k)(hp:pr=D1 (UA P sc):=by kernel_rfl)(hb:NK (ED P sc)=some b:=by kernel_rfl):DG S P sc k:=
 ⟨Zc hc (fun h=>(ht h).out) (fun h=>(hf h).out) hp hb⟩
theorem VB (ids:List Nat)(hc:pr){fn:FuncId}{args:List AV}{objs objs' : List Obj}{r:AV}{ks:List Bool}(hF:FunO S fn args objs r objs' ks)(hk:DG S P (Vz ids ks r objs' (ED P sc)) k)
 (hp:pr=D1 (UA P sc):=by kernel_rfl) (he:SE ids (ED P sc)=some (fn,args,objs):=by kernel_rfl) (hn:PJ ids ks objs'.length (ED P sc)=true:=by kernel_rfl):DG S P sc k:=⟨Ac2 ids hc hF hk.out hp he hn⟩
theorem Q9 (hc:pr){fn:FuncId}{args:List AV}{r:AV}(hF:FunO S fn args [] r [] [])(hk:DG S P (VA r (ED P sc)) k)(hp:pr=D1 (UA P sc):=by kernel_rfl)(he:SH (ED P sc)=some (fn,args):=by kernel_rfl)(hn:SF (ED P sc)=true:=by kernel_rfl):DG S P sc k:=
 ⟨Ac3 hc hF hk.out hp he hn⟩
theorem CL (hc:pr){x:PV}(hk:DG S P (Ro x (ED P sc)) k)(hp:pr=D1 (UA P sc):=by kernel_rfl)(he:(DL P (ED P sc)).map (·.2)=some x:=by kernel_rfl)(hc2:((DL P (ED P sc)).map fun q=>D1 q.1)=some (true=true):=by kernel_rfl):DG S P sc k:=⟨Zd hc hk.out hp he hc2⟩
end
end
end Go.AM
namespace Go.AM
section
variable {S:Y7}{P:Program}{F:J8}{g:Cfg}{pr:Prop}
def yldE:Cfg->Option (List PV×List (List PV))
 |.ops all (o::_) _ st=>match Bu all st.env o,o.op with
  |some true,.call c=>match c.callee with
   |.value f=>match aev st.env f,HV st.regs (c.args.toList.map (aev st.env))with
    |.yf j,some (xs,regs)=>match A3 regs j with
     |some (.yld (ys::rest) true)=>if DD j regs=true/\xs.length=ys.length then some (xs,ys::rest)else none
     |_=>none
    |_,_=>none
   |_=>none
  |_,_=>none
 |_=>none
def Ac4 (b:Bool)(rest:List (List PV)):Cfg->Cfg
 |.ops all (o::ops) K st=>match o.op with
  |.call c=>match c.callee with
   |.value f=>match aev st.env f,HV st.regs (c.args.toList.map (aev st.env))with
    |.yf j,some (_,regs)=>Ya o.dst (.p (.bb b)) st.env (ins j (.yld rest b) regs) fun st=>.ops all ops K st
    |_,_=>.ops all (o::ops) K st
   |_=>.ops all (o::ops) K st
  |_=>.ops all (o::ops) K st
 |g=>g
theorem PK:∀l:List PV,Yo l l
 |[]=>trivial
 |x::l=>⟨.inl rfl,PK l⟩
theorem Ze (hS:H0 S P)(hc:pr){ys:List PV}{rest:List (List PV)}(ht:G S P F (Ac4 true rest (stp P g)))(hf:G S P F (Ac4 false [] (stp P g)))(hp:pr=D1 (cnd P g))(he:yldE (stp P g)=some (ys,ys::rest)):G S P F g:=by
 refine EC hS hc ?_ hp;generalize stp P g=g' at he ht hf;unfold yldE at he;split at he
 ·split at he
  ·rename_i hg ho;split at he
   ·rename_i hcl;split at he
    ·rename_i hy hv;split at he
     ·rename_i hr;split at he
      ·rename_i ho2;simp only[Option.some.injEq,Prod.mk.injEq,List.cons.injEq]at he;obtain⟨rfl,rfl,rfl⟩:=he;simp only[Ac4,ho,hcl,hy,hv,Ii]at ht hf;refine YP hS hg ho hcl hy hv hr ho2.1 (PK _) fun b=>?_;cases b
       ·exact hf
       ·exact ht
      ·cases he
     ·cases he
    ·cases he
   ·cases he
  ·cases he
 ·cases he
theorem BX (hS:H0 S P)(hc:pr){ys:List PV}{rest:List (List PV)}(ht:KG S P F (Ac4 true rest (stp P g)))(hf:KG S P F (Ac4 false [] (stp P g)))(hp:pr=D1 (cnd P g):=by kernel_rfl)(he:yldE (stp P g)=some (ys,ys::rest):=by kernel_rfl):KG S P F g:=
 ⟨Ze hS hc ht.out hf.out hp he⟩
def Hj {T:Type}(x:T)(o:Option (List T)):Option (List T):=o.map (x :: ·)
theorem Kt {T:Type}{x:T}{o:Option (List T)}{L:List T}(h:Hj x o=some L):∃L',L=x::L' /\ o=some L':=by simp only[Hj,Option.map_eq_some_iff]at h;obtain⟨l,h1,h2⟩:=h;exact⟨l,h2.symm,h1⟩
theorem EV (hS:H0 S P)(hc:pr){R A:Type}{body:(A->Option R)->A->Option R}{N:Nat}{a0:A}{r0:R}(h:Co N body a0=some r0)(s:A->R->St){ids:List (Nat×Nat)}
 (hr:∀(X:Type) (s' : X->St) (J:X->Prop) (m:X->Nat) (n:Nat) (self:A->Option R) (a:A) (r:R),
  (∀(g' : Cfg) (ids:List (Nat×Nat)) (pr:Prop) (a:A) (r:R),pr->self a=some r->(hp:pr=D1 (cnd P g'):=by kernel_rfl)->(he:stp P g' = .pop .normal (.lp X s' J m n::(stp P g).k) (stp P g').st:=by kernel_rfl)->(hle:KLe ids (stp P g').st (s a r):=by exact kl)->KG S P F g') ->
  body self a=some r->KG S P F (.code (PH (stp P g)) (.lp X s' J m n::(stp P g).k) (s a r))) (hp:pr=D1 (cnd P g):=by kernel_rfl) (hl:Hg (stp P g)=true:=by kernel_rfl) (hle:KLe ids (stp P g).st (s a0 r0):=by exact kl):KG S P F g:=by
 refine⟨EC hS hc ?_ hp⟩;rw[Vy hl];refine XV hS (X:=Nat×A×R) (fun x=>s x.2.1 x.2.2) (fun x=>Co x.1 body x.2.1=some x.2.2) (fun x=>x.1) (N,a0,r0) ids hle.out h ?_;rintro⟨n,a,r⟩ hx;cases n with
 |zero=>cases hx
 |succ n=>exact (hr _ _ _ _ _ (Co n body) a r (fun g' ids pr a r hc hself hp he hle=>⟨EC hS hc (by rw[he];exact US hS (n,a,r) ids hle.out hself (Nat.lt_succ_self n)) hp⟩) hx).out
theorem NM (hS:H0 S P)(hc:pr){R A B:Type}{body:(A->B->Option R)->A->B->Option R}{N:Nat}{a0:A}{b0:B}{r0:R}(h:Dq N body a0 b0=some r0)(s:A->B->R->St){ids:List (Nat×Nat)}
 (hr:∀(X:Type) (s' : X->St) (J:X->Prop) (m:X->Nat) (n:Nat) (self:A->B->Option R) (a:A) (b:B) (r:R),
  (∀(g' : Cfg) (ids:List (Nat×Nat)) (pr:Prop) (a:A) (b:B) (r:R),pr->self a b=some r->(hp:pr=D1 (cnd P g'):=by kernel_rfl)->(he:stp P g' = .pop .normal (.lp X s' J m n::(stp P g).k) (stp P g').st:=by kernel_rfl)->(hle:KLe ids (stp P g').st (s a b r):=by exact kl)->KG S P F g') ->
  body self a b=some r->KG S P F (.code (PH (stp P g)) (.lp X s' J m n::(stp P g).k) (s a b r))) (hp:pr=D1 (cnd P g):=by kernel_rfl) (hl:Hg (stp P g)=true:=by kernel_rfl) (hle:KLe ids (stp P g).st (s a0 b0 r0):=by exact kl):KG S P F g:=
 EV hS hc h (fun x r=>s x.1 x.2 r) (fun X s' J m n self a r hb=>hr X s' J m n (fun a b=>self (a,b)) a.1 a.2 r fun g' ids pr a b r h1 h2 h3 h4 h5=>hb g' ids pr (a,b) r h1 h2 h3 h4 h5) hp hl hle
theorem DM (hS:H0 S P){f:FuncId}{fn:Func}{first caps:List AV}{objs:List Obj}{L:List (List PV)}(hf:P.funcs[f]? = some fn)
 (h:KG S P (AU S P (objs++[Obj.yld L true]).length fn.results.toList fun r objs' ks=>∃b,objs'[objs.length]? = some (.yld [] b)/\ks[objs.length]? = some true/\∃a,r=.ret a) (.code (fn.body.getD .skip) [] { env:=argEnv (first ++ .yf objs.length::caps),regs:=objRegs (objs++[Obj.yld L true]) }))
 (hc:fn.body.isSome=true:=by kernel_rfl) (hn:Nat.ble (first ++ .yf objs.length::caps).length fn.ntmps=true:=by kernel_rfl) (ho:Nat.blt (objs++[Obj.yld L true]).length 1000=true:=by kernel_rfl)
 (hco:X7 fn.ntmps (fn.body.getD .skip)=true:=by kernel_rfl) (hnm:(fn.name == "runtime.NumGoroutine")=false:=by kernel_rfl):DI S f first caps objs L:=by
 obtain⟨code,hcode⟩:=Option.isSome_iff_exists.1 hc;rw[hcode,Option.getD_some]at hco h;exact Ih hS hf hcode (Nat.le_of_ble_eq_true hn) (by simpa[Nat.blt_eq]using ho) rfl hco hnm h.out
def PL (P:Program)(ids:List Nat):Cfg->Option (FuncId×List AV×List AV×List Obj)
 |.code (.rangeFunc op _ _ _) _ st=>match CH st.env op with
  |some (f,first,caps)=>match P.funcs[f]?,J9 ids st.regs ids,BK ids first,BK ids caps with
   |some fn,some objs,some as,some bs=>if (fn.body.isSome && !(fn.name == "runtime.NumGoroutine")&&Dh objs&&F9 ids&&(objs.length==ids.length)&&Nat.blt ids.length 1000) then some (f,as,bs,objs)else none
   |_,_,_,_=>none
  |none=>none
 |_=>none
def FS:Cfg->Array Tmp
 |.code (.rangeFunc _ ps _ _) _ _=>ps
 |_=>#[]
def PM:Cfg->Code
 |.code (.rangeFunc _ _ a _) _ _=>a
 |_=>.skip
def PN:Cfg->Code
 |.code (.rangeFunc _ _ _ b) _ _=>b
 |_=>.skip
def PO (ids ts:List Nat)(g:Cfg):St:=⟨T3 ts (ts.map (get g.st.env)),O1 ids (ids.map fun _=>false) g.st.regs⟩
def rst (gh:Nat)(t:St):St:=⟨[],ins gh (.ghost (t.env.map (·.2))) t.regs⟩
def PP (gh:Nat)(ps:Array Tmp)(ys:List PV)(t:St):St:=⟨GR ps.toList ys t.env,ins gh (.ghost (t.env.map (·.2))) t.regs⟩
def exitE:Cfg->JM
 |.pop e _ _=>e
 |_=>.normal
def Yf:Cfg->Bool
 |.pop .ret [] _=>true
 |.pop (.exit _) [] _=>true
 |_=>false
theorem VC (regs:C7)(d:Nat)(x:Obj):A3 (ins d x regs) d=some x:=by
 induction regs with
 |nil=>simp[ins,A3]
 |cons p r ih=>
  obtain⟨i,b⟩:=p;simp only[ins];split
  ·simp[A3]
  split
  ·simp[A3]
  ·rename_i h1 h2;simp only[A3,h2,if_false,ih]
theorem EW (gh:Nat)(t:St):A3 (rst gh t).regs gh=some (.ghost (t.env.map fun p=>p.2)):=by unfold rst;exact VC _ _ _
def Ku (ids:List Nat):Cfg->Option (FuncId×List AV×List AV×List Obj)
 |.code (.rangeFunc op _ _ _) _ st=>match CH st.env op with
  |some (f,first,caps)=>match J9 ids st.regs ids,BK ids first,BK ids caps with
   |some objs,some as,some bs=>if (Dh objs&&F9 ids&&(objs.length==ids.length)&&Nat.blt ids.length 1000) then some (f,as,bs,objs)else none
   |_,_,_=>none
  |none=>none
 |_=>none
theorem FG {ids:List Nat}{g:Cfg}{q:FuncId×List AV×List AV×List Obj}(h:PL P ids g=some q):Ku ids g=some q/\∃fn,P.funcs[q.1]? = some fn/\fn.body.isSome=true/\(fn.name == "runtime.NumGoroutine")=false:=by
 unfold PL at h;split at h
 ·split at h
  ·rename_i hpo;split at h
   ·rename_i fn objs' as' bs' h1 h2 h3 h4;split at h
    ·rename_i hh;cases h;simp only[Bool.and_eq_true,Bool.not_eq_true',beq_iff_eq]at hh;obtain⟨⟨⟨⟨⟨e1,e2⟩,e3⟩,e4⟩,e5⟩,e6⟩:=hh;refine⟨?_,fn,h1,e1,by simpa using e2⟩;simp only[Ku,hpo,h2,h3,h4,e3,e4,e5,e6,beq_self_eq_true,Bool.and_true,if_true]
    ·cases h
   ·cases h
  ·cases h
 ·cases h
theorem NN (hS:H0 S P)(hc:pr){f:FuncId}{as bs:List AV}{objs:List Obj}{R T A:Type}{enc:T->List PV}{L:List T}{mb:(A->Option R)->T->A->Option R}{mk:A->Option R}{a0:A}{r:R}(hfn:∃fn,P.funcs[f]? = some fn/\fn.body.isSome=true/\(fn.name == "runtime.NumGoroutine")=false)
 (ids ts:List Nat) (gh:Nat) (s:A->St) {idl:List (Nat×Nat)}(h:S7 L mb mk a0=some r) (hF:DI S f as bs objs (L.map enc))
 (hlen:∀t:T,(enc t).length=(FS (stp P g)).size) (hk:∀a,(s a).env.map (·.1)=ts) (hn:∀a,A3 (s a).regs gh=none) (hb0:∀a,(⟨T3 ts ((s a).env.map (·.2)),del gh (ins gh (.ghost ((s a).env.map (·.2))) (s a).regs)⟩:St)=s a)
 (hround:∀(t:T) (next:St->Prop) (self:A->Option R) (a:A),
  (∀(g' : Cfg) (ids:List (Nat×Nat)) (pr:Prop) (a:A),pr->self a=some r->(hp:pr=D1 (cnd P g'):=by kernel_rfl)->(he:stp P g' = .pop .normal [] (stp P g').st:=by kernel_rfl)->(hle:KLe ids (stp P g').st (rst gh (s a)):=by exact kl)->KG S P (CK S gh ts next (kp S P (stp P g).k F)) g') ->
  mb self t a=some r->KG S P (Al S P (PN (stp P g)) gh ts next (kp S P (stp P g).k F)) (.code (PM (stp P g)) [] (PP gh (FS (stp P g)) (enc t) (s a))))
 (hend:∀a,mk a=some r->KG S P F (.pop .normal (stp P g).k (s a)))
 (hp:pr=D1 (cnd P g):=by kernel_rfl) (he:Ku ids (stp P g)=some (f,as,bs,objs):=by kernel_rfl) (hgh:Nat.blt gh 1000=true:=by kernel_rfl) (hng:A3 (stp P g).st.regs gh=none:=by kernel_rfl) (hts:F9 ts=true:=by kernel_rfl)
 (hle:KLe idl (PO ids ts (stp P g)) (s a0):=by exact kl):KG S P F g:=by
 refine⟨EC hS hc ?_ hp⟩;generalize stp P g=g1 at hlen hround hend he hng hle;unfold Ku at he;split at he
 ·rename_i op ps asg body K st;split at he
  ·rename_i f' first caps hpo
   split at he
   ·rename_i objs' as' bs' h2 h3 h4;split at he
    ·rename_i hh;simp only[Option.some.injEq,Prod.mk.injEq]at he;obtain⟨rfl,rfl,rfl,rfl⟩:=he;simp only[Bool.and_eq_true,Bool.not_eq_true',beq_iff_eq]at hh;obtain⟨⟨⟨e3,e4⟩,e5⟩,e6⟩:=hh;refine YS hS ids ts gh s idl h hF hpo hfn h2 e3 e4 h3 h4 e5 hgh hng e6 hts hlen hle.out hk hn (fun t next self a hb hm=>?_) (fun a hm=>(hend a hm).out);refine (hround t next self a (fun g' ids' pr a hc hself hp he hle=>⟨EC hS hc ?_ hp⟩) hm).out;rw[he];have hl:((s a).env.map (·.2)).length=ts.length:=by rw[<- hk a];simp
     refine hb _ (rst gh (s a)) ((s a).env.map fun p=>p.2) ids' a hle.out (EW gh (s a)) hl ?_ (hb0 a) hself
     have:=congrArg St.regs (hb0 a)
     simp only at this;show A3 (del gh (ins gh _ _)) gh=none;rw[this];exact hn a
    ·cases he
   ·cases he
  ·cases he
 ·cases he
theorem DN (hS:H0 S P)(hc:pr){f:FuncId}{as bs:List AV}{objs:List Obj}{R T A:Type}{enc:T->List PV}{L:List T}{mb:(A->Option R)->T->A->Option R}{mk:A->Option R}{a0:A}{r:R}
 (ids ts:List Nat) (gh:Nat) (s:A->St) {idl:List (Nat×Nat)}(h:S7 L mb mk a0=some r) (hF:DI S f as bs objs (L.map enc))
 (hlen:∀t:T,(enc t).length=(FS (stp P g)).size) (hk:∀a,(s a).env.map (·.1)=ts) (hn:∀a,A3 (s a).regs gh=none) (hb0:∀a,(⟨T3 ts ((s a).env.map (·.2)),del gh (ins gh (.ghost ((s a).env.map (·.2))) (s a).regs)⟩:St)=s a)
 (hround:∀(t:T) (next:St->Prop) (self:A->Option R) (a:A),
  (∀(g' : Cfg) (ids:List (Nat×Nat)) (pr:Prop) (a:A),pr->self a=some r->(hp:pr=D1 (cnd P g'):=by kernel_rfl)->(he:stp P g' = .pop .normal [] (stp P g').st:=by kernel_rfl)->(hle:KLe ids (stp P g').st (rst gh (s a)):=by exact kl)->KG S P (CK S gh ts next (kp S P (stp P g).k F)) g') ->
  mb self t a=some r->KG S P (Al S P (PN (stp P g)) gh ts next (kp S P (stp P g).k F)) (.code (PM (stp P g)) [] (PP gh (FS (stp P g)) (enc t) (s a))))
 (hend:∀a,mk a=some r->KG S P F (.pop .normal (stp P g).k (s a)))
 (hp:pr=D1 (cnd P g):=by kernel_rfl) (he:PL P ids (stp P g)=some (f,as,bs,objs):=by kernel_rfl) (hgh:Nat.blt gh 1000=true:=by kernel_rfl) (hng:A3 (stp P g).st.regs gh=none:=by kernel_rfl) (hts:F9 ts=true:=by kernel_rfl)
 (hle:KLe idl (PO ids ts (stp P g)) (s a0):=by exact kl):KG S P F g:=
 NN hS hc (FG he).2 ids ts gh s h hF hlen hk hn hb0 hround hend hp (FG he).1 hgh hng hts hle
theorem VD (hS:H0 S P)(hc:pr){f:FuncId}{as bs:List AV}{objs:List Obj}{R T A:Type}{enc:T->List PV}{L:List T}{mb:(A->Option R)->T->A->Option R}{mk:A->Option R}{a0:A}{r0:R}(hfn:∃fn,P.funcs[f]? = some fn/\fn.body.isSome=true/\(fn.name == "runtime.NumGoroutine")=false)
 (ids ts:List Nat) (gh:Nat) (s:A->R->St) {idl:List (Nat×Nat)}(h:S7 L mb mk a0=some r0) (hF:DI S f as bs objs (L.map enc))
 (hlen:∀t:T,(enc t).length=(FS (stp P g)).size) (hk:∀a r,(s a r).env.map (·.1)=ts) (hn:∀a r,A3 (s a r).regs gh=none) (hb0:∀a r,(⟨T3 ts ((s a r).env.map (·.2)),del gh (ins gh (.ghost ((s a r).env.map (·.2))) (s a r).regs)⟩:St)=s a r)
 (hround:∀(t:T) (next:St->Prop) (self:A->Option R) (a:A) (r:R),
  (∀(g' : Cfg) (ids:List (Nat×Nat)) (pr:Prop) (a:A) (r:R),pr->self a=some r->(hp:pr=D1 (cnd P g'):=by kernel_rfl)->(he:stp P g' = .pop .normal [] (stp P g').st:=by kernel_rfl)->(hle:KLe ids (stp P g').st (rst gh (s a r)):=by exact kl)->KG S P (CK S gh ts next (kp S P (stp P g).k F)) g') ->
  mb self t a=some r->KG S P (Al S P (PN (stp P g)) gh ts next (kp S P (stp P g).k F)) (.code (PM (stp P g)) [] (PP gh (FS (stp P g)) (enc t) (s a r))))
 (hend:∀a r,mk a=some r->KG S P F (.pop .normal (stp P g).k (s a r)))
 (hp:pr=D1 (cnd P g):=by kernel_rfl) (he:Ku ids (stp P g)=some (f,as,bs,objs):=by kernel_rfl) (hgh:Nat.blt gh 1000=true:=by kernel_rfl) (hng:A3 (stp P g).st.regs gh=none:=by kernel_rfl) (hts:F9 ts=true:=by kernel_rfl)
 (hle:KLe idl (PO ids ts (stp P g)) (s a0 r0):=by exact kl):KG S P F g:=by
 refine⟨EC hS hc ?_ hp⟩;generalize stp P g=g1 at hlen hround hend he hng hle;unfold Ku at he;split at he
 ·rename_i op ps asg body K st;split at he
  ·rename_i f' first caps hpo
   split at he
   ·rename_i objs' as' bs' h2 h3 h4;split at he
    ·rename_i hh;simp only[Option.some.injEq,Prod.mk.injEq]at he;obtain⟨rfl,rfl,rfl,rfl⟩:=he;simp only[Bool.and_eq_true,Bool.not_eq_true',beq_iff_eq]at hh;obtain⟨⟨⟨e3,e4⟩,e5⟩,e6⟩:=hh;refine Xa hS ids ts gh s idl h hF hpo hfn h2 e3 e4 h3 h4 e5 hgh hng e6 hts hlen hle.out hk hn (fun t next self a r hb hm=>?_) (fun a r hm=>(hend a r hm).out);refine (hround t next self a r (fun g' ids' pr a r hc hself hp he hle=>⟨EC hS hc ?_ hp⟩) hm).out;rw[he];have hl:((s a r).env.map (·.2)).length=ts.length:=by rw[<- hk a r];simp
     refine hb _ (rst gh (s a r)) ((s a r).env.map fun p=>p.2) ids' a r hle.out (EW gh (s a r)) hl ?_ (hb0 a r) hself
     have:=congrArg St.regs (hb0 a r)
     simp only at this;show A3 (del gh (ins gh _ _)) gh=none;rw[this];exact hn a r
    ·cases he
   ·cases he
  ·cases he
 ·cases he
theorem Xj (hS:H0 S P)(hc:pr){f:FuncId}{as bs:List AV}{objs:List Obj}{R T A:Type}{enc:T->List PV}{L:List T}{mb:(A->Option R)->T->A->Option R}{mk:A->Option R}{a0:A}{r0:R}
 (ids ts:List Nat) (gh:Nat) (s:A->R->St) {idl:List (Nat×Nat)}(h:S7 L mb mk a0=some r0) (hF:DI S f as bs objs (L.map enc))
 (hlen:∀t:T,(enc t).length=(FS (stp P g)).size) (hk:∀a r,(s a r).env.map (·.1)=ts) (hn:∀a r,A3 (s a r).regs gh=none) (hb0:∀a r,(⟨T3 ts ((s a r).env.map (·.2)),del gh (ins gh (.ghost ((s a r).env.map (·.2))) (s a r).regs)⟩:St)=s a r)
 (hround:∀(t:T) (next:St->Prop) (self:A->Option R) (a:A) (r:R),
  (∀(g' : Cfg) (ids:List (Nat×Nat)) (pr:Prop) (a:A) (r:R),pr->self a=some r->(hp:pr=D1 (cnd P g'):=by kernel_rfl)->(he:stp P g' = .pop .normal [] (stp P g').st:=by kernel_rfl)->(hle:KLe ids (stp P g').st (rst gh (s a r)):=by exact kl)->KG S P (CK S gh ts next (kp S P (stp P g).k F)) g') ->
  mb self t a=some r->KG S P (Al S P (PN (stp P g)) gh ts next (kp S P (stp P g).k F)) (.code (PM (stp P g)) [] (PP gh (FS (stp P g)) (enc t) (s a r))))
 (hend:∀a r,mk a=some r->KG S P F (.pop .normal (stp P g).k (s a r)))
 (hp:pr=D1 (cnd P g):=by kernel_rfl) (he:PL P ids (stp P g)=some (f,as,bs,objs):=by kernel_rfl) (hgh:Nat.blt gh 1000=true:=by kernel_rfl) (hng:A3 (stp P g).st.regs gh=none:=by kernel_rfl) (hts:F9 ts=true:=by kernel_rfl)
 (hle:KLe idl (PO ids ts (stp P g)) (s a0 r0):=by exact kl):KG S P F g:=
 VD hS hc (FG he).2 ids ts gh s h hF hlen hk hn hb0 hround hend hp (FG he).1 hgh hng hts hle
def Af7 (t:Nat)(a:AV):Cfg->Cfg
 |.ops all rest K st=>mkO (ins t a st.env) st.regs fun env regs=>.ops all rest K ⟨env,regs⟩
 |g=>g
theorem Xk (hS:H0 S P)(hc:pr)(t:Nat){k n:Nat}{f:Nat->List PV}(h0:n=0->KG S P F (Af7 t (.p (.v (.slice none 0 0))) (stp P g)))(h1:KG S P F (Af7 t (.p (.sl true k n f)) (stp P g)))
 (hp:pr=D1 (cnd P g):=by kernel_rfl) (ho:ET (stp P g)=true:=by kernel_rfl) (hg:get (stp P g).st.env t=.p (.sl false k n f):=by kernel_rfl):KG S P F g:=by
 refine⟨EC hS hc ?_ hp⟩;generalize stp P g=g1 at h0 h1 ho hg;unfold ET at ho;split at ho
 ·refine ZQ hS t hg (fun h=>?_) ?_
  ·have:=(h0 h).out
   simpa only[Af7,Dr]using this
  ·have:=h1.out
   simpa only[Af7,Dr]using this
 ·cases ho
def frzC (j:Nat)(ps:List PV):Cfg->Cfg
 |.code c K st=>mkO (Uy j ps st.env) (ins j .dead st.regs) fun env regs=>.code c K ⟨env,regs⟩
 |g=>g
theorem Xl (hS:H0 S P)(hc:pr)(j:Nat)(ps:List PV)(hk:KG S P F (frzC j ps (stp P g)))(hp:pr=D1 (cnd P g):=by kernel_rfl)(hd:DK (stp P g)=true:=by kernel_rfl)(hmix:P.follows .mixedOrders=true:=by kernel_rfl)
 (hdep:IE (Gz (stp P g)).all=true:=by kernel_rfl) (hr:A3 (stp P g).st.regs j=some (.cells (ps.map .p)):=by kernel_rfl):KG S P F g:=by
 refine⟨EC hS hc ?_ hp⟩;generalize stp P g=g1 at hk hd hdep hr;unfold DK at hd;split at hd
 ·rename_i id ops K st;have hk:=hk.out;simp only[frzC,Dr]at hk;show awp S P (.region id ops true) (kp S P K F) st;simp only[awp,if_true];have hk' : Wk S P ops.toList (kp S P K F) ⟨Uy j ps st.env,ins j .dead st.regs⟩:=by
   have:awp S P (.region id ops true) (kp S P K F) ⟨Uy j ps st.env,ins j .dead st.regs⟩:=hk
   simpa only[awp,if_true]using this
  exact WX hS hmix hdep (hS.frz st j ps _ hr hk')
 ·cases hd
def clsN (js:List Nat):Nat->List Oper->List Cls
 |_,[]=>[]
 |i,o::r=>(if js.contains i then .n else if js.contains (i+1000)then .w else Af4 o.op)::clsN js (i+1) r
def NO (js:List Nat):Cfg->SC
 |.code (.region _ ops true) _ st=>⟨ops.toList,clsN js 0 ops.toList,ops.toList,st.env,st.regs,[]⟩
 |_=>⟨[],[],[],[],[],[]⟩
theorem I7 (hS:H0 S P)(hc:pr)(js:List Nat)(h:DG S P (NO js (stp P g)) fun env regs=>KG S P F (.pop .normal (stp P g).k ⟨env,regs⟩))(hp:pr=D1 (cnd P g):=by kernel_rfl)(hd:DK (stp P g)=true:=by kernel_rfl)(hmix:P.follows .mixedOrders=true:=by kernel_rfl)
 (hok:Ki (NO js (stp P g)).all (NO js (stp P g)).cls=true:=by kernel_rfl):KG S P F g:=by
 have e:(fun env regs=>KG S P F (.pop .normal (stp P g).k ⟨env,regs⟩))=fun env regs=>G S P F (.pop .normal (stp P g).k ⟨env,regs⟩):=by funext env regs;exact propext ⟨fun h=>h.out,fun h=>⟨h⟩⟩
 rw[e]at h;refine⟨EC hS hc ?_ hp⟩;have h:=h.out;generalize stp P g=g' at hd hok h;unfold DK at hd;split at hd
 ·exact Vs hS _ hmix hok h
 ·cases hd
def clsL (ls:List (Nat×Cls)):Nat->List Oper->List Cls
 |_,[]=>[]
 |i,o::r=>(match ls.find? (fun q=>q.1==i)with|some q=>q.2|none=>Af4 o.op)::clsL ls (i+1) r
def NP (ls:List (Nat×Cls)):Cfg->SC
 |.code (.region _ ops true) _ st=>⟨ops.toList,clsL ls 0 ops.toList,ops.toList,st.env,st.regs,[]⟩
 |_=>⟨[],[],[],[],[],[]⟩
theorem U7 (hS:H0 S P)(hc:pr)(ls:List (Nat×Cls))(h:DG S P (NP ls (stp P g)) fun env regs=>KG S P F (.pop .normal (stp P g).k ⟨env,regs⟩))(hp:pr=D1 (cnd P g):=by kernel_rfl)(hd:DK (stp P g)=true:=by kernel_rfl)(hmix:P.follows .mixedOrders=true:=by kernel_rfl)
 (hok:Ki (NP ls (stp P g)).all (NP ls (stp P g)).cls=true:=by kernel_rfl):KG S P F g:=by
 have e:(fun env regs=>KG S P F (.pop .normal (stp P g).k ⟨env,regs⟩))=fun env regs=>G S P F (.pop .normal (stp P g).k ⟨env,regs⟩):=by funext env regs;exact propext ⟨fun h=>h.out,fun h=>⟨h⟩⟩
 rw[e]at h;refine⟨EC hS hc ?_ hp⟩;have h:=h.out;generalize stp P g=g' at hd hok h;unfold DK at hd;split at hd
 ·exact Vs hS _ hmix hok h
 ·cases hd
theorem Hk (hS:H0 S P)(hc:pr){body:Code}{gh:Nat}{ts:List Nat}{next:St->Prop}{Q:J8}(h:KG S P (CK S gh ts next Q) (.code body [] (stp P g).st))(hp:pr=D1 (cnd P g):=by kernel_rfl)(he:stp P g=.pop .normal [] (stp P g).st:=by kernel_rfl):KG S P (Al S P body gh ts next Q) g:=by refine⟨EC hS hc ?_ hp⟩;rw[he];exact G_asg hS h.out
theorem NQ (hS:H0 S P)(hc:pr){K:List It}{gh:Nat}{ts:List Nat}{next:St->Prop}(t:St){ids:List (Nat×Nat)}(hk:KG S P F (.pop (exitE (stp P g)) K t))(hp:pr=D1 (cnd P g):=by kernel_rfl)(he:Yf (stp P g)=true:=by kernel_rfl)
 (hle:KLe ids (stp P g).st (rst gh t):=by exact kl) (h1:t.env.map (·.1)=ts:=by kernel_rfl) (h2:A3 t.regs gh=none:=by kernel_rfl) (h3:(⟨T3 ts (t.env.map (·.2)),del gh (ins gh (.ghost (t.env.map (·.2))) t.regs)⟩:St)=t:=by kernel_rfl):KG S P (CK S gh ts next (kp S P K F)) g:=by
 refine⟨EC hS hc ?_ hp⟩;generalize stp P g=g1 at hk he hle;have hl:(t.env.map (·.2)).length=ts.length:=by rw[<- h1];simp
 have hd:A3 (del gh (ins gh (.ghost (t.env.map (·.2))) t.regs)) gh=none:=by
  have:=congrArg St.regs h3
  simp only at this;rw[this];exact h2
 unfold Yf at he;split at he
 ·exact Sw hS trivial (rst gh t) ids hle.out (EW gh t) hl hd (by rw[show (⟨T3 ts (t.env.map (·.2)),del gh (rst gh t).regs⟩:St)=t from h3];exact hk.out)
 ·exact Sw hS trivial (rst gh t) ids hle.out (EW gh t) hl hd (by rw[show (⟨T3 ts (t.env.map (·.2)),del gh (rst gh t).regs⟩:St)=t from h3];exact hk.out)
 ·cases he
end
end Go.AM
namespace Go.AM
section
variable {S:Y7}{P:Program}{F:J8}{g:Cfg}{pr:Prop}
def Ac5 (j:Nat)(ps:List PV):Cfg->Cfg
 |.ops all rest K st=>mkO (Uy j ps st.env) (ins j .dead st.regs) fun env regs=>.ops all rest K ⟨env,regs⟩
 |g=>g
end
section
variable {S:Y7}{P:Program}{F:J8}{g:Cfg}{pr:Prop}
theorem W7 (hS:H0 S P)(hc:pr)(d:Nat)(st:St){ids:List (Nat×Nat)}(hk:KG S P F (opsS st (ES P d g)))(hp:pr=D1 (ZG P d g):=by kernel_rfl)(ho:ET (ES P d g)=true:=by kernel_rfl)(hle:KLe ids (ES P d g).st st:=by exact kl):KG S P F g:=by
 refine⟨(EK (u:=some d) (F:=F) hS 400 [] g (by subst hp;exact hc)).2 ?_⟩;have hk:=hk.out;have hle:=hle.out;show G S P F (ES P d g);generalize ES P d g=g' at ho hle hk;unfold ET at ho;split at ho
 ·exact Vx hS st ids hle hk
 ·cases ho
end
end Go.AM
namespace Go.AM
section
variable {S:Y7}{P:Program}{F:J8}{g:Cfg}{pr:Prop}
def Ac6 (S:Y7)(P:Program)(pv:PV)(m:String)(as:List AV)(r:AV):Prop:=∃t y fn,pv=.iface t y/\OY P t m=some fn/\UR S fn (.p (nP y)::as) r
def invE:Cfg->Option (PV×String×List AV)
 |.ops all (o::_) _ st=>match Bu all st.env o,o.op with
  |some true,.call c=>match c.callee with
   |.invoke rv m=>match Lx st.regs (c.args.toList.map (aev st.env)),aev st.env rv with
    |some (as,_),.p pv=>match BK [] as with
     |some as'=>some (pv,m,as')
     |none=>none
    |_,_=>none
   |_=>none
  |_,_=>none
 |_=>none
def invK (r:AV):Cfg->Cfg
 |.ops all (o::rest) K st=>match o.op with
  |.call c=>match Lx st.regs (c.args.toList.map (aev st.env))with
   |some (_,regs)=>Ya o.dst (unA [] r) st.env regs fun st=>.ops all rest K st
   |none=>.ops all (o::rest) K st
  |_=>.ops all (o::rest) K st
 |g=>g
theorem JD (hS:H0 S P)(hc:pr){pv:PV}{m:String}{as:List AV}{r:AV}(hF:Ac6 S P pv m as r)(hk:KG S P F (invK r (stp P g)))
 (hp:pr=D1 (cnd P g):=by kernel_rfl) (he:invE (stp P g)=some (pv,m,as):=by kernel_rfl):KG S P F g:=by
 obtain⟨t,y,fn,rfl,hm,hF⟩:=hF;refine⟨EC hS hc ?_ hp⟩;have hk:=hk.out;generalize stp P g=g' at he hk;unfold invE at he;split at he
 ·split at he
  ·rename_i hg ho;split at he
   ·rename_i hcl;split at he
    ·rename_i ha hrv;split at he
     ·rename_i hr;cases he;simp only[invK,ho,ha,Ii]at hk;refine WU hS hg ho hcl ha hrv hm (args:=.p (nP y)::_) ?_ hF hk;simp only[BK,OQ,hr]
     ·cases he
    ·cases he
   ·cases he
  ·cases he
 ·cases he
theorem H5 (hS:H0 S P)(hc:pr)(d j:Nat)(ps:List PV)(hk:KG S P F (Ac5 j ps (ES P d g)))(hp:pr=D1 (ZG P d g):=by kernel_rfl)(ho:ET (ES P d g)=true:=by kernel_rfl)
 (hr:A3 (ES P d g).st.regs j=some (.cells (ps.map .p)):=by kernel_rfl):KG S P F g:=by
 refine⟨(EK (u:=some d) (F:=F) hS 400 [] g (by subst hp;exact hc)).2 ?_⟩;have hk:=hk.out;show G S P F (ES P d g);generalize ES P d g=g' at ho hr hk;unfold ET at ho;split at ho
 ·simp only[Ac5,Dr]at hk;exact Pd hS (hS.frz _ j ps _ hr hk)
 ·cases ho
def Xm (j j' : Nat):AV->AV
 |.vecp i m=>if i=j then .vec j' else .vecp i m
 |a=>a
def Xn (j j' : Nat):List AV->List AV
 |[]=>[]
 |a::r=>Xm j j' a::Xn j j' r
def Xo (j j' : Nat):Env->Env
 |[]=>[]
 |(t,a)::r=>(t,Xm j j' a)::Xo j j' r
def TP (j j' : Nat):C7->C7
 |[]=>[]
 |(t,.cells cs)::r=>(t,.cells (Xn j j' cs))::TP j j' r
 |(t,o)::r=>(t,o)::TP j j' r
def msA (j:Nat)(r:List Nat):AV->List Nat
 |.vecp i m=>if i=j then m::r else r
 |_=>r
def msL (j:Nat):List AV->List Nat
 |[]=>[]
 |a::r=>msA j (msL j r) a
def msE (j:Nat):Env->List Nat
 |[]=>[]
 |(_,a)::r=>msA j (msE j r) a
def msR (j:Nat):C7->List Nat
 |[]=>[]
 |(_,.cells cs)::r=>msL j cs++msR j r
 |_::r=>msR j r
theorem VE {j:Nat}{r:List Nat}{a:AV}:∀x∈r,x∈msA j r a:=by
 intro x hx;unfold msA;split
 ·split
  ·exact List.mem_cons_of_mem _ hx
  ·exact hx
 ·exact hx
theorem SI {j n j' : Nat}{r:List Nat}{a:AV}(h:∀m∈msA j r a,m=n):Wn j n j' a=Xm j j' a:=by
 cases a with
 |vecp i m=>
  simp only[Wn,Xm];by_cases e:i=j
  ·have:m=n:=h m (by simp[msA,e])
   simp[e,this]
  ·simp[e]
 |_=>rfl
theorem SJ {j n j' : Nat}:∀{l:List AV},(∀m∈msL j l,m=n)->XR j n j' l=Xn j j' l
 |[],_=>rfl
 |a::r,h=>by simp only[XR,Xn,SI (r:=msL j r) h,SJ fun m hm=>h m (VE m hm)]
theorem SK {j n j' : Nat}:∀{l:Env},(∀m∈msE j l,m=n)->XQ j n j' l=Xo j j' l
 |[],_=>rfl
 |(t,a)::r,h=>by simp only[XQ,Xo,SI (r:=msE j r) h,SK fun m hm=>h m (VE m hm)]
theorem NR {j n j' : Nat}:∀{l:C7},(∀m∈msR j l,m=n)->Sa j n j' l=TP j j' l
 |[],_=>rfl
 |(t,o)::r,h=>by
  cases o with
  |cells cs=>simp only[Sa,TP,ZD,SJ fun m hm=>h m (List.mem_append_left _ hm),NR fun m hm=>h m (List.mem_append_right _ hm)]
  |_=>simp only[Sa,TP,ZD,NR (l:=r) h]
def truC (j j' : Nat)(e:TypeId)(k n:Nat)(f:Nat->List PV):Cfg->Cfg
 |.ops all rest K st=>mkO (Xo j j' st.env) (ins j' (.vec e k n f false) (ins j .dead (TP j j' st.regs))) fun env regs=>.ops all rest K ⟨env,regs⟩
 |g=>g
theorem Ac7 (hS:H0 S P)(hc:pr)(d j n j' : Nat){e:TypeId}{k N:Nat}{f:Nat->List PV}(hn:n<=N)(hk:KG S P F (truC j j' e k n f (ES P d g)))(hp:pr=D1 (ZG P d g):=by kernel_rfl)(ho:ET (ES P d g)=true:=by kernel_rfl)
 (hr:A3 (ES P d g).st.regs j=some (.vec e k N f false):=by kernel_rfl) (hf:A3 (ES P d g).st.regs j' = none:=by kernel_rfl) (h1:Nat.ble 1000 j' = true:=by kernel_rfl)
 (hm:(msE j (ES P d g).st.env++msR j (ES P d g).st.regs)=List.replicate (msE j (ES P d g).st.env++msR j (ES P d g).st.regs).length n:=by kernel_rfl):KG S P F g:=by
 refine⟨(EK (u:=some d) (F:=F) hS 400 [] g (by subst hp;exact hc)).2 ?_⟩;have hk:=hk.out;show G S P F (ES P d g);generalize ES P d g=g' at ho hr hf hk hm;unfold ET at ho;split at ho
 ·rename_i st;have hall:∀m∈msE j st.env++msR j st.regs,m=n:=fun m h=>by rw[show msE j st.env++msR j st.regs=_ from hm]at h;exact (List.mem_replicate.1 h).2
  simp only[truC,Dr]at hk;refine Pd hS (hS.trunc _ j j' n N k e f _ hr hn hf (Nat.le_of_ble_eq_true h1) ?_);rw[SK fun m h=>hall m (List.mem_append_left _ h),NR fun m h=>hall m (List.mem_append_right _ h)];exact hk
 ·cases ho
end
abbrev cA {α : Type}(n:Nat)(c : α -> PV)(f:Nat -> α):List PV:=Ah n (fun i=>c (f i))
theorem E2 (n:Nat)(f:Nat->PV):(Ah n f).length=n:=by simp[Ah]
theorem D2 (n:Nat)(f:Nat->PV):∀i,i<n->[(Ah n f).getD i default]=[f i]:=by intro i hi;simp[Ah,List.getD_eq_getElem?_getD,hi]
theorem An {n:Nat}{z:PV}{ps:List PV}(h:ps=List.replicate n z):∀i,i<n->[ps.getD i default]=[z]:=by intro i hi;subst h;simp[List.getD_eq_getElem?_getD,hi]
theorem TQ {n:Nat}{f g:Nat->PV}(h:∀i,i<n->[f i]=[g i]):Ah n f=Ah n g:=by unfold Ah;exact List.map_congr_left fun i hi=>by have:=h i (List.mem_range.1 hi);injection this
abbrev IP {α : Type}(f:Nat -> α)(k:Nat)(x : α):Nat -> α:=fun i=>if i=k then x else f i
theorem Yg {α : Type}{c : α -> PV}{n k:Nat}{v:Nat -> α}{f:Nat->PV}{e:PV}{x : α}(h:∀i,i<n->[f i]=[c (v i)])(hx:e=c x):∀i,i<n->[if i=k then e else f i]=[c (if i=k then x else v i)]:=by
 intro i hi;by_cases h1:i=k
 ·rw[if_pos h1,if_pos h1,hx]
 ·rw[if_neg h1,if_neg h1];exact h i hi
theorem app1H {α : Type}{c : α -> List PV}{n:Nat}{v:Sl α}{f g:Nat->List PV}{z : α}(h:∀i,i<n->f i=c (v.g i))(hn:n=v.n):∀i,i<n+1->i≠v.n->Ay n f g i=c ((v.push z).g i):=by
 subst hn;intro i hi hne;have hl:i<v.n:=by omega
 show (if i<v.n then f i else g (i-v.n))=c (if i<v.n then v.g i else z);rw[if_pos hl,if_pos hl];exact h i hl
theorem setH {α : Type}{c : α -> List PV}{n k:Nat}{v:Sl α}{f e:Nat->List PV}{x : α}(h:∀i,i<n->i≠k->f i=c (v.g i))(hx:k<n->e k=c x):∀i,i<n->(fun l=>if l=k then e l else f l) i=c ((v.upd k x).g i):=by
 intro i hi;show (if i=k then e i else f i)=c (if i=k then x else v.g i);split
 ·subst_vars;exact hx hi
 ·exact h i hi ‹_›
end Go.AM
namespace Go.AM
section
variable {S:Y7}{P:Program}{F:J8}{g:Cfg}{R X:Type}{A B:Option R}{r:R}{b:Bool}
theorem kI (hS:H0 S P)(h:(if b then A else B)=some r)(ht:A=some r->KG S P F (YT (stp P g)))(hf:B=some r->KG S P F (YU (stp P g)))
 (hp:True=D1 (cnd P g):=by kernel_rfl) (hb:Xb (stp P g)=some b:=by kernel_rfl):KG S P F g:=
 D9 hS trivial (fun c=>ht (itT c h)) (fun c=>hf (itF c h)) hp hb
theorem kG (hS:H0 S P)(h:(if b then A else B)=some r)(ht:A=some r->KG S P F (Kn true (stp P g)))(hf:B=some r->KG S P F (Kn false (stp P g)))
 (hp:True=D1 (cnd P g):=by kernel_rfl) (hb:Sz (stp P g)=some b:=by kernel_rfl):KG S P F g:=
 NL hS trivial (fun c=>ht (itT c h)) (fun c=>hf (itF c h)) hp hb
theorem kR (hS:H0 S P){n:Nat}{rs:List ResultVar}{Q:JN->List Obj->List Bool->Prop}{a:AV}{objs:List Obj}(hQ:Q (.ret a) objs (Ep n []):=by exact⟨rfl,rfl,rfl⟩)
 (hp:True=D1 (cnd P g):=by kernel_rfl) (he:(YX (stp P g)).bind (fun st=>Rm P st rs [])=some (a,objs):=by kernel_rfl):KG S P (AU S P n rs Q) g:=
 Rp hS trivial [] hQ hp he
theorem kC (hS:H0 S P){x:Option X}{f:X->Option R}(h:x.bind f=some r){fn:FuncId}{args:List AV}{objs:List Obj}{objs' : X->List Obj}{rr:X->AV}{ks:List Bool}
 (hF:∀{y},x=some y->FunO S fn args objs (rr y) (objs' y) ks) (hk:∀y,f y=some r->KG S P F (Xc [] ks (rr y) (objs' y) (stp P g)))
 (hp:True=D1 (cnd P g):=by kernel_rfl) (he:TM [] (stp P g)=some (fn,args,objs):=by kernel_rfl) (hn:∀y,TN [] ks (objs' y).length (stp P g)=true:=by intro y;kernel_rfl):KG S P F g:=by
 obtain⟨y,e,h⟩:=B5 h;exact B7 hS [] trivial (hF e) (hk y h) hp he (hn y)
end
end Go.AM
namespace Go.AM
inductive BT where
 |l (b:Bool)
 |n (b:Bool) (t f:BT)
def BT.ev:BT->Bool
 |.l b=>b
 |.n b t f=>if b then t.ev else f.ev
inductive BE where
 |a (b:Bool)
 |n (x y:BE)
 |o (x y:BE)
def BE.den:BE->Bool
 |.a b=>b
 |.n x y=>x.den&&y.den
 |.o x y=>x.den||y.den
def BE.tr:BE->BT->BT->BT
 |.a b,t,f=>.n b t f
 |.n x y,t,f=>x.tr (y.tr t f) f
 |.o x y,t,f=>x.tr t (y.tr t f)
def BE.top:BE->BT
 |.a b=>.l b
 |.n x y=>x.tr y.top (.l false)
 |.o x y=>x.tr (.l true) y.top
theorem BE.tr_ev:∀(e:BE) (t f:BT),(e.tr t f).ev=if e.den then t.ev else f.ev
 |.a b,t,f=>rfl
 |.n x y,t,f=>by simp only[tr,den,x.tr_ev,y.tr_ev];by_cases h:x.den=true<;>simp[h]
 |.o x y,t,f=>by simp only[tr,den,x.tr_ev,y.tr_ev];by_cases h:x.den=true<;>simp[h]
theorem BE.top_ev:∀e:BE,e.top.ev=e.den
 |.a b=>rfl
 |.n x y=>by simp only[top,den,x.tr_ev,y.top_ev,BT.ev];by_cases h:x.den=true<;>simp[h]
 |.o x y=>by simp only[top,den,x.tr_ev,y.top_ev,BT.ev];by_cases h:x.den=true<;>simp[h]
def keeps:Op->Bool
 |.move _ | .assign _ | .pick .. | .load .. | .nilCheck _ | .binOp .. | .unOp .. | .convert .. | .fieldAddr .. | .field .. | .indexAddr .. | .index .. | .extract ..=>true
 |.call { callee:=.builtin .len,.. } | .call { callee:=.builtin .min,.. } | .call { callee:=.builtin .max,.. }=>true
 |_=>false
theorem TR {P:Program}{env:Env}{regs:C7}{d:Nat}{o:Op}{out:Out}(hk:keeps o=true)(h:aop P env regs d o=some out):out.regs=regs:=by unfold keeps at hk;split at hk<;>first|(cases hk;done)|(simp only[aop]at h;(repeat' split at h)<;>first|(cases h;rfl)|cases h)
theorem MQ {o:Op}(hk:keeps o=true):XS o=true:=by unfold keeps at hk;split at hk<;>first|cases hk;done|rfl
def Xp:List Prop->List Prop
 |[]=>[]
 |c=>[D1 c]
def bgo (P:Program)(regs:C7)(o:Oper)(last:Bool)(rec:List Prop->Env->Option (BT×List Prop))(c:List Prop)(env:Env)(runs:Bool):Option (BT×List Prop):=match runs with
 |true=>match keeps o.op,o.dst with
  |true,some d=>match aop P env regs d o.op with
   |some ⟨p,v,_⟩=>match last with
    |true=>match JO v with
     |some b=>some (.l b,Xp (p++c))
     |none=>none
    |false=>fA v fun v=>UP d v env fun env=>rec (p++c) env
   |none=>none
  |_,_=>none
 |false=>match last,o.dst with
  |false,some d=>UP d Ai env fun env=>rec c env
  |_,_=>none
def bev (P:Program)(all:List Oper)(regs:C7):List Oper->List Prop->Env->Option (BT×List Prop)
 |[],_,_=>none
 |o::rest,c,env=>
  match o.guard with
  |none=>bgo P regs o rest.isEmpty (fun c env=>bev P all regs rest c env) c env true
  |some (j,want)=>match get env (EB all j)with
   |.p (.v (.bool b))=>bgo P regs o rest.isEmpty (fun c env=>bev P all regs rest c env) c env (b==want)
   |.p (.v (.tuple _))=>bgo P regs o rest.isEmpty (fun c env=>bev P all regs rest c env) c env false
   |.p (.bb b)=>match UP (EB all j) (.p (.v (.bool true))) env fun env=>bgo P regs o rest.isEmpty (fun c env=>bev P all regs rest c env) [] env want,
    UP (EB all j) (.p (.v (.bool false))) env fun env=>bgo P regs o rest.isEmpty (fun c env=>bev P all regs rest c env) [] env !want with
    |some (t,ct),some (f,cf)=>some (.n b t f,Xp c++(ct.map (fun p=>b=true->p)++cf.map (fun p=>b=false->p)))
    |_,_=>none
   |_=>none
def UB (l:List Oper):List Nat:=l.filterMap (·.dst)
def Zf (ks:List Nat)(env:Env):Env:=env.filter fun q=>!ks.contains q.1
theorem SL (ks:List Nat)(env:Env)(x:Nat):get (Zf ks env) x=if x∈ks then .top else get env x:=by
 induction env with
 |nil=>simp[Zf,get]
 |cons q r ih=>
  obtain⟨i,a⟩:=q;simp only[Zf,List.filter_cons];by_cases hi:i∈ks
  ·rw[if_neg (by simpa using hi)]
   have:=ih
   simp only[Zf]at this;rw[this];by_cases hx:x∈ks
   ·simp[hx]
   ·have:i≠x:=fun e=>hx (e ▸ hi)
    simp[hx,get,this]
  ·rw[if_pos (by simpa using hi)];simp only[get]
   have:=ih
   simp only[Zf]at this;rw[this];by_cases hx:i=x
   ·subst hx;simp[hi]
   ·simp[hx]
def Rq:List Oper->Option Nat
 |[]=>none
 |[o]=>o.dst
 |_::r=>Rq r
section
variable {S:Y7}{P:Program}
theorem MR {c:List Prop}(h:∀p∈Xp c,p):D1 c:=by
 cases c with
 |nil=>trivial
 |cons p r=>exact h _ (by simp[Xp])
theorem Ac8 (hS:H0 S P){all:List Oper}{regs:C7}{Q:J8}{post:List Oper}{envF:Env}{V:Bool}{d:Nat}(hQ:∀s,S.up s (HQ S P all post Q)->HQ S P all post Q s)(hV:get envF d=.p (.bb V))
 (hw:HQ S P all post Q ⟨envF,regs⟩) :
 ∀(L:List Oper) (c:List Prop) (env:Env) (T:BT) (C:List Prop),bev P all regs L c env=some (T,C)->(∀p∈C,p)->T.ev=V->Rq L=some d ->
  (∀x,x≠d->Np (get envF x) (get env x) \/ (x∈UB L/\get envF x=.top))->(∀x∈UB L,x≠d->get envF x=.top)->D1 c/\HQ S P all (L++post) Q ⟨env,regs⟩:=by
 intro L
 induction L with
 |nil=>intro c env T C h;cases h
 |cons o rest ih=>
  intro c env T C h hC hT hd hl ht;simp only[bev,Gs]at h;have key:∀(c:List Prop) (env:Env) (runs:Bool) (T:BT) (C:List Prop),bgo P regs o rest.isEmpty (fun c env=>bev P all regs rest c env) c env runs=some (T,C)->(∀p∈C,p)->T.ev=V ->
   (∀x,x≠d->Np (get envF x) (get env x) \/ (x∈UB (o::rest)/\get envF x=.top)) ->
   D1 c/\(if runs then wOp S P o (HQ S P all (rest++post) Q) Q ⟨env,regs⟩else HQ S P all (rest++post) Q (put ⟨env,regs⟩ o.dst Ai)):=by
   intro c env runs T C h hC hT hl;have hlast:rest.isEmpty=false->Rq rest=some d:=by
    intro hr;cases rest with
    |nil=>cases hr
    |cons a r=>simpa[Rq]using hd
   have hds:∀{d'},o.dst=some d' -> UB (o::rest)=d' :: UB rest:=fun ho=>by simp[UB,ho]
   have hnext:∀d' (v:AV),o.dst=some d' -> ∀x,x≠d->Np (get envF x) (get (ins d' v env) x) \/ (x∈UB rest/\get envF x=.top):=by
    intro d' v ho x hx;rw[BD];by_cases hx2:d' = x
    ·subst hx2;exact .inl (.inl (ht _ (by rw[hds ho];exact List.mem_cons_self ..) hx))
    ·rw[if_neg hx2];rcases hl x hx with h|⟨h1,h2⟩
     ·exact .inl h
     ·exact .inl (.inl h2)
   cases runs with
   |true=>
    simp only[bgo,Tj,Gs,if_true]at h⊢;split at h
    ·rename_i d' hk ho;split at h
     ·rename_i p v regs' ha;have hr:regs' = regs:=TR hk ha;subst hr;have ha' : aop P env regs' (o.dst.getD 0) o.op=some ⟨p,v,regs'⟩:=by rw[ho];exact ha
      split at h
      ·rename_i hre;split at h
       ·rename_i b hb;cases h;have hcp:=MR hC;obtain⟨hc,hp⟩:=(BQ _ _).1 hcp;refine⟨hc,Jz (MQ hk) ha' hp ?_⟩;obtain rfl:rest=[]:=List.isEmpty_iff.1 hre;simp only[Rq]at hd;have e:d' = d:=by rw[ho]at hd;exact Option.some.inj hd
        subst e;refine hQ _ (hS.less _ ⟨envF,regs'⟩ _ (fun x=>?_) (fun _=>by rw[ho];rfl) (by simpa using hw));rw[ho];show Np (get envF x) (get (ins d' v env) x);rw[BD];by_cases hx:d' = x
        ·subst hx;rw[if_pos rfl,hV];have hT:b=V:=hT;subst hT;unfold JO at hb;split at hb
         ·cases hb;exact .inr (.inr ⟨_,rfl,rfl⟩)
         ·cases hb;exact .inr (.inl rfl)
         ·cases hb
        ·rw[if_neg hx];rcases hl x (fun e=>hx e.symm)with h|⟨_,h⟩
         ·exact h
         ·exact .inl h
       ·cases h
      ·rename_i hre;have hn:∀x,x≠d->Np (get envF x) (get (ins d' v env) x) \/ (x∈UB rest/\get envF x=.top):=hnext d' v ho;obtain⟨hcp,hk2⟩:=ih _ _ _ _ h hC hT (hlast (by simpa using hre)) hn (fun x hx=>ht x (by rw[hds ho];exact List.mem_cons_of_mem _ hx));obtain⟨hc,hp⟩:=(BQ _ _).1 hcp;exact⟨hc,Jz (MQ hk) ha' hp (by rw[ho];exact hk2)⟩
     ·cases h
    ·cases h
   |false=>
    simp only[bgo,Gs,Bool.false_eq_true,if_false]at h⊢;split at h
    ·rename_i d' hre ho;have hn:∀x,x≠d->Np (get envF x) (get (ins d' Ai env) x) \/ (x∈UB rest/\get envF x=.top):=hnext d' _ ho;obtain⟨hc,hk2⟩:=ih _ _ _ _ h hC hT (hlast (by simpa using hre)) hn (fun x hx=>ht x (by rw[hds ho];exact List.mem_cons_of_mem _ hx));exact⟨hc,by rw[ho];exact hk2⟩
    ·cases h
  simp only[List.cons_append,HQ];cases hg:o.guard with
  |none=>simp only[hg]at h;obtain⟨hc,hk⟩:=key _ _ _ _ _ h hC hT hl;exact⟨hc,hS.refl _ _ (by simpa[hg]using hk)⟩
  |some q=>
   obtain⟨j,want⟩:=q;simp only[hg]at h;split at h
   ·rename_i b hb;obtain⟨hc,hk⟩:=key _ _ _ _ _ h hC hT hl;refine⟨hc,hS.refl _ _ ⟨some b,by rw[hb];rfl,?_⟩⟩;have e:(some b=some want)↔(b==want)=true:=by simp
    by_cases hbw:(b==want)=true
    ·rw[if_pos (e.2 hbw)];simpa[hbw]using hk
    ·rw[if_neg (fun x=>hbw (e.1 x))];simpa[hbw]using hk
   ·rename_i tt hb;obtain⟨hc,hk⟩:=key _ _ _ _ _ h hC hT hl;refine⟨hc,hS.refl _ _ ⟨none,by rw[hb];rfl,?_⟩⟩;rw[if_neg (by simp)];simpa using hk
   ·rename_i b hb;split at h
    ·rename_i t ct f cf h1 h2;cases h;have hc:D1 c:=MR fun p hp=>hC p (List.mem_append_left _ hp);refine⟨hc,hS.bool _ _ b _ hb ?_⟩;have hl2:∀x,x≠d->Np (get envF x) (get (ins (EB all j) (.p (.v (.bool b))) env) x) \/ (x∈UB (o::rest)/\get envF x=.top):=by
      intro x hx;rw[BD];by_cases hx2:EB all j=x
      ·subst hx2;rw[if_pos rfl];rcases hl _ hx with h|h
       ·rw[hb]at h;rcases h with h|h|⟨y,h1,h2⟩
        ·exact .inl (.inl h)
        ·exact .inl (.inr (.inr ⟨b,h,rfl⟩))
        ·cases h2
       ·exact .inr h
      ·rw[if_neg hx2];exact hl x hx
     cases b with
     |true=>
      obtain⟨_,hk⟩:=key _ _ _ _ _ h1 (fun p hp=>hC (true=true->p) (List.mem_append_right _ (List.mem_append_left _ (List.mem_map.2 ⟨p,hp,rfl⟩))) rfl) hT hl2;refine⟨some true,by show yv (get (ins _ _ _) _)=_;rw[BD,if_pos rfl];rfl,?_⟩;cases want with
      |true=>simpa using hk
      |false=>simpa using hk
     |false=>
      obtain⟨_,hk⟩:=key _ _ _ _ _ h2 (fun p hp=>hC (false=false->p) (List.mem_append_right _ (List.mem_append_right _ (List.mem_map.2 ⟨p,hp,rfl⟩))) rfl) hT hl2;refine⟨some false,by show yv (get (ins _ _ _) _)=_;rw[BD,if_pos rfl];rfl,?_⟩;cases want with
      |true=>simpa using hk
      |false=>simpa using hk
    ·cases h
   ·cases h
end
def Zg (P:Program)(m:Nat):Cfg->Option (BT×List Prop)
 |.ops all rest K st=>bev P all st.regs (rest.take m) [] st.env
 |_=>none
def Ac9 (m:Nat)(b:Bool):Cfg->Cfg
 |.ops all rest K st=>match Rq (rest.take m)with
  |some d=>mkO (ins d (.p (.bb b)) (Zf (UB (rest.take m)) st.env)) st.regs fun env regs=>.ops all (rest.drop m) K ⟨env,regs⟩
  |none=>.ops all rest K st
 |g=>g
def Ad0 (m:Nat):Cfg->Bool
 |.ops all rest K st=>(Rq (rest.take m)).isSome
 |_=>false
def Ad1:List Prop->Prop
 |[]=>True
 |p::r=>r.foldl And p
theorem Xq {l:List Prop}(h:Ad1 l):∀p∈l,p:=by
 have:∀(r:List Prop) (p:Prop),r.foldl And p->p/\∀q∈r,q:=by
  intro r
  induction r with
  |nil=>intro p h;exact⟨h,fun q hq=>by cases hq⟩
  |cons a r ih=>intro p h;obtain⟨⟨h1,h2⟩,h3⟩:=ih _ h;exact⟨h1,fun q hq=>by rcases List.mem_cons.1 hq with rfl|hq;exact h2;exact h3 q hq⟩
 cases l with
 |nil=>intro p hp;cases hp
 |cons a r=>obtain⟨h1,h2⟩:=this _ _ h;exact fun q hq=>by rcases List.mem_cons.1 hq with rfl|hq;exact h1;exact h2 q hq
section
variable {S:Y7}{P:Program}{F:J8}{g:Cfg}{pr pc:Prop}
theorem kB (hS:H0 S P)(hF:∀s,S.up s (F .normal)->F .normal s)(hc:pr)(hcc:pc)(m:Nat)(E:BE)(hk:KG S P F (Ac9 m E.den (stp P g)))
 (hp:pr=D1 (cnd P g):=by kernel_rfl) (hT:(Zg P m (stp P g)).map (·.1)=some E.top:=by kernel_rfl) (hC:(Zg P m (stp P g)).map (fun x=>Ad1 x.2)=some pc:=by kernel_rfl) (hD:Ad0 m (stp P g)=true:=by kernel_rfl):KG S P F g:=by
 refine⟨EC hS hc ?_ hp⟩;have hk:=hk.out;generalize stp P g=g' at hk hT hC hD;unfold Zg at hT hC;split at hT
 ·rename_i all rest K st;simp only[Ad0,Option.isSome_iff_exists]at hD;obtain⟨d,hd⟩:=hD;simp only[Ac9,hd,Dr]at hk;cases hb:bev P all st.regs (rest.take m) [] st.env with
  |none=>rw[hb]at hT;cases hT
  |some q=>
   obtain⟨T,C⟩:=q;simp only[hb]at hT hC;simp only[Option.map_some,Option.some.injEq]at hT hC;subst hT
   have:=(Ac8 hS (Q:=kp S P K F) (post:=rest.drop m) (envF:=ins d (.p (.bb E.den)) (Zf (UB (rest.take m)) st.env)) (V:=E.den) (d:=d) ?_ (by rw[BD,if_pos rfl]) hk (rest.take m) [] st.env E.top C hb
    (Xq (hC ▸ hcc)) E.top_ev hd (fun x hx=>?_) (fun x hx hxd=>?_)).2
   ·rwa [List.take_append_drop]at this
   ·intro s h;cases hr:rest.drop m with
    |nil=>rw[hr]at h;exact WY hS hF K s h
    |cons o r=>rw[hr]at h;exact hS.trans _ _ h
   ·rw[BD,if_neg (fun e=>hx e.symm),SL];split
    ·exact .inl (.inl rfl)
    ·exact .inl (.inr (.inl rfl))
   ·rw[BD,if_neg (fun e=>hxd e.symm),SL,if_pos hx]
 ·cases hT
end
end Go.AM
namespace Go.AM
def famC (op:Ti):Cfg->List Prop
 |.ops _ _ _ st=>match Z1 op st with
  |some (c,_)=>c
  |none=>[False]
 |_=>[False]
def famG (op:Ti):Cfg->Cfg
 |.ops all rest K st=>match Z1 op st with
  |some (_,st)=>mkO st.env st.regs fun env regs=>.ops all rest K ⟨env,regs⟩
  |none=>.ops all rest K st
 |g=>g
section
variable {S:Y7}{P:Program}{F:J8}{g:Cfg}{pr pc:Prop}
theorem SM (hS:H0 S P)(hc:pr)(d:Nat)(op:Ti)(hcc:pc)(hk:KG S P F (famG op (ES P d g)))(hp:pr=D1 (ZG P d g):=by kernel_rfl)(ho:ET (ES P d g)=true:=by kernel_rfl)
 (hpc:pc=D1 (famC op (ES P d g)):=by kernel_rfl):KG S P F g:=by
 refine⟨(EK (u:=some d) (F:=F) hS 400 [] g (by subst hp;exact hc)).2 ?_⟩;have hk:=hk.out;show G S P F (ES P d g);generalize ES P d g=g' at ho hpc hk;unfold ET at ho;split at ho
 ·rename_i all o rest K st;simp only[famC]at hpc;simp only[famG]at hk;cases he:Z1 op st with
  |none=>rw[he]at hpc;subst hpc;exact hcc.elim
  |some q=>obtain⟨c,st'⟩:=q;simp only[he,Dr]at hk hpc;subst hpc;exact Pd hS (hS.fam op _ _ c _ he hcc hk)
 ·cases ho
end
def Ad2 (j n:Nat)(f:Nat->PV):Cfg->Cfg
 |.ops all rest K st=>mkO (Uy j (Ah n f) st.env) (ins j .dead st.regs) fun env regs=>.ops all rest K ⟨env,regs⟩
 |g=>g
theorem Ad3 {S:Y7}{P:Program}{F:J8}{g:Cfg}{pr:Prop}(hS:H0 S P)(hc:pr)(d j n:Nat)(f:Nat->PV)(hk:KG S P F (Ad2 j n f (ES P d g)))(hp:pr=D1 (ZG P d g):=by kernel_rfl)
 (ho:ET (ES P d g)=true:=by kernel_rfl) (hr:A3 (ES P d g).st.regs j=some (.arr n f):=by kernel_rfl):KG S P F g:=by
 refine⟨(EK (u:=some d) (F:=F) hS 400 [] g (by subst hp;exact hc)).2 ?_⟩;have hk:=hk.out;show G S P F (ES P d g);generalize ES P d g=g1 at hk ho hr;unfold ET at ho;split at ho
 ·rename_i all o rest K st;simp only[Ad2,Dr]at hk;have h3:S.up ⟨Uy j (Ah n f) st.env,ins j .dead (ins j (.cells (UL n f)) st.regs)⟩ (fun t=>G S P F (.ops all (o::rest) K t)):=
   hS.eqv _ ⟨_,ins j .dead st.regs⟩ _ (fun _=>rfl) (fun i=>by simp only[EP];split<;>rfl) hk
  refine Pd hS (hS.trans _ _ (hS.ofArr _ j n f _ hr (hS.trans _ _ (hS.frz ⟨st.env,_⟩ j (Ah n f) _ ?_ h3))));show A3 (ins j _ _) j=_;rw[EP,if_pos rfl,UL,Ah,List.map_map];rfl
 ·cases ho
def Ad4 (j k n:Nat)(e:TypeId)(g:Nat->List PV)(vw:Bool):Cfg->Cfg
 |.ops all rest K st=>mkO st.env (ins j (.vec e k n g vw) st.regs) fun env regs=>.ops all rest K ⟨env,regs⟩
 |g=>g
theorem Zh {S:Y7}{P:Program}{F:J8}{g:Cfg}{pr:Prop}(hS:H0 S P)(hc:pr)(d j:Nat){k n:Nat}{e:TypeId}{vw:Bool}(f q:Nat->List PV)(hq:∀i,i<n->leC (f i) (q i))(hk:KG S P F (Ad4 j k n e q vw (ES P d g)))
 (hp:pr=D1 (ZG P d g):=by kernel_rfl) (ho:ET (ES P d g)=true:=by kernel_rfl) (hr:A3 (ES P d g).st.regs j=some (.vec e k n f vw):=by kernel_rfl):KG S P F g:=by
 refine⟨(EK (u:=some d) (F:=F) hS 400 [] g (by subst hp;exact hc)).2 ?_⟩;have hk:=hk.out;show G S P F (ES P d g);generalize ES P d g=g1 at hk ho hr;unfold ET at ho;split at ho
 ·simp only[Ad4,Dr]at hk;exact Pd hS (hS.vecq _ j n k e f q vw _ hr hq hk)
 ·cases ho
theorem leCn {k:Nat}{g:Nat->List PV}:leC [.v (.slice none 0 0)] [.sl false k 0 g]:=⟨rfl,fun j=>by
 cases j with
 |zero=>exact .inr (.inr (.inl ⟨_,_,rfl,rfl⟩))
 |succ j=>exact .inl rfl⟩
theorem leCr (l:List PV):leC l l:=⟨rfl,fun _=>.inl rfl⟩
theorem arrG {n:Nat}(f:Nat->PV){i:Nat}(hi:i<n):[(Ah n f).getD i default]=[f i]:=D2 n f i hi
end Go.AM
namespace Go.AM
theorem PQ {P:Program}{f:FuncId}{vw:Bool}{args:List PV}{e:TypeId}{k n:Nat}{g:Nat->List PV}(hent:∀as w,(callFunc f as).run P w=.ok (.enter f as) w)(hk:∀i,i<n->(g i).length=k)
 (h:∀(w:World) (Pi:Nat->Nat->Prop) (vs:Array Value),(∀b off,Pi b off->b<w.heap.size)->vs.size=args.length->(∀i,i<args.length->RepP w Pi (vs.getD i undef) (args.getD i default)) ->
  Calls P f vs w fun x w'=>∃v,x=.returned v/\RowKit.Below w.heap.size w w' /\ ((v=.slice none 0 0/\n=0) \/ ∃b cap c,v=.slice (some ⟨b,0,none⟩) n cap/\w.heap.size<=b/\w'.heap[b]? = some (.cells c e (0,0))/\n<=cap/\c.size=cap*k/\cap<=maxLen /\
   ∀i j,i<n->j<k->RepP w Pi (c.getD (i*k+j) undef) ((g i).getD j default)/\(c.getD (i*k+j) undef).oneCell' = true)):FunO (EH P) f (args.map .p) [] (.vec 0) [.vec e k n g vw] []:=by
 intro 𝒢 C w vs rho hG hs hsz;have hno0:∀j,A3 (objRegs []) j=none:=fun j=>by simp[objRegs,objRegs.go,A3]
 have h0:=h w (Prv C.X (A3 (objRegs [])) rho) vs (fun b off hp=>by
  rcases hp with hp|⟨j,o,hj,_⟩
  ·exact hs.hp.bound b off hp
  ·simp[hno0]at hj) (by simpa using hsz) (fun i hi=>by
  have:=hs.env i
  rw[Ac]at this;have e:(args.map AV.p).getD i .top=.p (args.getD i default):=by simp[hi]
  rw[e]at this;exact this.toP)
 refine⟨_,_,hent _ _,callsIn_wide.2 (h0.mono ?_)⟩;rintro x w' ⟨v,rfl,hb,hv⟩;have hR:∀j o,A3 (objRegs [Obj.vec e k n g vw]) j=some o->j=0/\o=.vec e k n g vw:=fun j o hj=>by
  simp only[objRegs,objRegs.go,A3]at hj;split at hj
  ·rename_i hj0;cases hj;exact⟨hj0.symm,rfl⟩
  ·cases hj
 have hR0:A3 (objRegs [Obj.vec e k n g vw]) 0=some (.vec e k n g vw):=rfl
 let rho' : Nat->Value:=fun j=>if j=0 then v else rho j
 have hr0:rho' 0=v:=rfl;have hblk:∀b,E4 v (.vec e k n g vw) b->w.heap.size<=b/\b<w'.heap.size:=by
  intro b hbv;rcases hv with⟨rfl,_⟩ | ⟨b',cap,c,rfl,h1,h2,_⟩
  ·cases hbv
  ·cases hbv;exact⟨h1,(Array.getElem?_eq_some_iff.1 h2).1⟩
 have hprv:∀b o,Prv C.X (A3 (objRegs [Obj.vec e k n g vw])) rho' b o->C.X b o \/ w.heap.size<=b:=by
  rintro b o (hX|⟨j,o',hj,hbo,_⟩)
  ·exact .inl hX
  ·obtain⟨rfl,rfl⟩:=hR j o' hj;exact .inr (hblk b hbo).1
 have hkeep:Keeps w (Prv C.X (A3 (objRegs [])) rho) w' (Prv C.X (A3 (objRegs [Obj.vec e k n g vw])) rho'):=fun b o u hp hc=>by
  have hlt:=World.block_lt_of_cell? w ⟨b,o,none⟩ hc;refine⟨by rw[<- hc];exact World.cell?_of_block (hb.block b hlt),fun hpp=>?_⟩;rcases hprv b o hpp with hX|hge
  ·exact hp (.inl hX)
  ·have:b<w.heap.size:=hlt
   omega
 refine⟨C,.ret (.vec 0),[.vec e k n g vw],[],rho',hG,⟨rfl,rfl,rfl⟩,?_,⟨v,rfl,?_⟩,fun i hi=>by simp at hi⟩
 ·refine⟨⟨fun j o hj=>?_,fun i j oi oj b hi hj _ _=>by rw[(hR i oi hi).1,(hR j oj hj).1],fun j o b off hj hbo hX=>?_,fun b off hp=>Nat.lt_of_lt_of_le (hs.hp.bound b off hp) hb.size⟩,hs.ext.trans ⟨hb.os,hb.output⟩,Nat.le_trans hs.size hb.size,fun b hlt hE=>?_,hs.keep.trans hkeep,fun b hbo=>?_,fun j r b hj=>by cases (hR j _ hj).2⟩
  ·obtain⟨rfl,rfl⟩:=hR j o hj;rw[hr0];rcases hv with hn|⟨b,cap,c,rfl,h1,h2,h3,h4,h5,h6⟩
   ·exact .inl hn
   ·exact .inr ⟨b,cap,c,rfl,h2,h3,h4,h5,hk,fun i j hi hj=>⟨(h6 i j hi hj).1.keeps hkeep,(h6 i j hi hj).2⟩⟩
  ·obtain⟨rfl,rfl⟩:=hR j o hj;have h1:=(hblk b hbo).1;have h2:=hs.hp.bound b off hX;omega
  ·rw[hb.block b (Nat.lt_of_lt_of_le hlt hs.size)];exact hs.same b hlt hE
  ·obtain⟨j,o,hj,hbo⟩:=hbo;obtain⟨rfl,rfl⟩:=hR j o hj;exact .inr (Nat.le_trans hs.size (hblk b hbo).1)
 ·rcases hv with⟨rfl,_⟩ | ⟨b,cap,c,rfl,_⟩
  ·exact .vec 0 none 0 0 (by simp[Lv,hR0]) rfl
  ·exact .vec 0 _ n cap (by simp[Lv,hR0]) rfl
end Go.AM
namespace Go.AM
open Go.RowKit Go.ChangeShapes
end Go.AM
namespace Go.AM
section
variable {S:Y7}{P:Program}{F:J8}{K:List It}{st:St}{g:Cfg}{pr:Prop}
def Zi (p:Option PV)(r:JN):Prop:=match p with
 |none=>∃a,r=.ret a
 |some x=>r=.panic x
def Kv (S:Y7)(f:FuncId)(first caps:List AV)(objs:List Obj)(L:List (List PV))(p:Option PV):Prop:=
 S.F f (first ++ .yf objs.length::caps) (objs++[.yld L true]) fun r objs' ks=>∃b,objs'[objs.length]? = some (.yld [] b)/\ks[objs.length]? = some true/\(b=true->Zi p r)/\(b=false->∃a,r=.ret a)
def endP:Option PV->JM
 |none=>.normal
 |some x=>.panic x
theorem Xr (hS:H0 S P){g:Operand}{ps:Array Tmp}{asg body:Code}{f:FuncId}{first caps as bs:List AV}{objs:List Obj}(ids ts:List Nat)(gh:Nat)(L:List (List PV)){p:Option PV}{X:Type}(s:X->St)(J:List (List PV)->X->Prop)(x0:X)(idl:List (Nat×Nat))
 (hp:CH st.env g=some (f,first,caps)) (hfn:∃fn,P.funcs[f]? = some fn/\fn.body.isSome=true/\(fn.name == "runtime.NumGoroutine")=false) (hob:J9 ids st.regs ids=some objs) (hny:Dh objs=true) (hd:F9 ids=true) (hr1:BK ids first=some as) (hr2:BK ids caps=some bs) (hol:objs.length=ids.length)
 (hgh:gh<1000) (hng:A3 st.regs gh=none) (hil:ids.length<1000) (hts:F9 ts=true) (hlen:∀ys∈L,ys.length=ps.size)
 (hF:Kv S f as bs objs L p) (hle:Le idl ⟨T3 ts (ts.map (get st.env)),O1 ids (ids.map fun _=>false) st.regs⟩ (s x0)) (h0:J L x0) (hk:∀x,(s x).env.map (·.1)=ts) (hn:∀x,A3 (s x).regs gh=none)
 (hround:∀ys rest x,J (ys::rest) x->G S P (Al S P body gh ts (WV s J rest) (kp S P K F)) (.code asg [] ⟨GR ps.toList ys (s x).env,ins gh (.ghost ((s x).env.map (·.2))) (s x).regs⟩))
 (hend:∀x,J [] x->G S P F (.pop (endP p) K (s x))):G S P F (.code (.rangeFunc g ps asg body) K st):=by
 have hdup:∀{l:List Nat},F9 l=true->l.Nodup:=by
  intro l
  induction l with
  |nil=>intro _;exact List.nodup_nil
  |cons a r ih=>intro h;simp only[F9,Bool.and_eq_true,Bool.not_eq_true',List.contains_eq_mem,decide_eq_false_iff_not]at h;exact List.nodup_cons.2 ⟨h.1,ih h.2⟩
 refine⟨f,first,caps,as,bs,objs,ids,ts,gh,L,WV s J,fun b r=>b=true->Zi p r,hp,hfn,hny,hd,hr1,hr2,hob,hgh,hng,hil,hdup hts,hlen,hS.le idl _ _ _ hle ⟨hk x0,hn x0,x0,rfl,h0⟩,?_,?_,?_⟩
 ·rintro ys rest _ _ _ ⟨x,rfl,hJ⟩;have h:=hround ys rest x hJ;have e:Al S P body gh ts (WV s J rest) (kp S P K F)=fun e s'=>match e with
   |.normal=>S.up s' fun s'=>awp S P body (CK S gh ts (WV s J rest) (kp S P K F)) s'
   |_=>False:=by funext e s';cases e<;>rfl
  rw[e]at h;exact h
 ·rintro _ r _ _ ⟨x,rfl,hJ⟩ hf;have h1:=hf rfl;have h2:=hend x hJ;cases p with
  |none=>obtain⟨a,rfl⟩:=h1;exact h2
  |some y=>cases h1;exact h2
 ·rw[<- hol];refine hS.monoF _ _ _ _ _ ?_ hF;rintro r o ks ⟨b,h1,h2,h3,h4⟩;exact⟨b,h1,h2,h3,h4⟩
theorem Xs (hS:H0 S P){g:Operand}{ps:Array Tmp}{asg body:Code}{f:FuncId}{first caps as bs:List AV}{objs:List Obj}{R T A:Type}{enc:T->List PV}{L:List T}{p:Option PV}{mb:(A->Option R)->T->A->Option R}{mk:A->Option R}{a0:A}{r:R}
 (ids ts:List Nat) (gh:Nat) (s:A->St) (idl:List (Nat×Nat)) (h:S7 L mb mk a0=some r) (hF:Kv S f as bs objs (L.map enc) p)
 (hp:CH st.env g=some (f,first,caps)) (hfn:∃fn,P.funcs[f]? = some fn/\fn.body.isSome=true/\(fn.name == "runtime.NumGoroutine")=false) (hob:J9 ids st.regs ids=some objs) (hny:Dh objs=true) (hd:F9 ids=true) (hr1:BK ids first=some as) (hr2:BK ids caps=some bs) (hol:objs.length=ids.length)
 (hgh:Nat.blt gh 1000=true) (hng:A3 st.regs gh=none) (hil:Nat.blt ids.length 1000=true) (hts:F9 ts=true) (hlen:∀t:T,(enc t).length=ps.size)
 (hle:Le idl ⟨T3 ts (ts.map (get st.env)),O1 ids (ids.map fun _=>false) st.regs⟩ (s a0)) (hk:∀a,(s a).env.map (·.1)=ts) (hn:∀a,A3 (s a).regs gh=none)
 (hround:∀(t:T) (next:St->Prop) (self:A->Option R) (a:A),(∀(st st1:St) (cs:List AV) (idl:List (Nat×Nat)) (a:A),Le idl st st1->A3 st1.regs gh=some (.ghost cs)->cs.length=ts.length->A3 (del gh st1.regs) gh=none->(⟨T3 ts cs,del gh st1.regs⟩:St)=s a->self a=some r->G S P (CK S gh ts next (kp S P K F)) (.pop .normal [] st)) ->
  mb self t a=some r->G S P (Al S P body gh ts next (kp S P K F)) (.code asg [] ⟨GR ps.toList (enc t) (s a).env,ins gh (.ghost ((s a).env.map (·.2))) (s a).regs⟩))
 (hend:∀a,mk a=some r->G S P F (.pop (endP p) K (s a))):G S P F (.code (.rangeFunc g ps asg body) K st):=by
 refine Xr hS ids ts gh (L.map enc) s (fun rest a=>∃L',rest=L'.map enc/\S7 L' mb mk a=some r) a0 idl hp hfn hob hny hd hr1 hr2 hol (by simpa[Nat.blt_eq]using hgh) hng (by simpa[Nat.blt_eq]using hil) hts (fun ys hy=>?_) hF hle ⟨L,rfl,h⟩ hk hn ?_ ?_
 ·obtain⟨t,_,rfl⟩:=List.mem_map.1 hy;exact hlen t
 ·rintro ys rest a ⟨L',hL,hx⟩;cases L' with
  |nil=>cases hL
  |cons t L'=>simp only[List.map_cons,List.cons.injEq]at hL;obtain⟨rfl,rfl⟩:=hL;refine hround t _ (S7 L' mb mk) a (fun st st1 cs idl a hle h1 h2 h3 h4 h5=>?_) hx;exact Rj hS st1 a idl hle h1 h2 h3 h4 ⟨L',rfl,h5⟩
 ·rintro a ⟨L',hL,hx⟩;cases L' with
  |nil=>exact hend a hx
  |cons t L'=>cases hL
theorem SN (hS:H0 S P)(hc:pr){f:FuncId}{as bs:List AV}{objs:List Obj}{R T A:Type}{enc:T->List PV}{L:List T}{p:Option PV}{mb:(A->Option R)->T->A->Option R}{mk:A->Option R}{a0:A}{r:R}
 (ids ts:List Nat) (gh:Nat) (s:A->St) {idl:List (Nat×Nat)}(h:S7 L mb mk a0=some r) (hF:Kv S f as bs objs (L.map enc) p)
 (hlen:∀t:T,(enc t).length=(FS (stp P g)).size) (hk:∀a,(s a).env.map (·.1)=ts) (hn:∀a,A3 (s a).regs gh=none) (hb0:∀a,(⟨T3 ts ((s a).env.map (·.2)),del gh (ins gh (.ghost ((s a).env.map (·.2))) (s a).regs)⟩:St)=s a)
 (hround:∀(t:T) (next:St->Prop) (self:A->Option R) (a:A),
  (∀(g' : Cfg) (ids:List (Nat×Nat)) (pr:Prop) (a:A),pr->self a=some r->(hp:pr=D1 (cnd P g'):=by kernel_rfl)->(he:stp P g' = .pop .normal [] (stp P g').st:=by kernel_rfl)->(hle:KLe ids (stp P g').st (rst gh (s a)):=by exact kl)->KG S P (CK S gh ts next (kp S P (stp P g).k F)) g') ->
  mb self t a=some r->KG S P (Al S P (PN (stp P g)) gh ts next (kp S P (stp P g).k F)) (.code (PM (stp P g)) [] (PP gh (FS (stp P g)) (enc t) (s a))))
 (hend:∀a,mk a=some r->KG S P F (.pop (endP p) (stp P g).k (s a)))
 (hp:pr=D1 (cnd P g):=by kernel_rfl) (he:PL P ids (stp P g)=some (f,as,bs,objs):=by kernel_rfl) (hgh:Nat.blt gh 1000=true:=by kernel_rfl) (hng:A3 (stp P g).st.regs gh=none:=by kernel_rfl) (hts:F9 ts=true:=by kernel_rfl)
 (hle:KLe idl (PO ids ts (stp P g)) (s a0):=by exact kl):KG S P F g:=by
 refine⟨EC hS hc ?_ hp⟩;have hfn:=(FG he).2;replace he:=(FG he).1;generalize stp P g=g1 at hlen hround hend he hng hle;unfold Ku at he;split at he
 ·rename_i op ps asg body K st;split at he
  ·rename_i f' first caps hpo
   split at he
   ·rename_i objs' as' bs' h2 h3 h4;split at he
    ·rename_i hh;simp only[Option.some.injEq,Prod.mk.injEq]at he;obtain⟨rfl,rfl,rfl,rfl⟩:=he;simp only[Bool.and_eq_true,Bool.not_eq_true',beq_iff_eq]at hh;obtain⟨⟨⟨e3,e4⟩,e5⟩,e6⟩:=hh;refine Xs hS ids ts gh s idl h hF hpo hfn h2 e3 e4 h3 h4 e5 hgh hng e6 hts hlen hle.out hk hn (fun t next self a hb hm=>?_) (fun a hm=>(hend a hm).out);refine (hround t next self a (fun g' ids' pr a hc hself hp he hle=>⟨EC hS hc ?_ hp⟩) hm).out;rw[he];have hl:((s a).env.map (·.2)).length=ts.length:=by rw[<- hk a];simp
     refine hb _ (rst gh (s a)) ((s a).env.map fun p=>p.2) ids' a hle.out (EW gh (s a)) hl ?_ (hb0 a) hself
     have:=congrArg St.regs (hb0 a)
     simp only at this;show A3 (del gh (ins gh _ _)) gh=none;rw[this];exact hn a
    ·cases he
   ·cases he
  ·cases he
 ·cases he
theorem VF (hS:H0 S P){f:FuncId}{fn:Func}{first caps:List AV}{objs:List Obj}{L:List (List PV)}{p:Option PV}(hf:P.funcs[f]? = some fn)
 (h:KG S P (AU S P (objs++[Obj.yld L true]).length fn.results.toList fun r objs' ks=>∃b,objs'[objs.length]? = some (.yld [] b)/\ks[objs.length]? = some true/\(b=true->Zi p r)/\(b=false->∃a,r=.ret a)) (.code (fn.body.getD .skip) [] { env:=argEnv (first ++ .yf objs.length::caps),regs:=objRegs (objs++[Obj.yld L true]) }))
 (hc:fn.body.isSome=true:=by kernel_rfl) (hn:Nat.ble (first ++ .yf objs.length::caps).length fn.ntmps=true:=by kernel_rfl) (ho:Nat.blt (objs++[Obj.yld L true]).length 1000=true:=by kernel_rfl)
 (hco:X7 fn.ntmps (fn.body.getD .skip)=true:=by kernel_rfl) (hnm:(fn.name == "runtime.NumGoroutine")=false:=by kernel_rfl):Kv S f first caps objs L p:=by
 obtain⟨code,hcode⟩:=Option.isSome_iff_exists.1 hc;rw[hcode,Option.getD_some]at hco h;exact Ih hS hf hcode (Nat.le_of_ble_eq_true hn) (by simpa[Nat.blt_eq]using ho) rfl hco hnm h.out
theorem Xt (hS:H0 S P){f:FuncId}{fn:Func}{args:List AV}{objs:List Obj}{Q:JN->List Obj->List Bool->Prop}(hf:P.funcs[f]? = some fn)
 (h:KG S P (AU S P objs.length fn.results.toList Q) (.code (fn.body.getD .skip) [] { env:=argEnv args,regs:=objRegs objs }))
 (hc:fn.body.isSome=true:=by kernel_rfl) (hn:Nat.ble args.length fn.ntmps=true:=by kernel_rfl) (ho:Nat.blt objs.length 1000=true:=by kernel_rfl)
 (hco:X7 fn.ntmps (fn.body.getD .skip)=true:=by kernel_rfl) (hnm:(fn.name == "runtime.NumGoroutine")=false:=by kernel_rfl):S.F f args objs Q:=by
 obtain⟨code,hcode⟩:=Option.isSome_iff_exists.1 hc;rw[hcode,Option.getD_some]at hco h;exact Ih hS hf hcode (Nat.le_of_ble_eq_true hn) (by simpa[Nat.blt_eq]using ho) rfl hco hnm h.out
def panE:Cfg->Option PV
 |.ops all (o::_) _ st=>match Bu all st.env o,o.op with
  |some true,.panic x=>match aev st.env x with
   |.p (.iface t y)=>some (.iface t y)
   |_=>none
  |_,_=>none
 |_=>none
def panC (x:PV):Cfg->Cfg
 |.ops _ _ K st=>.pop (.panic x) K st
 |g=>g
theorem Zj (hS:H0 S P)(hc:pr){x:PV}(hk:KG S P F (panC x (stp P g)))(hp:pr=D1 (cnd P g):=by kernel_rfl)(he:panE (stp P g)=some x:=by kernel_rfl):KG S P F g:=by
 refine⟨EC hS hc ?_ hp⟩;have hk:=hk.out;generalize stp P g=g1 at hk he;unfold panE at he;split at he
 ·rename_i all o rest K st;split at he
  ·rename_i y hg ho;split at he
   ·rename_i t z hx;cases he;exact YQ hS hg ho hx hk
   ·cases he
  ·cases he
 ·cases he
def Xu:Cfg->Option PV
 |.pop (.panic x) [] _=>some x
 |_=>none
theorem Yh (hS:H0 S P)(hc:pr){n:Nat}{rs:List ResultVar}{Q:JN->List Obj->List Bool->Prop}{x:PV}{objs:List Obj}(outs:List Nat)(hQ:Q (.panic x) objs (Ep n outs))(hp:pr=D1 (cnd P g):=by kernel_rfl)
 (he:Xu (stp P g)=some x:=by kernel_rfl) (hd:F9 outs=true:=by kernel_rfl) (hr:J9 outs (stp P g).st.regs outs=some objs:=by kernel_rfl):KG S P (AU S P n rs Q) g:=by
 refine⟨EC hS hc ?_ hp⟩;generalize stp P g=g1 at he hr;unfold Xu at he;split at he
 ·cases he;exact⟨outs,objs,hd,hr,hQ⟩
 ·cases he
theorem Zk (hS:H0 S P){all rest:List Oper}{o:Oper}{c:Call}{f:Operand}{as:List AV}{regs:C7}{fn:FuncId}{as' args:List AV}{objs objs' : List Obj}{ks:List Bool}{x:PV}(ids:List Nat)
 (hg:Bu all st.env o=some true) (ho:o.op=.call c) (hf:c.callee=.value f) (ha:Lx st.regs (c.args.toList.map (aev st.env))=some (as,regs))
 (hw:QN st.env f as=some (fn,as')) (hr:BK ids as' = some args) (hob:J9 ids regs ids=some objs) (hF:S.F fn args objs fun res o k=>res=.panic x/\o=objs' /\ k=ks)
 (hd:F9 ids=true) (hy:Dh objs=true) (hn:BP regs ids ks (o.dst.getD 0) objs'.length=true)
 (hk:G S P F (.pop (.panic x) K { env:=st.env,regs:=Ux (O0 (o.dst.getD 0) ids ks objs'.length) (O0 (o.dst.getD 0) ids ks objs'.length) objs' (O1 ids ks regs) })) :
 G S P F (.ops all (o::rest) K st):=by
 refine Di hS hg ?_;unfold wOp;obtain⟨callee,cargs,types⟩:=c;simp only at hf ha;subst hf;rw[ho];refine .inl ⟨as,regs,_,_,.inl ha,hw,ids,args,objs,hd,hr,hob,hy,hS.monoF _ _ _ _ _ ?_ hF⟩;rintro _ _ _ ⟨rfl,rfl,rfl⟩;exact⟨hn,hk⟩
def Yi (ids:List Nat)(ks:List Bool)(x:PV)(objs' : List Obj):Cfg->Cfg
 |.ops all (o::rest) K st=>match o.op with
  |.call c=>match Lx st.regs (c.args.toList.map (aev st.env))with
   |some (_,regs)=>mkO st.env (Ux (O0 (o.dst.getD 0) ids ks objs'.length) (O0 (o.dst.getD 0) ids ks objs'.length) objs' (O1 ids ks regs)) fun env regs=>.pop (.panic x) K ⟨env,regs⟩
   |none=>.ops all (o::rest) K st
  |_=>.ops all (o::rest) K st
 |g=>g
theorem Zl (hS:H0 S P)(ids:List Nat)(hc:pr){fn:FuncId}{args:List AV}{objs objs' : List Obj}{x:PV}{ks:List Bool}(hF:S.F fn args objs fun res o k=>res=.panic x/\o=objs' /\ k=ks)
 (hk:KG S P F (Yi ids ks x objs' (stp P g))) (hp:pr=D1 (cnd P g):=by kernel_rfl) (he:TM ids (stp P g)=some (fn,args,objs):=by kernel_rfl) (hn:TN ids ks objs'.length (stp P g)=true:=by kernel_rfl):KG S P F g:=by
 refine⟨EC hS hc ?_ hp⟩;replace hk:=hk.out;generalize stp P g=g' at he hn hk;unfold TM at he;split at he
 ·split at he
  ·rename_i hg ho;split at he
   ·rename_i hcl;split at he
    ·rename_i ha;split at he
     ·rename_i hw;split at he
      ·rename_i hr hob;split at he
       ·rename_i hdy;cases he;simp only[Bool.and_eq_true]at hdy;simp only[Yi,TN,ho,ha,Dr]at hk hn;exact Zk hS ids hg ho hcl ha hw hr hob hF hdy.1 hdy.2 hn hk
       ·cases he
      ·cases he
     ·cases he
    ·cases he
   ·cases he
  ·cases he
 ·cases he
def MS (S:Y7)(R:St->Prop)(X:PV->St->Prop):J8
 |.normal,st=>S.up st R
 |.panic x,st=>X x st
 |_,_=>False
theorem K_upN (hS:H0 S P)(hc:pr){R:St->Prop}{X:PV->St->Prop}(st:St){ids:List (Nat×Nat)}(hR:R st)(hp:pr=D1 (cnd P g):=by kernel_rfl)(he:stp P g=.pop .normal [] (stp P g).st:=by kernel_rfl)
 (hle:KLe ids (stp P g).st st:=by exact kl):KG S P (MS S R X) g:=by
 refine⟨EC hS hc ?_ hp⟩;rw[he];exact hS.le ids _ _ R hle.out hR
theorem K_upP (hS:H0 S P)(hc:pr){R:St->Prop}{X:PV->St->Prop}{x:PV}(hX:X x (stp P g).st)(hp:pr=D1 (cnd P g):=by kernel_rfl)(he:Xu (stp P g)=some x:=by kernel_rfl):KG S P (MS S R X) g:=by
 refine⟨EC hS hc ?_ hp⟩;generalize stp P g=g1 at he hX;unfold Xu at he;split at he
 ·cases he;exact hX
 ·cases he
end
end Go.AM
namespace Go.AM
section
variable {S:Y7}{P:Program}{F:J8}{K:List It}{g:Cfg}{pr:Prop}
end
end Go.AM
namespace Go.AM
open Go.RowKit Go.ChangeShapes Go.Deep
mutual
inductive LeD:PV->PV->Prop
 |refl (x:PV):LeD x x
 |sl {k n:Nat}{f g:Nat->List PV}(h:∀i,i<n->LeDs (f i) (g i)):LeD (.sl false k n f) (.sl false k n g)
inductive LeDs:List PV->List PV->Prop
 |nil:LeDs [] []
 |cons {x y:PV}{l r:List PV}(h:LeD x y) (h' : LeDs l r):LeDs (x::l) (y::r)
end
theorem LeDs.refl:∀l:List PV,LeDs l l
 |[]=>.nil
 |x::l=>.cons (.refl x) (LeDs.refl l)
theorem LeDs.length {l r:List PV}(h:LeDs l r):l.length=r.length:=by
 induction l generalizing r with
 |nil=>cases h;rfl
 |cons x l ih=>cases h with|cons _ h'=>simp[ih h']
theorem LeDs.get {l r:List PV}(h:LeDs l r):∀i,LeD (l.getD i default) (r.getD i default):=by
 induction l generalizing r with
 |nil=>cases h;exact fun i=>.refl _
 |cons x l ih=>
  cases h with
  |cons h h'=>
   intro i;cases i with
   |zero=>exact h
   |succ i=>simpa using ih h' i
theorem LeDs.append {a b c d:List PV}(h:LeDs a b)(h' : LeDs c d):LeDs (a++c) (b++d):=by
 induction a generalizing b with
 |nil=>cases h;exact h'
 |cons x l ih=>cases h with|cons h1 h2=>exact .cons h1 (ih h2)
theorem RepP.leD {w:World}{Pi:Nat->Nat->Prop}{v:Value}{x:PV}(h:RepP w Pi v x):∀{y:PV},LeD x y->RepP w Pi v y:=by
 induction h with
 |slnil k f=>intro y hy;cases hy with
  |refl=>exact .slnil _ _
  |sl h=>exact .slnil _ _
 |sl nn b off cap k n f c hn hk hc h sp hsp ih=>
  intro y hy;cases hy with
  |refl=>exact .sl nn b off cap k n f c hn hk hc h sp hsp
  |sl h'=>exact .sl false b off cap k n _ c hn (fun i hi=>by rw[<- (h' i hi).length];exact hk i hi) hc (fun i j hi hj=>ih i j hi hj ((h' i hi).get j)) sp hsp
 |v x=>intro y hy;cases hy;exact .v x
 |bb b=>intro y hy;cases hy;exact .bb b
 |str l=>intro y hy;cases hy;exact .str l
 |agg vs cs hs h1 h ih=>intro y hy;cases hy;exact .agg vs cs hs h1 h
 |ptr b off cs c hc h ih=>intro y hy;cases hy;exact .ptr b off cs c hc h
 |iface t x a h ih=>intro y hy;cases hy;exact .iface t x a h
 |fn f x y a b hx hy ha hb iha ihb=>intro y hy;cases hy;exact .fn f x _ a b hx ‹_› ha hb
theorem CRep.leD {W:World}{cs:List Value}{p q:List PV}(h:CRep W cs p)(hl:LeDs p q):CRep W cs q:=
 ⟨by rw[h.1,hl.length],fun i hi=>⟨(h.2 i (by rw[hl.length];exact hi)).1.leD (hl.get i),(h.2 i (by rw[hl.length];exact hi)).2⟩⟩
section
variable {P:Program}{t e:TypeId}{m:Nat}{pvs:List PV}
def Uv (f:Nat->Nat):Nat->Nat
 |0=>0
 |k+1=>Uv f k+f k
theorem PR {f g:Nat->Nat}:∀{n:Nat},(∀i,i<n->f i<=g i)->Uv f n<=Uv g n
 |0,_=>Nat.le_refl _
 |n+1,h=>by have h1:=PR (n:=n) fun i hi=>h i (by omega);have h2:=h n (by omega);simp only[Uv];omega
theorem TT (f:Nat->Nat):∀n,QL ((List.range n).map f)=Uv f n:=by
 have app:∀a b:List Nat,QL (a++b)=QL a+QL b:=by
  intro a b
  induction a with
  |nil=>simp[QL]
  |cons x r ih=>simp only[List.cons_append,PE,ih];omega
 intro n
 induction n with
 |zero=>rfl
 |succ n ih=>rw[List.range_succ,List.map_append,app,ih];simp[Uv,QL]
def Xv (P:Program)(t:TypeId){T:Type}(c:T->List PV)(W:T->Prop)(sz:T->Nat):Prop:=
 ∀(m:Nat) (pvs:List PV),Gy P m t pvs->∃x:T,LeDs pvs (c x)/\W x/\sz x<=m
theorem Af {k:IntKind}(ht:P.underlying t=some (.int k)):Xv P t (cI k) (fun n=>(Lit.int k n).wf=true) (fun _=>1):=by
 intro m pvs h;cases h with
 |bool ht'=>rw[ht]at ht';cases ht'
 |str ht'=>rw[ht]at ht';cases ht'
 |slice _ ht'=>rw[ht]at ht';cases ht'
 |arr ht'=>rw[ht]at ht';cases ht'
 |struct ht'=>rw[ht]at ht';cases ht'
 |int ht' hw hm=>rw[ht]at ht';cases ht';exact⟨_,LeDs.refl _,hw,hm⟩
theorem Gq {T:Type}[Inhabited T]{c:T->List PV}{W:T->Prop}{sz:T->Nat}{k:Nat}(ht:P.underlying t=some (.slice e))(hk:P.cellsOf e=k)(h:Xv P e c W sz) :Xv P t (cL k c) (fun s=>∀i,i<s.n->W (s.g i)) (fun s=>Uv (fun i=>sz (s.g i)) s.n+1):=by
 intro m pvs hs;cases hs with
 |int ht'=>rw[ht]at ht';cases ht'
 |bool ht'=>rw[ht]at ht';cases ht'
 |str ht'=>rw[ht]at ht';cases ht'
 |arr ht'=>rw[ht]at ht';cases ht'
 |struct ht'=>rw[ht]at ht';cases ht'
 | @slice _ _ e' n f ms ht' hl hel hm=>
  rw[ht]at ht';cases ht';obtain⟨g,hg⟩:=choose_lt (α:=T) (p:=fun i x=>LeDs (f i) (c x)/\W x/\sz x<=ms i) fun i hi=>h _ _ (hel i hi);refine⟨⟨n,g⟩,?_,fun i hi=>(hg i hi).2.1,?_⟩
  ·subst hk;exact .cons (.sl fun i hi=>(hg i hi).1) .nil
  ·have h1:=PR (n:=n) fun i hi=>(hg i hi).2.2;rw[TT]at hm;show Uv (fun i=>sz (g i)) n+1<=m;omega
theorem PS {fs:Array Field}(ht:P.underlying t=some (.struct fs))(h:Gy P m t pvs):∃m',EQ P m' (fs.toList.map (·.type)) pvs/\m' + 1<=m:=by
 cases h with
 |int ht'=>rw[ht]at ht';cases ht'
 |bool ht'=>rw[ht]at ht';cases ht'
 |str ht'=>rw[ht]at ht';cases ht'
 |slice _ ht'=>rw[ht]at ht';cases ht'
 |arr ht'=>rw[ht]at ht';cases ht'
 |struct ht' h hm=>rw[ht]at ht';cases ht';exact⟨_,h,hm⟩
theorem Kw {ts:List TypeId}(h:EQ P m (t::ts) pvs):∃a b p q,pvs=p++q/\Gy P a t p/\EQ P b ts q/\a+b<=m:=by
 cases h with
 |cons h h' hm=>exact⟨_,_,_,_,rfl,h,h',hm⟩
theorem TU (h:EQ P m [] pvs):pvs=[]:=by cases h;rfl
end
end Go.AM
