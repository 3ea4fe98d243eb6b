/- Part 5. -/
import Derived.Test.YtcoileenpgjmoaaGreatDoorDD
import Derived.KernelRfl
import Derived.Laws.IdiomRangeMap
set_option linter.defProp false
set_option linter.unusedSimpArgs false
set_option linter.unusedVariables false
set_option linter.unusedSectionVars false
namespace Go.AM
def Fc:=True.intro
def Bl4:=@List.mem_singleton
def Bl9:=@Nat.le_of_ble_eq_true
def Bm9:=@List.tail_cons
def Bo7:=@List.map_append
def Br4:=@List.range_succ
def Bw3:=@List.isEmpty_iff
def Bw5:=@Nat.lt_of_succ_lt_succ
def By3:=@List.getD_cons_succ
def Bz3:=@List.set_cons_succ
section
variable (P:Program)
def stp (g:Cfg):Cfg:=(run P none 400 [] g).cfg
def cnd (g:Cfg):List Prop:=(run P none 400 [] g).conds
def Hq (d:Nat)(g:Cfg):Cfg:=(run P (some d) 400 [] g).cfg
def AO3 (d:Nat)(g:Cfg):List Prop:=(run P (some d) 400 [] g).conds
def Cfg.st:Cfg->St
 |.code _ _ s=>s
 |.ops _ _ _ s=>s
 |.pop _ _ s=>s
def Cfg.k:Cfg->List It
 |.code _ K _=>K
 |.ops _ _ K _=>K
 |.pop _ K _=>K
def mkO {R:Type _}(env:Env)(regs:C0)(κ : Env->C0->R):R:=fE env λenv=>fR regs λregs=>κ env regs
theorem Gm {R:Type _}(env:Env)(regs:C0)(κ : Env->C0->R):mkO env regs κ = κ env regs:=by simp only[mkO,fE_eq,AL1]
def Ab2 {R:Type _}(d:Option Nat)(a:AV)(env:Env)(regs:C0)(κ : St->R):R:=match d with
 |some d=>mkO (ins d a env) regs λenv regs=>κ ⟨env,regs⟩
 |none=>mkO env regs λenv regs=>κ ⟨env,regs⟩
theorem FR {R:Type _}(d:Option Nat)(a:AV)(env:Env)(regs:C0)(κ : St->R):Ab2 d a env regs κ = κ (put ⟨env,regs⟩ d a):=by cases d<;>simp only[Ab2,Gm,put]
def Ax8:Cfg->Option Bool
 |.code (.cond c _ _) _ st=>match aev st.env c with
  |.p (.bb b)=>some b
  |_=>none
 |_=>none
def AO4:Cfg->Cfg
 |.code (.cond _ t _) K st=>.code t K st
 |g=>g
def AO5:Cfg->Cfg
 |.code (.cond _ _ e) K st=>.code e K st
 |g=>g
def YW:Cfg->Option Bool
 |.ops all (o::_) _ st=>match o.guard with
  |some (j,_)=>match AV4 all j with
   |some d=>match get st.env d with
    |.p (.bb b)=>some b
    |_=>none
   |none=>none
  |none=>none
 |_=>none
def Oo (b:Bool):Cfg->Cfg
 |.ops all (o::rest) K st=>match o.guard with
  |some (j,_)=>match AV4 all j with
   |some d=>Ab2 (some d) (.p (.v (.bool b))) st.env st.regs λst=>.ops all (o::rest) K st
   |none=>.ops all (o::rest) K st
  |none=>.ops all (o::rest) K st
 |g=>g
def Ab3 (ids:List Nat):Cfg->Option (FuncId×List AV×List Obj)
 |.ops all (o::_) _ st=>match BD all st.env o,o.op with
  |some true,.call c=>match c.callee with
   |.value f=>match HM st.regs (c.args.toList.map (aev st.env))with
    |some (as,regs)=>match QR st.env f as with
     |some (fn,as')=>match Ef ids as',M9 ids regs ids with
      |some a,some ob=>if I1 ids&&FA ob then some (fn,a,ob)else none
      |_,_=>none
     |none=>none
    |none=>none
   |_=>none
  |_,_=>none
 |_=>none
def Ab4 (ids:List Nat)(ks:List Bool)(n:Nat):Cfg->Bool
 |.ops _ (o::_) _ st=>match o.op with
  |.call c=>match HM st.regs (c.args.toList.map (aev st.env))with
   |some (_,regs)=>X2 regs ids ks (o.dst.getD 0) n
   |none=>false
  |_=>false
 |_=>false
def Ax9 (ids:List Nat)(ks:List Bool)(r:AV)(objs' : List Obj):Cfg->Cfg
 |.ops all (o::rest) K st=>match o.op with
  |.call c=>match HM st.regs (c.args.toList.map (aev st.env))with
   |some (_,regs)=>Ab2 o.dst (unA (H3 (o.dst.getD 0) ids ks objs'.length) r) st.env
    (back (H3 (o.dst.getD 0) ids ks objs'.length) (H3 (o.dst.getD 0) ids ks objs'.length) objs' (K8 ids ks regs)) λst=>.ops all rest K st
   |none=>.ops all (o::rest) K st
  |_=>.ops all (o::rest) K st
 |g=>g
structure LookI where
 kt:TypeId
 e:TypeId
 key:PV
 es:List (PV×PV)
def Ak6:Cfg->Option LookI
 |.ops all (o::_) _ st=>match BD all st.env o,o.op with
  |some true,.lookup t m k _=>match Ee st.regs (aev st.env k),aev st.env m with
   |some (key,regs),.mref j=>match A1 regs j,tk P t with
    |some (.map es),some (.map kt e)=>if Gf P kt key then some ⟨kt,e,key,es⟩else none
    |_,_=>none
   |_,_=>none
  |_,_=>none
 |_=>none
def UP (e:TypeId):Option PV->Option (PV×Bool)
 |some x=>some (x,true)
 |none=>(Hm P e).map λz=>(z,false)
def Ak7 (x:PV)(b:Bool):Cfg->Cfg
 |.ops all (o::rest) K st=>match o.op with
  |.lookup _ _ k ok=>match Ee st.regs (aev st.env k)with
   |some (_,regs)=>Ab2 o.dst (if ok then .tup [.p x,.bool b]else .p x) st.env regs λst=>.ops all rest K st
   |none=>.ops all (o::rest) K st
  |_=>.ops all (o::rest) K st
 |g=>g
def Be9:Cfg->Option (TypeId×PV×PV×List (PV×PV))
 |.ops all (o::_) _ st=>match BD all st.env o,o.op with
  |some true,.mapUpdate t m k x=>match aev st.env k,aev st.env m,Ee st.regs (aev st.env x)with
   |.p key,.mref j,some (y,regs)=>match A1 regs j,tk P t with
    |some (.map es),some (.map kt _)=>if Gf P kt (nP key) then some (kt,nP key,y,es)else none
    |_,_=>none
   |_,_,_=>none
  |_,_=>none
 |_=>none
def Bf0 (es' : List (PV×PV)):Cfg->Cfg
 |.ops all (o::rest) K st=>match o.op with
  |.mapUpdate _ m _ x=>match aev st.env m,Ee st.regs (aev st.env x)with
   |.mref j,some (_,regs)=>Ab2 o.dst Kv st.env (ins j (.map es') regs) λst=>.ops all rest K st
   |_,_=>.ops all (o::rest) K st
  |_=>.ops all (o::rest) K st
 |g=>g
def HX:Cfg->Bool
 |.code (.loop _) _ _=>true
 |_=>false
def PZ:Cfg->Code
 |.code (.loop b) _ _=>b
 |_=>.skip
def popSt:Cfg->Option St
 |.pop .normal _ st=>some st
 |_=>none
def UQ (M:It):Nat->List It->List It
 |0,K=>M::K
 |n+1,i::K=>i::UQ M n K
 |_+1,[]=>[M]
def AX5 (n:Nat)(M:St->Prop):Cfg->Cfg
 |.code c K st=>.code c (UQ (.mid M) n K) st
 |.ops all rest K st=>.ops all rest (UQ (.mid M) n K) st
 |.pop e K st=>.pop e (UQ (.mid M) n K) st
def Ka:Cfg->Bool
 |.ops _ (_::_) _ _=>true
 |_=>false
def opsS (st:St):Cfg->Cfg
 |.ops all rest K _=>.ops all rest K st
 |g=>g
def Ay0:Cfg->Option St
 |.pop .ret [] st=>some st
 |.pop .normal [] st=>some st
 |_=>none
inductive Leaf where
 |eq (x y:PV)
 |fn (n m:Nat) (f g:Nat->List PV)
 |mp (x y:List (PV×PV))
 |yl (x y:List (List PV)) (b c:Bool)
 |nt (a b:Nat)
 |ob (n:Nat) (f g:Nat->Obj)
inductive LV where
 |eq (x:PV)
 |fn (n:Nat) (f:Nat->List PV)
 |mp (x:List (PV×PV))
 |yl (x:List (List PV)) (b:Bool)
 |nt (a:Nat)
 |ob (f:Nat->Obj)
def Leaf.src:Leaf->LV
 |.eq x _=>.eq x
 |.fn n _ f _=>.fn n f
 |.mp x _=>.mp x
 |.yl x _ b _=>.yl x b
 |.nt a _=>.nt a
 |.ob _ f _=>.ob f
def Leaf.tgt:Leaf->LV
 |.eq _ y=>.eq y
 |.fn _ m _ g=>.fn m g
 |.mp _ y=>.mp y
 |.yl _ y _ c=>.yl y c
 |.nt _ b=>.nt b
 |.ob _ _ g=>.ob g
def Leaf.ok:Leaf->Prop
 |.eq x y=>x=y
 |.fn n m f g=>n=m/\∀i,i<n->f i=g i
 |.mp x y=>x=y
 |.yl x y b c=>x=y/\b=c
 |.nt a b=>a=b
 |.ob n f g=>∀i,i<n->f i=g i
theorem Leaf.ok_of {l:Leaf}(h:l.src=l.tgt):l.ok:=by
 cases l with
 |eq x y=>simp only[Leaf.src,Leaf.tgt,LV.eq.injEq]at h;exact h
 |fn n m f g=>simp only[Leaf.src,Leaf.tgt,LV.fn.injEq]at h;obtain⟨rfl,rfl⟩:=h;exact⟨rfl,λ_ _=>rfl⟩
 |mp x y=>simp only[Leaf.src,Leaf.tgt,LV.mp.injEq]at h;exact h
 |yl x y b c=>simp only[Leaf.src,Leaf.tgt,LV.yl.injEq]at h;exact h
 |nt a b=>simp only[Leaf.src,Leaf.tgt,LV.nt.injEq]at h;exact h
 |ob n f g=>simp only[Leaf.src,Leaf.tgt,LV.ob.injEq]at h;subst h;exact λ_ _=>rfl
def AO6:PV->PV->Leaf
 |.v (.bool b),.bb c=>.eq (.bb b) (.bb c)
 |.v (.slice none 0 0),.sl false _ n f=>.fn 0 n f f
 |.sl nn k n f,.sl false l m g=>if k=l then .fn n m f g else .eq (.sl nn k n f) (.sl false l m g)
 |x,y=>.eq x y
mutual
def Kb (regs:C0)(ids:List (Nat×Nat))(a b:AV):Option (List Leaf):=
 match b with
 |.top=>some []
 |.p y=>match viewP regs a with
  |some x=>some [AO6 x y]
  |none=>none
 |.reg j off=>match a with | .reg i off'=>if lk ids j=some i/\off=off' then some []else none|_=>none
 |.vec j=>match a with
  |.vec i=>if lk ids j=some i then some []else none
  |.p (.v (.slice none 0 0))=>if lk ids j=none then some []else none
  |_=>none
 |.vecp j n=>match a with | .vecp i m=>if lk ids j=some i/\n=m then some []else none|_=>none
 |.elt j k n off=>match a with | .elt i k' n' off'=>if lk ids j=some i/\k=k' /\ n=n' /\ off=off' then some []else none|_=>none
 |.mref j=>match a with | .mref i=>if lk ids j=some i then some []else none|_=>none
 |.yf j=>match a with | .yf i=>if lk ids j=some i then some []else none|_=>none
 |.rsl j n=>match a with | .rsl i m=>if lk ids j=some i/\n=m then some []else none|_=>none
 |.clo f x y=>match a with
  |.clo f' x' y'=>match Qa regs ids x' x,Qa regs ids y' y with|some l,some m=>some (.nt f' f::l++m)|_,_=>none
  |_=>none
 |.tup l=>match a with | .tup l'=>Qa regs ids l' l|_=>none
 |.agr l=>match a with | .agr l'=>Qa regs ids l' l|_=>none
def Qa (regs:C0)(ids:List (Nat×Nat))(a b:List AV):Option (List Leaf):=
 match b with
 |[]=>match a with | []=>some [] | _=>none
 |y::s=>match a with
  |x::r=>match Kb regs ids x y,Qa regs ids r s with|some l,some m=>some (l++m)|_,_=>none
  |[]=>none
end
def Ay1 (regs:C0)(ids:List (Nat×Nat))(env:Env):Env->Option (List Leaf)
 |[]=>some []
 |(t,b)::r=>match Kb regs ids (get env t) b,Ay1 regs ids env r with|some l,some m=>some (l++m)|_,_=>none
def Oq (regs:C0)(ids:List (Nat×Nat))(o p:Obj):Option (List Leaf):=
 match p with
 |.cells cs=>match o with | .cells cs'=>Qa regs ids cs' cs|_=>none
 |.vec e k n f vw=>match o with
  |.vec e' k' m g vw'=>if e=e' /\ k=k' /\ (vw' = true->vw=true)then some [.fn m n g f]else none
  |_=>none
 |.map es=>match o with | .map es'=>some [.mp es' es] | _=>none
 |.arr n f=>match o with | .arr m g=>some [.fn m n (λi=>[g i]) (λi=>[f i])] | _=>none
 |.blk l jr=>match o with | .blk l' jr'=>if lk ids jr=some jr' then some [.ob 1 (λ_=>.blk l' 0) (λ_=>.blk l 0)]else none|_=>none
 |.ghost cs=>match o with | .ghost cs'=>Qa regs ids cs' cs|_=>none
 |.yld r b=>match o with | .yld r' b'=>some [.yl r' r b' b] | _=>none
 |.fam e n jr x=>match o with
  |.fam e' m jr' x'=>if e=e' /\ lk ids jr=some jr' then (match x,x' with
   |none,none=>some [.nt m n]
   |some (i,a),some (i',a')=>match nov a' a,Kb regs ids a' a with
    |true,some l=>some (.nt m n :: .nt i' i::l)
    |_,_=>none
   |_,_=>none)else none
  |_=>none
 |.rows n g=>match o with | .rows m g'=>some [.nt m n,.ob n g' g] | _=>none
 |.dead=>some []
def Ay2 (regs:C0)(ids:List (Nat×Nat)):C0->Option (List Leaf)
 |[]=>some []
 |(j,p)::r=>match (match lk ids j with
  |some i=>match A1 regs i with
   |some o=>Oq regs ids o p
   |none=>none
  |none=>match p with
   |.vec _ _ n f _=>some [.fn 0 n f f]
   |_=>none:Option (List Leaf)),Ay2 regs ids r with
  |some l,some m=>some (l++m)
  |_,_=>none
def leK (ids:List (Nat×Nat))(s t:St):Option (List Leaf):=
 if (wf t&&I1 (ids.map (·.2))&&ZJ ids&&QT ids t.regs&&Mm ids (seen s.env t.env++Kz ids s.regs t.regs) t.regs) then
  match Ay1 s.regs ids s.env t.env,Ay2 s.regs ids t.regs with
  |some l,some m=>some (l++m)
  |_,_=>none
 else none
theorem Ay3 {x y:PV}(h:(AO6 x y).ok):leP x y:=by
 unfold AO6 at h;split at h
 .simp only[Leaf.ok,PV.bb.injEq]at h;subst h;exact .inr (.inr (.inr (.inl ⟨_,rfl,rfl⟩)))
 .obtain⟨rfl,_⟩:=h;exact .inr (.inr (.inl ⟨_,_,rfl,rfl⟩))
 .split at h
  .rename_i hk;subst hk;obtain⟨rfl,h⟩:=h;exact .inr (.inl ⟨_,_,_,_,_,rfl,rfl,h⟩)
  exact .inl h
 exact .inl h
theorem Or {l m:List Leaf}(h:∀x∈l++m,x.ok):(∀x∈l,x.ok)/\∀x∈m,x.ok:=
 ⟨λx hx=>h x (Bi9 _ hx),λx hx=>h x (Bh9 _ hx)⟩
mutual
theorem SB {regs:C0}{ids:List (Nat×Nat)}{a:AV}(b:AV){L:List Leaf}(h:Kb regs ids a b=some L)(hL:∀x∈L,x.ok):leA regs ids a b:=by
 cases b with
 |top=>unfold leA;trivial
 |p y=>
  unfold Kb at h;split at h
  .rename_i x hx;cases h;unfold leA;exact⟨x,hx,Ay3 (hL _ (by simp))⟩
  cases h
 |reg j off=>
  unfold Kb at h;split at h
  .split at h
   .rename_i c;obtain⟨h1,rfl⟩:=c;exact AV7 h1
   cases h
  cases h
 |vec j=>
  unfold Kb at h;split at h
  .split at h
   .rename_i h1;exact AV6 h1
   cases h
  .split at h
   .rename_i h1;exact AL6 h1
   cases h
  cases h
 |vecp j n=>
  unfold Kb at h;split at h
  .split at h
   .rename_i c;obtain⟨h1,rfl⟩:=c;unfold leA;exact⟨_,h1,rfl⟩
   cases h
  cases h
 |elt j k n off=>
  unfold Kb at h;split at h
  .split at h
   .rename_i c;obtain⟨h1,rfl,rfl,rfl⟩:=c;unfold leA;exact⟨_,h1,rfl⟩
   cases h
  cases h
 |mref j=>
  unfold Kb at h;split at h
  .split at h
   .rename_i h1;exact AL7 h1
   cases h
  cases h
 |rsl j n=>
  unfold Kb at h;split at h
  .split at h
   .rename_i c;obtain⟨h1,rfl⟩:=c;unfold leA;exact⟨_,h1,rfl⟩
   cases h
  cases h
 |yf j=>
  unfold Kb at h;split at h
  .split at h
   .rename_i h1;exact le_yf h1
   cases h
  cases h
 |clo f x y=>
  unfold Kb at h;split at h
  .split at h
   .rename_i l m h1 g;cases h;have d:=hL _ (Bo2 ..);simp only[Leaf.ok]at d;subst d;obtain⟨i,o⟩:=Or λx hx=>hL x (Bh3 _ hx);exact AV8 (GM x h1 i) (GM y g o)
   cases h
  cases h
 |tup l=>
  unfold Kb at h;split at h
  .exact AX3 (GM l h hL)
  cases h
 |agr l=>
  unfold Kb at h;split at h
  .exact AX4 (GM l h hL)
  cases h
theorem GM {regs:C0}{ids:List (Nat×Nat)}{a:List AV}(b:List AV){L:List Leaf}(h:Qa regs ids a b=some L)(hL:∀x∈L,x.ok):leL regs ids a b:=by
 cases b with
 |nil=>
  unfold Qa at h;split at h
  .exact AL8
  cases h
 |cons y s=>
  unfold Qa at h;split at h
  .split at h
   .rename_i l m h1 c;cases h;obtain⟨d,f⟩:=Or hL;exact At9 (SB y h1 d) (GM s c f)
   cases h
  cases h
end
theorem YX {regs:C0}{ids:List (Nat×Nat)}{env:Env}:∀(t:Env) {L:List Leaf},Ay1 regs ids env t=some L->(∀x∈L,x.ok)->RY regs ids env t
 |[],_,_,_=>trivial
 |(t,b)::r,L,h,hL=>by
  simp only[Ay1]at h;split at h
  .rename_i l m h1 a;cases h;obtain⟨c,d⟩:=Or hL;exact⟨SB b h1 c,YX r a d⟩
  cases h
theorem Ay4 {regs:C0}{ids:List (Nat×Nat)}{o p:Obj}{L:List Leaf}(h:Oq regs ids o p=some L)(hL:∀x∈L,x.ok):leO regs ids o p:=by
 cases p with
 |cells cs=>
  simp only[Oq]at h;split at h
  .exact Au0 (GM cs h hL)
  cases h
 |vec e k n f vw=>
  simp only[Oq]at h;split at h
  .split at h
   .rename_i c;obtain⟨rfl,rfl,j⟩:=c;cases h;obtain⟨rfl,h1⟩:=hL _ (Bl4.2 rfl);exact⟨_,_,rfl,h1,j⟩
   cases h
  cases h
 |map es=>
  simp only[Oq]at h;split at h
  .cases h
   have:=hL _ (Bl4.2 rfl)
   simp only[Leaf.ok]at this;subst this;rfl
  cases h
 |blk l jr=>
  simp only[Oq]at h;split at h
  .split at h
   .rename_i c;cases h;have h1:=hL _ (Bl4.2 rfl);have m:=h1 0 (Bw2 0);cases m;exact⟨_,rfl,c⟩
   cases h
  cases h
 |arr n f=>
  simp only[Oq]at h;split at h
  .cases h;obtain⟨rfl,h1⟩:=hL _ (Bl4.2 rfl);exact⟨_,rfl,λi q=>by simpa using h1 i q⟩
  cases h
 |ghost cs=>
  simp only[Oq]at h;split at h
  .exact⟨_,rfl,GM cs h hL⟩
  cases h
 |yld r b=>
  simp only[Oq]at h;split at h
  .cases h;obtain⟨rfl,rfl⟩:=hL _ (Bl4.2 rfl);rfl
  cases h
 |fam e n jr x=>
  simp only[Oq]at h;split at h
  .split at h
   .rename_i s;obtain⟨rfl,d⟩:=s;split at h
    .cases h;have a:=hL _ (Bo2 ..);simp only[Leaf.ok]at a;subst a;exact⟨_,_,rfl,d,rfl⟩
    .split at h
     .rename_i hn hl;cases h;have a:=hL _ (Bo2 ..);have h1:=hL _ (Bh3 _ (Bo2 ..));simp only[Leaf.ok]at a h1;subst a h1;exact⟨_,_,rfl,d,_,rfl,hn,SB _ hl λx hx=>hL x (by simp[hx])⟩
     cases h
    cases h
   cases h
  cases h
 |rows n g=>
  simp only[Oq]at h;split at h
  .cases h;have a:=hL _ (Bo2 ..);simp only[Leaf.ok]at a;subst a;exact⟨_,rfl,hL (.ob _ _ _) (by simp)⟩
  cases h
 |dead=>trivial
theorem YY {regs:C0}{ids:List (Nat×Nat)}:∀(t:C0) {L:List Leaf},Ay2 regs ids t=some L->(∀x∈L,x.ok)->Uf regs ids t
 |[],_,_,_=>trivial
 |(j,p)::r,L,h,hL=>by
  simp only[Ay2]at h;split at h
  .rename_i l m h1 c;cases h;obtain⟨b,d⟩:=Or hL;refine⟨?_,YY r c d⟩;split at h1
   .rename_i i a;split at h1
    .rename_i o f;exact .inl ⟨i,o,a,f,Ay4 h1 b⟩
    cases h1
   rename_i a;split at h1
   .cases h1;obtain⟨rfl,_⟩:=b _ (Bl4.2 rfl);exact .inr ⟨a,_,_,_,_,rfl⟩
   cases h1
  cases h
theorem AH4 {ids:List (Nat×Nat)}{s t:St}{L:List Leaf}(h:leK ids s t=some L)(hL:∀x∈L,x.ok):Le ids s t:=by
 unfold leK at h;split at h
 .rename_i hw;split at h
  .rename_i l m h1 a;cases h;obtain⟨b,c⟩:=Or hL;exact le_mk hw (YX _ h1 b) (YY _ a c)
  cases h
 cases h
theorem kle {ids:List (Nat×Nat)}{s t:St}(h:(leK ids s t).map (·.map Leaf.src)=(leK ids s t).map (·.map Leaf.tgt):=by kernel_rfl)(h1:(leK ids s t).isSome=true:=by kernel_rfl):Le ids s t:=by
 obtain⟨L,hL⟩:=Bh1.1 h1;rw[hL]at h;simp only[Bg8,Bf8]at h;refine AH4 hL λx hx=>?_;obtain⟨i,a,rfl⟩:=Bp6.1 hx
 have:=congrArg (·[i]?) h
 simp only[Bg2,Bf9 a,Bg8,Bf8]at this;exact Leaf.ok_of this
def Ay5 (is:List Nat)(f:Leaf->LV)(L:List Leaf):List (Option LV):=L.zipIdx.map λq=>if is.contains q.2 then none else some (f q.1)
theorem kleR {ids:List (Nat×Nat)}{s t:St}(rs:List (Nat×Leaf))(d:∀q∈rs,q.2.ok)(h:(leK ids s t).map (Ay5 (rs.map (·.1)) Leaf.src)=(leK ids s t).map (Ay5 (rs.map (·.1)) Leaf.tgt):=by kernel_rfl)
 (a:(leK ids s t).map (λL=>rs.map λq=>L[q.1]?)=some (rs.map λq=>some q.2):=by kernel_rfl):Le ids s t:=by
 cases hL:leK ids s t with
 |none=>rw[hL]at a;cases a
 |some L=>
  rw[hL]at h a;simp only[Bg8,Bf8]at h a;refine AH4 hL λx hx=>?_;obtain⟨i,b,rfl⟩:=Bp6.1 hx;by_cases hm:(rs.map (·.1)).contains i=true
  .simp only[Bj0,decide_eq_true_eq,Bl0]at hm;obtain⟨q,c,rfl⟩:=hm;obtain⟨k,hk,rfl⟩:=Bp6.1 c
   have:=congrArg (·[k]?) a
   simp only[Bg2,Bf9 hk,Bg8,Bf8,Bf9 b]at this;rw[this];exact d _ c
  have:=congrArg (·[i]?) h
  simp only[Ay5,Bg2,List.getElem?_zipIdx,Bf9 b,Bg8,Bj2,hm,Bf8]at this;exact Leaf.ok_of (by simpa using this)
end
section
variable {P:Program}
variable {S:V2}{F:M8}{g:Cfg}{pr:Prop}
theorem FB (hS:G7 S P)(hc:pr)(h:G S P F (stp P g))(hp:pr=C6 (cnd P g):=by kernel_rfl):G S P F g:=
 (GE (F:=F) hS 400 [] g (by subst hp;exact hc)).2 h
theorem AX6 (hS:G7 S P)(hc:pr){b:Bool}(ht:b=true->G S P F (AO4 (stp P g)))(a:b=false->G S P F (AO5 (stp P g)))(hp:pr=C6 (cnd P g):=by kernel_rfl)(hb:Ax8 (stp P g)=some b:=by kernel_rfl):G S P F g:=by
 refine FB hS hc ?_ hp;generalize stp P g=g' at hb ht a;unfold Ax8 at hb;split at hb
 .split at hb
  .rename_i hc;cases hb;exact AV3 hc ht a
  cases hb
 cases hb
theorem AO7 (hS:G7 S P)(hc:pr){b:Bool}(ht:b=true->G S P F (Oo true (stp P g)))(a:b=false->G S P F (Oo false (stp P g)))(hp:pr=C6 (cnd P g):=by kernel_rfl)(hb:YW (stp P g)=some b:=by kernel_rfl):G S P F g:=by
 refine FB hS hc ?_ hp;generalize stp P g=g' at hb ht a;unfold YW at hb;split at hb
 .split at hb
  .rename_i d;split at hb
   .rename_i f;split at hb
    .rename_i c;cases hb;simp only[Oo,d,f,FR,put]at ht a;exact AL3 hS d f c ht a
    cases hb
   cases hb
  cases hb
 cases hb
theorem AX7 (hS:G7 S P)(ids:List Nat)(hc:pr){fn:FuncId}{args:List AV}{objs objs' : List Obj}{r:AV}{ks:List Bool}(i:FunO S fn args objs r objs' ks)
 (hk:G S P F (Ax9 ids ks r objs' (stp P g))) (hp:pr=C6 (cnd P g):=by kernel_rfl) (a:Ab3 ids (stp P g)=some (fn,args,objs):=by kernel_rfl) (hn:Ab4 ids ks objs'.length (stp P g)=true:=by kernel_rfl):G S P F g:=by
 refine FB hS hc ?_ hp;generalize stp P g=g' at a hn hk;unfold Ab3 at a;split at a
 .split at a
  .rename_i j f;split at a
   .rename_i c;split at a
    .rename_i ha;split at a
     .rename_i hw;split at a
      .rename_i l d;split at a
       .rename_i b;cases a;simp only[Bg0]at b;simp only[Ax9,Ab4,f,ha,FR]at hk hn;exact AL4 hS ids j f c ha hw l d i b.1 b.2 hn hk
       cases a
      cases a
     cases a
    cases a
   cases a
  cases a
 cases a
theorem Ay6 (hS:G7 S P)(hc:pr){kt e:TypeId}{key:PV}{es:List (PV×PV)}{x:PV}{b:Bool}{fd:Option PV}
 (j:find (HF P kt) key es=some fd) (c:C6 (Hl P kt))
 (hk:G S P F (Ak7 x b (stp P g))) (hp:pr=C6 (cnd P g):=by kernel_rfl) (a:Ak6 P (stp P g)=some ⟨kt,e,key,es⟩:=by kernel_rfl) (hx:UP P e fd=some (x,b):=by kernel_rfl):G S P F g:=by
 refine FB hS hc ?_ hp;generalize stp P g=g' at a hk;unfold Ak6 at a;split at a
 .split at a
  .rename_i l f;split at a
   .rename_i i hm;split at a
    .rename_i m ht;split at a
     .rename_i d;simp only[Bf8,LookI.mk.injEq]at a;obtain⟨rfl,rfl,rfl,rfl⟩:=a;simp only[Ak7,f,i,FR]at hk;cases fd with
      |some y=>exact YT (fd:=some y) hS l f i hm m ht d j hx c hk
      |none=>exact YT (fd:=none) hS l f i hm m ht d j hx c hk
     cases a
    cases a
   cases a
  cases a
 cases a
theorem Ay7 (hS:G7 S P)(hc:pr){kt:TypeId}{key y:PV}{es es' : List (PV×PV)}
 (j:upd (HF P kt) key y es=some es') (b:C6 (Hl P kt)) (hk:G S P F (Bf0 es' (stp P g))) (hp:pr=C6 (cnd P g):=by kernel_rfl) (a:Be9 P (stp P g)=some (kt,key,y,es):=by kernel_rfl):G S P F g:=by
 refine FB hS hc ?_ hp;generalize stp P g=g' at a hk;unfold Be9 at a;split at a
 .split at a
  .rename_i l d;split at a
   .rename_i h1 f i;split at a
    .rename_i m ht;split at a
     .rename_i c;simp only[Bf8,Bg4]at a;obtain⟨rfl,rfl,rfl,rfl⟩:=a;simp only[Bf0,d,f,i,FR]at hk;exact Xe hS l d h1 i f m ht c j b hk
     cases a
    cases a
   cases a
  cases a
 cases a
theorem AX8 (hS:G7 S P)(hc:pr)(st:St){ids:List (Nat×Nat)}(hk:G S P F (opsS st (stp P g)))(hp:pr=C6 (cnd P g):=by kernel_rfl)(a:Ka (stp P g)=true:=by kernel_rfl)(hle:Le ids (stp P g).st st:=by exact kle):G S P F g:=by
 refine FB hS hc ?_ hp;generalize stp P g=g' at a hle hk;unfold Ka at a;split at a
 .exact Ak5 hS st ids hle hk
 cases a
end
section
variable {S:V2}{P:Program}{F:M8}{g:Cfg}{pr:Prop}
theorem KP (hS:G7 S P){K1 K2:List It}(h:∀e s,kp S P K1 F e s->kp S P K2 F e s):∀(K:List It) (e:IY) (s:St),kp S P (K++K1) F e s->kp S P (K++K2) F e s
 |[],e,s,hk=>h e s hk
 |.code c::K,e,s,hk=>by simp only[Bi7,kp]at hk⊢;exact Sz hS (λt=>AP hS c (KP hS h K)) (KP hS h K) e s hk
 |.blk id::K,e,s,hk=>by
  simp only[Bi7,kp]at hk⊢;cases e with
  |exit i=>
   simp only[blk]at hk⊢;split at hk
   .rename_i a;rw[Ej a];exact KP hS h K _ _ hk
   rename_i a;rw[Er a];exact KP hS h K _ _ hk
  |_=>exact KP hS h K _ _ hk
 |.lp X s' J m n::K,e,s,hk=>by
  simp only[Bi7,kp]at hk⊢;cases e with
  |normal=>exact hk
  |_=>exact KP hS h K _ _ hk
 |.mid M::K,e,s,hk=>by simp only[Bi7,kp]at hk⊢;exact Sz hS (λt h=>h) (KP hS h K) e s hk
 |.scp::K,e,s,hk=>by
  simp only[Bi7,kp]at hk⊢;cases e with
  |goto l=>exact hk
  |_=>exact KP hS h K _ _ hk
theorem YZ (M:It):∀(n:Nat) (K:List It),n<=K.length->UQ M n K=K.take n++M::K.drop n
 |0,K,_=>by simp[UQ]
 |n+1,i::K,h=>by simp only[UQ,Bq2,List.drop_succ_cons,Bi7,YZ M n K (by simpa using h)]
 |n+1,[],h=>by simp at h
theorem AH5 (hS:G7 S P)(a:∀s,S.up s (F .normal)->F .normal s)(n:Nat)(hn:n<=g.k.length){M:St->Prop}(b:∀t,M t->G S P F (.pop .normal (g.k.drop n) t))(h:G S P F (AX5 n M g)):G S P F g:=by
 have hk:∀e s,kp S P (UQ (.mid M) n g.k) F e s->kp S P g.k F e s:=by
  intro e s;rw[YZ _ _ _ hn]
  conv=>rhs;rw[<- Br3 n g.k]
  exact KP hS (AX1 hS a b) _ e s
 cases g with
 |code c K st=>exact AP hS c hk h
 |ops all rest K st=>exact HV hS hk rest h
 |pop e K st=>exact hk e st h
theorem J_cut (hS:G7 S P)(hc:pr)(b:∀s,S.up s (F .normal)->F .normal s)(n:Nat)(s:St)
 (h1:∀(M:St->Prop),(∀(g' : Cfg) (ids:List (Nat×Nat)) (pr:Prop),pr->(hp:pr=C6 (cnd P g'):=by kernel_rfl)->(a:stp P g' = .pop .normal (.mid M::(stp P g).k.drop n) (stp P g').st:=by kernel_rfl)->(hle:Le ids (stp P g').st s:=by exact kle)->G S P F g')->G S P F (AX5 n M (stp P g)))
 (c:G S P F (.pop .normal ((stp P g).k.drop n) s)) (hp:pr=C6 (cnd P g):=by kernel_rfl) (hn:Nat.ble n (stp P g).k.length=true:=by kernel_rfl):G S P F g:=by
 refine FB hS hc ?_ hp;refine AH5 hS b n (Bl9 hn) (M:=λt=>t=s) (λt ht=>by subst ht;exact c) (h1 _ λg' ids pr hc hp a hle=>?_);refine FB hS hc ?_ hp;rw[a];exact hS.le ids _ _ _ hle rfl
theorem J_lt (hS:G7 S P)(hc:pr)(c:∀s,S.up s (F .normal)->F .normal s){R A:Type}{f:(A->Option R)->Option R}{k0:A->Option R}{r:R}(h:lt k0 f=some r)(n:Nat)(s:A->St)
 (h1:∀(M:St->Prop) (k:A->Option R),(∀(g' : Cfg) (ids:List (Nat×Nat)) (pr:Prop) (a:A),pr->k a=some r->(hp:pr=C6 (cnd P g'):=by kernel_rfl)->(b:stp P g' = .pop .normal (.mid M::(stp P g).k.drop n) (stp P g').st:=by kernel_rfl)->(hle:Le ids (stp P g').st (s a):=by exact kle)->G S P F g')->f k=some r->G S P F (AX5 n M (stp P g)))
 (d:∀a,k0 a=some r->G S P F (.pop .normal ((stp P g).k.drop n) (s a))) (hp:pr=C6 (cnd P g):=by kernel_rfl) (hn:Nat.ble n (stp P g).k.length=true:=by kernel_rfl):G S P F g:=by
 refine FB hS hc ?_ hp;refine AH5 hS c n (Bl9 hn) (M:=λt=>∃a,t=s a/\k0 a=some r) (λt ⟨a,ht,hk⟩=>by subst ht;exact d a hk) (h1 _ k0 (λg' ids pr a hc hk hp b hle=>?_) h);refine FB hS hc ?_ hp;rw[b];exact hS.le ids _ _ _ hle ⟨a,rfl,hk⟩
theorem SD {g:Cfg}(h:HX g=true):g=.code (.loop (PZ g)) g.k g.st:=by
 unfold HX at h;split at h
 .rfl
 cases h
theorem AX9 (hS:G7 S P)(hc:pr){R A:Type}{body:(A->Option R)->A->Option R}{N:Nat}{a0:A}{r:R}(h:X4 N body a0=some r)(s:A->St){ids:List (Nat×Nat)}
 (i:∀(X:Type) (s' : X->St) (J:X->Prop) (m:X->Nat) (n:Nat) (b:A->Option R) (a:A),
  (∀(g' : Cfg) (ids:List (Nat×Nat)) (pr:Prop) (a:A),pr->b a=some r->(hp:pr=C6 (cnd P g'):=by kernel_rfl)->(f:stp P g' = .pop .normal (.lp X s' J m n::(stp P g).k) (stp P g').st:=by kernel_rfl)->(hle:Le ids (stp P g').st (s a):=by exact kle)->G S P F g') ->
  body b a=some r->G S P F (.code (PZ (stp P g)) (.lp X s' J m n::(stp P g).k) (s a))) (hp:pr=C6 (cnd P g):=by kernel_rfl) (hl:HX (stp P g)=true:=by kernel_rfl) (hle:Le ids (stp P g).st (s a0):=by exact kle):G S P F g:=by
 refine FB hS hc ?_ hp;rw[SD hl];refine AX2 hS h s ids hle λX s' J m n b a hb c=>i X s' J m n b a (λg' ids pr a hc d hp f hle=>?_) c;refine FB hS hc ?_ hp;rw[f];exact hb _ _ _ hle d
def SE (P:Program)(st:St)(rs:List ResultVar)(outs:List Nat):Option (AV×List Obj):=match HP P st rs with
 |some l=>match RV outs (one l),M9 outs st.regs outs with
  |some a,some o=>if I1 outs then some (a,o)else none
  |_,_=>none
 |none=>none
theorem J_ret (hS:G7 S P)(hc:pr){n:Nat}{rs:List ResultVar}{Q:ARes->List Obj->List Bool->Prop}{a:AV}{objs:List Obj}(outs:List Nat)(c:Q (.ret a) objs (FF n outs))(hp:pr=C6 (cnd P g):=by kernel_rfl)(d:(Ay0 (stp P g)).bind (λst=>SE P st rs outs)=some (a,objs):=by kernel_rfl) :G S P (CH S P n rs Q) g:=by
 refine FB hS hc ?_ hp;generalize stp P g=g' at d;obtain⟨st,h1,b⟩:=Bq3.1 d;unfold SE at b;split at b
 .rename_i l hl;split at b
  .rename_i f i;split at b
   .rename_i j;cases b;unfold Ay0 at h1;split at h1
    .cases h1;exact hS.refl _ _ ⟨l,outs,a,objs,hl,j,f,i,c⟩
    .cases h1;exact hS.refl _ _ ⟨l,outs,a,objs,hl,j,f,i,c⟩
    cases h1
   cases b
  cases b
 cases b
theorem AY0 (hS:G7 S P)(hc:pr){n:Nat}{rs:List ResultVar}{Q:ARes->List Obj->List Bool->Prop}{a:AV}{objs:List Obj}(st:St)(outs:List Nat){ids:List (Nat×Nat)}(f:Q (.ret a) objs (FF n outs))(hp:pr=C6 (cnd P g):=by kernel_rfl)(c:(Ay0 (stp P g)).isSome=true:=by kernel_rfl)(hle:Le ids (stp P g).st st:=by exact kle)(d:SE P st rs outs=some (a,objs):=by kernel_rfl) :G S P (CH S P n rs Q) g:=by
 refine FB hS hc ?_ hp;generalize stp P g=g' at c hle;have b:=d;unfold SE at b;split at b
 .rename_i l hl;split at b
  .rename_i d i;split at b
   .rename_i j;cases b;unfold Ay0 at c;split at c
    .exact hS.le ids _ _ _ hle ⟨l,outs,a,objs,hl,j,d,i,f⟩
    .exact hS.le ids _ _ _ hle ⟨l,outs,a,objs,hl,j,d,i,f⟩
    cases c
   cases b
  cases b
 cases b
theorem AO8 (hS:G7 S P){f:FuncId}{fn:Func}{args:List AV}{objs objs' : List Obj}{ks:List Bool}{r:AV}(d:P.funcs[f]? = some fn)
 (h:G S P (CH S P objs.length fn.results.toList λres o k=>res=.ret r/\o=objs' /\ k=ks) (.code (fn.body.getD .skip) [] { env:=argEnv args,regs:=objRegs objs }))
 (hc:fn.body.isSome=true:=by kernel_rfl) (hn:Nat.ble args.length fn.ntmps=true:=by kernel_rfl) (g:Nat.blt objs.length 1000=true:=by kernel_rfl)
 (b:BC fn.ntmps (fn.body.getD .skip)=true:=by kernel_rfl) (c:(fn.name == "runtime.NumGoroutine")=false:=by kernel_rfl):FunO S f args objs r objs' ks:=by
 obtain⟨code,a⟩:=Bh1.1 hc;rw[a,Bg6]at b h;exact Ag9 hS d a (Bl9 hn) (by simpa[Bp8]using g) rfl b c h
theorem al0:∀q∈([]:List (Nat×Leaf)),q.2.ok:=λ_ h=>by cases h
theorem al1 {i:Nat}{l:Leaf}{rs:List (Nat×Leaf)}(h:l.ok)(t:∀q∈rs,q.2.ok):∀q∈(i,l)::rs,q.2.ok:=λq a=>by
 rcases Bi3.1 a with rfl|a
 .exact h
 exact t q a
structure SC where
 all:List Oper
 cls:List Cls
 rest:List Oper
 env:Env
 regs:C0
 kn:List Nat
def SG (S:V2)(P:Program)(sc:SC)(k:Env->C0->Prop):Prop:=Kt S P sc.all sc.cls sc.rest sc.env sc.regs k
def BB (P:Program)(sc:SC):SC:=match PS P sc.kn sc.all sc.cls sc.rest [] sc.env sc.regs with
 |⟨_,cls,rest,env,regs⟩=>⟨sc.all,cls,rest,env,regs,sc.kn⟩
def Ot (P:Program)(sc:SC):List Prop:=(PS P sc.kn sc.all sc.cls sc.rest [] sc.env sc.regs).conds
def Di:Cfg->Bool
 |.code (.region _ _ true) _ _=>true
 |_=>false
def HY:Cfg->SC
 |.code (.region _ ops true) _ st=>⟨ops.toList,ops.toList.map λo=>Be6 o.op,ops.toList,st.env,st.regs,[]⟩
 |_=>⟨[],[],[],[],[],[]⟩
theorem AO9 (hS:G7 S P)(hc:pr)
 (h:SG S P (HY (stp P g)) λenv regs=>G S P F (.pop .normal (stp P g).k ⟨env,regs⟩)) (hp:pr=C6 (cnd P g):=by kernel_rfl) (c:Di (stp P g)=true:=by kernel_rfl) (a:P.follows .mixedOrders=true:=by kernel_rfl) (b:Ms (HY (stp P g)).all (HY (stp P g)).cls=true:=by kernel_rfl):G S P F g:=by
 refine FB hS hc ?_ hp;generalize stp P g=g' at c b h;unfold Di at c;split at c
 .exact Ax1 hS a rfl b h
 cases c
section
variable {sc:SC}{k:Env->C0->Prop}
theorem Ak8 (hc:pr)(h:SG S P (BB P sc) k)(hp:pr=C6 (Ot P sc):=by kernel_rfl):SG S P sc k:=by subst hp;unfold BB at h;unfold Ot at hc;unfold SG at *;generalize a:PS P sc.kn sc.all sc.cls sc.rest [] sc.env sc.regs=r at h hc;obtain⟨c,cls,rest,env,regs⟩:=r;exact s_go a hc h
theorem C_end (hc:pr)(h:k (BB P sc).env (BB P sc).regs)(hp:pr=C6 (Ot P sc):=by kernel_rfl)(a:(BB P sc).rest.isEmpty=true:=by kernel_rfl):SG S P sc k:=by
 refine Ak8 hc ?_ hp;generalize BB P sc=s at a h;obtain⟨all,cls,rest,env,regs,kn⟩:=s;cases rest with
 |nil=>exact s_end h
 |cons=>simp at a
def Ay8 {R:Type _}(d:Option Nat)(a:AV)(env:Env)(regs:C0)(κ : Env->C0->R):R:=match d with
 |some d=>mkO (ins d a env) regs κ
 |none=>mkO env regs κ
theorem EW {R:Type _}(d:Option Nat)(a:AV)(env:Env)(regs:C0)(κ : Env->C0->R):Ay8 d a env regs κ = κ (NA d a env) regs:=by cases d<;>simp only[Ay8,Gm,NA]
theorem AH6:∀{env:Env}{i d:Nat}{b:AV},At4 ((i,b)::env)=true->get env d ≠ .top->d<i
 |[],_,_,_,_,h=>Es rfl h
 |(j,c)::r,i,d,b,hd,h=>by
  simp only[At4,Bg0,decide_eq_true_eq]at hd;by_cases e:j=d
  .subst e;exact hd.1
  simp only[get,e,Ev]at h;exact Nat.lt_trans (AH6 hd.2 h) hd.1
theorem SF:∀{env:Env}{d:Nat}{a:AV},At4 env=true->get env d=a->a ≠ .top->ins d a env=env
 |[],_,_,_,h,hn=>Es h.symm hn
 |(i,b)::r,d,a,hd,h,hn=>by
  by_cases e:i=d
  .subst e;simp only[get,Eu]at h;subst h;simp[ins]
  simp only[get,e,Ev]at h;have c:=AH6 hd (by rw[h];exact hn);have f:At4 r=true:=by
   cases r with
   |nil=>rfl
   |cons p r=>simp only[At4,Bg0]at hd;exact hd.2
  simp only[ins,show ¬i<d by omega,e,Ev,SF f h hn]
def SH (sc:SC):Option Bool:=match sc.rest with
 |o::_=>match o.guard with
  |some (j,_)=>match AV4 sc.all j with
   |some d=>match get sc.env d with
    |.p (.bb b)=>if At4 sc.env then some b else none
    |_=>none
   |none=>none
  |none=>none
 |[]=>none
def Ou (v:Bool)(sc:SC):SC:=match sc.rest with
 |o::_=>match o.guard with
  |some (j,_)=>match AV4 sc.all j with
   |some d=>mkO (ins d (.p (.bb v)) sc.env) sc.regs λenv regs=>⟨sc.all,sc.cls,sc.rest,env,regs,j::sc.kn⟩
   |none=>sc
  |none=>sc
 |[]=>sc
theorem AP0 (hc:pr){b:Bool}(ht:b=true->SG S P (Ou true (BB P sc)) k)(f:b=false->SG S P (Ou false (BB P sc)) k)(hp:pr=C6 (Ot P sc))(hb:SH (BB P sc)=some b):SG S P sc k:=by
 refine Ak8 hc ?_ hp;generalize BB P sc=s at hb ht f;obtain⟨all,cls,rest,env,regs,kn⟩:=s;cases rest with
 |nil=>simp[SH]at hb
 |cons o rest=>
  simp only[SH]at hb;split at hb
  .rename_i j w g;split at hb
   .rename_i d i;split at hb
    .rename_i b' a;split at hb
     .rename_i c;simp only[Bf8]at hb;subst hb;simp only[Ou,g,i,Gm]at ht f;cases b' with
      |true=>have:=ht rfl;rwa [SF c a (by simp)]at this
      |false=>have:=f rfl;rwa [SF c a (by simp)]at this
     cases hb
    cases hb
   cases hb
  cases hb
def Ov (ids:List Nat)(sc:SC):Option (FuncId×List AV×List Obj):=match sc.rest with
 |o::_=>match Ap sc.all sc.env o,o.op with
  |some true,.call c=>match c.callee with
   |.value f=>match HM sc.regs (c.args.toList.map (aev sc.env))with
    |some (as,regs)=>match QR sc.env f as with
     |some (fn,as')=>match Ef ids as',M9 ids regs ids with
      |some a,some ob=>if I1 ids&&FA ob then some (fn,a,ob)else none
      |_,_=>none
     |none=>none
    |none=>none
   |_=>none
  |_,_=>none
 |[]=>none
def Ay9 (js:List Nat):AV->Bool
 |.vec j=>js.contains j
 |.vecp j _=>js.contains j
 |_=>true
theorem Za {js:List Nat}{regs' : C0}:∀{l:List AV}{regs:C0}{as:List AV},l.all (Ay9 js)=true->HM regs l=some (as,regs')->∀q,q ∉ js->A1 regs' q=A1 regs q
 |[],regs,as,_,h,q,_=>by simp only[HM,Bf8,Bg4]at h;rw[<- h.2]
 |a::r,regs,as,hl,h,q,hq=>by
  simp only[Bp2,Bg0]at hl;simp only[HM]at h;split at h
  .rename_i x R1 h1;split at h
   .rename_i l1 R2 c;simp only[Bf8,Bg4]at h;obtain⟨_,rfl⟩:=h;rw[Za hl.2 c q hq];cases a with
    |vec j=>
     simp only at h1;split at h1
     .rename_i x2 R3 b;cases h1;exact Sw (by simpa[inJ,Ay9]using hl.1) b q hq
     cases h1
    |vecp j m=>
     simp only at h1;split at h1
     .rename_i x2 R3 b;cases h1;exact Sw (by simpa[inJ,Ay9]using hl.1) b q hq
     cases h1
    |_=>cases h1;rfl
   cases h
  cases h
def AY1 (R:C0)(a:AV):Option (AV×C0):=match a with | .vec _ | .vecp _ _=>(match Ee R a with|some (x,regs)=>some (AV.p x,regs)|none=>none)|a=>some (a,R)
theorem Ak9 (R:C0)(a:AV)(r:List AV):HM R (a::r)=match AY1 R a with
 |some (a,regs)=>match HM regs r with
  |some (l,regs)=>some (a::l,regs)
  |none=>none
 |none=>none:=rfl
theorem Az0 {js:List Nat}{a x:AV}{R R2 R' : C0}(hl:inJ js a=true)(d:∀q∈js,A1 R2 q=A1 R q)(hx:AY1 R a=some (x,R')):∃R3,AY1 R2 a=some (x,R3)/\(∀q∈js,A1 R3 q=A1 R' q)/\∀q,q ∉ js->A1 R3 q=A1 R2 q:=by
 have up:∀(i:Nat) (o:Obj),i∈js->(∀q∈js,A1 (ins i o R2) q=A1 (ins i o R) q)/\∀q,q ∉ js->A1 (ins i o R2) q=A1 R2 q:=λi o g=>
  ⟨λq f=>by rw[O0,O0,d q f],λq f=>by rw[O0,Er (by rintro rfl;exact f g)]⟩
 cases a with
 |p y=>cases hx;exact⟨R2,rfl,d,λ_ _=>rfl⟩
 |vec j=>
  have b:j∈js:=by simpa[inJ]using hl
  simp only[AY1,Ee,d j b]at hx⊢;cases c:A1 R j with
  |none=>simp[c]at hx
  |some ob=>cases ob<;>simp only[c]at hx⊢<;>first|(cases hx;exact⟨_,rfl,up _ _ b⟩)|cases hx
 |vecp j m=>
  have b:j∈js:=by simpa[inJ]using hl
  simp only[AY1,Ee,d j b]at hx⊢;cases c:A1 R j with
  |none=>simp[c]at hx
  |some ob=>cases ob<;>simp only[c]at hx⊢<;>first|(cases hx;exact⟨_,rfl,up _ _ b⟩)|cases hx
 |_=>cases hl
theorem SI {js:List Nat}:∀{l:List AV}{R R2 R1:C0}{as:List AV},l.all (inJ js)=true->(∀q∈js,A1 R2 q=A1 R q)->HM R l=some (as,R1) ->
 ∃R3,HM R2 l=some (as,R3)/\(∀q∈js,A1 R3 q=A1 R1 q)/\∀q,q ∉ js->A1 R3 q=A1 R2 q
 |[],R,R2,R1,as,_,h2,h=>by simp only[HM,Bf8,Bg4]at h;obtain⟨rfl,rfl⟩:=h;exact⟨R2,rfl,h2,λ_ _=>rfl⟩
 |a::r,R,R2,R1,as,hl,h2,h=>by
  simp only[Bp2,Bg0]at hl;simp only[Ak9]at h⊢;split at h
  .rename_i x R' hx;obtain⟨R3,e1,e2,e3⟩:=Az0 hl.1 h2 hx;split at h
   .rename_i l1 R'' c;simp only[Bf8,Bg4]at h;obtain⟨rfl,rfl⟩:=h;obtain⟨R4,f1,f2,f3⟩:=SI hl.2 e2 c;exact⟨R4,by simp only[e1,f1],f2,λq b=>(f3 q b).trans (e3 q b)⟩
   cases h
  cases h
theorem Ow {m:List Nat}:∀{ids:List Nat}{objs:List Obj}{A B:C0}{q:Nat},A1 A q=A1 B q->A1 (back m ids objs A) q=A1 (back m ids objs B) q
 |[],_,_,_,_,h=>h
 |_::_,[],_,_,_,h=>h
 |j::ids,o::objs,A,B,q,h=>by simp only[back];exact Ow (by rw[O0,O0,h])
theorem AP1 {all:List Oper}{k:Env->C0->Prop}{js:List Nat}{cls:List Cls}{o:Oper}{rest:List Oper}{env:Env}{regs regs1:C0}{c:Call}{f:Operand}{as:List AV}{fn:FuncId}{as' args:List AV}{objs' : List Obj}{ks:List Bool}{r:AV}
 (j:Ap all env o=some true) (l:o.op=.call c) (m:c.callee=.value f) (g:(c.args.toList.map (aev env)).all (inJ js)=true)
 (ha:HM regs (c.args.toList.map (aev env))=some (as,regs1)) (hw:QR env f as=some (fn,as')) (n:Ef [] as' = some args) (s:FunO S fn args [] r objs' ks)
 (d:((H3 (o.dst.getD 0) [] ks objs'.length).all λq=>js.contains q)=true) (hn:X2 regs1 [] ks (o.dst.getD 0) objs'.length=true)
 (hk:Kt S P all cls rest (NA o.dst (unA (H3 (o.dst.getD 0) [] ks objs'.length) r) env) (back (H3 (o.dst.getD 0) [] ks objs'.length) (H3 (o.dst.getD 0) [] ks objs'.length) objs' (K8 [] ks regs1)) k) :
 Kt S P all (.a js::cls) (o::rest) env regs k:=by
 have i:∀q,q ∉ js->q ∉ H3 (o.dst.getD 0) [] ks objs'.length:=λq b h=>b (by simpa using Bg7.1 d q h);refine⟨true,j,?_⟩;rw[Ej rfl];refine⟨_,_,.inr (.inr (.inr (.inr ⟨js,rfl,λq b=>?_,λR2 t=>?_⟩))),hk⟩
 .rw[IR (i q b)];obtain⟨R3,e1,_,e3⟩:=SI (R2:=regs) g (λ_ _=>rfl) ha;rw[ha]at e1;cases e1;exact e3 q b
 obtain⟨R3,e1,e2,e3⟩:=SI g t ha;refine⟨_,.inl ⟨c,f,as,R3,fn,as',args,[],objs',ks,r,[],l,m,e1,hw,n,rfl,s,rfl,rfl,?_,rfl,rfl⟩,λq b=>Ow (e2 q b),λq b=>(IR (i q b)).trans (e3 q b)⟩;unfold X2 at hn⊢;rw[Bg7]at hn⊢;intro p hp;have h1:=hn p hp;have u:nid (o.dst.getD 0) p∈js:=by
  have:=Bg7.1 d (nid (o.dst.getD 0) p) (by unfold H3;exact Bl0.2 ⟨p,hp,rfl⟩)
  simpa using this
 show (A1 R3 (nid (o.dst.getD 0) p)).isNone=true;rw[e2 _ u];exact h1
def Ox (ids:List Nat)(ks:List Bool)(n:Nat)(sc:SC):Bool:=match sc.cls,sc.rest with
 |.w::_,o::_=>match o.op with
  |.call c=>match HM sc.regs (c.args.toList.map (aev sc.env))with
   |some (_,regs)=>X2 regs ids ks (o.dst.getD 0) n
   |none=>false
  |_=>false
 |.b js::_,o::_=>match o.op with
  |.call c=>match HM sc.regs (c.args.toList.map (aev sc.env))with
   |some (_,regs)=>((c.args.toList.map (aev sc.env)).all (Ay9 js)&&ids.isEmpty)&&(((H3 (o.dst.getD 0) ids ks n).all λq=>js.contains q)&&X2 regs ids ks (o.dst.getD 0) n)
   |none=>false
  |_=>false
 |.a js::_,o::_=>match o.op with
  |.call c=>match HM sc.regs (c.args.toList.map (aev sc.env))with
   |some (_,regs)=>((c.args.toList.map (aev sc.env)).all (inJ js)&&ids.isEmpty)&&(((H3 (o.dst.getD 0) ids ks n).all λq=>js.contains q)&&X2 regs ids ks (o.dst.getD 0) n)
   |none=>false
  |_=>false
 |_,_=>false
def Oy (ids:List Nat)(ks:List Bool)(r:AV)(objs' : List Obj)(sc:SC):SC:=match sc.rest with
 |o::rest=>match o.op with
  |.call c=>match HM sc.regs (c.args.toList.map (aev sc.env))with
   |some (_,regs)=>Ay8 o.dst (unA (H3 (o.dst.getD 0) ids ks objs'.length) r) sc.env
    (back (H3 (o.dst.getD 0) ids ks objs'.length) (H3 (o.dst.getD 0) ids ks objs'.length) objs' (K8 ids ks regs)) λenv regs=>⟨sc.all,sc.cls.tail,rest,env,regs,sc.kn⟩
   |none=>sc
  |_=>sc
 |[]=>sc
theorem AY2 (ids:List Nat)(hc:pr){fn:FuncId}{args:List AV}{objs objs' : List Obj}{r:AV}{ks:List Bool}(u:FunO S fn args objs r objs' ks)
 (hk:SG S P (Oy ids ks r objs' (BB P sc)) k) (hp:pr=C6 (Ot P sc):=by kernel_rfl) (d:Ov ids (BB P sc)=some (fn,args,objs):=by kernel_rfl) (hn:Ox ids ks objs'.length (BB P sc)=true:=by kernel_rfl):SG S P sc k:=by
 refine Ak8 hc ?_ hp;generalize BB P sc=s at d hn hk;obtain⟨all,cls,rest,env,regs,kn⟩:=s;cases rest with
 |nil=>simp[Ov]at d
 |cons o rest=>
  simp only[Ov]at d;split at d
  .rename_i c v g;split at d
   .rename_i i;split at d
    .rename_i ha;split at d
     .rename_i hw;split at d
      .rename_i x j;split at d
       .rename_i f;cases d;simp only[Bg0]at f;cases cls with
        |nil=>simp[Ox]at hn
        |cons cl cls=>
         cases cl with
         |w=>simp only[Ox,g,ha]at hn;simp only[Oy,g,ha,EW,Bm9]at hk;exact Ak2 ids (.inl rfl) v g i ha hw x j u f.1 f.2 hn hk
         |b js=>simp only[Ox,g,ha,Bg0,Bw3]at hn;obtain⟨⟨l,m⟩,n,t⟩:=hn;subst m;simp only[Oy,g,ha,EW,Bm9]at hk;refine Ak2 [] (.inr ⟨js,rfl,λq y=>?_⟩) v g i ha hw x j u f.1 f.2 t hk;rw[IR (λh=>y (by simpa using Bg7.1 n q h))];exact Za l ha q y
         |a js=>simp only[Ox,g,ha,Bg0,Bw3]at hn;obtain⟨⟨l,m⟩,n,t⟩:=hn;subst m;simp only[Oy,g,ha,EW,Bm9]at hk;cases j;exact AP1 v g i l ha hw x u n t hk
         |_=>simp[Ox]at hn
       cases d
      cases d
     cases d
    cases d
   cases d
  cases d
def Zb (sc:SC):Bool:=match sc.cls,sc.rest with
 |_::_,o::_=>match o.op with
  |.call c=>(c.args.toList.map (aev sc.env)).all Aj7
  |_=>false
 |_,_=>false
def Zc (sc:SC):Option (FuncId×List AV):=match sc.rest with
 |o::_=>match Ap sc.all sc.env o,o.op with
  |some true,.call c=>match c.callee with
   |.value f=>match QR sc.env f (c.args.toList.map (aev sc.env))with
    |some (fn,as')=>match Ef [] as' with
     |some a=>some (fn,a)
     |none=>none
    |none=>none
   |_=>none
  |_,_=>none
 |[]=>none
def Al0 (r:AV)(sc:SC):SC:=match sc.rest with
 |o::rest=>Ay8 o.dst (unA [] r) sc.env sc.regs λenv regs=>⟨sc.all,sc.cls.tail,rest,env,regs,sc.kn⟩
 |[]=>sc
theorem AY3 (hc:pr){fn:FuncId}{args:List AV}{r:AV}(f:FunO S fn args [] r [] [])
 (hk:SG S P (Al0 r (BB P sc)) k) (hp:pr=C6 (Ot P sc):=by kernel_rfl) (a:Zc (BB P sc)=some (fn,args):=by kernel_rfl) (hn:Zb (BB P sc)=true:=by kernel_rfl):SG S P sc k:=by
 refine Ak8 hc ?_ hp;generalize BB P sc=s at a hn hk;obtain⟨all,cls,rest,env,regs,kn⟩:=s;cases rest with
 |nil=>simp[Zc]at a
 |cons o rest=>
  cases cls with
  |nil=>simp[Zb]at hn
  |cons cl cls=>
   simp only[Zc]at a;split at a
   .rename_i c g d;split at a
    .rename_i b;split at a
     .rename_i hw;split at a
      .rename_i i;cases a;simp only[Zb,d]at hn;simp only[Al0,EW,Bm9]at hk;exact AW9 g d b hn hw i f hk
      cases a
     cases a
    cases a
   cases a
def GN (P:Program)(sc:SC):Option (List Prop×PV):=match sc.cls,sc.rest with
 |_::_,o::_=>match Ap sc.all sc.env o with
  |some true=>PT P sc.env o.op
  |_=>none
 |_,_=>none
def Xh (x:PV)(sc:SC):SC:=match sc.rest with
 |o::rest=>Ay8 o.dst (.p x) sc.env sc.regs λenv regs=>⟨sc.all,sc.cls.tail,rest,env,regs,sc.kn⟩
 |[]=>sc
theorem AP2 (hc:pr){x:PV}(hk:SG S P (Xh x (BB P sc)) k)(hp:pr=C6 (Ot P sc):=by kernel_rfl)(a:(GN P (BB P sc)).map (·.2)=some x:=by kernel_rfl)(b:((GN P (BB P sc)).map λq=>C6 q.1)=some (true=true):=by kernel_rfl):SG S P sc k:=by
 refine Ak8 hc ?_ hp;generalize BB P sc=s at a b hk;obtain⟨all,cls,rest,env,regs,kn⟩:=s;cases rest with
 |nil=>cases cls<;>simp[GN]at a
 |cons o rest=>
  cases cls with
  |nil=>simp[GN]at a
  |cons cl cls=>
   cases d:Ap all env o with
   |none=>simp[GN,d]at a
   |some bb=>
    cases bb with
    |false=>simp[GN,d]at a
    |true=>
     simp only[GN,d]at a b;cases ha:PT P env o.op with
     |none=>rw[ha]at a;cases a
     |some q=>obtain⟨c,y⟩:=q;rw[ha]at a b;simp only[Bg8,Bf8]at a b;subst a;simp only[Xh,EW,Bm9]at hk;exact Ax0 d ha (by rw[b];trivial) hk
def Oz (P:Program)(sc:SC):Option LookI:=match sc.cls,sc.rest with
 |cl::_,o::_=>match Ap sc.all sc.env o,o.op with
  |some true,.lookup t m q _=>match Ee sc.regs (aev sc.env q),aev sc.env m with
   |some (key,regs),.mref j=>match A1 regs j,tk P t with
    |some (.map es),some (.map kt e)=>if (Gf P kt key&&UI cl sc.env (o.dst.getD 0) o.op) then some ⟨kt,e,key,es⟩else none
    |_,_=>none
   |_,_=>none
  |_,_=>none
 |_,_=>none
def UR (x:PV)(b:Bool)(sc:SC):SC:=match sc.rest with
 |o::rest=>match o.op with
  |.lookup _ _ q ok=>match Ee sc.regs (aev sc.env q)with
   |some (_,regs)=>Ay8 o.dst (if ok then .tup [.p x,.bool b]else .p x) sc.env regs λenv regs=>⟨sc.all,sc.cls.tail,rest,env,regs,sc.kn⟩
   |none=>sc
  |_=>sc
 |[]=>sc
theorem Az1 (hc:pr){kt e:TypeId}{key:PV}{es:List (PV×PV)}{x:PV}{b:Bool}{fd:Option PV}
 (j:find (HF P kt) key es=some fd) (g:C6 (Hl P kt)) (hk:SG S P (UR x b (BB P sc)) k) (hp:pr=C6 (Ot P sc):=by kernel_rfl) (a:Oz P (BB P sc)=some ⟨kt,e,key,es⟩:=by kernel_rfl) (hx:UP P e fd=some (x,b):=by kernel_rfl):SG S P sc k:=by
 refine Ak8 hc ?_ hp;generalize BB P sc=s at a hk;obtain⟨all,cls,rest,env,regs,kn⟩:=s;cases rest with
 |nil=>cases cls<;>simp[Oz]at a
 |cons o rest=>
  cases cls with
  |nil=>simp[Oz]at a
  |cons cl cls=>
   simp only[Oz]at a;split at a
   .rename_i l f;split at a
    .rename_i i hm;split at a
     .rename_i m ht;split at a
      .rename_i c;simp only[Bf8,LookI.mk.injEq]at a;obtain⟨rfl,rfl,rfl,rfl⟩:=a;simp only[Bg0]at c;simp only[UR,f,i,EW,Bm9]at hk;have d:=c.2;simp only[f]at d;cases fd with
       |some y=>exact YV (fd:=some y) l f i hm m ht c.1 j hx g (by rw[f];exact d) hk
       |none=>exact YV (fd:=none) l f i hm m ht c.1 j hx g (by rw[f];exact d) hk
      cases a
     cases a
    cases a
   cases a
def US (P:Program)(sc:SC):Option (TypeId×PV×PV×List (PV×PV)):=match sc.cls,sc.rest with
 |.w::_,o::_=>match Ap sc.all sc.env o,o.op with
  |some true,.mapUpdate t m q x=>match aev sc.env q,aev sc.env m,Ee sc.regs (aev sc.env x)with
   |.p key,.mref j,some (y,regs)=>match A1 regs j,tk P t with
    |some (.map es),some (.map kt _)=>if Gf P kt (nP key) then some (kt,nP key,y,es)else none
    |_,_=>none
   |_,_,_=>none
  |_,_=>none
 |_,_=>none
def Az2 (es' : List (PV×PV))(sc:SC):SC:=match sc.rest with
 |o::rest=>match o.op with
  |.mapUpdate _ m _ x=>match aev sc.env m,Ee sc.regs (aev sc.env x)with
   |.mref j,some (_,regs)=>Ay8 o.dst Kv sc.env (ins j (.map es') regs) λenv regs=>⟨sc.all,sc.cls.tail,rest,env,regs,sc.kn⟩
   |_,_=>sc
  |_=>sc
 |[]=>sc
theorem Az3 (hc:pr){kt:TypeId}{key y:PV}{es es' : List (PV×PV)}
 (i:upd (HF P kt) key y es=some es') (b:C6 (Hl P kt)) (hk:SG S P (Az2 es' (BB P sc)) k) (hp:pr=C6 (Ot P sc):=by kernel_rfl) (a:US P (BB P sc)=some (kt,key,y,es):=by kernel_rfl):SG S P sc k:=by
 refine Ak8 hc ?_ hp;generalize BB P sc=s at a hk;obtain⟨all,cls,rest,env,regs,kn⟩:=s;cases rest with
 |nil=>cases cls with
  |nil=>simp[US]at a
  |cons cl cls=>cases cl<;>simp[US]at a
 |cons o rest=>
  cases cls with
  |nil=>simp[US]at a
  |cons cl cls=>
   cases cl with
   |w=>
    simp only[US]at a;split at a
    .rename_i j d;split at a
     .rename_i h1 f g;split at a
      .rename_i l ht;split at a
       .rename_i c;simp only[Bf8,Bg4]at a;obtain⟨rfl,rfl,rfl,rfl⟩:=a;simp only[Az2,d,f,g,EW,Bm9]at hk;exact Xg j d h1 g f l ht c i b hk
       cases a
      cases a
     cases a
    cases a
   |_=>simp[US]at a
end
end
structure KG (S:V2) (P:Program) (F:M8) (g:Cfg):Prop where
 out:G S P F g
structure DG (S:V2) (P:Program) (sc:SC) (k:Env->C0->Prop):Prop where
 out:SG S P sc k
structure KLe (ids:List (Nat×Nat)) (s t:St):Prop where
 out:Le ids s t
section
variable {S:V2}{P:Program}{F:M8}{g:Cfg}{pr:Prop}
theorem kl {ids:List (Nat×Nat)}{s t:St}(h:(leK ids s t).map (·.map Leaf.src)=(leK ids s t).map (·.map Leaf.tgt):=by kernel_rfl)(h1:(leK ids s t).isSome=true:=by kernel_rfl):KLe ids s t:=⟨kle h h1⟩
theorem klR {ids:List (Nat×Nat)}{s t:St}(rs:List (Nat×Leaf))(a:∀q∈rs,q.2.ok)(h:(leK ids s t).map (Ay5 (rs.map (·.1)) Leaf.src)=(leK ids s t).map (Ay5 (rs.map (·.1)) Leaf.tgt):=by kernel_rfl)
 (b:(leK ids s t).map (λL=>rs.map λq=>L[q.1]?)=some (rs.map λq=>some q.2):=by kernel_rfl):KLe ids s t:=⟨kleR rs a h b⟩
theorem C8 (hS:G7 S P)(hc:pr){b:Bool}(ht:b=true->KG S P F (AO4 (stp P g)))(a:b=false->KG S P F (AO5 (stp P g)))(hp:pr=C6 (cnd P g):=by kernel_rfl)(hb:Ax8 (stp P g)=some b:=by kernel_rfl):KG S P F g:=
 ⟨AX6 hS hc (λh=>(ht h).out) (λh=>(a h).out) hp hb⟩
theorem GO (hS:G7 S P)(hc:pr){b:Bool}(ht:b=true->KG S P F (Oo true (stp P g)))(a:b=false->KG S P F (Oo false (stp P g)))(hp:pr=C6 (cnd P g):=by kernel_rfl)(hb:YW (stp P g)=some b:=by kernel_rfl):KG S P F g:=
 ⟨AO7 hS hc (λh=>(ht h).out) (λh=>(a h).out) hp hb⟩
theorem B4 (hS:G7 S P)(ids:List Nat)(hc:pr){fn:FuncId}{args:List AV}{objs objs' : List Obj}{r:AV}{ks:List Bool}(a:FunO S fn args objs r objs' ks)(hk:KG S P F (Ax9 ids ks r objs' (stp P g)))
 (hp:pr=C6 (cnd P g):=by kernel_rfl) (b:Ab3 ids (stp P g)=some (fn,args,objs):=by kernel_rfl) (hn:Ab4 ids ks objs'.length (stp P g)=true:=by kernel_rfl):KG S P F g:=⟨AX7 hS ids hc a hk.out hp b hn⟩
theorem Zd (hS:G7 S P)(hc:pr){kt e:TypeId}{key:PV}{es:List (PV×PV)}{x:PV}{b:Bool}{fd:Option PV}(c:find (HF P kt) key es=some fd)(a:C6 (Hl P kt))(hk:KG S P F (Ak7 x b (stp P g)))
 (hp:pr=C6 (cnd P g):=by kernel_rfl) (d:Ak6 P (stp P g)=some ⟨kt,e,key,es⟩:=by kernel_rfl) (hx:UP P e fd=some (x,b):=by kernel_rfl):KG S P F g:=⟨Ay6 hS hc c a hk.out hp d hx⟩
theorem Az4 (hS:G7 S P)(hc:pr){kt:TypeId}{key y:PV}{es es' : List (PV×PV)}(b:upd (HF P kt) key y es=some es')(a:C6 (Hl P kt))(hk:KG S P F (Bf0 es' (stp P g)))
 (hp:pr=C6 (cnd P g):=by kernel_rfl) (c:Be9 P (stp P g)=some (kt,key,y,es):=by kernel_rfl):KG S P F g:=⟨Ay7 hS hc b a hk.out hp c⟩
theorem KQ (hS:G7 S P)(hc:pr)(st:St){ids:List (Nat×Nat)}(hk:KG S P F (opsS st (stp P g)))(hp:pr=C6 (cnd P g):=by kernel_rfl)(a:Ka (stp P g)=true:=by kernel_rfl)(hle:KLe ids (stp P g).st st:=by exact kl):KG S P F g:=
 ⟨AX8 hS hc st hk.out hp a hle.out⟩
theorem Xi (hS:G7 S P)(hc:pr)(b:∀s,S.up s (F .normal)->F .normal s)(n:Nat)(s:St)
 (h1:∀(M:St->Prop),(∀(g' : Cfg) (ids:List (Nat×Nat)) (pr:Prop),pr->(hp:pr=C6 (cnd P g'):=by kernel_rfl)->(a:stp P g' = .pop .normal (.mid M::(stp P g).k.drop n) (stp P g').st:=by kernel_rfl)->(hle:KLe ids (stp P g').st s:=by exact kl)->KG S P F g')->KG S P F (AX5 n M (stp P g)))
 (c:KG S P F (.pop .normal ((stp P g).k.drop n) s)) (hp:pr=C6 (cnd P g):=by kernel_rfl) (hn:Nat.ble n (stp P g).k.length=true:=by kernel_rfl):KG S P F g:=
 ⟨J_cut hS hc b n s (λM hb=>(h1 M λg' ids pr hc hp a hle=>⟨hb g' ids pr hc hp a hle.out⟩).out) c.out hp hn⟩
theorem Mv (hS:G7 S P)(hc:pr)(c:∀s,S.up s (F .normal)->F .normal s){R A:Type}{f:(A->Option R)->Option R}{k0:A->Option R}{r:R}(h:lt k0 f=some r)(n:Nat)(s:A->St)
 (h1:∀(M:St->Prop) (k:A->Option R),(∀(g' : Cfg) (ids:List (Nat×Nat)) (pr:Prop) (a:A),pr->k a=some r->(hp:pr=C6 (cnd P g'):=by kernel_rfl)->(b:stp P g' = .pop .normal (.mid M::(stp P g).k.drop n) (stp P g').st:=by kernel_rfl)->(hle:KLe ids (stp P g').st (s a):=by exact kl)->KG S P F g')->f k=some r->KG S P F (AX5 n M (stp P g)))
 (d:∀a,k0 a=some r->KG S P F (.pop .normal ((stp P g).k.drop n) (s a))) (hp:pr=C6 (cnd P g):=by kernel_rfl) (hn:Nat.ble n (stp P g).k.length=true:=by kernel_rfl):KG S P F g:=
 ⟨J_lt hS hc c h n s (λM k hb i=>(h1 M k (λg' ids pr a hc hk hp b hle=>⟨hb g' ids pr a hc hk hp b hle.out⟩) i).out) (λa hk=>(d a hk).out) hp hn⟩
theorem Q0 (hS:G7 S P)(hc:pr){R A:Type}{body:(A->Option R)->A->Option R}{N:Nat}{a0:A}{r:R}(h:X4 N body a0=some r)(s:A->St){ids:List (Nat×Nat)}
 (i:∀(X:Type) (s' : X->St) (J:X->Prop) (m:X->Nat) (n:Nat) (b:A->Option R) (a:A),
  (∀(g' : Cfg) (ids:List (Nat×Nat)) (pr:Prop) (a:A),pr->b a=some r->(hp:pr=C6 (cnd P g'):=by kernel_rfl)->(f:stp P g' = .pop .normal (.lp X s' J m n::(stp P g).k) (stp P g').st:=by kernel_rfl)->(hle:KLe ids (stp P g').st (s a):=by exact kl)->KG S P F g') ->
  body b a=some r->KG S P F (.code (PZ (stp P g)) (.lp X s' J m n::(stp P g).k) (s a))) (hp:pr=C6 (cnd P g):=by kernel_rfl) (hl:HX (stp P g)=true:=by kernel_rfl) (hle:KLe ids (stp P g).st (s a0):=by exact kl):KG S P F g:=
 ⟨AX9 hS hc h s (λX s' J m n b a hb c=>(i X s' J m n b a (λg' ids pr a hc d hp f hle=>⟨hb g' ids pr a hc d hp f hle.out⟩) c).out) hp hl hle.out⟩
theorem H4 (hS:G7 S P)(hc:pr){R A B:Type}{body:(A->B->Option R)->A->B->Option R}{N:Nat}{a0:A}{b0:B}{r:R}(h:BA N body a0 b0=some r)(s:A->B->St){ids:List (Nat×Nat)}
 (d:∀(X:Type) (s' : X->St) (J:X->Prop) (m:X->Nat) (n:Nat) (c:A->B->Option R) (a:A) (b:B),
  (∀(g' : Cfg) (ids:List (Nat×Nat)) (pr:Prop) (a:A) (b:B),pr->c a b=some r->(hp:pr=C6 (cnd P g'):=by kernel_rfl)->(o:stp P g' = .pop .normal (.lp X s' J m n::(stp P g).k) (stp P g').st:=by kernel_rfl)->(hle:KLe ids (stp P g').st (s a b):=by exact kl)->KG S P F g') ->
  body c a b=some r->KG S P F (.code (PZ (stp P g)) (.lp X s' J m n::(stp P g).k) (s a b))) (hp:pr=C6 (cnd P g):=by kernel_rfl) (hl:HX (stp P g)=true:=by kernel_rfl) (hle:KLe ids (stp P g).st (s a0 b0):=by exact kl):KG S P F g:=
 Q0 hS hc h (λx=>s x.1 x.2) (λX s' J m n c a hb=>d X s' J m n (λa b=>c (a,b)) a.1 a.2 λg' ids pr a b h1 f i j l=>hb g' ids pr (a,b) h1 f i j l) hp hl hle
theorem Mw (hS:G7 S P)(hc:pr){R A B C:Type}{body:(A->B->C->Option R)->A->B->C->Option R}{N:Nat}{a0:A}{b0:B}{c0:C}{r:R}(h:At0 N body a0 b0 c0=some r)(s:A->B->C->St){ids:List (Nat×Nat)}
 (f:∀(X:Type) (s' : X->St) (J:X->Prop) (m:X->Nat) (n:Nat) (d:A->B->C->Option R) (a:A) (b:B) (c:C),
  (∀(g' : Cfg) (ids:List (Nat×Nat)) (pr:Prop) (a:A) (b:B) (c:C),pr->d a b c=some r->(hp:pr=C6 (cnd P g'):=by kernel_rfl)->(q:stp P g' = .pop .normal (.lp X s' J m n::(stp P g).k) (stp P g').st:=by kernel_rfl)->(hle:KLe ids (stp P g').st (s a b c):=by exact kl)->KG S P F g') ->
  body d a b c=some r->KG S P F (.code (PZ (stp P g)) (.lp X s' J m n::(stp P g).k) (s a b c))) (hp:pr=C6 (cnd P g):=by kernel_rfl) (hl:HX (stp P g)=true:=by kernel_rfl) (hle:KLe ids (stp P g).st (s a0 b0 c0):=by exact kl):KG S P F g:=
 Q0 hS hc h (λx=>s x.1 x.2.1 x.2.2) (λX s' J m n d a hb=>f X s' J m n (λa b c=>d (a,b,c)) a.1 a.2.1 a.2.2 λg' ids pr a b c h1 i j l o=>hb g' ids pr (a,b,c) h1 i j l o) hp hl hle
theorem AY4 (hS:G7 S P)(hc:pr){R A B C D E F' : Type}{body:(A->B->C->D->E->F' -> Option R)->A->B->C->D->E->F' -> Option R}{N:Nat}{a0:A}{b0:B}{c0:C}{d0:D}{e0:E}{f0:F'}{r:R}(h:fix6 N body a0 b0 c0 d0 e0 f0=some r)(s:A->B->C->D->E->F' -> St){ids:List (Nat×Nat)}
 (j:∀(X:Type) (s' : X->St) (J:X->Prop) (m:X->Nat) (n:Nat) (i:A->B->C->D->E->F' -> Option R) (a:A) (b:B) (c:C) (d:D) (e:E) (f:F'),
  (∀(g' : Cfg) (ids:List (Nat×Nat)) (pr:Prop) (a:A) (b:B) (c:C) (d:D) (e:E) (f:F'),pr->i a b c d e f=some r->(hp:pr=C6 (cnd P g'):=by kernel_rfl)->(u:stp P g' = .pop .normal (.lp X s' J m n::(stp P g).k) (stp P g').st:=by kernel_rfl)->(hle:KLe ids (stp P g').st (s a b c d e f):=by exact kl)->KG S P F g') ->
  body i a b c d e f=some r->KG S P F (.code (PZ (stp P g)) (.lp X s' J m n::(stp P g).k) (s a b c d e f))) (hp:pr=C6 (cnd P g):=by kernel_rfl) (hl:HX (stp P g)=true:=by kernel_rfl) (hle:KLe ids (stp P g).st (s a0 b0 c0 d0 e0 f0):=by exact kl):KG S P F g:=
 Q0 hS hc h (λx=>s x.1 x.2.1 x.2.2.1 x.2.2.2.1 x.2.2.2.2.1 x.2.2.2.2.2) (λX s' J m n i a hb=>j X s' J m n (λa b c d e f=>i (a,b,c,d,e,f)) a.1 a.2.1 a.2.2.1 a.2.2.2.1 a.2.2.2.2.1 a.2.2.2.2.2 λg' ids pr a b c d e f h1 l o q t=>hb g' ids pr (a,b,c,d,e,f) h1 l o q t) hp hl hle
theorem Al1 (hS:G7 S P)(hc:pr){n:Nat}{rs:List ResultVar}{Q:ARes->List Obj->List Bool->Prop}{a:AV}{objs:List Obj}(outs:List Nat)(b:Q (.ret a) objs (FF n outs))(hp:pr=C6 (cnd P g):=by kernel_rfl)
 (c:(Ay0 (stp P g)).bind (λst=>SE P st rs outs)=some (a,objs):=by kernel_rfl):KG S P (CH S P n rs Q) g:=⟨J_ret hS hc outs b hp c⟩
theorem J6 (hS:G7 S P)(hc:pr){n:Nat}{rs:List ResultVar}{Q:ARes->List Obj->List Bool->Prop}{a:AV}{objs:List Obj}(st:St)(outs:List Nat){ids:List (Nat×Nat)}(b:Q (.ret a) objs (FF n outs))(hp:pr=C6 (cnd P g):=by kernel_rfl)
 (c:(Ay0 (stp P g)).isSome=true:=by kernel_rfl) (hle:KLe ids (stp P g).st st:=by exact kl) (d:SE P st rs outs=some (a,objs):=by kernel_rfl):KG S P (CH S P n rs Q) g:=⟨AY0 hS hc st outs b hp c hle.out d⟩
theorem A2 (hS:G7 S P){f:FuncId}{fn:Func}{args:List AV}{objs objs' : List Obj}{ks:List Bool}{r:AV}(c:P.funcs[f]? = some fn)
 (h:KG S P (CH S P objs.length fn.results.toList λres o k=>res=.ret r/\o=objs' /\ k=ks) (.code (fn.body.getD .skip) [] { env:=argEnv args,regs:=objRegs objs }))
 (hc:fn.body.isSome=true:=by kernel_rfl) (hn:Nat.ble args.length fn.ntmps=true:=by kernel_rfl) (d:Nat.blt objs.length 1000=true:=by kernel_rfl)
 (a:BC fn.ntmps (fn.body.getD .skip)=true:=by kernel_rfl) (b:(fn.name == "runtime.NumGoroutine")=false:=by kernel_rfl):FunO S f args objs r objs' ks:=AO8 hS c h.out hc hn d a b
theorem EX (hS:G7 S P)(hc:pr)(h:DG S P (HY (stp P g)) λenv regs=>KG S P F (.pop .normal (stp P g).k ⟨env,regs⟩))(hp:pr=C6 (cnd P g):=by kernel_rfl)(c:Di (stp P g)=true:=by kernel_rfl)(a:P.follows .mixedOrders=true:=by kernel_rfl)
 (b:Ms (HY (stp P g)).all (HY (stp P g)).cls=true:=by kernel_rfl):KG S P F g:=by
 have e:(λenv regs=>KG S P F (.pop .normal (stp P g).k ⟨env,regs⟩))=λenv regs=>G S P F (.pop .normal (stp P g).k ⟨env,regs⟩):=by funext env regs;exact propext ⟨λh=>h.out,λh=>⟨h⟩⟩
 rw[e]at h;exact⟨AO9 hS hc h.out hp c a b⟩
section
variable {sc:SC}{k:Env->C0->Prop}
theorem D2 (hc:pr)(h:k (BB P sc).env (BB P sc).regs)(hp:pr=C6 (Ot P sc):=by kernel_rfl)(a:(BB P sc).rest.isEmpty=true:=by kernel_rfl):DG S P sc k:=⟨C_end hc h hp a⟩
theorem T2 (hc:pr){b:Bool}(ht:b=true->DG S P (Ou true (BB P sc)) k)(a:b=false->DG S P (Ou false (BB P sc)) k)(hp:pr=C6 (Ot P sc):=by kernel_rfl)(hb:SH (BB P sc)=some b:=by kernel_rfl):DG S P sc k:=
 ⟨AP0 hc (λh=>(ht h).out) (λh=>(a h).out) hp hb⟩
theorem OA (ids:List Nat)(hc:pr){fn:FuncId}{args:List AV}{objs objs' : List Obj}{r:AV}{ks:List Bool}(a:FunO S fn args objs r objs' ks)(hk:DG S P (Oy ids ks r objs' (BB P sc)) k)
 (hp:pr=C6 (Ot P sc):=by kernel_rfl) (b:Ov ids (BB P sc)=some (fn,args,objs):=by kernel_rfl) (hn:Ox ids ks objs'.length (BB P sc)=true:=by kernel_rfl):DG S P sc k:=⟨AY2 ids hc a hk.out hp b hn⟩
theorem G4 (hc:pr){fn:FuncId}{args:List AV}{r:AV}(a:FunO S fn args [] r [] [])(hk:DG S P (Al0 r (BB P sc)) k)(hp:pr=C6 (Ot P sc):=by kernel_rfl)(b:Zc (BB P sc)=some (fn,args):=by kernel_rfl)(hn:Zb (BB P sc)=true:=by kernel_rfl):DG S P sc k:=
 ⟨AY3 hc a hk.out hp b hn⟩
theorem N3 (hc:pr){x:PV}(hk:DG S P (Xh x (BB P sc)) k)(hp:pr=C6 (Ot P sc):=by kernel_rfl)(b:(GN P (BB P sc)).map (·.2)=some x:=by kernel_rfl)(a:((GN P (BB P sc)).map λq=>C6 q.1)=some (true=true):=by kernel_rfl):DG S P sc k:=⟨AP2 hc hk.out hp b a⟩
theorem Ze (hc:pr){kt e:TypeId}{key:PV}{es:List (PV×PV)}{x:PV}{b:Bool}{fd:Option PV}(c:find (HF P kt) key es=some fd)(a:C6 (Hl P kt))(hk:DG S P (UR x b (BB P sc)) k)
 (hp:pr=C6 (Ot P sc):=by kernel_rfl) (d:Oz P (BB P sc)=some ⟨kt,e,key,es⟩:=by kernel_rfl) (hx:UP P e fd=some (x,b):=by kernel_rfl):DG S P sc k:=⟨Az1 hc c a hk.out hp d hx⟩
theorem Az5 (hc:pr){kt:TypeId}{key y:PV}{es es' : List (PV×PV)}(b:upd (HF P kt) key y es=some es')(a:C6 (Hl P kt))(hk:DG S P (Az2 es' (BB P sc)) k)
 (hp:pr=C6 (Ot P sc):=by kernel_rfl) (c:US P (BB P sc)=some (kt,key,y,es):=by kernel_rfl):DG S P sc k:=⟨Az3 hc b a hk.out hp c⟩
end
end
end Go.AM
namespace Go.AM
section
variable {S:V2}{P:Program}{F:M8}{g:Cfg}{pr:Prop}
def yldE:Cfg->Option (List PV×List (List PV))
 |.ops all (o::_) _ st=>match BD all st.env o,o.op with
  |some true,.call c=>match c.callee with
   |.value f=>match aev st.env f,Gc st.regs (c.args.toList.map (aev st.env))with
    |.yf j,some (xs,regs)=>match A1 regs j with
     |some (.yld (ys::rest) true)=>if FQ j regs=true/\xs.length=ys.length then some (xs,ys::rest)else none
     |_=>none
    |_,_=>none
   |_=>none
  |_,_=>none
 |_=>none
def AY5 (b:Bool)(rest:List (List PV)):Cfg->Cfg
 |.ops all (o::ops) K st=>match o.op with
  |.call c=>match c.callee with
   |.value f=>match aev st.env f,Gc st.regs (c.args.toList.map (aev st.env))with
    |.yf j,some (_,regs)=>Ab2 o.dst (.p (.bb b)) st.env (ins j (.yld rest b) regs) λst=>.ops all ops K st
    |_,_=>.ops all (o::ops) K st
   |_=>.ops all (o::ops) K st
  |_=>.ops all (o::ops) K st
 |g=>g
theorem UT:∀l:List PV,AK8 l l
 |[]=>trivial
 |x::l=>⟨.inl rfl,UT l⟩
theorem AP3 (hS:G7 S P)(hc:pr){ys:List PV}{rest:List (List PV)}(ht:G S P F (AY5 true rest (stp P g)))(d:G S P F (AY5 false [] (stp P g)))(hp:pr=C6 (cnd P g))(a:yldE (stp P g)=some (ys,ys::rest)):G S P F g:=by
 refine FB hS hc ?_ hp;generalize stp P g=g' at a ht d;unfold yldE at a;split at a
 .split at a
  .rename_i l i;split at a
   .rename_i c;split at a
    .rename_i hy j;split at a
     .rename_i m;split at a
      .rename_i f;simp only[Bf8,Bg4,Bk7]at a;obtain⟨rfl,rfl,rfl⟩:=a;simp only[AY5,i,c,hy,j,FR]at ht d;refine AN8 hS l i c hy j m f.1 (UT _) λb=>?_;cases b
       .exact d
       exact ht
      cases a
     cases a
    cases a
   cases a
  cases a
 cases a
theorem Dj (hS:G7 S P)(hc:pr){ys:List PV}{rest:List (List PV)}(ht:KG S P F (AY5 true rest (stp P g)))(a:KG S P F (AY5 false [] (stp P g)))(hp:pr=C6 (cnd P g):=by kernel_rfl)(b:yldE (stp P g)=some (ys,ys::rest):=by kernel_rfl):KG S P F g:=
 ⟨AP3 hS hc ht.out a.out hp b⟩
def Ah {T:Type}(x:T)(o:Option (List T)):Option (List T):=o.map (x :: ·)
theorem LS {T:Type}{x:T}{o:Option (List T)}{L:List T}(h:Ah x o=some L):∃L',L=x::L' /\ o=some L':=by simp only[Ah,Bi5]at h;obtain⟨l,h1,a⟩:=h;exact⟨l,a.symm,h1⟩
theorem Dk (hS:G7 S P)(hc:pr){R A:Type}{body:(A->Option R)->A->Option R}{N:Nat}{a0:A}{r0:R}(h:X4 N body a0=some r0)(s:A->R->St){ids:List (Nat×Nat)}
 (f:∀(X:Type) (s' : X->St) (J:X->Prop) (m:X->Nat) (n:Nat) (b:A->Option R) (a:A) (r:R),
  (∀(g' : Cfg) (ids:List (Nat×Nat)) (pr:Prop) (a:A) (r:R),pr->b a=some r->(hp:pr=C6 (cnd P g'):=by kernel_rfl)->(d:stp P g' = .pop .normal (.lp X s' J m n::(stp P g).k) (stp P g').st:=by kernel_rfl)->(hle:KLe ids (stp P g').st (s a r):=by exact kl)->KG S P F g') ->
  body b a=some r->KG S P F (.code (PZ (stp P g)) (.lp X s' J m n::(stp P g).k) (s a r))) (hp:pr=C6 (cnd P g):=by kernel_rfl) (hl:HX (stp P g)=true:=by kernel_rfl) (hle:KLe ids (stp P g).st (s a0 r0):=by exact kl):KG S P F g:=by
 refine⟨FB hS hc ?_ hp⟩;rw[SD hl];refine Ys hS (X:=Nat×A×R) (λx=>s x.2.1 x.2.2) (λx=>X4 x.1 body x.2.1=some x.2.2) (λx=>x.1) (N,a0,r0) ids hle.out h ?_;rintro⟨n,a,r⟩ hx;cases n with
 |zero=>cases hx
 |succ n=>exact (f _ _ _ _ _ (X4 n body) a r (λg' ids pr a r hc c hp d hle=>⟨FB hS hc (by rw[d];exact WF hS (n,a,r) ids hle.out c (Bw2 n)) hp⟩) hx).out
theorem SJ (hS:G7 S P)(hc:pr){R A B:Type}{body:(A->B->Option R)->A->B->Option R}{N:Nat}{a0:A}{b0:B}{r0:R}(h:BA N body a0 b0=some r0)(s:A->B->R->St){ids:List (Nat×Nat)}
 (d:∀(X:Type) (s' : X->St) (J:X->Prop) (m:X->Nat) (n:Nat) (c:A->B->Option R) (a:A) (b:B) (r:R),
  (∀(g' : Cfg) (ids:List (Nat×Nat)) (pr:Prop) (a:A) (b:B) (r:R),pr->c a b=some r->(hp:pr=C6 (cnd P g'):=by kernel_rfl)->(o:stp P g' = .pop .normal (.lp X s' J m n::(stp P g).k) (stp P g').st:=by kernel_rfl)->(hle:KLe ids (stp P g').st (s a b r):=by exact kl)->KG S P F g') ->
  body c a b=some r->KG S P F (.code (PZ (stp P g)) (.lp X s' J m n::(stp P g).k) (s a b r))) (hp:pr=C6 (cnd P g):=by kernel_rfl) (hl:HX (stp P g)=true:=by kernel_rfl) (hle:KLe ids (stp P g).st (s a0 b0 r0):=by exact kl):KG S P F g:=
 Dk hS hc h (λx r=>s x.1 x.2 r) (λX s' J m n c a r hb=>d X s' J m n (λa b=>c (a,b)) a.1 a.2 r λg' ids pr a b r h1 f i j l=>hb g' ids pr (a,b) r h1 f i j l) hp hl hle
theorem EB (hS:G7 S P){f:FuncId}{fn:Func}{first caps:List AV}{objs:List Obj}{L:List (List PV)}(i:P.funcs[f]? = some fn)
 (h:KG S P (CH S P (objs++[Obj.yld L true]).length fn.results.toList λr objs' ks=>∃b,objs'[objs.length]? = some (.yld [] b)/\ks[objs.length]? = some true/\∃a,r=.ret a) (.code (fn.body.getD .skip) [] { env:=argEnv (first ++ .yf objs.length::caps),regs:=objRegs (objs++[Obj.yld L true]) }))
 (hc:fn.body.isSome=true:=by kernel_rfl) (hn:Nat.ble (first ++ .yf objs.length::caps).length fn.ntmps=true:=by kernel_rfl) (j:Nat.blt (objs++[Obj.yld L true]).length 1000=true:=by kernel_rfl)
 (d:BC fn.ntmps (fn.body.getD .skip)=true:=by kernel_rfl) (g:(fn.name == "runtime.NumGoroutine")=false:=by kernel_rfl):EU S f first caps objs L:=by
 obtain⟨code,c⟩:=Bh1.1 hc;rw[c,Bg6]at d h;exact LQ hS i c (Bl9 hn) (by simpa[Bp8]using j) rfl d g h.out
def UU (P:Program)(ids:List Nat):Cfg->Option (FuncId×List AV×List AV×List Obj)
 |.code (.rangeFunc op _ _ _) _ st=>match FO st.env op with
  |some (f,first,caps)=>match P.funcs[f]?,M9 ids st.regs ids,Ef ids first,Ef ids caps with
   |some fn,some objs,some as,some bs=>if (fn.body.isSome && !(fn.name == "runtime.NumGoroutine")&&FA objs&&I1 ids&&(objs.length==ids.length)&&Nat.blt ids.length 1000) then some (f,as,bs,objs)else none
   |_,_,_,_=>none
  |none=>none
 |_=>none
def Jl:Cfg->Array Tmp
 |.code (.rangeFunc _ ps _ _) _ _=>ps
 |_=>#[]
def UV:Cfg->Code
 |.code (.rangeFunc _ _ a _) _ _=>a
 |_=>.skip
def UW:Cfg->Code
 |.code (.rangeFunc _ _ _ b) _ _=>b
 |_=>.skip
def UX (ids ts:List Nat)(g:Cfg):St:=⟨Y4 ts (ts.map (get g.st.env)),K8 ids (ids.map λ_=>false) g.st.regs⟩
def rst (gh:Nat)(t:St):St:=⟨[],ins gh (.ghost (t.env.map (·.2))) t.regs⟩
def UY (gh:Nat)(ps:Array Tmp)(ys:List PV)(t:St):St:=⟨MZ ps.toList ys t.env,ins gh (.ghost (t.env.map (·.2))) t.regs⟩
def exitE:Cfg->IY
 |.pop e _ _=>e
 |_=>.normal
def AH7:Cfg->Bool
 |.pop .ret [] _=>true
 |.pop (.exit _) [] _=>true
 |_=>false
theorem Al2 (regs:C0)(d:Nat)(x:Obj):A1 (ins d x regs) d=some x:=by
 induction regs with
 |nil=>simp[ins,A1]
 |cons p r ih=>
  obtain⟨i,b⟩:=p;simp only[ins];split
  .simp[A1]
  split
  .simp[A1]
  rename_i h1 a;simp only[A1,a,Ev,ih]
theorem HZ (gh:Nat)(t:St):A1 (rst gh t).regs gh=some (.ghost (t.env.map λp=>p.2)):=by unfold rst;exact Al2 _ _ _
def OB (ids:List Nat):Cfg->Option (FuncId×List AV×List AV×List Obj)
 |.code (.rangeFunc op _ _ _) _ st=>match FO st.env op with
  |some (f,first,caps)=>match M9 ids st.regs ids,Ef ids first,Ef ids caps with
   |some objs,some as,some bs=>if (FA objs&&I1 ids&&(objs.length==ids.length)&&Nat.blt ids.length 1000) then some (f,as,bs,objs)else none
   |_,_,_=>none
  |none=>none
 |_=>none
theorem IS {ids:List Nat}{g:Cfg}{q:FuncId×List AV×List AV×List Obj}(h:UU P ids g=some q):OB ids g=some q/\∃fn,P.funcs[q.1]? = some fn/\fn.body.isSome=true/\(fn.name == "runtime.NumGoroutine")=false:=by
 unfold UU at h;split at h
 .split at h
  .rename_i a;split at h
   .rename_i fn objs' as' bs' h1 c d f;split at h
    .rename_i b;cases h;simp only[Bg0,Bh6,beq_iff_eq]at b;obtain⟨⟨⟨⟨⟨e1,e2⟩,e3⟩,e4⟩,e5⟩,e6⟩:=b;refine⟨?_,fn,h1,e1,by simpa using e2⟩;simp only[OB,a,c,d,f,e3,e4,e5,e6,beq_self_eq_true,Bv7,Eu]
    cases h
   cases h
  cases h
 cases h
theorem ND (hS:G7 S P)(hc:pr){f:FuncId}{as bs:List AV}{objs:List Obj}{R T A:Type}{enc:T->List PV}{L:List T}{mb:(A->Option R)->T->A->Option R}{mk:A->Option R}{a0:A}{r:R}(o:∃fn,P.funcs[f]? = some fn/\fn.body.isSome=true/\(fn.name == "runtime.NumGoroutine")=false)
 (ids ts:List Nat) (gh:Nat) (s:A->St) {idl:List (Nat×Nat)}(h:T1 L mb mk a0=some r) (x:EU S f as bs objs (L.map enc))
 (i:∀t:T,AK (enc t)=some (Jl (stp P g)).size) (hk:∀a,(s a).env.map (·.1)=ts) (hn:∀a,A1 (s a).regs gh=none) (m:∀a,(⟨Y4 ts ((s a).env.map (·.2)),del gh (ins gh (.ghost ((s a).env.map (·.2))) (s a).regs)⟩:St)=s a)
 (c:∀(t:T) (next:St->Prop) (d:A->Option R) (a:A),
  (∀(g' : Cfg) (ids:List (Nat×Nat)) (pr:Prop) (a:A),pr->d a=some r->(hp:pr=C6 (cnd P g'):=by kernel_rfl)->(b:stp P g' = .pop .normal [] (stp P g').st:=by kernel_rfl)->(hle:KLe ids (stp P g').st (rst gh (s a)):=by exact kl)->KG S P (GD S gh ts next (kp S P (stp P g).k F)) g') ->
  mb d t a=some r->KG S P (CJ S P (UW (stp P g)) gh ts next (kp S P (stp P g).k F)) (.code (UV (stp P g)) [] (UY gh (Jl (stp P g)) (enc t) (s a))))
 (j:∀a,mk a=some r->KG S P F (.pop .normal (stp P g).k (s a)))
 (hp:pr=C6 (cnd P g):=by kernel_rfl) (b:OB ids (stp P g)=some (f,as,bs,objs):=by kernel_rfl) (q:Nat.blt gh 1000=true:=by kernel_rfl) (n:A1 (stp P g).st.regs gh=none:=by kernel_rfl) (u:I1 ts=true:=by kernel_rfl)
 (hle:KLe idl (UX ids ts (stp P g)) (s a0):=by exact kl):KG S P F g:=by
 refine⟨FB hS hc ?_ hp⟩;generalize stp P g=g1 at i c j b n hle;unfold OB at b;split at b
 .rename_i op ps asg body K st;split at b
  .rename_i f' first caps v
   split at b
   .rename_i objs' as' bs' y z h4;split at b
    .rename_i w;simp only[Bf8,Bg4]at b;obtain⟨rfl,rfl,rfl,rfl⟩:=b;simp only[Bg0,Bh6,beq_iff_eq]at w;obtain⟨⟨⟨e3,e4⟩,e5⟩,e6⟩:=w;refine AO2 hS ids ts gh s idl h x v o y e3 e4 z h4 e5 q n e6 u i hle.out hk hn (λt next d a hb hm=>?_) (λa hm=>(j a hm).out);refine (c t next d a (λg' ids' pr a hc l hp b hle=>⟨FB hS hc ?_ hp⟩) hm).out;rw[b];have hl:((s a).env.map (·.2)).length=ts.length:=by rw[<- hk a];simp
     refine hb _ (rst gh (s a)) ((s a).env.map λp=>p.2) ids' a hle.out (HZ gh (s a)) hl ?_ (m a) l
     have:=congrArg St.regs (m a)
     simp only at this;show A1 (del gh (ins gh _ _)) gh=none;rw[this];exact hn a
    cases b
   cases b
  cases b
 cases b
theorem GP (hS:G7 S P)(hc:pr){f:FuncId}{as bs:List AV}{objs:List Obj}{R T A:Type}{enc:T->List PV}{L:List T}{mb:(A->Option R)->T->A->Option R}{mk:A->Option R}{a0:A}{r:R}
 (ids ts:List Nat) (gh:Nat) (s:A->St) {idl:List (Nat×Nat)}(h:T1 L mb mk a0=some r) (q:EU S f as bs objs (L.map enc))
 (d:∀t:T,AK (enc t)=some (Jl (stp P g)).size) (hk:∀a,(s a).env.map (·.1)=ts) (hn:∀a,A1 (s a).regs gh=none) (j:∀a,(⟨Y4 ts ((s a).env.map (·.2)),del gh (ins gh (.ghost ((s a).env.map (·.2))) (s a).regs)⟩:St)=s a)
 (b:∀(t:T) (next:St->Prop) (c:A->Option R) (a:A),
  (∀(g' : Cfg) (ids:List (Nat×Nat)) (pr:Prop) (a:A),pr->c a=some r->(hp:pr=C6 (cnd P g'):=by kernel_rfl)->(l:stp P g' = .pop .normal [] (stp P g').st:=by kernel_rfl)->(hle:KLe ids (stp P g').st (rst gh (s a)):=by exact kl)->KG S P (GD S gh ts next (kp S P (stp P g).k F)) g') ->
  mb c t a=some r->KG S P (CJ S P (UW (stp P g)) gh ts next (kp S P (stp P g).k F)) (.code (UV (stp P g)) [] (UY gh (Jl (stp P g)) (enc t) (s a))))
 (i:∀a,mk a=some r->KG S P F (.pop .normal (stp P g).k (s a)))
 (hp:pr=C6 (cnd P g):=by kernel_rfl) (l:UU P ids (stp P g)=some (f,as,bs,objs):=by kernel_rfl) (m:Nat.blt gh 1000=true:=by kernel_rfl) (n:A1 (stp P g).st.regs gh=none:=by kernel_rfl) (o:I1 ts=true:=by kernel_rfl)
 (hle:KLe idl (UX ids ts (stp P g)) (s a0):=by exact kl):KG S P F g:=
 ND hS hc (IS l).2 ids ts gh s h q d hk hn j b i hp (IS l).1 m n o hle
theorem Al3 (hS:G7 S P)(hc:pr){f:FuncId}{as bs:List AV}{objs:List Obj}{R T A:Type}{enc:T->List PV}{L:List T}{mb:(A->Option R)->T->A->Option R}{mk:A->Option R}{a0:A}{r0:R}(o:∃fn,P.funcs[f]? = some fn/\fn.body.isSome=true/\(fn.name == "runtime.NumGoroutine")=false)
 (ids ts:List Nat) (gh:Nat) (s:A->R->St) {idl:List (Nat×Nat)}(h:T1 L mb mk a0=some r0) (x:EU S f as bs objs (L.map enc))
 (i:∀t:T,AK (enc t)=some (Jl (stp P g)).size) (hk:∀a r,(s a r).env.map (·.1)=ts) (hn:∀a r,A1 (s a r).regs gh=none) (m:∀a r,(⟨Y4 ts ((s a r).env.map (·.2)),del gh (ins gh (.ghost ((s a r).env.map (·.2))) (s a r).regs)⟩:St)=s a r)
 (c:∀(t:T) (next:St->Prop) (d:A->Option R) (a:A) (r:R),
  (∀(g' : Cfg) (ids:List (Nat×Nat)) (pr:Prop) (a:A) (r:R),pr->d a=some r->(hp:pr=C6 (cnd P g'):=by kernel_rfl)->(b:stp P g' = .pop .normal [] (stp P g').st:=by kernel_rfl)->(hle:KLe ids (stp P g').st (rst gh (s a r)):=by exact kl)->KG S P (GD S gh ts next (kp S P (stp P g).k F)) g') ->
  mb d t a=some r->KG S P (CJ S P (UW (stp P g)) gh ts next (kp S P (stp P g).k F)) (.code (UV (stp P g)) [] (UY gh (Jl (stp P g)) (enc t) (s a r))))
 (j:∀a r,mk a=some r->KG S P F (.pop .normal (stp P g).k (s a r)))
 (hp:pr=C6 (cnd P g):=by kernel_rfl) (b:OB ids (stp P g)=some (f,as,bs,objs):=by kernel_rfl) (q:Nat.blt gh 1000=true:=by kernel_rfl) (n:A1 (stp P g).st.regs gh=none:=by kernel_rfl) (u:I1 ts=true:=by kernel_rfl)
 (hle:KLe idl (UX ids ts (stp P g)) (s a0 r0):=by exact kl):KG S P F g:=by
 refine⟨FB hS hc ?_ hp⟩;generalize stp P g=g1 at i c j b n hle;unfold OB at b;split at b
 .rename_i op ps asg body K st;split at b
  .rename_i f' first caps v
   split at b
   .rename_i objs' as' bs' y z h4;split at b
    .rename_i w;simp only[Bf8,Bg4]at b;obtain⟨rfl,rfl,rfl,rfl⟩:=b;simp only[Bg0,Bh6,beq_iff_eq]at w;obtain⟨⟨⟨e3,e4⟩,e5⟩,e6⟩:=w;refine Ax7 hS ids ts gh s idl h x v o y e3 e4 z h4 e5 q n e6 u i hle.out hk hn (λt next d a r hb hm=>?_) (λa r hm=>(j a r hm).out);refine (c t next d a r (λg' ids' pr a r hc l hp b hle=>⟨FB hS hc ?_ hp⟩) hm).out;rw[b];have hl:((s a r).env.map (·.2)).length=ts.length:=by rw[<- hk a r];simp
     refine hb _ (rst gh (s a r)) ((s a r).env.map λp=>p.2) ids' a r hle.out (HZ gh (s a r)) hl ?_ (m a r) l
     have:=congrArg St.regs (m a r)
     simp only at this;show A1 (del gh (ins gh _ _)) gh=none;rw[this];exact hn a r
    cases b
   cases b
  cases b
 cases b
theorem Az6 (hS:G7 S P)(hc:pr){f:FuncId}{as bs:List AV}{objs:List Obj}{R T A:Type}{enc:T->List PV}{L:List T}{mb:(A->Option R)->T->A->Option R}{mk:A->Option R}{a0:A}{r0:R}
 (ids ts:List Nat) (gh:Nat) (s:A->R->St) {idl:List (Nat×Nat)}(h:T1 L mb mk a0=some r0) (q:EU S f as bs objs (L.map enc))
 (d:∀t:T,AK (enc t)=some (Jl (stp P g)).size) (hk:∀a r,(s a r).env.map (·.1)=ts) (hn:∀a r,A1 (s a r).regs gh=none) (j:∀a r,(⟨Y4 ts ((s a r).env.map (·.2)),del gh (ins gh (.ghost ((s a r).env.map (·.2))) (s a r).regs)⟩:St)=s a r)
 (b:∀(t:T) (next:St->Prop) (c:A->Option R) (a:A) (r:R),
  (∀(g' : Cfg) (ids:List (Nat×Nat)) (pr:Prop) (a:A) (r:R),pr->c a=some r->(hp:pr=C6 (cnd P g'):=by kernel_rfl)->(l:stp P g' = .pop .normal [] (stp P g').st:=by kernel_rfl)->(hle:KLe ids (stp P g').st (rst gh (s a r)):=by exact kl)->KG S P (GD S gh ts next (kp S P (stp P g).k F)) g') ->
  mb c t a=some r->KG S P (CJ S P (UW (stp P g)) gh ts next (kp S P (stp P g).k F)) (.code (UV (stp P g)) [] (UY gh (Jl (stp P g)) (enc t) (s a r))))
 (i:∀a r,mk a=some r->KG S P F (.pop .normal (stp P g).k (s a r)))
 (hp:pr=C6 (cnd P g):=by kernel_rfl) (l:UU P ids (stp P g)=some (f,as,bs,objs):=by kernel_rfl) (m:Nat.blt gh 1000=true:=by kernel_rfl) (n:A1 (stp P g).st.regs gh=none:=by kernel_rfl) (o:I1 ts=true:=by kernel_rfl)
 (hle:KLe idl (UX ids ts (stp P g)) (s a0 r0):=by exact kl):KG S P F g:=
 Al3 hS hc (IS l).2 ids ts gh s h q d hk hn j b i hp (IS l).1 m n o hle
def Bf1 (t:Nat)(a:AV):Cfg->Cfg
 |.ops all rest K st=>mkO (ins t a st.env) st.regs λenv regs=>.ops all rest K ⟨env,regs⟩
 |g=>g
theorem UZ (hS:G7 S P)(hc:pr)(t:Nat){k n:Nat}{f:Nat->List PV}(b:n=0->KG S P F (Bf1 t (.p (.v (.slice none 0 0))) (stp P g)))(h1:KG S P F (Bf1 t (.p (.sl true k n f)) (stp P g)))
 (hp:pr=C6 (cnd P g):=by kernel_rfl) (a:Ka (stp P g)=true:=by kernel_rfl) (c:get (stp P g).st.env t=.p (.sl false k n f):=by kernel_rfl):KG S P F g:=by
 refine⟨FB hS hc ?_ hp⟩;generalize stp P g=g1 at b h1 a c;unfold Ka at a;split at a
 .refine AV5 hS t c (λh=>?_) ?_
  .have:=(b h).out
   simpa only[Bf1,Gm]using this
  have:=h1.out
  simpa only[Bf1,Gm]using this
 cases a
def frzC (j:Nat)(ps:List PV):Cfg->Cfg
 |.code c K st=>mkO (As8 j ps st.env) (ins j .dead st.regs) λenv regs=>.code c K ⟨env,regs⟩
 |g=>g
theorem Va (hS:G7 S P)(hc:pr)(j:Nat)(ps:List PV)(hk:KG S P F (frzC j ps (stp P g)))(hp:pr=C6 (cnd P g):=by kernel_rfl)(c:Di (stp P g)=true:=by kernel_rfl)(b:P.follows .mixedOrders=true:=by kernel_rfl)
 (a:HO (HY (stp P g)).all=true:=by kernel_rfl) (f:A1 (stp P g).st.regs j=some (.cells (ps.map .p)):=by kernel_rfl):KG S P F g:=by
 refine⟨FB hS hc ?_ hp⟩;generalize stp P g=g1 at hk c a f;unfold Di at c;split at c
 .rename_i id ops K st;have hk:=hk.out;simp only[frzC,Gm]at hk;show awp S P (.region id ops true) (kp S P K F) st;simp only[awp,Eu];have d : WC S P ops.toList (kp S P K F) ⟨As8 j ps st.env,ins j .dead st.regs⟩:=by
   have:awp S P (.region id ops true) (kp S P K F) ⟨As8 j ps st.env,ins j .dead st.regs⟩:=hk
   simpa only[awp,Eu]using this
  exact YS hS b a (hS.frz st j ps _ f d)
 cases c
def clsN (js:List Nat):Nat->List Oper->List Cls
 |_,[]=>[]
 |i,o::r=>(if js.contains i then .n else if js.contains (i+1000)then .w else Be6 o.op)::clsN js (i+1) r
def SK (js:List Nat):Cfg->SC
 |.code (.region _ ops true) _ st=>⟨ops.toList,clsN js 0 ops.toList,ops.toList,st.env,st.regs,[]⟩
 |_=>⟨[],[],[],[],[],[]⟩
theorem E5 (hS:G7 S P)(hc:pr)(js:List Nat)(h:DG S P (SK js (stp P g)) λenv regs=>KG S P F (.pop .normal (stp P g).k ⟨env,regs⟩))(hp:pr=C6 (cnd P g):=by kernel_rfl)(c:Di (stp P g)=true:=by kernel_rfl)(a:P.follows .mixedOrders=true:=by kernel_rfl)
 (b:Ms (SK js (stp P g)).all (SK js (stp P g)).cls=true:=by kernel_rfl):KG S P F g:=by
 have e:(λenv regs=>KG S P F (.pop .normal (stp P g).k ⟨env,regs⟩))=λenv regs=>G S P F (.pop .normal (stp P g).k ⟨env,regs⟩):=by funext env regs;exact propext ⟨λh=>h.out,λh=>⟨h⟩⟩
 rw[e]at h;refine⟨FB hS hc ?_ hp⟩;have h:=h.out;generalize stp P g=g' at c b h;unfold Di at c;split at c
 .exact YL hS _ a b h
 cases c
def Bf2 (ls:List (Nat×Cls)):Nat->List Oper->List Cls
 |_,[]=>[]
 |i,o::r=>(match ls.find? (λq=>q.1==i)with|some q=>q.2|none=>Be6 o.op)::Bf2 ls (i+1) r
def SL (ls:List (Nat×Cls)):Cfg->SC
 |.code (.region _ ops true) _ st=>⟨ops.toList,Bf2 ls 0 ops.toList,ops.toList,st.env,st.regs,[]⟩
 |_=>⟨[],[],[],[],[],[]⟩
theorem F6 (hS:G7 S P)(hc:pr)(ls:List (Nat×Cls))(h:DG S P (SL ls (stp P g)) λenv regs=>KG S P F (.pop .normal (stp P g).k ⟨env,regs⟩))(hp:pr=C6 (cnd P g):=by kernel_rfl)(c:Di (stp P g)=true:=by kernel_rfl)(a:P.follows .mixedOrders=true:=by kernel_rfl)
 (b:Ms (SL ls (stp P g)).all (SL ls (stp P g)).cls=true:=by kernel_rfl):KG S P F g:=by
 have e:(λenv regs=>KG S P F (.pop .normal (stp P g).k ⟨env,regs⟩))=λenv regs=>G S P F (.pop .normal (stp P g).k ⟨env,regs⟩):=by funext env regs;exact propext ⟨λh=>h.out,λh=>⟨h⟩⟩
 rw[e]at h;refine⟨FB hS hc ?_ hp⟩;have h:=h.out;generalize stp P g=g' at c b h;unfold Di at c;split at c
 .exact YL hS _ a b h
 cases c
theorem Kc (hS:G7 S P)(hc:pr){body:Code}{gh:Nat}{ts:List Nat}{next:St->Prop}{Q:M8}(h:KG S P (GD S gh ts next Q) (.code body [] (stp P g).st))(hp:pr=C6 (cnd P g):=by kernel_rfl)(a:stp P g=.pop .normal [] (stp P g).st:=by kernel_rfl):KG S P (CJ S P body gh ts next Q) g:=by refine⟨FB hS hc ?_ hp⟩;rw[a];exact G_asg hS h.out
theorem NE (hS:G7 S P)(hc:pr){K:List It}{gh:Nat}{ts:List Nat}{next:St->Prop}(t:St){ids:List (Nat×Nat)}(hk:KG S P F (.pop (exitE (stp P g)) K t))(hp:pr=C6 (cnd P g):=by kernel_rfl)(a:AH7 (stp P g)=true:=by kernel_rfl)
 (hle:KLe ids (stp P g).st (rst gh t):=by exact kl) (h1:t.env.map (·.1)=ts:=by kernel_rfl) (d:A1 t.regs gh=none:=by kernel_rfl) (b:(⟨Y4 ts (t.env.map (·.2)),del gh (ins gh (.ghost (t.env.map (·.2))) t.regs)⟩:St)=t:=by kernel_rfl):KG S P (GD S gh ts next (kp S P K F)) g:=by
 refine⟨FB hS hc ?_ hp⟩;generalize stp P g=g1 at hk a hle;have hl:(t.env.map (·.2)).length=ts.length:=by rw[<- h1];simp
 have c:A1 (del gh (ins gh (.ghost (t.env.map (·.2))) t.regs)) gh=none:=by
  have:=congrArg St.regs b
  simp only at this;rw[this];exact d
 unfold AH7 at a;split at a
 .exact YP hS Fc (rst gh t) ids hle.out (HZ gh t) hl c (by rw[show (⟨Y4 ts (t.env.map (·.2)),del gh (rst gh t).regs⟩:St)=t from b];exact hk.out)
 .exact YP hS Fc (rst gh t) ids hle.out (HZ gh t) hl c (by rw[show (⟨Y4 ts (t.env.map (·.2)),del gh (rst gh t).regs⟩:St)=t from b];exact hk.out)
 cases a
end
end Go.AM
namespace Go.AM
section
variable {S:V2}{P:Program}{F:M8}{g:Cfg}{pr:Prop}
def AY6 (j:Nat)(ps:List PV):Cfg->Cfg
 |.ops all rest K st=>mkO (As8 j ps st.env) (ins j .dead st.regs) λenv regs=>.ops all rest K ⟨env,regs⟩
 |g=>g
def AH8 (ids:List Nat):Cfg->Option (FuncId×List AV×List Obj)
 |.ops all (o::_) _ st=>match BD all st.env o,o.op with
  |some true,.call c=>match c.callee with
   |.value f=>match QR st.env f (c.args.toList.map (aev st.env))with
    |some (fn,as')=>match Ef ids as',M9 ids st.regs ids with
     |some a,some ob=>if I1 ids&&FA ob then some (fn,a,ob)else none
     |_,_=>none
    |none=>none
   |_=>none
  |_,_=>none
 |_=>none
def AH9 (ids:List Nat)(ks:List Bool)(n:Nat):Cfg->Bool
 |.ops _ (o::_) _ st=>X2 st.regs ids ks (o.dst.getD 0) n
 |_=>false
def AI0 (ids:List Nat)(ks:List Bool)(r:AV)(objs' : List Obj):Cfg->Cfg
 |.ops all (o::rest) K st=>Ab2 o.dst (unA (H3 (o.dst.getD 0) ids ks objs'.length) r) st.env
  (back (H3 (o.dst.getD 0) ids ks objs'.length) (H3 (o.dst.getD 0) ids ks objs'.length) objs' (K8 ids ks st.regs)) λst=>.ops all rest K st
 |g=>g
theorem AP4 (hS:G7 S P)(ids:List Nat)(hc:pr){fn:FuncId}{args:List AV}{objs objs' : List Obj}{r:AV}{ks:List Bool}(f:FunO S fn args objs r objs' ks)(hk:KG S P F (AI0 ids ks r objs' (stp P g)))
 (hp:pr=C6 (cnd P g):=by kernel_rfl) (a:AH8 ids (stp P g)=some (fn,args,objs):=by kernel_rfl) (hn:AH9 ids ks objs'.length (stp P g)=true:=by kernel_rfl):KG S P F g:=by
 refine⟨FB hS hc ?_ hp⟩;have hk:=hk.out;generalize stp P g=g' at a hn hk;unfold AH8 at a;split at a
 .split at a
  .rename_i i j;split at a
   .rename_i c;split at a
    .rename_i hw;split at a
     .rename_i l d;split at a
      .rename_i b;cases a;simp only[Bg0]at b;simp only[AI0,AH9,FR]at hk hn;exact AL5 hS ids i j c hw l d f b.1 b.2 hn hk
      cases a
     cases a
    cases a
   cases a
  cases a
 cases a
def unrT:List (St->Prop)->Nat->St->Prop
 |[],_,_=>False
 |a::_,0,t=>a t
 |_::l,i+1,t=>unrT l i t
theorem Az7 (hS:G7 S P)(hc:pr)(n:Nat)(T:Nat->St->Prop)(s0:St){ids:List (Nat×Nat)}(j:T 0 s0)
 (l:∀(X:Type) (s' : X->St) (J:X->Prop) (m:X->Nat) (i k:Nat) (t:St),i<=n->T i t ->
  (∀(g' : Cfg) (ids:List (Nat×Nat)) (pr:Prop) (t' : St),pr->Nat.ble (i+1) n=true->T (i+1) t' -> (hp:pr=C6 (cnd P g'):=by kernel_rfl)->(q:stp P g' = .pop .normal (.lp X s' J m k::(stp P g).k) (stp P g').st:=by kernel_rfl)->(hle:KLe ids (stp P g').st t':=by exact kl)->KG S P F g') ->
  KG S P F (.code (PZ (stp P g)) (.lp X s' J m k::(stp P g).k) t)) (hp:pr=C6 (cnd P g):=by kernel_rfl) (hl:HX (stp P g)=true:=by kernel_rfl) (hle:KLe ids (stp P g).st s0:=by exact kl):KG S P F g:=by
 refine⟨FB hS hc ?_ hp⟩;rw[SD hl];refine Ys hS (X:=Nat×St) (λx=>x.2) (λx=>x.1<=n/\T x.1 x.2) (λx=>n-x.1) (0,s0) ids hle.out ⟨Bn0 _,j⟩ ?_;rintro⟨i,t⟩ ⟨o,ht⟩;refine (l (Nat×St) (λx=>x.2) (λx=>x.1<=n/\T x.1 x.2) (λx=>n-x.1) i (n-i) t o ht λg' ids' pr' t' b hn c d f a=>⟨FB hS b ?_ d⟩).out;rw[f];have hn:i+1<=n:=Bl9 hn;exact hS.le ids' _ _ _ a.out ⟨(i+1,t'),rfl,⟨hn,c⟩,by show n-(i+1)<n-i;omega⟩
end
section
variable {S:V2}{P:Program}{F:M8}{g:Cfg}{pr:Prop}
theorem N8 (hS:G7 S P)(hc:pr)(d:Nat)(st:St){ids:List (Nat×Nat)}(hk:KG S P F (opsS st (Hq P d g)))(hp:pr=C6 (AO3 P d g):=by kernel_rfl)(a:Ka (Hq P d g)=true:=by kernel_rfl)(hle:KLe ids (Hq P d g).st st:=by exact kl):KG S P F g:=by
 refine⟨(GE (u:=some d) (F:=F) hS 400 [] g (by subst hp;exact hc)).2 ?_⟩;have hk:=hk.out;have hle:=hle.out;show G S P F (Hq P d g);generalize Hq P d g=g' at a hle hk;unfold Ka at a;split at a
 .exact Ak5 hS st ids hle hk
 cases a
end
end Go.AM
namespace Go.AM
section
variable {S:V2}{P:Program}{F:M8}{g:Cfg}{pr:Prop}
def AY7 (S:V2)(P:Program)(pv:PV)(m:String)(as:List AV)(r:AV):Prop:=∃t y fn,pv=.iface t y/\Ud P t m=some fn/\Uj S fn (.p (nP y)::as) r
def invE:Cfg->Option (PV×String×List AV)
 |.ops all (o::_) _ st=>match BD all st.env o,o.op with
  |some true,.call c=>match c.callee with
   |.invoke rv m=>match HM st.regs (c.args.toList.map (aev st.env)),aev st.env rv with
    |some (as,_),.p pv=>match Ef [] as with
     |some as'=>some (pv,m,as')
     |none=>none
    |_,_=>none
   |_=>none
  |_,_=>none
 |_=>none
def invK (r:AV):Cfg->Cfg
 |.ops all (o::rest) K st=>match o.op with
  |.call c=>match HM st.regs (c.args.toList.map (aev st.env))with
   |some (_,regs)=>Ab2 o.dst (unA [] r) st.env regs λst=>.ops all rest K st
   |none=>.ops all (o::rest) K st
  |_=>.ops all (o::rest) K st
 |g=>g
theorem NF (hS:G7 S P)(hc:pr){pv:PV}{m:String}{as:List AV}{r:AV}(b:AY7 S P pv m as r)(hk:KG S P F (invK r (stp P g)))
 (hp:pr=C6 (cnd P g):=by kernel_rfl) (a:invE (stp P g)=some (pv,m,as):=by kernel_rfl):KG S P F g:=by
 obtain⟨t,y,fn,rfl,hm,b⟩:=b;refine⟨FB hS hc ?_ hp⟩;have hk:=hk.out;generalize stp P g=g' at a hk;unfold invE at a;split at a
 .split at a
  .rename_i i f;split at a
   .rename_i c;split at a
    .rename_i ha d;split at a
     .rename_i j;cases a;simp only[invK,f,ha,FR]at hk;refine Ax2 hS i f c ha d hm (args:=.p (nP y)::_) ?_ b hk;simp only[Ef,RV,j]
     cases a
    cases a
   cases a
  cases a
 cases a
theorem F8 (hS:G7 S P)(hc:pr)(d j:Nat)(ps:List PV)(hk:KG S P F (AY6 j ps (Hq P d g)))(hp:pr=C6 (AO3 P d g):=by kernel_rfl)(a:Ka (Hq P d g)=true:=by kernel_rfl)
 (b:A1 (Hq P d g).st.regs j=some (.cells (ps.map .p)):=by kernel_rfl):KG S P F g:=by
 refine⟨(GE (u:=some d) (F:=F) hS 400 [] g (by subst hp;exact hc)).2 ?_⟩;have hk:=hk.out;show G S P F (Hq P d g);generalize Hq P d g=g' at a b hk;unfold Ka at a;split at a
 .simp only[AY6,Gm]at hk;exact WE hS (hS.frz _ j ps _ b hk)
 cases a
def Az8 (j j' : Nat):AV->AV
 |.vecp i m=>if i=j then .vec j' else .vecp i m
 |a=>a
def Az9 (j j' : Nat):List AV->List AV
 |[]=>[]
 |a::r=>Az8 j j' a::Az9 j j' r
def AA0 (j j' : Nat):Env->Env
 |[]=>[]
 |(t,a)::r=>(t,Az8 j j' a)::AA0 j j' r
def Ab5 (j j' : Nat):C0->C0
 |[]=>[]
 |(t,.cells cs)::r=>(t,.cells (Az9 j j' cs))::Ab5 j j' r
 |(t,o)::r=>(t,o)::Ab5 j j' r
def msA (j:Nat)(r:List Nat):AV->List Nat
 |.vecp i m=>if i=j then m::r else r
 |_=>r
def msL (j:Nat):List AV->List Nat
 |[]=>[]
 |a::r=>msA j (msL j r) a
def msE (j:Nat):Env->List Nat
 |[]=>[]
 |(_,a)::r=>msA j (msE j r) a
def msR (j:Nat):C0->List Nat
 |[]=>[]
 |(_,.cells cs)::r=>msL j cs++msR j r
 |_::r=>msR j r
theorem Al4 {j:Nat}{r:List Nat}{a:AV}:∀x∈r,x∈msA j r a:=by
 intro x hx;unfold msA;split
 .split
  .exact Bh3 _ hx
  exact hx
 exact hx
theorem Zf {j n j' : Nat}{r:List Nat}{a:AV}(h:∀m∈msA j r a,m=n):At5 j n j' a=Az8 j j' a:=by
 cases a with
 |vecp i m=>
  simp only[At5,Az8];by_cases e:i=j
  .have:m=n:=h m (by simp[msA,e])
   simp[e,this]
  simp[e]
 |_=>rfl
theorem Zg {j n j' : Nat}:∀{l:List AV},(∀m∈msL j l,m=n)->AG6 j n j' l=Az9 j j' l
 |[],_=>rfl
 |a::r,h=>by simp only[AG6,Az9,Zf (r:=msL j r) h,Zg λm hm=>h m (Al4 m hm)]
theorem Zh {j n j' : Nat}:∀{l:Env},(∀m∈msE j l,m=n)->AG5 j n j' l=AA0 j j' l
 |[],_=>rfl
 |(t,a)::r,h=>by simp only[AG5,AA0,Zf (r:=msE j r) h,Zh λm hm=>h m (Al4 m hm)]
theorem SM {j n j' : Nat}:∀{l:C0},(∀m∈msR j l,m=n)->Yr j n j' l=Ab5 j j' l
 |[],_=>rfl
 |(t,o)::r,h=>by
  cases o with
  |cells cs=>simp only[Yr,Ab5,AT7,Zg λm hm=>h m (Bi9 _ hm),SM λm hm=>h m (Bh9 _ hm)]
  |_=>simp only[Yr,Ab5,AT7,SM (l:=r) h]
def truC (j j' : Nat)(e:TypeId)(k n:Nat)(f:Nat->List PV):Cfg->Cfg
 |.ops all rest K st=>mkO (AA0 j j' st.env) (ins j' (.vec e k n f false) (ins j .dead (Ab5 j j' st.regs))) λenv regs=>.ops all rest K ⟨env,regs⟩
 |g=>g
theorem AY8 (hS:G7 S P)(hc:pr)(d j n j' : Nat){e:TypeId}{k N:Nat}{f:Nat->List PV}(hn:n<=N)(hk:KG S P F (truC j j' e k n f (Hq P d g)))(hp:pr=C6 (AO3 P d g):=by kernel_rfl)(b:Ka (Hq P d g)=true:=by kernel_rfl)
 (c:A1 (Hq P d g).st.regs j=some (.vec e k N f false):=by kernel_rfl) (i:A1 (Hq P d g).st.regs j' = none:=by kernel_rfl) (h1:Nat.ble 1000 j' = true:=by kernel_rfl)
 (hm:(msE j (Hq P d g).st.env++msR j (Hq P d g).st.regs)=List.replicate (msE j (Hq P d g).st.env++msR j (Hq P d g).st.regs).length n:=by kernel_rfl):KG S P F g:=by
 refine⟨(GE (u:=some d) (F:=F) hS 400 [] g (by subst hp;exact hc)).2 ?_⟩;have hk:=hk.out;show G S P F (Hq P d g);generalize Hq P d g=g' at b c i hk hm;unfold Ka at b;split at b
 .rename_i st;have a:∀m∈msE j st.env++msR j st.regs,m=n:=λm h=>by rw[show msE j st.env++msR j st.regs=_ from hm]at h;exact (List.mem_replicate.1 h).2
  simp only[truC,Gm]at hk;refine WE hS (hS.trunc _ j j' n N k e f _ c hn i (Bl9 h1) ?_);rw[Zh λm h=>a m (Bi9 _ h),SM λm h=>a m (Bh9 _ h)];exact hk
 cases b
end
abbrev cA {α : Type}(n:Nat)(c : α -> PV)(f:Nat -> α):List PV:=Ed n (λi=>c (f i))
theorem G8 (n:Nat)(f:Nat->PV):(Ed n f).length=n:=by simp[Ed]
theorem Dy (n:Nat)(f:Nat->PV):∀i,i<n->[(Ed n f).getD i default]=[f i]:=by intro i a;simp[Ed,Bf7,a]
theorem OC {n:Nat}{z:PV}{ps:List PV}(h:ps=List.replicate n z):∀i,i<n->[ps.getD i default]=[z]:=by intro i a;subst h;simp[Bf7,a]
theorem Ab6 {n:Nat}{f g:Nat->PV}(h:∀i,i<n->[f i]=[g i]):Ed n f=Ed n g:=by unfold Ed;exact Bi6 λi a=>by have:=h i (Bk1.1 a);injection this
abbrev OD {α : Type}(f:Nat -> α)(k:Nat)(x : α):Nat -> α:=λi=>if i=k then x else f i
theorem AP5 {α : Type}{c : α -> PV}{n k:Nat}{v:Nat -> α}{f:Nat->PV}{e:PV}{x : α}(h:∀i,i<n->[f i]=[c (v i)])(hx:e=c x):∀i,i<n->[if i=k then e else f i]=[c (if i=k then x else v i)]:=by
 intro i a;by_cases h1:i=k
 .rw[Ej h1,Ej h1,hx]
 rw[Er h1,Er h1];exact h i a
theorem app1H {α : Type}{c : α -> List PV}{n:Nat}{v:Sl α}{f g:Nat->List PV}{z : α}(h:∀i,i<n->f i=c (v.g i))(hn:n=v.n):∀i,i<n+1->i≠v.n->Fy n f g i=c ((v.push z).g i):=by
 subst hn;intro i b a;have hl:i<v.n:=by omega
 show (if i<v.n then f i else g (i-v.n))=c (if i<v.n then v.g i else z);rw[Ej hl,Ej hl];exact h i hl
theorem setH {α : Type}{c : α -> List PV}{n k:Nat}{v:Sl α}{f e:Nat->List PV}{x : α}(h:∀i,i<n->i≠k->f i=c (v.g i))(hx:k<n->e k=c x):∀i,i<n->(λl=>if l=k then e l else f l) i=c ((v.upd k x).g i):=by
 intro i a;show (if i=k then e i else f i)=c (if i=k then x else v.g i);split
 .subst_vars;exact hx a
 exact h i a ‹_›
end Go.AM
namespace Go.AM
section
variable {S:V2}{P:Program}{F:M8}{g:Cfg}{R X:Type}{A B:Option R}{r:R}{b:Bool}
theorem kI (hS:G7 S P)(h:(if b then A else B)=some r)(ht:A=some r->KG S P F (AO4 (stp P g)))(a:B=some r->KG S P F (AO5 (stp P g)))
 (hp:True=C6 (cnd P g):=by kernel_rfl) (hb:Ax8 (stp P g)=some b:=by kernel_rfl):KG S P F g:=
 C8 hS Fc (λc=>ht (itT c h)) (λc=>a (itF c h)) hp hb
theorem kG (hS:G7 S P)(h:(if b then A else B)=some r)(ht:A=some r->KG S P F (Oo true (stp P g)))(a:B=some r->KG S P F (Oo false (stp P g)))
 (hp:True=C6 (cnd P g):=by kernel_rfl) (hb:YW (stp P g)=some b:=by kernel_rfl):KG S P F g:=
 GO hS Fc (λc=>ht (itT c h)) (λc=>a (itF c h)) hp hb
theorem kR (hS:G7 S P){n:Nat}{rs:List ResultVar}{Q:ARes->List Obj->List Bool->Prop}{a:AV}{objs:List Obj}(b:Q (.ret a) objs (FF n []):=by exact⟨rfl,rfl,rfl⟩)
 (hp:True=C6 (cnd P g):=by kernel_rfl) (c:(Ay0 (stp P g)).bind (λst=>SE P st rs [])=some (a,objs):=by kernel_rfl):KG S P (CH S P n rs Q) g:=
 Al1 hS Fc [] b hp c
theorem kC (hS:G7 S P){x:Option X}{f:X->Option R}(h:x.bind f=some r){fn:FuncId}{args:List AV}{objs:List Obj}{objs' : X->List Obj}{rr:X->AV}{ks:List Bool}
 (a:∀{y},x=some y->FunO S fn args objs (rr y) (objs' y) ks) (hk:∀y,f y=some r->KG S P F (Ax9 [] ks (rr y) (objs' y) (stp P g)))
 (hp:True=C6 (cnd P g):=by kernel_rfl) (b:Ab3 [] (stp P g)=some (fn,args,objs):=by kernel_rfl) (hn:∀y,Ab4 [] ks (objs' y).length (stp P g)=true:=by intro y;kernel_rfl):KG S P F g:=by
 obtain⟨y,e,h⟩:=A7 h;exact B4 hS [] Fc (a e) (hk y h) hp b (hn y)
end
end Go.AM
namespace Go.AM
inductive BT where
 |l (b:Bool)
 |n (b:Bool) (t f:BT)
def BT.ev:BT->Bool
 |.l b=>b
 |.n b t f=>if b then t.ev else f.ev
inductive BE where
 |a (b:Bool)
 |n (x y:BE)
 |o (x y:BE)
def BE.den:BE->Bool
 |.a b=>b
 |.n x y=>x.den&&y.den
 |.o x y=>x.den||y.den
def BE.tr:BE->BT->BT->BT
 |.a b,t,f=>.n b t f
 |.n x y,t,f=>x.tr (y.tr t f) f
 |.o x y,t,f=>x.tr t (y.tr t f)
def BE.top:BE->BT
 |.a b=>.l b
 |.n x y=>x.tr y.top (.l false)
 |.o x y=>x.tr (.l true) y.top
theorem BE.tr_ev:∀(e:BE) (t f:BT),(e.tr t f).ev=if e.den then t.ev else f.ev
 |.a b,t,f=>rfl
 |.n x y,t,f=>by simp only[tr,den,x.tr_ev,y.tr_ev];by_cases h:x.den=true<;>simp[h]
 |.o x y,t,f=>by simp only[tr,den,x.tr_ev,y.tr_ev];by_cases h:x.den=true<;>simp[h]
theorem BE.top_ev:∀e:BE,e.top.ev=e.den
 |.a b=>rfl
 |.n x y=>by simp only[top,den,x.tr_ev,y.top_ev,BT.ev];by_cases h:x.den=true<;>simp[h]
 |.o x y=>by simp only[top,den,x.tr_ev,y.top_ev,BT.ev];by_cases h:x.den=true<;>simp[h]
def keeps:Op->Bool
 |.move _ | .assign _ | .pick .. | .load .. | .nilCheck _ | .binOp .. | .unOp .. | .convert .. | .fieldAddr .. | .field .. | .indexAddr .. | .index .. | .extract ..=>true
 |.call { callee:=.builtin .len,.. } | .call { callee:=.builtin .min,.. } | .call { callee:=.builtin .max,.. }=>true
 |_=>false
theorem Ab7 {P:Program}{env:Env}{regs:C0}{d:Nat}{o:Op}{out:Out}(hk:keeps o=true)(h:aop P env regs d o=some out):out.regs=regs:=by unfold keeps at hk;split at hk<;>first|(cases hk;done)|(simp only[aop]at h;(repeat' split at h)<;>first|(cases h;rfl)|cases h)
theorem Rs {o:Op}(hk:keeps o=true):At7 o=true:=by unfold keeps at hk;split at hk<;>first|cases hk;done|rfl
def AA1:List Prop->List Prop
 |[]=>[]
 |c=>[C6 c]
def bgo (P:Program)(regs:C0)(o:Oper)(last:Bool)(rec:List Prop->Env->Option (BT×List Prop))(c:List Prop)(env:Env)(runs:Bool):Option (BT×List Prop):=match runs with
 |true=>match keeps o.op,o.dst with
  |true,some d=>match aop P env regs d o.op with
   |some ⟨p,v,_⟩=>match last with
    |true=>match NO v with
     |some b=>some (.l b,AA1 (p++c))
     |none=>none
    |false=>fA v λv=>Ag7 d v env λenv=>rec (p++c) env
   |none=>none
  |_,_=>none
 |false=>match last,o.dst with
  |false,some d=>Ag7 d CG env λenv=>rec c env
  |_,_=>none
def bev (P:Program)(all:List Oper)(regs:C0):List Oper->List Prop->Env->Option (BT×List Prop)
 |[],_,_=>none
 |o::rest,c,env=>
  match o.guard with
  |none=>bgo P regs o rest.isEmpty (λc env=>bev P all regs rest c env) c env true
  |some (j,want)=>match get env (FP all j)with
   |.p (.v (.bool b))=>bgo P regs o rest.isEmpty (λc env=>bev P all regs rest c env) c env (b==want)
   |.p (.v (.tuple _))=>bgo P regs o rest.isEmpty (λc env=>bev P all regs rest c env) c env false
   |.p (.bb b)=>match Ag7 (FP all j) (.p (.v (.bool true))) env λenv=>bgo P regs o rest.isEmpty (λc env=>bev P all regs rest c env) [] env want,
    Ag7 (FP all j) (.p (.v (.bool false))) env λenv=>bgo P regs o rest.isEmpty (λc env=>bev P all regs rest c env) [] env !want with
    |some (t,ct),some (f,cf)=>some (.n b t f,AA1 c++(ct.map (λp=>b=true->p)++cf.map (λp=>b=false->p)))
    |_,_=>none
   |_=>none
def Af2 (l:List Oper):List Nat:=l.filterMap (·.dst)
def AP6 (ks:List Nat)(env:Env):Env:=env.filter λq=>!ks.contains q.1
theorem Zi (ks:List Nat)(env:Env)(x:Nat):get (AP6 ks env) x=if x∈ks then .top else get env x:=by
 induction env with
 |nil=>simp[AP6,get]
 |cons q r ih=>
  obtain⟨i,a⟩:=q;simp only[AP6,List.filter_cons];by_cases b:i∈ks
  .rw[Er (by simpa using b)]
   have:=ih
   simp only[AP6]at this;rw[this];by_cases hx:x∈ks
   .simp[hx]
   have:i≠x:=λe=>hx (e ▸ b)
   simp[hx,get,this]
  rw[Ej (by simpa using b)];simp only[get]
  have:=ih
  simp only[AP6]at this;rw[this];by_cases hx:i=x
  .subst hx;simp[b]
  simp[hx]
def Xj:List Oper->Option Nat
 |[]=>none
 |[o]=>o.dst
 |_::r=>Xj r
section
variable {S:V2}{P:Program}
theorem Rt {c:List Prop}(h:∀p∈AA1 c,p):C6 c:=by
 cases c with
 |nil=>trivial
 |cons p r=>exact h _ (by simp[AA1])
theorem AY9 (hS:G7 S P){all:List Oper}{regs:C0}{Q:M8}{post:List Oper}{envF:Env}{V:Bool}{d:Nat}(hQ:∀s,S.up s (IZ S P all post Q)->IZ S P all post Q s)(hV:get envF d=.p (.bb V))
 (hw:IZ S P all post Q ⟨envF,regs⟩) :
 ∀(L:List Oper) (c:List Prop) (env:Env) (T:BT) (C:List Prop),bev P all regs L c env=some (T,C)->(∀p∈C,p)->T.ev=V->Xj L=some d ->
  (∀x,x≠d->Sa (get envF x) (get env x) \/ (x∈Af2 L/\get envF x=.top))->(∀x∈Af2 L,x≠d->get envF x=.top)->C6 c/\IZ S P all (L++post) Q ⟨env,regs⟩:=by
 intro L
 induction L with
 |nil=>intro c env T C h;cases h
 |cons o rest ih=>
  intro c env T C h w i hd hl ht;simp only[bev,JP]at h;have key:∀(c:List Prop) (env:Env) (runs:Bool) (T:BT) (C:List Prop),bgo P regs o rest.isEmpty (λc env=>bev P all regs rest c env) c env runs=some (T,C)->(∀p∈C,p)->T.ev=V ->
   (∀x,x≠d->Sa (get envF x) (get env x) \/ (x∈Af2 (o::rest)/\get envF x=.top)) ->
   C6 c/\(if runs then wOp S P o (IZ S P all (rest++post) Q) Q ⟨env,regs⟩else IZ S P all (rest++post) Q (put ⟨env,regs⟩ o.dst CG)):=by
   intro c env runs T C h w i hl;have l:rest.isEmpty=false->Xj rest=some d:=by
    intro hr;cases rest with
    |nil=>cases hr
    |cons a r=>simpa[Xj]using hd
   have a0:∀{d'},o.dst=some d' -> Af2 (o::rest)=d' :: Af2 rest:=λg=>by simp[Af2,g]
   have m:∀d' (v:AV),o.dst=some d' -> ∀x,x≠d->Sa (get envF x) (get (ins d' v env) x) \/ (x∈Af2 rest/\get envF x=.top):=by
    intro d' v g x hx;rw[EA];by_cases n:d' = x
    .subst n;exact .inl (.inl (ht _ (by rw[a0 g];exact Bo2 ..) hx))
    rw[Er n];rcases hl x hx with h|⟨h1,h2⟩
    .exact .inl h
    exact .inl (.inl h2)
   cases runs with
   |true=>
    simp only[bgo,ZK,JP,Eu]at h⊢;split at h
    .rename_i d' hk g;split at h
     .rename_i p v regs' ha;have hr:regs' = regs:=Ab7 hk ha;subst hr;have ha' : aop P env regs' (o.dst.getD 0) o.op=some ⟨p,v,regs'⟩:=by rw[g];exact ha
      split at h
      .rename_i u;split at h
       .rename_i b hb;cases h;have a1:=Rt w;obtain⟨hc,hp⟩:=(De _ _).1 a1;refine⟨hc,Nx (Rs hk) ha' hp ?_⟩;obtain rfl:rest=[]:=Bw3.1 u;simp only[Xj]at hd;have e:d' = d:=by rw[g]at hd;exact Bl5 hd
        subst e;refine hQ _ (hS.less _ ⟨envF,regs'⟩ _ (λx=>?_) (λ_=>by rw[g];rfl) (by simpa using hw));rw[g];show Sa (get envF x) (get (ins d' v env) x);rw[EA];by_cases hx:d' = x
        .subst hx;rw[Ej rfl,hV];have i:b=V:=i;subst i;unfold NO at hb;split at hb
         .cases hb;exact .inr (.inr ⟨_,rfl,rfl⟩)
         .cases hb;exact .inr (.inl rfl)
         cases hb
        rw[Er hx];rcases hl x (λe=>hx e.symm)with h|⟨_,h⟩
        .exact h
        exact .inl h
       cases h
      rename_i u;have hn:∀x,x≠d->Sa (get envF x) (get (ins d' v env) x) \/ (x∈Af2 rest/\get envF x=.top):=m d' v g;obtain⟨a1,a2⟩:=ih _ _ _ _ h w i (l (by simpa using u)) hn (λx hx=>ht x (by rw[a0 g];exact Bh3 _ hx));obtain⟨hc,hp⟩:=(De _ _).1 a1;exact⟨hc,Nx (Rs hk) ha' hp (by rw[g];exact a2)⟩
     cases h
    cases h
   |false=>
    simp only[bgo,JP,Bg3,Ev]at h⊢;split at h
    .rename_i d' u g;have hn:∀x,x≠d->Sa (get envF x) (get (ins d' CG env) x) \/ (x∈Af2 rest/\get envF x=.top):=m d' _ g;obtain⟨hc,a2⟩:=ih _ _ _ _ h w i (l (by simpa using u)) hn (λx hx=>ht x (by rw[a0 g];exact Bh3 _ hx));exact⟨hc,by rw[g];exact a2⟩
    cases h
  simp only[Bi7,IZ];cases hg:o.guard with
  |none=>simp only[hg]at h;obtain⟨hc,hk⟩:=key _ _ _ _ _ h w i hl;exact⟨hc,hS.refl _ _ (by simpa[hg]using hk)⟩
  |some q=>
   obtain⟨j,want⟩:=q;simp only[hg]at h;split at h
   .rename_i b hb;obtain⟨hc,hk⟩:=key _ _ _ _ _ h w i hl;refine⟨hc,hS.refl _ _ ⟨some b,by rw[hb];rfl,?_⟩⟩;have e:(some b=some want)↔(b==want)=true:=by simp
    by_cases z:(b==want)=true
    .rw[Ej (e.2 z)];simpa[z]using hk
    rw[Er (λx=>z (e.1 x))];simpa[z]using hk
   .rename_i tt hb;obtain⟨hc,hk⟩:=key _ _ _ _ _ h w i hl;refine⟨hc,hS.refl _ _ ⟨none,by rw[hb];rfl,?_⟩⟩;rw[Er (by simp)];simpa using hk
   .rename_i b hb;split at h
    .rename_i t ct f cf h1 h2;cases h;have hc:C6 c:=Rt λp hp=>w p (Bi9 _ hp);refine⟨hc,hS.bool _ _ b _ hb ?_⟩;have hl2:∀x,x≠d->Sa (get envF x) (get (ins (FP all j) (.p (.v (.bool b))) env) x) \/ (x∈Af2 (o::rest)/\get envF x=.top):=by
      intro x hx;rw[EA];by_cases n:FP all j=x
      .subst n;rw[Ej rfl];rcases hl _ hx with h|h
       .rw[hb]at h;rcases h with h|h|⟨y,h1,h2⟩
        .exact .inl (.inl h)
        .exact .inl (.inr (.inr ⟨b,h,rfl⟩))
        cases h2
       exact .inr h
      rw[Er n];exact hl x hx
     cases b with
     |true=>
      obtain⟨_,hk⟩:=key _ _ _ _ _ h1 (λp hp=>w (true=true->p) (Bh9 _ (Bi9 _ (Bl0.2 ⟨p,hp,rfl⟩))) rfl) i hl2;refine⟨some true,by show yv (get (ins _ _ _) _)=_;rw[EA,Ej rfl];rfl,?_⟩;cases want with
      |true=>simpa using hk
      |false=>simpa using hk
     |false=>
      obtain⟨_,hk⟩:=key _ _ _ _ _ h2 (λp hp=>w (false=false->p) (Bh9 _ (Bh9 _ (Bl0.2 ⟨p,hp,rfl⟩))) rfl) i hl2;refine⟨some false,by show yv (get (ins _ _ _) _)=_;rw[EA,Ej rfl];rfl,?_⟩;cases want with
      |true=>simpa using hk
      |false=>simpa using hk
    cases h
   cases h
end
def AP7 (P:Program)(m:Nat):Cfg->Option (BT×List Prop)
 |.ops all rest K st=>bev P all st.regs (rest.take m) [] st.env
 |_=>none
def AZ0 (m:Nat)(b:Bool):Cfg->Cfg
 |.ops all rest K st=>match Xj (rest.take m)with
  |some d=>mkO (ins d (.p (.bb b)) (AP6 (Af2 (rest.take m)) st.env)) st.regs λenv regs=>.ops all (rest.drop m) K ⟨env,regs⟩
  |none=>.ops all rest K st
 |g=>g
def AZ1 (m:Nat):Cfg->Bool
 |.ops all rest K st=>(Xj (rest.take m)).isSome
 |_=>false
def AZ2:List Prop->Prop
 |[]=>True
 |p::r=>r.foldl And p
theorem AA2 {l:List Prop}(h:AZ2 l):∀p∈l,p:=by
 have:∀(r:List Prop) (p:Prop),r.foldl And p->p/\∀q∈r,q:=by
  intro r
  induction r with
  |nil=>intro p h;exact⟨h,λq b=>by cases b⟩
  |cons a r ih=>intro p h;obtain⟨⟨h1,c⟩,d⟩:=ih _ h;exact⟨h1,λq b=>by rcases Bi3.1 b with rfl|b;exact c;exact d q b⟩
 cases l with
 |nil=>intro p hp;cases hp
 |cons a r=>obtain⟨h1,c⟩:=this _ _ h;exact λq b=>by rcases Bi3.1 b with rfl|b;exact h1;exact c q b
section
variable {S:V2}{P:Program}{F:M8}{g:Cfg}{pr pc:Prop}
theorem kB (hS:G7 S P)(n:∀s,S.up s (F .normal)->F .normal s)(hc:pr)(c:pc)(m:Nat)(E:BE)(hk:KG S P F (AZ0 m E.den (stp P g)))
 (hp:pr=C6 (cnd P g):=by kernel_rfl) (a:(AP7 P m (stp P g)).map (·.1)=some E.top:=by kernel_rfl) (b:(AP7 P m (stp P g)).map (λx=>AZ2 x.2)=some pc:=by kernel_rfl) (f:AZ1 m (stp P g)=true:=by kernel_rfl):KG S P F g:=by
 refine⟨FB hS hc ?_ hp⟩;have hk:=hk.out;generalize stp P g=g' at hk a b f;unfold AP7 at a b;split at a
 .rename_i all rest K st;simp only[AZ1,Bh1]at f;obtain⟨d,j⟩:=f;simp only[AZ0,j,Gm]at hk;cases hb:bev P all st.regs (rest.take m) [] st.env with
  |none=>rw[hb]at a;cases a
  |some q=>
   obtain⟨T,C⟩:=q;simp only[hb]at a b;simp only[Bg8,Bf8]at a b;subst a
   have:=(AY9 hS (Q:=kp S P K F) (post:=rest.drop m) (envF:=ins d (.p (.bb E.den)) (AP6 (Af2 (rest.take m)) st.env)) (V:=E.den) (d:=d) ?_ (by rw[EA,Ej rfl]) hk (rest.take m) [] st.env E.top C hb
    (AA2 (b ▸ c)) E.top_ev j (λx hx=>?_) (λx hx i=>?_)).2
   .rwa [Br3]at this
   .intro s h;cases l:rest.drop m with
    |nil=>rw[l]at h;exact Ax5 hS n K s h
    |cons o r=>rw[l]at h;exact hS.trans _ _ h
   .rw[EA,Er (λe=>hx e.symm),Zi];split
    .exact .inl (.inl rfl)
    exact .inl (.inr (.inl rfl))
   rw[EA,Er (λe=>i e.symm),Zi,Ej hx]
 cases a
end
end Go.AM
namespace Go.AM
def famC (op:RZ):Cfg->List Prop
 |.ops _ _ _ st=>match V7 op st with
  |some (c,_)=>c
  |none=>[False]
 |_=>[False]
def famG (op:RZ):Cfg->Cfg
 |.ops all rest K st=>match V7 op st with
  |some (_,st)=>mkO st.env st.regs λenv regs=>.ops all rest K ⟨env,regs⟩
  |none=>.ops all rest K st
 |g=>g
section
variable {S:V2}{P:Program}{F:M8}{g:Cfg}{pr pc:Prop}
theorem EY (hS:G7 S P)(hc:pr)(d:Nat)(op:RZ)(b:pc)(hk:KG S P F (famG op (Hq P d g)))(hp:pr=C6 (AO3 P d g):=by kernel_rfl)(f:Ka (Hq P d g)=true:=by kernel_rfl)
 (a:pc=C6 (famC op (Hq P d g)):=by kernel_rfl):KG S P F g:=by
 refine⟨(GE (u:=some d) (F:=F) hS 400 [] g (by subst hp;exact hc)).2 ?_⟩;have hk:=hk.out;show G S P F (Hq P d g);generalize Hq P d g=g' at f a hk;unfold Ka at f;split at f
 .rename_i all o rest K st;simp only[famC]at a;simp only[famG]at hk;cases i:V7 op st with
  |none=>rw[i]at a;subst a;exact b.elim
  |some q=>obtain⟨c,st'⟩:=q;simp only[i,Gm]at hk a;subst a;exact WE hS (hS.fam op _ _ c _ i b hk)
 cases f
end
def AZ3 (j k n:Nat)(e:TypeId)(g:Nat->List PV)(vw:Bool):Cfg->Cfg
 |.ops all rest K st=>mkO st.env (ins j (.vec e k n g vw) st.regs) λenv regs=>.ops all rest K ⟨env,regs⟩
 |g=>g
theorem Al5 {S:V2}{P:Program}{F:M8}{g:Cfg}{pr:Prop}(hS:G7 S P)(hc:pr)(d j:Nat){k n:Nat}{e:TypeId}{vw:Bool}(f q:Nat->List PV)(c:∀i,i<n->leC (f i) (q i))(hk:KG S P F (AZ3 j k n e q vw (Hq P d g)))
 (hp:pr=C6 (AO3 P d g):=by kernel_rfl) (a:Ka (Hq P d g)=true:=by kernel_rfl) (b:A1 (Hq P d g).st.regs j=some (.vec e k n f vw):=by kernel_rfl):KG S P F g:=by
 refine⟨(GE (u:=some d) (F:=F) hS 400 [] g (by subst hp;exact hc)).2 ?_⟩;have hk:=hk.out;show G S P F (Hq P d g);generalize Hq P d g=g1 at hk a b;unfold Ka at a;split at a
 .simp only[AZ3,Gm]at hk;exact WE hS (hS.vecq _ j n k e f q vw _ b c hk)
 cases a
theorem leCn {k:Nat}{g:Nat->List PV}:leC [.v (.slice none 0 0)] [.sl false k 0 g]:=GB AT8 Be3
theorem leCr (l:List PV):leC l l:=⟨rfl,λ_=>.p (.inl rfl)⟩
end Go.AM
namespace Go.AM
def AZ4 (op:RZ):Cfg->List Prop
 |.code _ _ st=>match V7 op st with
  |some (c,_)=>c
  |none=>[False]
 |_=>[False]
def AZ5 (op:RZ):Cfg->Cfg
 |.code c K st=>match V7 op st with
  |some (_,st)=>mkO st.env st.regs λenv regs=>.code c K ⟨env,regs⟩
  |none=>.code c K st
 |g=>g
def Zj {S:V2}{P:Program}{F:M8}{g:Cfg}{pr pc:Prop}(hS:G7 S P)(hc:pr)(op:RZ)(d:pc)(hk:KG S P F (AZ5 op (stp P g)))(hp:pr=C6 (cnd P g):=by kernel_rfl)(i:Di (stp P g)=true:=by kernel_rfl)(f:P.follows .mixedOrders=true:=by kernel_rfl)
 (b:HO (HY (stp P g)).all=true:=by kernel_rfl) (a:pc=C6 (AZ4 op (stp P g)):=by kernel_rfl):KG S P F g:=by
 refine⟨FB hS hc ?_ hp⟩;generalize stp P g=g1 at hk i b a;unfold Di at i;split at i
 .rename_i id ops K st;have hk:=hk.out;simp only[AZ5]at hk;simp only[AZ4]at a;cases j:V7 op st with
  |none=>rw[j]at a;subst a;exact d.elim
  |some q=>
   obtain⟨c,st'⟩:=q;simp only[j,Gm]at hk a;subst a;show awp S P (.region id ops true) (kp S P K F) st;simp only[awp,Eu];have l : WC S P ops.toList (kp S P K F) st':=by
    have:awp S P (.region id ops true) (kp S P K F) st':=hk
    simpa only[awp,Eu]using this
   exact YS hS f b (hS.fam op _ _ c _ j d l)
 cases i
def Vb {P:Program}{f:FuncId}{vw:Bool}{args:List PV}{e:TypeId}{k n:Nat}{g:Nat->List PV}(t:∀as w,(callFunc f as).run P w=.ok (.enter f as) w)(hk:∀i,i<n->(g i).length=k)
 (h:∀(w:World) (Pi:Nat->Nat->Prop) (vs:Array Value),(∀b off,Pi b off->b<w.heap.size)->vs.size=args.length->(∀i,i<args.length->RepP w Pi (vs.getD i undef) (args.getD i default)) ->
  Calls P f vs w λx w'=>∃v,x=.returned v/\RowKit.Below w.heap.size w w' /\ ((v=.slice none 0 0/\n=0) \/ ∃b cap c,v=.slice (some ⟨b,0,none⟩) n cap/\w.heap.size<=b/\w'.heap[b]? = some (.cells c e (0,0))/\n<=cap/\c.size=cap*k/\cap<=maxLen /\
   ∀i j,i<n->j<k->RepP w Pi (c.getD (i*k+j) undef) ((g i).getD j default)/\(c.getD (i*k+j) undef).oneCell' = true)):FunO (Gb P) f (args.map .p) [] (.vec 0) [.vec e k n g vw] []:=by
 intro 𝒢 C w vs rho hG hs hsz;have y:∀j,A1 (objRegs []) j=none:=λj=>by simp[objRegs,objRegs.go,A1]
 have h0:=h w (Prv C.X (A1 (objRegs [])) rho) vs (λb off hp=>by
  rcases hp with hp|⟨j,o,a,_⟩
  .exact hs.hp.bound b off hp
  .simp[y]at a) (by simpa using hsz) (λi s=>by
  have:=hs.env i
  rw[AN]at this;have e:(args.map AV.p).getD i .top=.p (args.getD i default):=by simp[s]
  rw[e]at this;exact this.toP)
 refine⟨_,_,t _ _,callsIn_wide.2 (h0.mono ?_)⟩;rintro x w' ⟨v,rfl,hb,hv⟩;have hR:∀j o,A1 (objRegs [Obj.vec e k n g vw]) j=some o->j=0/\o=.vec e k n g vw:=λj o a=>by
  simp only[objRegs,objRegs.go,A1]at a;split at a
  .rename_i hj0;cases a;exact⟨hj0.symm,rfl⟩
  cases a
 have z:A1 (objRegs [Obj.vec e k n g vw]) 0=some (.vec e k n g vw):=rfl
 let rho' : Nat->Value:=λj=>if j=0 then v else rho j
 have hr0:rho' 0=v:=rfl;have l:∀b,E8 v (.vec e k n g vw) b->w.heap.size<=b/\b<w'.heap.size:=by
  intro b a0;rcases hv with⟨rfl,_⟩ | ⟨b',cap,c,rfl,h1,h2,_⟩
  .cases a0
  cases a0;exact⟨h1,(Bg1.1 h2).1⟩
 have a1:∀b o,Prv C.X (A1 (objRegs [Obj.vec e k n g vw])) rho' b o->C.X b o \/ w.heap.size<=b:=by
  rintro b o (hX|⟨j,o',a,d,_⟩)
  .exact .inl hX
  obtain⟨rfl,rfl⟩:=hR j o' a;exact .inr (l b d).1
 have m:Keeps w (Prv C.X (A1 (objRegs [])) rho) w' (Prv C.X (A1 (objRegs [Obj.vec e k n g vw])) rho'):=λb o u hp hc=>by
  have q:=Bm0 w ⟨b,o,none⟩ hc;refine⟨by rw[<- hc];exact Bj4 (hb.block b q),λhpp=>?_⟩;rcases a1 b o hpp with hX|hge
  .exact hp (.inl hX)
  have:b<w.heap.size:=q
  omega
 refine⟨C,.ret (.vec 0),[.vec e k n g vw],[],rho',hG,⟨rfl,rfl,rfl⟩,?_,⟨v,rfl,?_⟩,λi s=>by simp at s⟩
 .refine⟨⟨λj o a=>?_,λi j oi oj b s a _ _=>by rw[(hR i oi s).1,(hR j oj a).1],λj o b off a d hX=>?_,λb off hp=>Bi0 (hs.hp.bound b off hp) hb.size⟩,hs.ext.trans ⟨hb.os,hb.output⟩,Bk3 hs.size hb.size,λb q hE=>?_,hs.keep.trans m,λb d=>?_,λj r b a=>by cases (hR j _ a).2⟩
  .obtain⟨rfl,rfl⟩:=hR j o a;rw[hr0];rcases hv with hn|⟨b,cap,c,rfl,h1,h2,h3,h4,h5,h6⟩
   .exact .inl hn
   exact .inr ⟨b,cap,c,rfl,h2,h3,h4,h5,hk,λi j s a=>⟨(h6 i j s a).1.keeps m,(h6 i j s a).2⟩⟩
  .obtain⟨rfl,rfl⟩:=hR j o a;have h1:=(l b d).1;have h2:=hs.hp.bound b off hX;omega
  .rw[hb.block b (Bi0 q hs.size)];exact hs.same b q hE
  obtain⟨j,o,a,d⟩:=d;obtain⟨rfl,rfl⟩:=hR j o a;exact .inr (Bk3 hs.size (l b d).1)
 rcases hv with⟨rfl,_⟩ | ⟨b,cap,c,rfl,_⟩
 .exact .vec 0 none 0 0 (by simp[Lv,z]) rfl
 exact .vec 0 _ n cap (by simp[Lv,z]) rfl
end Go.AM
namespace Go.AM
open Go.RowKit Go.ChangeShapes
end Go.AM
namespace Go.AM
section
variable {S:V2}{P:Program}{F:M8}{K:List It}{st:St}{g:Cfg}{pr:Prop}
def AP8 (p:Option PV)(r:ARes):Prop:=match p with
 |none=>∃a,r=.ret a
 |some x=>r=.panic x
def OE (S:V2)(f:FuncId)(first caps:List AV)(objs:List Obj)(L:List (List PV))(p:Option PV):Prop:= S.F f (first ++ .yf objs.length::caps) (objs++[.yld L true]) λr objs' ks=>∃b,objs'[objs.length]? = some (.yld [] b)/\ks[objs.length]? = some true/\(b=true->AP8 p r)/\(b=false->∃a,r=.ret a)
def endP:Option PV->IY
 |none=>.normal
 |some x=>.panic x
theorem AA3 (hS:G7 S P){g:Operand}{ps:Array Tmp}{asg body:Code}{f:FuncId}{first caps as bs:List AV}{objs:List Obj}(ids ts:List Nat)(gh:Nat)(L:List (List PV)){p:Option PV}{X:Type}(s:X->St)(J:List (List PV)->X->Prop)(x0:X)(idl:List (Nat×Nat))
 (hp:FO st.env g=some (f,first,caps)) (n:∃fn,P.funcs[f]? = some fn/\fn.body.isSome=true/\(fn.name == "runtime.NumGoroutine")=false) (q:M9 ids st.regs ids=some objs) (t:FA objs=true) (hd:I1 ids=true) (u:Ef ids first=some as) (v:Ef ids caps=some bs) (w:objs.length=ids.length)
 (z:gh<1000) (a0:A1 st.regs gh=none) (a1:ids.length<1000) (a2:I1 ts=true) (d:∀ys∈L,AK ys=some ps.size)
 (hF:OE S f as bs objs L p) (hle:Le idl ⟨Y4 ts (ts.map (get st.env)),K8 ids (ids.map λ_=>false) st.regs⟩ (s x0)) (h0:J L x0) (hk:∀x,(s x).env.map (·.1)=ts) (hn:∀x,A1 (s x).regs gh=none)
 (c:∀ys rest x,J (ys::rest) x->G S P (CJ S P body gh ts (Ax3 s J rest) (kp S P K F)) (.code asg [] ⟨MZ ps.toList ys (s x).env,ins gh (.ghost ((s x).env.map (·.2))) (s x).regs⟩))
 (i:∀x,J [] x->G S P F (.pop (endP p) K (s x))):G S P F (.code (.rangeFunc g ps asg body) K st):=by
 have j:∀{l:List Nat},I1 l=true->l.Nodup:=by
  intro l
  induction l with
  |nil=>intro _;exact Bn8
  |cons a r ih=>intro h;simp only[I1,Bg0,Bh6,Bj0,decide_eq_false_iff_not]at h;exact Bl1.2 ⟨h.1,ih h.2⟩
 refine⟨f,first,caps,as,bs,objs,ids,ts,gh,none,L,Ax3 s J,λb r=>b=true->AP8 p r,hp,n,t,hd,u,v,q,z,a0,a1,j a2,d,hS.le idl _ _ _ hle ⟨hk x0,hn x0,x0,rfl,h0⟩,?_,?_,?_⟩
 .rintro ys rest _ _ _ ⟨x,rfl,hJ⟩;have h:=c ys rest x hJ;have e:CJ S P body gh ts (Ax3 s J rest) (kp S P K F)=λe s'=>match e with
   |.normal=>S.up s' λs'=>awp S P body (GD S gh ts (Ax3 s J rest) (kp S P K F)) s'
   |_=>False:=by funext e s';cases e<;>rfl
  rw[e]at h;exact h
 .rintro _ r _ _ ⟨x,rfl,hJ⟩ hf;have h1:=hf rfl;have m:=i x hJ;cases p with
  |none=>obtain⟨a,rfl⟩:=h1;exact m
  |some y=>cases h1;exact m
 rw[<- w];refine hS.monoF _ _ _ _ _ ?_ hF;rintro r o ks ⟨b,h1,m,h3,h4⟩;exact⟨b,h1,m,h3,h4⟩
theorem AA4 (hS:G7 S P){g:Operand}{ps:Array Tmp}{asg body:Code}{f:FuncId}{first caps as bs:List AV}{objs:List Obj}{R T A:Type}{enc:T->List PV}{L:List T}{p:Option PV}{mb:(A->Option R)->T->A->Option R}{mk:A->Option R}{a0:A}{r:R}
 (ids ts:List Nat) (gh:Nat) (s:A->St) (idl:List (Nat×Nat)) (h:T1 L mb mk a0=some r) (y:OE S f as bs objs (L.map enc) p)
 (hp:FO st.env g=some (f,first,caps)) (j:∃fn,P.funcs[f]? = some fn/\fn.body.isSome=true/\(fn.name == "runtime.NumGoroutine")=false) (l:M9 ids st.regs ids=some objs) (m:FA objs=true) (z:I1 ids=true) (n:Ef ids first=some as) (o:Ef ids caps=some bs) (q:objs.length=ids.length)
 (u:Nat.blt gh 1000=true) (v:A1 st.regs gh=none) (w:Nat.blt ids.length 1000=true) (x:I1 ts=true) (d:∀t:T,AK (enc t)=some ps.size)
 (hle:Le idl ⟨Y4 ts (ts.map (get st.env)),K8 ids (ids.map λ_=>false) st.regs⟩ (s a0)) (hk:∀a,(s a).env.map (·.1)=ts) (hn:∀a,A1 (s a).regs gh=none)
 (b:∀(t:T) (next:St->Prop) (c:A->Option R) (a:A),(∀(st st1:St) (cs:List AV) (idl:List (Nat×Nat)) (a:A),Le idl st st1->A1 st1.regs gh=some (.ghost cs)->cs.length=ts.length->A1 (del gh st1.regs) gh=none->(⟨Y4 ts cs,del gh st1.regs⟩:St)=s a->c a=some r->G S P (GD S gh ts next (kp S P K F)) (.pop .normal [] st)) ->
  mb c t a=some r->G S P (CJ S P body gh ts next (kp S P K F)) (.code asg [] ⟨MZ ps.toList (enc t) (s a).env,ins gh (.ghost ((s a).env.map (·.2))) (s a).regs⟩))
 (i:∀a,mk a=some r->G S P F (.pop (endP p) K (s a))):G S P F (.code (.rangeFunc g ps asg body) K st):=by
 refine AA3 hS ids ts gh (L.map enc) s (λrest a=>∃L',rest=L'.map enc/\T1 L' mb mk a=some r) a0 idl hp j l m z n o q (by simpa[Bp8]using u) v (by simpa[Bp8]using w) x (λys hy=>?_) y hle ⟨L,rfl,h⟩ hk hn ?_ ?_
 .obtain⟨t,_,rfl⟩:=Bl0.1 hy;exact d t
 .rintro ys rest a ⟨L',hL,hx⟩;cases L' with
  |nil=>cases hL
  |cons t L'=>simp only[Bh7,Bk7]at hL;obtain⟨rfl,rfl⟩:=hL;refine b t _ (T1 L' mb mk) a (λst st1 cs idl a hle h1 h2 h3 h4 h5=>?_) hx;exact Xb hS st1 a idl hle h1 h2 h3 h4 ⟨L',rfl,h5⟩
 rintro a ⟨L',hL,hx⟩;cases L' with
 |nil=>exact i a hx
 |cons t L'=>cases hL
theorem Zk (hS:G7 S P)(hc:pr){f:FuncId}{as bs:List AV}{objs:List Obj}{R T A:Type}{enc:T->List PV}{L:List T}{p:Option PV}{mb:(A->Option R)->T->A->Option R}{mk:A->Option R}{a0:A}{r:R}
 (ids ts:List Nat) (gh:Nat) (s:A->St) {idl:List (Nat×Nat)}(h:T1 L mb mk a0=some r) (x:OE S f as bs objs (L.map enc) p)
 (i:∀t:T,AK (enc t)=some (Jl (stp P g)).size) (hk:∀a,(s a).env.map (·.1)=ts) (hn:∀a,A1 (s a).regs gh=none) (m:∀a,(⟨Y4 ts ((s a).env.map (·.2)),del gh (ins gh (.ghost ((s a).env.map (·.2))) (s a).regs)⟩:St)=s a)
 (c:∀(t:T) (next:St->Prop) (d:A->Option R) (a:A),
  (∀(g' : Cfg) (ids:List (Nat×Nat)) (pr:Prop) (a:A),pr->d a=some r->(hp:pr=C6 (cnd P g'):=by kernel_rfl)->(b:stp P g' = .pop .normal [] (stp P g').st:=by kernel_rfl)->(hle:KLe ids (stp P g').st (rst gh (s a)):=by exact kl)->KG S P (GD S gh ts next (kp S P (stp P g).k F)) g') ->
  mb d t a=some r->KG S P (CJ S P (UW (stp P g)) gh ts next (kp S P (stp P g).k F)) (.code (UV (stp P g)) [] (UY gh (Jl (stp P g)) (enc t) (s a))))
 (j:∀a,mk a=some r->KG S P F (.pop (endP p) (stp P g).k (s a)))
 (hp:pr=C6 (cnd P g):=by kernel_rfl) (b:UU P ids (stp P g)=some (f,as,bs,objs):=by kernel_rfl) (o:Nat.blt gh 1000=true:=by kernel_rfl) (n:A1 (stp P g).st.regs gh=none:=by kernel_rfl) (q:I1 ts=true:=by kernel_rfl)
 (hle:KLe idl (UX ids ts (stp P g)) (s a0):=by exact kl):KG S P F g:=by
 refine⟨FB hS hc ?_ hp⟩;have u:=(IS b).2;replace b:=(IS b).1;generalize stp P g=g1 at i c j b n hle;unfold OB at b;split at b
 .rename_i op ps asg body K st;split at b
  .rename_i f' first caps v
   split at b
   .rename_i objs' as' bs' y z h4;split at b
    .rename_i w;simp only[Bf8,Bg4]at b;obtain⟨rfl,rfl,rfl,rfl⟩:=b;simp only[Bg0,Bh6,beq_iff_eq]at w;obtain⟨⟨⟨e3,e4⟩,e5⟩,e6⟩:=w;refine AA4 hS ids ts gh s idl h x v u y e3 e4 z h4 e5 o n e6 q i hle.out hk hn (λt next d a hb hm=>?_) (λa hm=>(j a hm).out);refine (c t next d a (λg' ids' pr a hc l hp b hle=>⟨FB hS hc ?_ hp⟩) hm).out;rw[b];have hl:((s a).env.map (·.2)).length=ts.length:=by rw[<- hk a];simp
     refine hb _ (rst gh (s a)) ((s a).env.map λp=>p.2) ids' a hle.out (HZ gh (s a)) hl ?_ (m a) l
     have:=congrArg St.regs (m a)
     simp only at this;show A1 (del gh (ins gh _ _)) gh=none;rw[this];exact hn a
    cases b
   cases b
  cases b
 cases b
theorem Al6 (hS:G7 S P){f:FuncId}{fn:Func}{first caps:List AV}{objs:List Obj}{L:List (List PV)}{p:Option PV}(i:P.funcs[f]? = some fn)
 (h:KG S P (CH S P (objs++[Obj.yld L true]).length fn.results.toList λr objs' ks=>∃b,objs'[objs.length]? = some (.yld [] b)/\ks[objs.length]? = some true/\(b=true->AP8 p r)/\(b=false->∃a,r=.ret a)) (.code (fn.body.getD .skip) [] { env:=argEnv (first ++ .yf objs.length::caps),regs:=objRegs (objs++[Obj.yld L true]) }))
 (hc:fn.body.isSome=true:=by kernel_rfl) (hn:Nat.ble (first ++ .yf objs.length::caps).length fn.ntmps=true:=by kernel_rfl) (j:Nat.blt (objs++[Obj.yld L true]).length 1000=true:=by kernel_rfl)
 (d:BC fn.ntmps (fn.body.getD .skip)=true:=by kernel_rfl) (g:(fn.name == "runtime.NumGoroutine")=false:=by kernel_rfl):OE S f first caps objs L p:=by
 obtain⟨code,c⟩:=Bh1.1 hc;rw[c,Bg6]at d h;exact LQ hS i c (Bl9 hn) (by simpa[Bp8]using j) rfl d g h.out
theorem AA5 (hS:G7 S P){f:FuncId}{fn:Func}{args:List AV}{objs:List Obj}{Q:ARes->List Obj->List Bool->Prop}(d:P.funcs[f]? = some fn)
 (h:KG S P (CH S P objs.length fn.results.toList Q) (.code (fn.body.getD .skip) [] { env:=argEnv args,regs:=objRegs objs }))
 (hc:fn.body.isSome=true:=by kernel_rfl) (hn:Nat.ble args.length fn.ntmps=true:=by kernel_rfl) (g:Nat.blt objs.length 1000=true:=by kernel_rfl)
 (b:BC fn.ntmps (fn.body.getD .skip)=true:=by kernel_rfl) (c:(fn.name == "runtime.NumGoroutine")=false:=by kernel_rfl):S.F f args objs Q:=by
 obtain⟨code,a⟩:=Bh1.1 hc;rw[a,Bg6]at b h;exact LQ hS d a (Bl9 hn) (by simpa[Bp8]using g) rfl b c h.out
def panE:Cfg->Option PV
 |.ops all (o::_) _ st=>match BD all st.env o,o.op with
  |some true,.panic x=>match aev st.env x with
   |.p (.iface t y)=>some (.iface t y)
   |_=>none
  |_,_=>none
 |_=>none
def panC (x:PV):Cfg->Cfg
 |.ops _ _ K st=>.pop (.panic x) K st
 |g=>g
theorem AP9 (hS:G7 S P)(hc:pr){x:PV}(hk:KG S P F (panC x (stp P g)))(hp:pr=C6 (cnd P g):=by kernel_rfl)(a:panE (stp P g)=some x:=by kernel_rfl):KG S P F g:=by
 refine⟨FB hS hc ?_ hp⟩;have hk:=hk.out;generalize stp P g=g1 at hk a;unfold panE at a;split at a
 .rename_i all o rest K st;split at a
  .rename_i y b c;split at a
   .rename_i t z hx;cases a;exact AN9 hS b c hx hk
   cases a
  cases a
 cases a
def AA6:Cfg->Option PV
 |.pop (.panic x) [] _=>some x
 |_=>none
theorem AI1 (hS:G7 S P)(hc:pr){n:Nat}{rs:List ResultVar}{Q:ARes->List Obj->List Bool->Prop}{x:PV}{objs:List Obj}(outs:List Nat)(c:Q (.panic x) objs (FF n outs))(hp:pr=C6 (cnd P g):=by kernel_rfl)
 (a:AA6 (stp P g)=some x:=by kernel_rfl) (d:I1 outs=true:=by kernel_rfl) (b:M9 outs (stp P g).st.regs outs=some objs:=by kernel_rfl):KG S P (CH S P n rs Q) g:=by
 refine⟨FB hS hc ?_ hp⟩;generalize stp P g=g1 at a b;unfold AA6 at a;split at a
 .cases a;exact⟨outs,objs,d,b,c⟩
 cases a
theorem AQ0 (hS:G7 S P){all rest:List Oper}{o:Oper}{c:Call}{f:Operand}{as:List AV}{regs:C0}{fn:FuncId}{as' args:List AV}{objs objs' : List Obj}{ks:List Bool}{x:PV}(ids:List Nat)
 (d:BD all st.env o=some true) (g:o.op=.call c) (b:c.callee=.value f) (ha:HM st.regs (c.args.toList.map (aev st.env))=some (as,regs))
 (hw:QR st.env f as=some (fn,as')) (i:Ef ids as' = some args) (a:M9 ids regs ids=some objs) (j:S.F fn args objs λres o k=>res=.panic x/\o=objs' /\ k=ks)
 (l:I1 ids=true) (hy:FA objs=true) (hn:X2 regs ids ks (o.dst.getD 0) objs'.length=true)
 (hk:G S P F (.pop (.panic x) K { env:=st.env,regs:=back (H3 (o.dst.getD 0) ids ks objs'.length) (H3 (o.dst.getD 0) ids ks objs'.length) objs' (K8 ids ks regs) })) :
 G S P F (.ops all (o::rest) K st):=by
 refine BF hS d ?_;unfold wOp;obtain⟨callee,cargs,types⟩:=c;simp only at b ha;subst b;rw[g];refine .inl ⟨as,regs,_,_,.inl ha,hw,ids,args,objs,l,i,a,hy,hS.monoF _ _ _ _ _ ?_ j⟩;rintro _ _ _ ⟨rfl,rfl,rfl⟩;exact⟨hn,hk⟩
def AI2 (ids:List Nat)(ks:List Bool)(x:PV)(objs' : List Obj):Cfg->Cfg
 |.ops all (o::rest) K st=>match o.op with
  |.call c=>match HM st.regs (c.args.toList.map (aev st.env))with
   |some (_,regs)=>mkO st.env (back (H3 (o.dst.getD 0) ids ks objs'.length) (H3 (o.dst.getD 0) ids ks objs'.length) objs' (K8 ids ks regs)) λenv regs=>.pop (.panic x) K ⟨env,regs⟩
   |none=>.ops all (o::rest) K st
  |_=>.ops all (o::rest) K st
 |g=>g
theorem AQ1 (hS:G7 S P)(ids:List Nat)(hc:pr){fn:FuncId}{args:List AV}{objs objs' : List Obj}{x:PV}{ks:List Bool}(i:S.F fn args objs λres o k=>res=.panic x/\o=objs' /\ k=ks)
 (hk:KG S P F (AI2 ids ks x objs' (stp P g))) (hp:pr=C6 (cnd P g):=by kernel_rfl) (a:Ab3 ids (stp P g)=some (fn,args,objs):=by kernel_rfl) (hn:Ab4 ids ks objs'.length (stp P g)=true:=by kernel_rfl):KG S P F g:=by
 refine⟨FB hS hc ?_ hp⟩;replace hk:=hk.out;generalize stp P g=g' at a hn hk;unfold Ab3 at a;split at a
 .split at a
  .rename_i j f;split at a
   .rename_i c;split at a
    .rename_i ha;split at a
     .rename_i hw;split at a
      .rename_i l d;split at a
       .rename_i b;cases a;simp only[Bg0]at b;simp only[AI2,Ab4,f,ha,Gm]at hk hn;exact AQ0 hS ids j f c ha hw l d i b.1 b.2 hn hk
       cases a
      cases a
     cases a
    cases a
   cases a
  cases a
 cases a
def Ru (S:V2)(R:St->Prop)(X:PV->St->Prop):M8
 |.normal,st=>S.up st R
 |.panic x,st=>X x st
 |_,_=>False
theorem K_upN (hS:G7 S P)(hc:pr){R:St->Prop}{X:PV->St->Prop}(st:St){ids:List (Nat×Nat)}(hR:R st)(hp:pr=C6 (cnd P g):=by kernel_rfl)(a:stp P g=.pop .normal [] (stp P g).st:=by kernel_rfl)
 (hle:KLe ids (stp P g).st st:=by exact kl):KG S P (Ru S R X) g:=by
 refine⟨FB hS hc ?_ hp⟩;rw[a];exact hS.le ids _ _ R hle.out hR
theorem K_upP (hS:G7 S P)(hc:pr){R:St->Prop}{X:PV->St->Prop}{x:PV}(b:X x (stp P g).st)(hp:pr=C6 (cnd P g):=by kernel_rfl)(a:AA6 (stp P g)=some x:=by kernel_rfl):KG S P (Ru S R X) g:=by
 refine⟨FB hS hc ?_ hp⟩;generalize stp P g=g1 at a b;unfold AA6 at a;split at a
 .cases a;exact b
 cases a
end
end Go.AM
namespace Go.AM
section
variable {S:V2}{P:Program}{F:M8}{K:List It}{g:Cfg}{pr:Prop}
theorem Xk (hS:G7 S P){all:List Oper}{o:Oper}{k k' : St->Prop}{Q Q' : M8}(hk:∀s,k s->k' s)(hq:∀x s,Q (.panic x) s->Q' (.panic x) s){st:St}(h:HG S P all o k Q st):HG S P all o k' Q' st:=by
 have e:∀st,wOp S P o k Q st->wOp S P o k' Q' st:=by
  intro st h;have u:∀d ids f args st,WA S d ids f args st (HN o.dst k Q)->WA S d ids f args st (HN o.dst k' Q'):=by
   rintro d ids f args st ⟨a,ob,h1,l,q,v,w⟩;refine⟨a,ob,h1,l,q,v,hS.monoF _ _ _ _ _ (λr o ks ⟨z,h7⟩=>⟨z,?_⟩) w⟩;cases r with
   |ret a=>exact hk _ h7
   |panic x=>exact hq _ _ h7
  unfold wOp at h⊢;split at h
  .rcases h with⟨as,regs,f',as',h1,l,ids,q⟩ | ⟨j,xs,regs,ys,rest,h1,l,q,v,w,z⟩ | ⟨f',as',c,xs,h1,l,q,v⟩ | ⟨j,jw,e,m,n,g,rest,h1,l,q,v⟩
   .exact .inl ⟨as,regs,f',as',h1,l,ids,u _ _ _ _ _ q⟩
   .exact .inr (.inl ⟨j,xs,regs,ys,rest,h1,l,q,v,w,λb=>hk _ (z b)⟩)
   .exact .inr (.inr (.inl ⟨f',as',c,xs,h1,l,q,hS.monoF _ _ _ _ _ (λr o ks e=>e.imp (fun⟨a,e1,e2,e3⟩=>⟨a,e1,e2,hk _ e3⟩) fun⟨e0,m,n,g,e1,e2,e3,e4,e5⟩=>⟨e0,m,n,g,e1,e2,e3,e4,hk _ e5⟩) v⟩))
   exact .inr (.inr (.inr ⟨j,jw,e,m,n,g,rest,h1,l,q,λb=>hk _ (v b)⟩))
  .obtain⟨as,regs,t,y,f',h1,l,q,ids,v⟩:=h;exact⟨as,regs,t,y,f',h1,l,q,ids,u _ _ _ _ _ v⟩
  .obtain⟨t,y,h1,l⟩:=h;exact⟨t,y,h1,hq _ _ l⟩
  .obtain⟨j,cl,last,seen,jm,es,h1,l,q,v,w,z,h7⟩:=h;exact⟨j,cl,last,seen,jm,es,h1,l,q,v,w,λg=>hk _ (z g),λi hi hs=>hk _ (h7 i hi hs)⟩
  rcases h with⟨out,h1,l,q⟩ | ⟨c,x,h1,l,q⟩ | ⟨out,h1,l,q⟩
  .exact .inl ⟨out,h1,l,hk _ q⟩
  .exact .inr (.inl ⟨c,x,h1,l,hk _ q⟩)
  exact .inr (.inr ⟨out,h1,l,hk _ q⟩)
 unfold HG at h⊢;refine hS.mono _ _ _ (λt h=>?_) h;split at h
 .exact e _ h
 obtain⟨b,h1,l⟩:=h;refine⟨b,h1,?_⟩;split
 .rename_i hb;rw[Ej hb]at l;exact e _ l
 rename_i hb;rw[Er hb]at l;exact hk _ l
def AQ2 (all:List Oper)(n:Nat):Bool:= Nat.blt n all.length&&(List.range all.length).all λi=>Nat.blt i n||(List.range i).all λj=>((AW7 all).getD i []).contains j
def Xl (all:List Oper)(n:Nat):Bool:=(all.take n).all λo=>match o.guard with
 |some (j,_)=>Nat.blt j n
 |none=>true
theorem Ab8 (all:List Oper){n:Nat}(b:Xl all n=true){o:Oper}(c:o∈all.take n){k:St->Prop}{Q:M8}{s:St}(h:HG S P (all.take n) o k Q s):HG S P all o k Q s:=by
 have h1:=Bg7.1 b o c;unfold HG at h⊢;cases a:o.guard with
 |none=>simpa only[a]using h
 |some q=>
  obtain⟨j,want⟩:=q;simp only[a,Bp8]at h1 h⊢;have e:FP (all.take n) j=FP all j:=by unfold FP;rw[Bo1,Ej h1]
  rw[e]at h;exact h
theorem Vc (hS:G7 S P){all:List Oper}{n:Nat}{Q:M8}{st:St}(r:HO all=true)(y:AQ2 all n=true)(hg:Xl all n=true)
 (h:WC S P (all.take n) (λe s=>match e with | .normal=>IZ S P all (all.drop n) Q s | .panic x=>Q (.panic x) s|_=>False) st):WC S P all Q st:=by
 obtain⟨z,hdp,Inv,h0,u,a0⟩:=h;simp only[AQ2,Bg0,Bp8,Bg7,Bk1,Bk8,Bj0,decide_eq_true_eq]at y;obtain⟨hn,y⟩:=y
 let down:(Nat->Bool)->Prop:=λD=>∀i o,D i=true->all[i]? = some o->∀e∈o.after.toList,EM e=true->D e.on=true
 let Inv' : (Nat->Bool)->St->Prop:=λD s=>down D/\(((∀i,n<=i->D i=false)/\Inv D s) \/ ∃j,n<=j/\j<=all.length/\(∀i,i<all.length->(D i=true↔i<j))/\IZ S P all (all.drop j) Q s)
 refine⟨z,r,Inv',⟨λi o hi=>(by cases hi),.inl ⟨λ_ _=>rfl,h0⟩⟩,?_,?_⟩
 .intro D i s o ⟨hD,hc⟩ ho hDi b;have g:i<all.length:=(Bg9.1 ho).1;have t:=LP r hD i o ho b;have l:down λj=>if j=i then true else D j:=by
   intro j oj m v e he hbe;show (if e.on=i then true else D e.on)=true;by_cases e1:j=i
   .subst e1;rw[ho]at v;cases v;split
    .rfl
    exact b e he hbe
   have m:(if j=i then true else D j)=true:=m;rw[Er e1]at m;split
   .rfl
   exact hD j oj m v e he hbe
  have d:(∀j,j<i->D j=true)->(∀j,i<j->j<all.length->D j=false)->n<=i->S.up s (IZ S P all (all.drop i) Q)->HG S P all o (Inv' λj=>if j=i then true else D j) Q s:=by
   intro c hhi hni h2;have hd:all.drop i=o::all.drop (i+1):=by rw[Bp4 g];congr 1;exact (Bg9.1 ho).2
   rw[hd]at h2;have h3:HG S P all o (IZ S P all (all.drop (i+1)) Q) Q s:=hS.trans _ _ h2;refine LR hS (λs' w=>?_) (λe s h=>h) h3;refine⟨l,.inr ⟨i+1,by omega,g,λi' hi'=>?_,w⟩⟩;by_cases e:i' = i
   .simp[e]
   simp only[e,Ev];constructor
   .intro q;by_cases h5:i<i'
    .rw[hhi i' h5 hi']at q;cases q
    omega
   intro q;exact c i' (by omega)
  rcases hc with⟨c,hI⟩ | ⟨j,hj1,hj2,f,hw⟩
  .by_cases hi:i<n
   .have ho' : (all.take n)[i]? = some o:=by rw[Bo1,Ej hi];exact ho
    have h1:=Ab8 all hg (Bi4 ho') (u D i s o hI ho' hDi b);refine Xk hS (λs' w=>?_) (λx s' h=>h) h1;refine⟨l,.inl ⟨λi' h'=>?_,w⟩⟩
    have:i' ≠ i:=by omega
    show (if i' = i then true else D i')=false;rw[Er this];exact c i' h'
   have a:∀j,j<i->D j=true:=λj m=>t j ((y i g).resolve_left hi j m);have e:i=n:=by
    by_cases q:n<i
    .have:=a n q;rw[c n (Bg5 _)]at this;cases this
    omega
   subst e;refine d a (λj m _=>c j (by omega)) (Bg5 _) ?_;exact a0 D s hI λj m=>a j (by simp at m;omega)
  have e:i=j:=by
   by_cases q:i<j
   .have:=(f i g).2 q;rw[hDi]at this;cases this
   by_cases h5:j<i
   .have a:D j=true:=t j ((y i g).resolve_left (by omega) j h5)
    have:=(f j (by omega)).1 a;omega
   omega
  subst e;refine d (λj m=>(f j (by omega)).2 m) (λj h1 h2=>?_) hj1 (hS.refl _ _ hw);cases hh:D j with
  |false=>rfl
  |true=>have:=(f j h2).1 hh;omega
 rintro D s ⟨hD,hc⟩ a;rcases hc with⟨c,hI⟩ | ⟨j,hj1,hj2,f,hw⟩
 .have:=a n hn;rw[c n (Bg5 _)]at this;cases this
 have e:j=all.length:=by
  by_cases q:j<all.length
  .have:=(f j q).1 (a j q);omega
  omega
 subst e;rw[List.drop_length]at hw;exact hS.refl _ _ hw
def NG (n:Nat)(ls:List (Nat×Cls)):Cfg->SC
 |.code (.region _ ops true) _ st=>⟨ops.toList.take n,Bf2 ls 0 (ops.toList.take n),ops.toList.take n,st.env,st.regs,[]⟩
 |_=>⟨[],[],[],[],[],[]⟩
def Al7 (n:Nat)(env:Env)(regs:C0):Cfg->Cfg
 |.code (.region _ ops true) K _=>.ops ops.toList (ops.toList.drop n) K ⟨env,regs⟩
 |g=>g
def Al8 (n:Nat):Cfg->Bool
 |.code (.region _ ops true) _ _=>HO ops.toList&&AQ2 ops.toList n&&Xl ops.toList n
 |_=>false
theorem AA7 (hS:G7 S P)(hc:pr)(n:Nat)(ls:List (Nat×Cls))(h:DG S P (NG n ls (stp P g)) λenv regs=>KG S P F (Al7 n env regs (stp P g)))(hp:pr=C6 (cnd P g):=by kernel_rfl)(c:Di (stp P g)=true:=by kernel_rfl)(a:P.follows .mixedOrders=true:=by kernel_rfl)
 (b:Ms (NG n ls (stp P g)).all (NG n ls (stp P g)).cls=true:=by kernel_rfl) (hb:Al8 n (stp P g)=true:=by kernel_rfl):KG S P F g:=by
 have e:(λenv regs=>KG S P F (Al7 n env regs (stp P g)))=λenv regs=>G S P F (Al7 n env regs (stp P g)):=by funext env regs;exact propext ⟨λh=>h.out,λh=>⟨h⟩⟩
 rw[e]at h;refine⟨FB hS hc ?_ hp⟩;have h:=h.out;generalize stp P g=g' at c b h hb;unfold Di at c;split at c
 .rename_i id ops K st;simp only[Al8,Bg0]at hb;show awp S P (.region id ops true) (kp S P K F) st;simp only[awp,Eu];refine Vc hS hb.1.1 hb.1.2 hb.2 ?_;have d:(ops.toList.take n).toArray.toList=ops.toList.take n:=rfl
  have:=YL hS (F:=λe s=>match e with | .normal=>IZ S P ops.toList (ops.toList.drop n) (kp S P K F) s | .panic x=>kp S P K F (.panic x) s|_=>False) (K:=[]) (id:=id) (ops:=(ops.toList.take n).toArray) (Bf2 ls 0 (ops.toList.take n)) a b h
  simpa only[G,awp,Eu,kp,NG]using this
 cases c
end
end Go.AM
namespace Go.AM
open Go.RowKit Go.ChangeShapes Go.Deep
mutual
inductive LeD:PV->PV->Prop
 |refl (x:PV):LeD x x
 |sl {k n:Nat}{f g:Nat->List PV}(h:∀i,i<n->LeDs (f i) (g i)):LeD (.sl false k n f) (.sl false k n g)
inductive LeDs:List PV->List PV->Prop
 |nil:LeDs [] []
 |cons {x y:PV}{l r:List PV}(h:LeD x y) (h' : LeDs l r):LeDs (x::l) (y::r)
end
theorem LeDs.refl:∀l:List PV,LeDs l l
 |[]=>.nil
 |x::l=>.cons (.refl x) (LeDs.refl l)
theorem LeDs.length {l r:List PV}(h:LeDs l r):l.length=r.length:=by
 induction l generalizing r with
 |nil=>cases h;rfl
 |cons x l ih=>cases h with|cons _ h'=>simp[ih h']
theorem LeDs.get {l r:List PV}(h:LeDs l r):∀i,LeD (l.getD i default) (r.getD i default):=by
 induction l generalizing r with
 |nil=>cases h;exact λi=>.refl _
 |cons x l ih=>
  cases h with
  |cons h h'=>
   intro i;cases i with
   |zero=>exact h
   |succ i=>simpa using ih h' i
theorem LeDs.append {a b c d:List PV}(h:LeDs a b)(h' : LeDs c d):LeDs (a++c) (b++d):=by
 induction a generalizing b with
 |nil=>cases h;exact h'
 |cons x l ih=>cases h with|cons h1 h2=>exact .cons h1 (ih h2)
theorem RepP.leD {w:World}{Pi:Nat->Nat->Prop}{v:Value}{x:PV}(h:RepP w Pi v x):∀{y:PV},LeD x y->RepP w Pi v y:=by
 induction h with
 |slnil k f=>intro y hy;cases hy with
  |refl=>exact .slnil _ _
  |sl h=>exact .slnil _ _
 |sl nn b off cap k n f c hn hk hc h sp hsp ih=>
  intro y hy;cases hy with
  |refl=>exact .sl nn b off cap k n f c hn hk hc h sp hsp
  |sl h'=>exact .sl false b off cap k n _ c hn (λi d=>by rw[<- (h' i d).length];exact hk i d) hc (λi j d g=>ih i j d g ((h' i d).get j)) sp hsp
 |v x=>intro y hy;cases hy;exact .v x
 |bb b=>intro y hy;cases hy;exact .bb b
 |str l=>intro y hy;cases hy;exact .str l
 |agg vs cs hs h1 h ih=>intro y hy;cases hy;exact .agg vs cs hs h1 h
 |ptr b off cs c hc h ih=>intro y hy;cases hy;exact .ptr b off cs c hc h
 |iface t x a h ih=>intro y hy;cases hy;exact .iface t x a h
 |fn f x y a b hx hy ha hb iha ihb=>intro y hy;cases hy;exact .fn f x _ a b hx ‹_› ha hb
theorem CRep.leD {W:World}{cs:List Value}{p q:List PV}(h:CRep W cs p)(hl:LeDs p q):CRep W cs q:=
 ⟨by rw[h.1,hl.length],λi a=>⟨(h.2 i (by rw[hl.length];exact a)).1.leD (hl.get i),(h.2 i (by rw[hl.length];exact a)).2⟩⟩
section
variable {P:Program}{t e:TypeId}{m:Nat}{pvs:List PV}
def Ku (f:Nat->Nat):Nat->Nat
 |0=>0
 |k+1=>Ku f k+f k
theorem AQ3 (f:Nat->Nat){k n:Nat}(h:k<=n):Ku f k<=Ku f n:=by
 induction h with
 |refl=>exact Bg5 _
 |step _ ih=>simp only[Ku];omega
theorem Al9 (f:Nat->Nat){k n:Nat}(h:k<n):f k<=Ku f n:=by
 have:=AQ3 f (show k+1<=n from h)
 simp only[Ku]at this;omega
theorem Vd {f g:Nat->Nat}:∀{n:Nat},(∀i,i<n->f i<=g i)->Ku f n<=Ku g n
 |0,_=>Bg5 _
 |n+1,h=>by have h1:=Vd (n:=n) λi a=>h i (by omega);have b:=h n (by omega);simp only[Ku];omega
theorem Rv (f:Nat->Nat):∀n,Wy ((List.range n).map f)=Ku f n:=by
 have app:∀a b:List Nat,Wy (a++b)=Wy a+Wy b:=by
  intro a b
  induction a with
  |nil=>simp[Wy]
  |cons x r ih=>simp only[Bi7,UL,ih];omega
 intro n
 induction n with
 |zero=>rfl
 |succ n ih=>rw[Br4,Bo7,app,ih];simp[Ku,Wy]
def OF (P:Program)(t:TypeId){T:Type}(c:T->List PV)(W:T->Prop)(sz:T->Nat):Prop:= ∀(m:Nat) (pvs:List PV),JZ P m t pvs->∃x:T,LeDs pvs (c x)/\W x/\sz x<=m
theorem S1 {k:IntKind}(ht:P.underlying t=some (.int k)):OF P t (cI k) (λn=>(Lit.int k n).wf=true) (λ_=>1):=by
 intro m pvs h;cases h with
 |bool ht'=>rw[ht]at ht';cases ht'
 |str ht'=>rw[ht]at ht';cases ht'
 |slice _ ht'=>rw[ht]at ht';cases ht'
 |arr ht'=>rw[ht]at ht';cases ht'
 |struct ht'=>rw[ht]at ht';cases ht'
 |int ht' hw hm=>rw[ht]at ht';cases ht';exact⟨_,LeDs.refl _,hw,hm⟩
theorem Ab9 (ht:P.underlying t=some .bool):OF P t cB (λ_=>True) (λ_=>1):=by
 intro m pvs h;cases h with
 |int ht'=>rw[ht]at ht';cases ht'
 |str ht'=>rw[ht]at ht';cases ht'
 |slice _ ht'=>rw[ht]at ht';cases ht'
 |arr ht'=>rw[ht]at ht';cases ht'
 |struct ht'=>rw[ht]at ht';cases ht'
 |bool ht' hm=>exact⟨_,LeDs.refl _,trivial,hm⟩
theorem Am0 (ht:P.underlying t=some .string):OF P t cS (λ_=>True) (λl=>l.length+1):=by
 intro m pvs h;cases h with
 |int ht'=>rw[ht]at ht';cases ht'
 |bool ht'=>rw[ht]at ht';cases ht'
 |slice _ ht'=>rw[ht]at ht';cases ht'
 |arr ht'=>rw[ht]at ht';cases ht'
 |struct ht'=>rw[ht]at ht';cases ht'
 |str ht' hm=>exact⟨_,LeDs.refl _,trivial,hm⟩
theorem Cf {T:Type}[Inhabited T]{c:T->List PV}{W:T->Prop}{sz:T->Nat}{k:Nat}(ht:P.underlying t=some (.slice e))(hk:P.cellsOf e=k)(h:OF P e c W sz) :OF P t (cL k c) (λs=>∀i,i<s.n->W (s.g i)) (λs=>Ku (λi=>sz (s.g i)) s.n+1):=by
 intro m pvs hs;cases hs with
 |int ht'=>rw[ht]at ht';cases ht'
 |bool ht'=>rw[ht]at ht';cases ht'
 |str ht'=>rw[ht]at ht';cases ht'
 |arr ht'=>rw[ht]at ht';cases ht'
 |struct ht'=>rw[ht]at ht';cases ht'
 | @slice _ _ e' n f ms ht' hl hel hm=>
  rw[ht]at ht';cases ht';obtain⟨g,b⟩:=choose_lt (α:=T) (p:=λi x=>LeDs (f i) (c x)/\W x/\sz x<=ms i) λi a=>h _ _ (hel i a);refine⟨⟨n,g⟩,?_,λi a=>(b i a).2.1,?_⟩
  .subst hk;exact .cons (.sl λi a=>(b i a).1) .nil
  have h1:=Vd (n:=n) λi a=>(b i a).2.2;rw[Rv]at hm;show Ku (λi=>sz (g i)) n+1<=m;omega
theorem Cy {fs:Array Field}(ht:P.underlying t=some (.struct fs))(h:JZ P m t pvs):∃m',HU P m' (fs.toList.map (·.type)) pvs/\m' + 1<=m:=by
 cases h with
 |int ht'=>rw[ht]at ht';cases ht'
 |bool ht'=>rw[ht]at ht';cases ht'
 |str ht'=>rw[ht]at ht';cases ht'
 |slice _ ht'=>rw[ht]at ht';cases ht'
 |arr ht'=>rw[ht]at ht';cases ht'
 |struct ht' h hm=>rw[ht]at ht';cases ht';exact⟨_,h,hm⟩
theorem E7 {ts:List TypeId}(h:HU P m (t::ts) pvs):∃a b p q,pvs=p++q/\JZ P a t p/\HU P b ts q/\a+b<=m:=by
 cases h with
 |cons h h' hm=>exact⟨_,_,_,_,rfl,h,h',hm⟩
theorem EH (h:HU P m [] pvs):pvs=[]:=by cases h;rfl
end
end Go.AM
namespace Go.AM
section
variable {S:V2}{P:Program}{sc:SC}{k:Env->C0->Prop}{pr:Prop}
end
end Go.AM
namespace Go.AM
section
variable {κ ν : Type}
def HK (eq : κ -> κ -> Bool)(k : κ)(z : ν):List (κ × ν)->Nat × ν×List (κ × ν)
 |[]=>(0,z,[(k,z)])
 |(a,v)::es=>if eq k a then (0,v,(k,v)::es)else ((HK eq k z es).1+1,(HK eq k z es).2.1,(a,v)::(HK eq k z es).2.2)
def AU2:List (κ × ν)->Nat -> ν -> List (κ × ν)
 |[],_,_=>[]
 |(a,_)::es,0,v=>(a,v)::es
 |p::es,n+1,v=>p::AU2 es n v
theorem NH {kP : κ -> PV}{vP : ν -> PV}{cmp:PV->PV->Option Bool}{eq : κ -> κ -> Bool}(hc:∀a b,cmp (kP a) (kP b)=some (eq a b))(k : κ)(z : ν):∀es:List (κ × ν),
 ∃q,Fz cmp (kP k) (Dc kP vP es)=some q/\ent (kP k) (vP z) (Dc kP vP es) q=((HK eq k z es).1,vP (HK eq k z es).2.1,Dc kP vP (HK eq k z es).2.2)
 |[]=>⟨none,rfl,rfl⟩
 |(a,v)::es=>by
  have e0:Dc kP vP ((a,v)::es)=(kP a,vP v)::Dc kP vP es:=rfl;rw[e0];simp only[Fz,hc,HK];cases h:eq k a
  .obtain⟨q,h1,c⟩:=NH (vP:=vP) hc k z es;refine⟨q.map (· + 1),by simp[h1],?_⟩;cases q with
   |none=>simp only[ent,Bg4]at c;simp only[ent,Bu0,Bg3,Ev,Bi8,Bg4];refine⟨by rw[c.1],c.2.1,?_⟩;rw[Bi7,c.2.2];rfl
   |some j=>simp only[ent,Bg4]at c;simp only[ent,Bg8,Bg3,Ev,Bg4];refine⟨by rw[c.1],by simpa using c.2.1,?_⟩;rw[By3,Bz3,c.2.2];rfl
  exact⟨some 0,rfl,rfl⟩
theorem Ve {eq : κ -> κ -> Bool}(c:∀a b,eq a b=true->a=b){k : κ}{z v : ν}:∀{es:List (κ × ν)},T0 eq k es=some v->(HK eq k z es).2=(v,es)
 |[],h=>by cases h
 |(a,x)::es,h=>by
  simp only[T0]at h;simp only[HK];split at h
  .rename_i hk;cases h;rw[Ej hk,c _ _ hk]
  rename_i hk;rw[Er hk,Ve c h]
theorem Kd (eq : κ -> κ -> Bool)(k : κ)(z : ν):∀es:List (κ × ν),(HK eq k z es).1<(HK eq k z es).2.2.length
 |[]=>by simp[HK]
 |(a,v)::es=>by
  have:=Kd eq k z es
  simp only[HK];split<;>simp<;>omega
theorem KR {kP : κ -> PV}{vP : ν -> PV}:∀(es:List (κ × ν)) (i:Nat) (v : ν),i<es.length->AK7 (Dc kP vP es) i (vP v)=Dc kP vP (AU2 es i v)
 |[],i,v,h=>Es h (by simp)
 |(a,x)::es,0,v,h=>rfl
 |p::es,n+1,v,h=>by have ih:=KR (kP:=kP) (vP:=vP) es n v (by simpa using h);have e0:Dc kP vP (p::es)=(kP p.1,vP p.2)::Dc kP vP es:=rfl;have e1:Dc kP vP (AU2 (p::es) (n+1) v)=(kP p.1,vP p.2)::Dc kP vP (AU2 es n v):=rfl;rw[e0,e1,<- ih];simp only[AK7,By3,Bz3]
theorem KS (eq : κ -> κ -> Bool)(k : κ)(z v : ν):∀es:List (κ × ν),AU2 (HK eq k z es).2.2 (HK eq k z es).1 v=Eh eq k v es
 |[]=>rfl
 |(a,x)::es=>by
  have ih:=KS eq k z v es;simp only[HK,Eh];by_cases h:eq k a=true
  .simp only[h,Eu];rfl
  simp only[h,Ev,Bg3];show (a,x)::AU2 (HK eq k z es).2.2 (HK eq k z es).1 v=_;rw[ih]
end
section
variable {S:V2}{P:Program}{F:M8}{g:Cfg}{pr:Prop}
structure EntI where
 kt:TypeId
 key:PV
 z:PV
 es:List (PV×PV)
end
end Go.AM
namespace Go.AM
section
variable {S:V2}{P:Program}{F:M8}{g:Cfg}{pr:Prop}
end
end Go.AM
namespace Go.AM
section
variable {S:V2}{P:Program}{pr:Prop}{sc:SC}{k:Env->C0->Prop}
def AA8 (P:Program)(sc:SC):Option EntI:=match sc.cls,sc.rest with
 |cl::_,o::_=>match Ap sc.all sc.env o,o.op,UI cl sc.env (o.dst.getD 0) o.op with
  |some true,.mapEntry t m k,true=>match aev sc.env k,aev sc.env m with
   |.p key,.mref j=>match A1 sc.regs j,tk P t with
    |some (.map es),some (.map kt e)=>match Hm P e with
     |some z=>if Gf P kt (nP key) then some ⟨kt,nP key,z,es⟩else none
     |none=>none
    |_,_=>none
   |_,_=>none
  |_,_,_=>none
 |_,_=>none
def Vf (P:Program)(sc:SC):Option EntI:=match sc.cls,sc.rest with
 |.l js::_,o::_=>match Ap sc.all sc.env o,o.op with
  |some true,.mapEntry t m k=>match aev sc.env k,aev sc.env m with
   |.p key,.mref j=>if js.contains j then match A1 sc.regs j,tk P t with
    |some (.map es),some (.map kt e)=>match Hm P e with
     |some z=>if Gf P kt (nP key) then some ⟨kt,nP key,z,es⟩else none
     |none=>none
    |_,_=>none
    else none
   |_,_=>none
  |_,_=>none
 |_,_=>none
def AA9 (i:Nat)(y:PV)(es' : List (PV×PV))(sc:SC):SC:=match sc.rest with
 |o::rest=>match o.op with
  |.mapEntry _ m _=>match aev sc.env m with
   |.mref j=>Ay8 o.dst (.tup [.p y,.p (pI .i64 i)]) sc.env (ins j (.map es') sc.regs) λenv regs=>⟨sc.all,sc.cls.tail,rest,env,regs,sc.kn⟩
   |_=>sc
  |_=>sc
 |[]=>sc
theorem Am1 (hc:pr){kt:TypeId}{key z y:PV}{es es' : List (PV×PV)}{i:Nat}(b:∃q,Fz (HF P kt) key es=some q/\ent key z es q=(i,y,es'))(d:C6 (Hl P kt))(hk:DG S P (AA9 i y es' (BB P sc)) k)
 (hp:pr=C6 (Ot P sc):=by kernel_rfl) (a:AA8 P (BB P sc)=some ⟨kt,key,z,es⟩:=by kernel_rfl):DG S P sc k:=by
 refine⟨Ak8 hc ?_ hp⟩;obtain⟨q,b,r⟩:=b;replace hk:=hk.out;generalize BB P sc=s at a hk;obtain⟨all,cls,rest,env,regs,kn⟩:=s;cases rest with
 |nil=>cases cls<;>simp[AA8]at a
 |cons o rest=>
  cases cls with
  |nil=>simp[AA8]at a
  |cons cl cls=>
   simp only[AA8]at a;split at a
   .rename_i t m kk u l f;split at a
    .rename_i kp j h1 n;split at a
     .rename_i es0 kt0 e0 w ht;split at a
      .rename_i z0 x;split at a
       .rename_i g;simp only[Bf8,EntI.mk.injEq]at a;obtain⟨rfl,rfl,rfl,rfl⟩:=a;simp only[AA9,l,n,EW,Bm9]at hk;refine YO (c:=Hl P kt0) (v:=.tup [.p y,.p (pI .i64 i)]) (regs':=ins j (.map es') regs) u ?_ d f hk;rw[l];simp only[aop,ht,n,h1,w,x,g,b,r]
       cases a
      cases a
     cases a
    cases a
   cases a
theorem AB0 (hc:pr){kt:TypeId}{key z y:PV}{es:List (PV×PV)}{i:Nat}(g:∃q,Fz (HF P kt) key es=some q/\ent key z es q=(i,y,es))(n:C6 (Hl P kt))(hk:DG S P (AA9 i y es (BB P sc)) k)
 (hp:pr=C6 (Ot P sc):=by kernel_rfl) (a:Vf P (BB P sc)=some ⟨kt,key,z,es⟩:=by kernel_rfl):DG S P sc k:=by
 refine⟨Ak8 hc ?_ hp⟩;obtain⟨q,g,x⟩:=g;replace hk:=hk.out;generalize BB P sc=s at a hk;obtain⟨all,cls,rest,env,regs,kn⟩:=s;cases rest with
 |nil=>cases cls<;>simp[Vf]at a
 |cons o rest=>
  cases cls with
  |nil=>simp[Vf]at a
  |cons cl cls=>
   cases cl with
   |l js=>
    simp only[Vf]at a;split at a
    .rename_i t m kk hg u;split at a
     .rename_i kp j h1 v;split at a
      .rename_i c;split at a
       .rename_i es0 kt0 e0 f ht;split at a
        .rename_i z0 hz;split at a
         .rename_i r;simp only[Bf8,EntI.mk.injEq]at a;obtain⟨rfl,rfl,rfl,rfl⟩:=a;simp only[AA9,u,v,EW,Bm9]at hk;have w:∀R2:C0,A1 R2 j=some (.map es0)->aop P env R2 (o.dst.getD 0) o.op=some ⟨Hl P kt0,.tup [.p y,.p (pI .i64 i)],ins j (.map es0) R2⟩:=by intro R2 b;rw[u];simp only[aop,ht,v,h1,b,hz,r,g,x]
          have d:∀R2:C0,A1 R2 j=some (.map es0)->∀q,A1 (ins j (.map es0) R2) q=A1 R2 q:=by
           intro R2 b q;rw[O0];split
           .rename_i e;subst e;exact b.symm
           rfl
          refine⟨true,hg,?_⟩;rw[Ej rfl];exact⟨_,_,.inl ⟨_,w regs f,n,trivial,d regs f,λR2 h=>⟨_,w R2 ((h j (by simpa using c)).trans f),d R2 ((h j (by simpa using c)).trans f)⟩⟩,hk⟩
         cases a
        cases a
       cases a
      cases a
     cases a
    cases a
   |_=>simp[Vf]at a
def AB1 (sc:SC):Option (Int×PV×List (PV×PV)):=match sc.cls,sc.rest with
 |cl::_,o::_=>match Ap sc.all sc.env o,o.op,UI cl sc.env (o.dst.getD 0) o.op with
  |some true,.entryStore _ m s x,true=>match aev sc.env m,asInt (aev sc.env s),Ee sc.regs (aev sc.env x)with
   |.mref j,some s,some (y,regs)=>match A1 regs j with
    |some (.map es)=>some (s,y,es)
    |_=>none
   |_,_,_=>none
  |_,_,_=>none
 |_,_=>none
def AZ6 (es' : List (PV×PV))(sc:SC):SC:=match sc.rest with
 |o::rest=>match o.op with
  |.entryStore _ m s x=>match aev sc.env m,Ee sc.regs (aev sc.env x)with
   |.mref j,some (_,regs)=>Ay8 o.dst Kv sc.env (ins j (.map es') regs) λenv regs=>⟨sc.all,sc.cls.tail,rest,env,regs,sc.kn⟩
   |_,_=>sc
  |_=>sc
 |[]=>sc
theorem SN (hc:pr){i:Nat}{y:PV}{es es' : List (PV×PV)}(r:i<es.length)(g:AK7 es i y=es')(hk:DG S P (AZ6 es' (BB P sc)) k)
 (hp:pr=C6 (Ot P sc):=by kernel_rfl) (a:AB1 (BB P sc)=some ((i:Int),y,es):=by kernel_rfl):DG S P sc k:=by
 refine⟨Ak8 hc ?_ hp⟩;replace hk:=hk.out;generalize BB P sc=s at a hk;obtain⟨all,cls,rest,env,regs,kn⟩:=s;cases rest with
 |nil=>cases cls<;>simp[AB1]at a
 |cons o rest=>
  cases cls with
  |nil=>simp[AB1]at a
  |cons cl cls=>
   simp only[AB1]at a;split at a
   .rename_i t m s x l d b;split at a
    .rename_i j sv y0 regs1 h1 n f;split at a
     .rename_i es0 q;simp only[Bf8,Bg4]at a;obtain⟨rfl,rfl,rfl⟩:=a;subst g;simp only[AZ6,d,h1,f,EW,Bm9]at hk;refine YO (c:=[0<=(i:Int)/\(i:Int)<(es0.length:Int)]) (v:=Kv) (regs':=ins j (.map (AK7 es0 i y0)) regs1) l ?_ (show 0<=(i:Int)/\(i:Int)<(es0.length:Int) by omega) b hk;rw[d];simp only[aop,h1,n,f,q];rfl
     cases a
    cases a
   cases a
end
end Go.AM
namespace Go.AM
section
variable {S:V2}{P:Program}{F:M8}{g:Cfg}{pr:Prop}
end
section
variable {S:V2}{P:Program}{pr:Prop}{sc:SC}{k:Env->C0->Prop}
end
end Go.AM
namespace Go.AM
section
variable {S:V2}{P:Program}{F:M8}{g:Cfg}{pr:Prop}
def bldK (P:Program):Cfg->Cfg
 |.ops all (o::rest) K st=>match bop P st.regs (o.dst.getD 0) o.op with
  |some out=>Ab2 o.dst out.val st.env out.regs λst=>.ops all rest K st
  |none=>.ops all (o::rest) K st
 |g=>g
def bldI (P:Program):Cfg->Bool
 |.ops all (o::rest) K st=>(match BD all st.env o with|some true=>true|_=>false)&&(bop P st.regs (o.dst.getD 0) o.op).isSome
 |_=>false
theorem K_bld (hS:G7 S P)(hc:pr)(d:Nat)(hk:KG S P F (bldK P (Hq P d g)))
 (hp:pr=C6 (AO3 P d g):=by kernel_rfl) (f:bldI P (Hq P d g)=true:=by kernel_rfl):KG S P F g:=by
 refine⟨(GE (u:=some d) (F:=F) hS 400 [] g (by subst hp;exact hc)).2 ?_⟩;have hk:=hk.out;show G S P F (Hq P d g);generalize Hq P d g=g1 at hk f;unfold bldI at f;split at f
 .rename_i all o rest K st;simp only[Bg0]at f;obtain⟨j,hb⟩:=f;split at j
  .rename_i i;obtain⟨out,a⟩:=Bh1.1 hb;simp only[bldK,a,FR]at hk;refine BF hS i ?_;have b:C6 out.cond:=by
    unfold bop at a;split at a
    .split at a
     .cases a;exact trivial
     cases a
    cases a
   unfold wOp;split
   .rename_i c;rw[c]at a;simp[bop]at a
   .rename_i c;rw[c]at a;simp[bop]at a
   .rename_i c;rw[c]at a;simp[bop]at a
   .rename_i c;rw[c]at a;simp[bop]at a
   exact .inr (.inr ⟨out,a,b,hk⟩)
  cases j
 cases f
structure NextI where
 cl:Nat
 last:Nat
 seen:List Nat
 es:List (PV×PV)
def AZ7:Cfg->Option NextI
 |.ops all (o::rest) K st=>match BD all st.env o,o.op with
  |some true,.next x false=>match aev st.env x with
   |.reg j 0=>match A1 st.regs j with
    |some (.blk (1::cl::last::seen) jm)=>match A1 st.regs jm with
     |some (.map es)=>some ⟨cl,last,seen,es⟩
     |_=>none
    |_=>none
   |_=>none
  |_,_=>none
 |_=>none
def AZ8:Cfg->Cfg
 |.ops all (o::rest) K st=>Ab2 o.dst (.tup [.p (.bb false)]) st.env st.regs λst=>.ops all rest K st
 |g=>g
def AZ9 (i:Nat)(ky vl:PV):Cfg->Cfg
 |.ops all (o::rest) K st=>match o.op with
  |.next x _=>match aev st.env x with
   |.reg j _=>match A1 st.regs j with
    |some (.blk (_::cl::_::seen) jm)=>match A1 st.regs jm with
     |some (.map es)=>Ab2 o.dst (.tup [.p (.bb true),.p ky,.p vl]) st.env (ins j (.blk (1::cl::es.length::(i::seen)) jm) st.regs) λst=>.ops all rest K st
     |_=>.ops all (o::rest) K st
    |_=>.ops all (o::rest) K st
   |_=>.ops all (o::rest) K st
  |_=>.ops all (o::rest) K st
 |g=>g
theorem Ba0 (hS:G7 S P)(hc:pr){cl last:Nat}{seen:List Nat}{es:List (PV×PV)}(h1:cl=es.length)(q:cl<=last){ky vl:Nat->PV}(f:∀i,i<es.length->es.getD i default=(ky i,vl i))
 (d:(∀i,i<es.length->i∈seen)->KG S P F (AZ8 (stp P g))) (ht:∀i,i<es.length->i ∉ seen->KG S P F (AZ9 i (ky i) (vl i) (stp P g)))
 (hp:pr=C6 (cnd P g):=by kernel_rfl) (c:AZ7 (stp P g)=some ⟨cl,last,seen,es⟩:=by kernel_rfl):KG S P F g:=by
 refine⟨FB hS hc ?_ hp⟩;replace d:=λx=>(d x).out;replace ht:=λi a b=>(ht i a b).out;generalize stp P g=g1 at d ht c;unfold AZ7 at c;split at c
 .rename_i all o rest K st;split at c
  .rename_i x r l;split at c
   .rename_i j hx;split at c
    .rename_i cl' last' seen' jm m;split at c
     .rename_i es' hm;cases c;simp only[AZ8,AZ9,l,hx,m,hm,FR]at d ht;refine BF hS r ?_;unfold wOp;rw[l];exact⟨j,cl,last,seen,jm,es,hx,m,hm,h1,q,d,λi n hs=>by rw[f i n];exact ht i n hs⟩
     cases c
    cases c
   cases c
  cases c
 cases c
structure EntVI where
 last:Nat
 i:Nat
 es:List (PV×PV)
def Ba1:Cfg->Option EntVI
 |.ops all (o::rest) K st=>match BD all st.env o,o.op with
  |some true,.entry x=>match aev st.env x with
   |.reg j 0=>match A1 st.regs j with
    |some (.blk (1::_::last::i::_) jm)=>match A1 st.regs jm with
     |some (.map es)=>some ⟨last,i,es⟩
     |_=>none
    |_=>none
   |_=>none
  |_,_=>none
 |_=>none
def Ba2 (ky vl:PV):Cfg->Cfg
 |.ops all (o::rest) K st=>Ab2 o.dst (.tup [.p ky,.p vl]) st.env st.regs λst=>.ops all rest K st
 |g=>g
theorem Ba3 (hS:G7 S P)(hc:pr)(d:Nat){last i:Nat}{es:List (PV×PV)}(h1:last=es.length)(f:i<es.length)(ky vl:PV)(b:es.getD i default=(ky,vl))(hk:KG S P F (Ba2 ky vl (Hq P d g)))
 (hp:pr=C6 (AO3 P d g):=by kernel_rfl) (a:Ba1 (Hq P d g)=some ⟨last,i,es⟩:=by kernel_rfl):KG S P F g:=by
 refine⟨(GE (u:=some d) (F:=F) hS 400 [] g (by subst hp;exact hc)).2 ?_⟩;have hk:=hk.out;show G S P F (Hq P d g);generalize Hq P d g=g1 at hk a;unfold Ba1 at a;split at a
 .rename_i all o rest K st;split at a
  .rename_i x l m;split at a
   .rename_i j hx;split at a
    .rename_i cl' last' i' seen' jm n;split at a
     .rename_i es' hm;cases a;simp only[Ba2,FR]at hk;refine BF hS l ?_;refine JX (c:=[last=es.length/\i<es.length]) (v:=.tup [.p ky,.p vl]) (R':=st.regs) ?_ ⟨h1,f⟩ hk;rw[m];simp only[aop,hx,n,hm,b]
     cases a
    cases a
   cases a
  cases a
 cases a
theorem Ba4 (hS:G7 S P)(hc:pr)(n:Nat)(Pr:Nat->Prop)(s:List Nat->St){ids:List (Nat×Nat)}
 (f:∀(X:Type) (s' : X->St) (J:X->Prop) (m:X->Nat) (k:Nat) (seen:List Nat),(∀i∈seen,i<n/\Pr i) ->
  (∀(g' : Cfg) (ids:List (Nat×Nat)) (pr:Prop) (i:Nat),pr->i<n->i ∉ seen->Pr i->(hp:pr=C6 (cnd P g'):=by kernel_rfl)->(c:stp P g' = .pop .normal (.lp X s' J m k::(stp P g).k) (stp P g').st:=by kernel_rfl)->(hle:KLe ids (stp P g').st (s (i::seen)):=by exact kl)->KG S P F g') ->
  KG S P F (.code (PZ (stp P g)) (.lp X s' J m k::(stp P g).k) (s seen)))
 (hp:pr=C6 (cnd P g):=by kernel_rfl) (hl:HX (stp P g)=true:=by kernel_rfl) (hle:KLe ids (stp P g).st (s []):=by exact kl):KG S P F g:=by
 refine⟨FB hS hc ?_ hp⟩;rw[SD hl];refine Ys hS s (λseen=>∀i∈seen,i<n/\Pr i) (λseen=>((List.range n).filter λi=>!seen.contains i).length) [] ids hle.out (λi b=>by cases b) λseen d=>?_;refine (f (List Nat) s _ _ _ seen d λg' ids pr i hc b hs j hp c hle=>⟨FB hS hc ?_ hp⟩).out;rw[c];refine WF hS (i::seen) ids hle.out (λq a=>?_) ?_
 .rcases Bi3.1 a with rfl|a
  .exact⟨b,j⟩
  exact d q a
 refine filter_lt (λq=>!seen.contains q) (λq=>!(i::seen).contains q) (λq a=>?_) i ?_ ?_ (List.range n) (Bk1.2 b)
 .simp only[Bh6,Bj0,decide_eq_false_iff_not,Bi3,not_or]at a⊢;exact a.2
 .simpa using hs
 simp
end
end Go.AM
namespace Go.AM
section
variable {S:V2}{P:Program}{pr:Prop}{sc:SC}{k:Env->C0->Prop}
def AQ4:AV->Bool
 |.vec _ | .vecp _ _=>false
 |_=>true
theorem NI {R:C0}:∀{l:List AV},l.all AQ4=true->HM R l=some (l,R)
 |[],_=>rfl
 |a::r,h=>by simp only[Bp2,Bg0]at h;simp only[HM,NI h.2];cases a<;>first|rfl|exact Es h.1 (by simp[AQ4])
theorem OG {ids:List Nat}{R R2:C0}:∀{l:List Nat},(∀j∈l,A1 R2 j=A1 R j)->M9 ids R2 l=M9 ids R l
 |[],_=>rfl
 |j::l,h=>by simp only[M9,h j (by simp),OG (l:=l) λq a=>h q (by simp[a])]
theorem Gn {q:Nat}:∀{ids:List Nat}{ks:List Bool}{R:C0},q ∉ ids->A1 (K8 ids ks R) q=A1 R q
 |[],ks,R,_=>by cases ks<;>rfl
 |j::ids,[],R,h=>by simp only[Bi3,not_or]at h;simp only[K8];rw[Gn h.2,O0,Er (Bj5 h.1)]
 |j::ids,b::ks,R,h=>by
  simp only[Bi3,not_or]at h;simp only[K8];split
  .exact Gn h.2
  rw[Gn h.2,O0,Er (Bj5 h.1)]
theorem GQ {q:Nat}:∀{ids:List Nat}{ks:List Bool}{A B:C0},A1 A q=A1 B q->A1 (K8 ids ks A) q=A1 (K8 ids ks B) q
 |[],ks,A,B,h=>by cases ks<;>exact h
 |j::ids,[],A,B,h=>by simp only[K8];exact GQ (by rw[O0,O0,h])
 |j::ids,b::ks,A,B,h=>by
  simp only[K8];split
  .exact GQ h
  exact GQ (by rw[O0,O0,h])
def SO (ids:List Nat)(ks:List Bool)(n:Nat)(sc:SC):Bool:=match sc.cls,sc.rest with
 |.a js::_,o::_=>match o.op with
  |.call c=>((c.args.toList.map (aev sc.env)).all AQ4&&ids.all λq=>js.contains q)&&(((H3 (o.dst.getD 0) ids ks n).all λq=>js.contains q)&&((List.range n).all λp=>js.contains (nid (o.dst.getD 0) p))&&X2 sc.regs ids ks (o.dst.getD 0) n)
  |_=>false
 |_,_=>false
theorem OH (ids:List Nat)(hc:pr){fn:FuncId}{args:List AV}{objs objs' : List Obj}{r:AV}{ks:List Bool}(hF:FunO S fn args objs r objs' ks)(hk:DG S P (Oy ids ks r objs' (BB P sc)) k)
 (hp:pr=C6 (Ot P sc):=by kernel_rfl) (b:Ov ids (BB P sc)=some (fn,args,objs):=by kernel_rfl) (hn:SO ids ks objs'.length (BB P sc)=true:=by kernel_rfl):DG S P sc k:=by
 refine⟨Ak8 hc ?_ hp⟩;replace hk:=hk.out;generalize BB P sc=s at b hn hk;obtain⟨all,cls,rest,env,regs,kn⟩:=s;cases rest with
 |nil=>simp[Ov]at b
 |cons o rest=>
  simp only[Ov]at b;split at b
  .rename_i c hg t;split at b
   .rename_i f u;split at b
    .rename_i as regs1 ha;split at b
     .rename_i fn' as' hw;split at b
      .rename_i a0 ob0 hr v;split at b
       .rename_i i;cases b;simp only[Bg0]at i;cases cls with
        |nil=>simp[SO]at hn
        |cons cl cls=>
         cases cl with
         |a js=>
          simp only[SO,t,Bg0]at hn;obtain⟨⟨l,w⟩,⟨x,y⟩,m⟩:=hn;rw[NI l]at ha;cases ha;simp only[Oy,t,NI l,EW,Bm9]at hk;have d:∀q∈ids,q∈js:=λq g=>by simpa using Bg7.1 w q g
          have n:∀q,q ∉ js->q ∉ H3 (o.dst.getD 0) ids ks objs'.length:=λq g h=>g (by simpa using Bg7.1 x q h);refine⟨true,hg,?_⟩;rw[Ej rfl];refine⟨_,_,.inr (.inr (.inr (.inr ⟨js,rfl,λq g=>?_,λR2 z=>?_⟩))),hk⟩
          .rw[IR (n q g),Gn λh=>g (d q h)]
          refine⟨_,.inl ⟨c,f,_,R2,fn,as',args,objs,objs',ks,r,ids,t,u,NI l,hw,hr,(OG λj hj=>z j (d j hj)).trans v,hF,i.1,i.2,?_,rfl,rfl⟩,λq g=>Ow (GQ (z q g)),λq g=>(IR (n q g)).trans (Gn λh=>g (d q h))⟩;unfold X2 at m⊢;rw[Bg7]at m⊢;intro p hp;have h1:=m p hp;have h3:nid (o.dst.getD 0) p∈js:=by simpa using Bg7.1 y p hp
          rw[z _ h3];exact h1
         |_=>simp[SO]at hn
       cases b
      cases b
     cases b
    cases b
   cases b
  cases b
end
end Go.AM
namespace Go.AM
section
variable {S:V2}{P:Program}{g:Cfg}{pr:Prop}
def Am2 (outs:List Nat):List Nat->List Obj->C0
 |j::js,o::os=>ins j (unO outs o) (Am2 outs js os)
 |_,_=>[]
def Am3:List ResultVar->List AV->Env
 |.tmp t::rs,a::l=>ins t a (Am3 rs l)
 |_,_=>[]
def Am4 (rs:List ResultVar)(outs:List Nat)(a:AV)(objs:List Obj):St:=
 ⟨match rs with
  |[r]=>Am3 [r] [unA outs a]
  |rs=>match a with
   |.tup l=>Am3 rs (unL outs l)
   |_=>[],Am2 outs outs objs⟩
def Ba5 (R:C0)(outs:List Nat):List (Nat×Nat):=(outs.filter λj=>(A1 R j).isSome).map λj=>(j,j)
theorem kOi (hS:G7 S P)(hc:pr){n:Nat}{rs:List ResultVar}{Q:ARes->List Obj->List Bool->Prop}{a:AV}{objs:List Obj}(ids:List (Nat×Nat))(outs:List Nat)(b:Q (.ret a) objs (FF n outs):=by exact⟨rfl,rfl,rfl⟩)(hp:pr=C6 (cnd P g):=by kernel_rfl)
 (c:(Ay0 (stp P g)).isSome=true:=by kernel_rfl) (hle:KLe ids (stp P g).st (Am4 rs outs a objs):=by exact kl) (d:SE P (Am4 rs outs a objs) rs outs=some (a,objs):=by kernel_rfl):KG S P (CH S P n rs Q) g:=
 J6 hS hc (Am4 rs outs a objs) outs b hp c hle d
theorem kO (hS:G7 S P)(hc:pr){n:Nat}{rs:List ResultVar}{Q:ARes->List Obj->List Bool->Prop}{a:AV}{objs:List Obj}(outs:List Nat)(b:Q (.ret a) objs (FF n outs):=by exact⟨rfl,rfl,rfl⟩)(hp:pr=C6 (cnd P g):=by kernel_rfl)
 (c:(Ay0 (stp P g)).isSome=true:=by kernel_rfl) (hle:KLe (Ba5 (stp P g).st.regs outs) (stp P g).st (Am4 rs outs a objs):=by exact kl) (d:SE P (Am4 rs outs a objs) rs outs=some (a,objs):=by kernel_rfl):KG S P (CH S P n rs Q) g:=
 kOi hS hc _ outs b hp c hle d
end
section
variable {α : Type}
def Am5 (c : α -> List PV):Nat->List α -> List (Nat×List PV)
 |_,[]=>[]
 |k,a::l=>(k,c a)::Am5 c (k+1) l
theorem Vg (c : α -> List PV)(z:List PV):∀(l:List α) (k i:Nat) (d : α),i<l.length->G9 z (Am5 c k l) (k+i)=c (l.getD i d)
 |[],k,i,d,h=>Es h (Bh2 i)
 |a::l,k,0,d,h=>by simp[Am5,G9]
 |a::l,k,i+1,d,h=>by
  have:=Vg c z l (k+1) i d (Bw5 h)
  rw[show k+1+i=k+(i+1) by omega]at this;simp only[Am5,G9];rw[Er (by omega),this];rfl
theorem Ac0 [Inhabited α](c : α -> List PV)(l:List α)(z:List PV):(Leaf.fn l.length (Sl.of l).n (G9 z (Am5 c 0 l)) (λi=>c ((Sl.of l).g i))).ok:=⟨rfl,λi a=>by
 have:=Vg c z l 0 i default a
 rw[Bj2]at this;exact this⟩
theorem X5 (c : α -> List PV)(v:Sl α)(x : α)(z:List PV):(Leaf.fn (v.n+1) (v.push x).n (Fy v.n (λi=>c (v.g i)) (G9 z [(0,c x)])) (λi=>c ((v.push x).g i))).ok:=⟨rfl,app1 same rfl rfl⟩
theorem appS (c : α -> List PV)(v w:Sl α):(Leaf.fn (v.n+w.n) (v.app w).n (Fy v.n (λi=>c (v.g i)) (λi=>c (w.g i))) (λi=>c ((v.app w).g i))).ok:=⟨rfl,Be8 same rfl same rfl⟩
theorem Mx (n:Nat)(f:Nat->PV):(Leaf.fn n n (λi=>[(λi=>(Ed n f).getD i default) i]) (λi=>[f i])).ok:=⟨rfl,Dy n f⟩
theorem AB2 (n:Nat)(z:PV):(Leaf.fn n n (λi=>[(λi=>(List.replicate n z).getD i default) i]) (λ_=>[z])).ok:=⟨rfl,OC rfl⟩
theorem AI3 (c : α -> List PV)(v:Sl α)(z:List PV):(Leaf.fn (0+v.n) v.n (Fy 0 (G9 z []) (λi=>c (v.g i))) (λi=>c (v.g i))).ok:=⟨Bj2 _,λi _=>by simp[Fy]⟩
variable {ids:List (Nat×Nat)}{s t:St}{L M:Leaf}
theorem kl1 (i:Nat)(h:L.ok)(h1:(leK ids s t).map (Ay5 [i] Leaf.src)=(leK ids s t).map (Ay5 [i] Leaf.tgt):=by kernel_rfl)
 (a:(leK ids s t).map (λK=>[K[i]?])=some [some L]:=by kernel_rfl):KLe ids s t:=klR [(i,L)] (al1 h al0) h1 a
theorem kl2 (i j:Nat)(h:L.ok)(g:M.ok)(h1:(leK ids s t).map (Ay5 [i,j] Leaf.src)=(leK ids s t).map (Ay5 [i,j] Leaf.tgt):=by kernel_rfl)
 (a:(leK ids s t).map (λK=>[K[i]?,K[j]?])=some [some L,some M]:=by kernel_rfl):KLe ids s t:=klR [(i,L),(j,M)] (al1 h (al1 g al0)) h1 a
end
section
variable {S:V2}{P:Program}{F:M8}{g:Cfg}{pr:Prop}{sc:SC}{k:Env->C0->Prop}{κ ν : Type}
theorem lkC {kP : κ -> PV}{vP : ν -> PV}{cmp:PV->PV->Option Bool}{eq : κ -> κ -> Bool}(hc:∀a b,cmp (kP a) (kP b)=some (eq a b)){q : κ}{es:List (κ × ν)}{r:Option ν}(o:T0 eq q es=r):find cmp (kP q) (Dc kP vP es)=some (r.map vP):=by subst o;exact UO hc q es
theorem Xm (hS:G7 S P)(hc:pr)(kt e:TypeId)(kP : κ -> PV)(vP : ν -> PV)(eq : κ -> κ -> Bool){q : κ}{es:List (κ × ν)}{v : ν}(o:T0 eq q es=some v)(c:C6 (Hl P kt))(hk:KG S P F (Ak7 (vP v) true (stp P g)))
 (d:∀a b,HF P kt (kP a) (kP b)=some (eq a b):=by exact λ_ _=>by kernel_rfl) (hp:pr=C6 (cnd P g):=by kernel_rfl) (f:Ak6 P (stp P g)=some ⟨kt,e,kP q,Dc kP vP es⟩:=by kernel_rfl) (hx:UP P e (some (vP v))=some (vP v,true):=by kernel_rfl):KG S P F g:=
 Zd hS hc (lkC d o) c hk hp f hx
theorem Xn (hS:G7 S P)(hc:pr)(kt e:TypeId)(kP : κ -> PV)(vP : ν -> PV)(eq : κ -> κ -> Bool){q : κ}{es:List (κ × ν)}(o:T0 eq q es=none)(x:PV)(c:C6 (Hl P kt))(hk:KG S P F (Ak7 x false (stp P g)))
 (d:∀a b,HF P kt (kP a) (kP b)=some (eq a b):=by exact λ_ _=>by kernel_rfl) (hp:pr=C6 (cnd P g):=by kernel_rfl) (f:Ak6 P (stp P g)=some ⟨kt,e,kP q,Dc kP vP es⟩:=by kernel_rfl) (hx:UP P e none=some (x,false):=by kernel_rfl):KG S P F g:=
 Zd hS hc (lkC d o) c hk hp f hx
theorem Ac1 (hS:G7 S P)(hc:pr)(kt:TypeId)(kP : κ -> PV)(vP : ν -> PV)(eq : κ -> κ -> Bool)(q : κ)(y : ν)(es:List (κ × ν))(c:C6 (Hl P kt))(hk:KG S P F (Bf0 (Dc kP vP (Eh eq q y es)) (stp P g)))
 (d:∀a b,HF P kt (kP a) (kP b)=some (eq a b):=by exact λ_ _=>by kernel_rfl) (hp:pr=C6 (cnd P g):=by kernel_rfl) (f:Be9 P (stp P g)=some (kt,kP q,vP y,Dc kP vP es):=by kernel_rfl):KG S P F g:=
 Az4 hS hc (SA d q y es) c hk hp f
theorem AB3 (hc:pr)(kt e:TypeId)(kP : κ -> PV)(vP : ν -> PV)(eq : κ -> κ -> Bool){q : κ}{es:List (κ × ν)}{v : ν}(o:T0 eq q es=some v)(c:C6 (Hl P kt))(hk:DG S P (UR (vP v) true (BB P sc)) k)
 (d:∀a b,HF P kt (kP a) (kP b)=some (eq a b):=by exact λ_ _=>by kernel_rfl) (hp:pr=C6 (Ot P sc):=by kernel_rfl) (f:Oz P (BB P sc)=some ⟨kt,e,kP q,Dc kP vP es⟩:=by kernel_rfl) (hx:UP P e (some (vP v))=some (vP v,true):=by kernel_rfl):DG S P sc k:=
 Ze hc (lkC d o) c hk hp f hx
theorem AQ5 (hc:pr)(kt e:TypeId)(kP : κ -> PV)(vP : ν -> PV)(eq : κ -> κ -> Bool){q : κ}{es:List (κ × ν)}(o:T0 eq q es=none)(x:PV)(c:C6 (Hl P kt))(hk:DG S P (UR x false (BB P sc)) k)
 (d:∀a b,HF P kt (kP a) (kP b)=some (eq a b):=by exact λ_ _=>by kernel_rfl) (hp:pr=C6 (Ot P sc):=by kernel_rfl) (f:Oz P (BB P sc)=some ⟨kt,e,kP q,Dc kP vP es⟩:=by kernel_rfl) (hx:UP P e none=some (x,false):=by kernel_rfl):DG S P sc k:=
 Ze hc (lkC d o) c hk hp f hx
theorem SP (hc:pr)(kt:TypeId)(kP : κ -> PV)(vP : ν -> PV)(eq : κ -> κ -> Bool)(q : κ)(y : ν)(es:List (κ × ν))(c:C6 (Hl P kt))(hk:DG S P (Az2 (Dc kP vP (Eh eq q y es)) (BB P sc)) k)
 (d:∀a b,HF P kt (kP a) (kP b)=some (eq a b):=by exact λ_ _=>by kernel_rfl) (hp:pr=C6 (Ot P sc):=by kernel_rfl) (f:US P (BB P sc)=some (kt,kP q,vP y,Dc kP vP es):=by kernel_rfl):DG S P sc k:=
 Az5 hc (SA d q y es) c hk hp f
end
abbrev oV {α : Type}(t:TypeId)(k:Nat)(c : α -> List PV)(s:Sl α)(b:Bool):Obj:=.vec t k s.n (λi=>c (s.g i)) b
abbrev oM {κ ν : Type}(kP : κ -> PV)(vP : ν -> PV)(es:List (κ × ν)):Obj:=.map (Dc kP vP es)
end Go.AM
