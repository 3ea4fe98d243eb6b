/- Part 5. -/
import Derived.Test.YtppapmfonjmfbaaGreatDoorRD
import Derived.KernelRfl
set_option linter.defProp false
set_option linter.unusedSimpArgs false
set_option linter.unusedVariables false
set_option linter.unusedSectionVars false
namespace Go.AM
def Mz:=True.intro
def AX4:=@Nat.le_of_ble_eq_true
def AZ6:=@List.mem_singleton
def Ba7:=@List.range_succ
def Ba8:=@List.map_append
def Bc5:=@List.tail_cons
def Bg8:=@List.isEmpty_iff
section
variable (P:Program)
def stp (g:Cfg):Cfg:=(run P none 400 [] g).cfg
def cnd (g:Cfg):List Prop:=(run P none 400 [] g).conds
def Gk (d:Nat)(g:Cfg):Cfg:=(run P (some d) 400 [] g).cfg
def AG3 (d:Nat)(g:Cfg):List Prop:=(run P (some d) 400 [] g).conds
def Cfg.st:Cfg->St
 |.code _ _ s=>s
 |.ops _ _ _ s=>s
 |.pop _ _ s=>s
def Cfg.k:Cfg->List It
 |.code _ K _=>K
 |.ops _ _ K _=>K
 |.pop _ K _=>K
def mkO {R:Type _}(env:Env)(regs:B5)(κ : Env->B5->R):R:=fE env fun env=>fR regs fun regs=>κ env regs
theorem EK {R:Type _}(env:Env)(regs:B5)(κ : Env->B5->R):mkO env regs κ = κ env regs:=by simp only[mkO,fE_eq,Ax1]
def ZO {R:Type _}(d:Option Nat)(a:AV)(env:Env)(regs:B5)(κ : St->R):R:=match d with
 |some d=>mkO (ins d a env) regs fun env regs=>κ ⟨env,regs⟩
 |none=>mkO env regs fun env regs=>κ ⟨env,regs⟩
theorem Fm {R:Type _}(d:Option Nat)(a:AV)(env:Env)(regs:B5)(κ : St->R):ZO d a env regs κ = κ (put ⟨env,regs⟩ d a):=by cases d<;>simp only[ZO,EK,put]
def Al2:Cfg->Option Bool
 |.code (.cond c _ _) _ st=>match aev st.env c with
  |.p (.bb b)=>some b
  |_=>none
 |_=>none
def AA1:Cfg->Cfg
 |.code (.cond _ t _) K st=>.code t K st
 |g=>g
def AA2:Cfg->Cfg
 |.code (.cond _ _ e) K st=>.code e K st
 |g=>g
def Wr:Cfg->Option Bool
 |.ops all (o::_) _ st=>match o.guard with
  |some (j,_)=>match AH9 all j with
   |some d=>match get st.env d with
    |.p (.bb b)=>some b
    |_=>none
   |none=>none
  |none=>none
 |_=>none
def Mp (b:Bool):Cfg->Cfg
 |.ops all (o::rest) K st=>match o.guard with
  |some (j,_)=>match AH9 all j with
   |some d=>ZO (some d) (.p (.v (.bool b))) st.env st.regs fun st=>.ops all (o::rest) K st
   |none=>.ops all (o::rest) K st
  |none=>.ops all (o::rest) K st
 |g=>g
def XU (ids:List Nat):Cfg->Option (FuncId×List AV×List Obj)
 |.ops all (o::_) _ st=>match Bs all st.env o,o.op with
  |some true,.call c=>match c.callee with
   |.value f=>match Hg st.regs (c.args.toList.map (aev st.env))with
    |some (as,regs)=>match NG st.env f as with
     |some (fn,as')=>match CS ids as',J6 ids regs ids with
      |some a,some ob=>if G0 ids&&DS ob then some (fn,a,ob)else none
      |_,_=>none
     |none=>none
    |none=>none
   |_=>none
  |_,_=>none
 |_=>none
def XV (ids:List Nat)(ks:List Bool)(n:Nat):Cfg->Bool
 |.ops _ (o::_) _ st=>match o.op with
  |.call c=>match Hg st.regs (c.args.toList.map (aev st.env))with
   |some (_,regs)=>Y1 regs ids ks (o.dst.getD 0) n
   |none=>false
  |_=>false
 |_=>false
def Al3 (ids:List Nat)(ks:List Bool)(r:AV)(objs' : List Obj):Cfg->Cfg
 |.ops all (o::rest) K st=>match o.op with
  |.call c=>match Hg st.regs (c.args.toList.map (aev st.env))with
   |some (_,regs)=>ZO o.dst (unA (G4 (o.dst.getD 0) ids ks objs'.length) r) st.env
    (back (G4 (o.dst.getD 0) ids ks objs'.length) (G4 (o.dst.getD 0) ids ks objs'.length) objs' (M0 ids ks regs)) fun st=>.ops all rest K st
   |none=>.ops all (o::rest) K st
  |_=>.ops all (o::rest) K st
 |g=>g
structure LookI where
 kt:TypeId
 e:TypeId
 key:PV
 es:List (PV×PV)
def AA3:Cfg->Option LookI
 |.ops all (o::_) _ st=>match Bs all st.env o,o.op with
  |some true,.lookup t m k _=>match Eo st.regs (aev st.env k),aev st.env m with
   |some (key,regs),.mref j=>match A1 regs j,tk P t with
    |some (.map es),some (.map kt e)=>if Ip P kt key then some ⟨kt,e,key,es⟩else none
    |_,_=>none
   |_,_=>none
  |_,_=>none
 |_=>none
def AJ9 (e:TypeId):Option PV->Option (PV×Bool)
 |some x=>some (x,true)
 |none=>(Kz P e).map fun z=>(z,false)
def AA4 (x:PV)(b:Bool):Cfg->Cfg
 |.ops all (o::rest) K st=>match o.op with
  |.lookup _ _ k ok=>match Eo st.regs (aev st.env k)with
   |some (_,regs)=>ZO o.dst (if ok then .tup [.p x,.bool b]else .p x) st.env regs fun st=>.ops all rest K st
   |none=>.ops all (o::rest) K st
  |_=>.ops all (o::rest) K st
 |g=>g
def updE:Cfg->Option (TypeId×PV×PV×List (PV×PV))
 |.ops all (o::_) _ st=>match Bs all st.env o,o.op with
  |some true,.mapUpdate t m k x=>match aev st.env k,aev st.env m,Eo st.regs (aev st.env x)with
   |.p key,.mref j,some (y,regs)=>match A1 regs j,tk P t with
    |some (.map es),some (.map kt _)=>if Ip P kt (nP key) then some (kt,nP key,y,es)else none
    |_,_=>none
   |_,_,_=>none
  |_,_=>none
 |_=>none
def updK (es' : List (PV×PV)):Cfg->Cfg
 |.ops all (o::rest) K st=>match o.op with
  |.mapUpdate _ m _ x=>match aev st.env m,Eo st.regs (aev st.env x)with
   |.mref j,some (_,regs)=>ZO o.dst PP st.env (ins j (.map es') regs) fun st=>.ops all rest K st
   |_,_=>.ops all (o::rest) K st
  |_=>.ops all (o::rest) K st
 |g=>g
def KM:Cfg->Bool
 |.code (.loop _) _ _=>true
 |_=>false
def UH:Cfg->Code
 |.code (.loop b) _ _=>b
 |_=>.skip
def popSt:Cfg->Option St
 |.pop .normal _ st=>some st
 |_=>none
def SI (M:It):Nat->List It->List It
 |0,K=>M::K
 |n+1,i::K=>i::SI M n K
 |_+1,[]=>[M]
def AK0 (n:Nat)(M:St->Prop):Cfg->Cfg
 |.code c K st=>.code c (SI (.mid M) n K) st
 |.ops all rest K st=>.ops all rest (SI (.mid M) n K) st
 |.pop e K st=>.pop e (SI (.mid M) n K) st
def Gl:Cfg->Bool
 |.ops _ (_::_) _ _=>true
 |_=>false
def opsS (st:St):Cfg->Cfg
 |.ops all rest K _=>.ops all rest K st
 |g=>g
def AA5:Cfg->Option St
 |.pop .ret [] st=>some st
 |.pop .normal [] st=>some st
 |_=>none
inductive Leaf where
 |eq (x y:PV)
 |fn (n m:Nat) (f g:Nat->List PV)
 |mp (x y:List (PV×PV))
 |yl (x y:List (List PV)) (b c:Bool)
 |nt (a b:Nat)
 |ob (n:Nat) (f g:Nat->Obj)
inductive LV where
 |eq (x:PV)
 |fn (n:Nat) (f:Nat->List PV)
 |mp (x:List (PV×PV))
 |yl (x:List (List PV)) (b:Bool)
 |nt (a:Nat)
 |ob (f:Nat->Obj)
def Leaf.src:Leaf->LV
 |.eq x _=>.eq x
 |.fn n _ f _=>.fn n f
 |.mp x _=>.mp x
 |.yl x _ b _=>.yl x b
 |.nt a _=>.nt a
 |.ob _ f _=>.ob f
def Leaf.tgt:Leaf->LV
 |.eq _ y=>.eq y
 |.fn _ m _ g=>.fn m g
 |.mp _ y=>.mp y
 |.yl _ y _ c=>.yl y c
 |.nt _ b=>.nt b
 |.ob _ _ g=>.ob g
def Leaf.ok:Leaf->Prop
 |.eq x y=>x=y
 |.fn n m f g=>n=m/\∀i,i<n->f i=g i
 |.mp x y=>x=y
 |.yl x y b c=>x=y/\b=c
 |.nt a b=>a=b
 |.ob n f g=>∀i,i<n->f i=g i
theorem Leaf.ok_of {l:Leaf}(h:l.src=l.tgt):l.ok:=by
 cases l with
 |eq x y=>simp only[Leaf.src,Leaf.tgt,LV.eq.injEq]at h;exact h
 |fn n m f g=>simp only[Leaf.src,Leaf.tgt,LV.fn.injEq]at h;obtain⟨rfl,rfl⟩:=h;exact⟨rfl,fun _ _=>rfl⟩
 |mp x y=>simp only[Leaf.src,Leaf.tgt,LV.mp.injEq]at h;exact h
 |yl x y b c=>simp only[Leaf.src,Leaf.tgt,LV.yl.injEq]at h;exact h
 |nt a b=>simp only[Leaf.src,Leaf.tgt,LV.nt.injEq]at h;exact h
 |ob n f g=>simp only[Leaf.src,Leaf.tgt,LV.ob.injEq]at h;subst h;exact fun _ _=>rfl
def AA6:PV->PV->Leaf
 |.v (.bool b),.bb c=>.eq (.bb b) (.bb c)
 |.v (.slice none 0 0),.sl false _ n f=>.fn 0 n f f
 |.sl nn k n f,.sl false l m g=>if k=l then .fn n m f g else .eq (.sl nn k n f) (.sl false l m g)
 |x,y=>.eq x y
mutual
def HV (regs:B5)(ids:List (Nat×Nat))(a b:AV):Option (List Leaf):=
 match b with
 |.top=>some []
 |.p y=>match viewP regs a with
  |some x=>some [AA6 x y]
  |none=>none
 |.reg j off=>match a with | .reg i off'=>if lk ids j=some i/\off=off' then some []else none|_=>none
 |.vec j=>match a with
  |.vec i=>if lk ids j=some i then some []else none
  |.p (.v (.slice none 0 0))=>if lk ids j=none then some []else none
  |_=>none
 |.vecp j n=>match a with | .vecp i m=>if lk ids j=some i/\n=m then some []else none|_=>none
 |.elt j k n off=>match a with | .elt i k' n' off'=>if lk ids j=some i/\k=k' /\ n=n' /\ off=off' then some []else none|_=>none
 |.mref j=>match a with | .mref i=>if lk ids j=some i then some []else none|_=>none
 |.yf j=>match a with | .yf i=>if lk ids j=some i then some []else none|_=>none
 |.rsl j n=>match a with | .rsl i m=>if lk ids j=some i/\n=m then some []else none|_=>none
 |.clo f x y=>match a with
  |.clo f' x' y'=>match NQ regs ids x' x,NQ regs ids y' y with|some l,some m=>some (.nt f' f::l++m)|_,_=>none
  |_=>none
 |.tup l=>match a with | .tup l'=>NQ regs ids l' l|_=>none
 |.agr l=>match a with | .agr l'=>NQ regs ids l' l|_=>none
def NQ (regs:B5)(ids:List (Nat×Nat))(a b:List AV):Option (List Leaf):=
 match b with
 |[]=>match a with | []=>some [] | _=>none
 |y::s=>match a with
  |x::r=>match HV regs ids x y,NQ regs ids r s with|some l,some m=>some (l++m)|_,_=>none
  |[]=>none
end
def Al4 (regs:B5)(ids:List (Nat×Nat))(env:Env):Env->Option (List Leaf)
 |[]=>some []
 |(t,b)::r=>match HV regs ids (get env t) b,Al4 regs ids env r with|some l,some m=>some (l++m)|_,_=>none
def NR (regs:B5)(ids:List (Nat×Nat))(o p:Obj):Option (List Leaf):=
 match p with
 |.cells cs=>match o with | .cells cs'=>NQ regs ids cs' cs|_=>none
 |.vec e k n f vw=>match o with
  |.vec e' k' m g vw'=>if e=e' /\ k=k' /\ (vw' = true->vw=true)then some [.fn m n g f]else none
  |_=>none
 |.map es=>match o with | .map es'=>some [.mp es' es] | _=>none
 |.arr n f=>match o with | .arr m g=>some [.fn m n (fun i=>[g i]) (fun i=>[f i])] | _=>none
 |.ghost cs=>match o with | .ghost cs'=>NQ regs ids cs' cs|_=>none
 |.yld r b=>match o with | .yld r' b'=>some [.yl r' r b' b] | _=>none
 |.fam e n jr x=>match o with
  |.fam e' m jr' x'=>if e=e' /\ lk ids jr=some jr' then (match x,x' with
   |none,none=>some [.nt m n]
   |some (i,a),some (i',a')=>match nov a' a,HV regs ids a' a with
    |true,some l=>some (.nt m n :: .nt i' i::l)
    |_,_=>none
   |_,_=>none)else none
  |_=>none
 |.rows n g=>match o with | .rows m g'=>some [.nt m n,.ob n g' g] | _=>none
 |.dead=>some []
def Al5 (regs:B5)(ids:List (Nat×Nat)):B5->Option (List Leaf)
 |[]=>some []
 |(j,p)::r=>match (match lk ids j with
  |some i=>match A1 regs i with
   |some o=>NR regs ids o p
   |none=>none
  |none=>match p with
   |.vec _ _ n f _=>some [.fn 0 n f f]
   |_=>none:Option (List Leaf)),Al5 regs ids r with
  |some l,some m=>some (l++m)
  |_,_=>none
def leK (ids:List (Nat×Nat))(s t:St):Option (List Leaf):=
 if (wf t&&G0 (ids.map (·.2))&&Xr ids&&OF ids t.regs&&KC ids (Ah0 s.env t.env++Iv ids s.regs t.regs) t.regs) then
  match Al4 s.regs ids s.env t.env,Al5 s.regs ids t.regs with
  |some l,some m=>some (l++m)
  |_,_=>none
 else none
theorem Al6 {x y:PV}(h:(AA6 x y).ok):leP x y:=by
 unfold AA6 at h;split at h
 .simp only[Leaf.ok,PV.bb.injEq]at h;subst h;exact .inr (.inr (.inr (.inl ⟨_,rfl,rfl⟩)))
 .obtain⟨rfl,_⟩:=h;exact .inr (.inr (.inl ⟨_,_,rfl,rfl⟩))
 .split at h
  .rename_i hk;subst hk;obtain⟨rfl,h⟩:=h;exact .inr (.inl ⟨_,_,_,_,_,rfl,rfl,h⟩)
  exact .inl h
 exact .inl h
theorem Mq {l m:List Leaf}(h:∀x∈l++m,x.ok):(∀x∈l,x.ok)/\∀x∈m,x.ok:=
 ⟨fun x hx=>h x (AT3 _ hx),fun x hx=>h x (AS0 _ hx)⟩
mutual
theorem Qw {regs:B5}{ids:List (Nat×Nat)}{a:AV}(b:AV){L:List Leaf}(h:HV regs ids a b=some L)(hL:∀x∈L,x.ok):leA regs ids a b:=by
 cases b with
 |top=>unfold leA;trivial
 |p y=>
  unfold HV at h;split at h
  .rename_i x hx;cases h;unfold leA;exact⟨x,hx,Al6 (hL _ (by simp))⟩
  cases h
 |reg j off=>
  unfold HV at h;split at h
  .split at h
   .rename_i c;obtain⟨h1,rfl⟩:=c;exact AI2 h1
   cases h
  cases h
 |vec j=>
  unfold HV at h;split at h
  .split at h
   .rename_i h1;exact AI1 h1
   cases h
  .split at h
   .rename_i h1;exact Ax6 h1
   cases h
  cases h
 |vecp j n=>
  unfold HV at h;split at h
  .split at h
   .rename_i c;obtain⟨h1,rfl⟩:=c;unfold leA;exact⟨_,h1,rfl⟩
   cases h
  cases h
 |elt j k n off=>
  unfold HV at h;split at h
  .split at h
   .rename_i c;obtain⟨h1,rfl,rfl,rfl⟩:=c;unfold leA;exact⟨_,h1,rfl⟩
   cases h
  cases h
 |mref j=>
  unfold HV at h;split at h
  .split at h
   .rename_i h1;exact Zc h1
   cases h
  cases h
 |rsl j n=>
  unfold HV at h;split at h
  .split at h
   .rename_i c;obtain⟨h1,rfl⟩:=c;unfold leA;exact⟨_,h1,rfl⟩
   cases h
  cases h
 |yf j=>
  unfold HV at h;split at h
  .split at h
   .rename_i h1;exact le_yf h1
   cases h
  cases h
 |clo f x y=>
  unfold HV at h;split at h
  .split at h
   .rename_i l m h1 g;cases h;have d:=hL _ (AY6 ..);simp only[Leaf.ok]at d;subst d;obtain⟨i,o⟩:=Mq fun x hx=>hL x (AT2 _ hx);exact AI3 (Fn x h1 i) (Fn y g o)
   cases h
  cases h
 |tup l=>
  unfold HV at h;split at h
  .exact AJ7 (Fn l h hL)
  cases h
 |agr l=>
  unfold HV at h;split at h
  .exact AJ8 (Fn l h hL)
  cases h
theorem Fn {regs:B5}{ids:List (Nat×Nat)}{a:List AV}(b:List AV){L:List Leaf}(h:NQ regs ids a b=some L)(hL:∀x∈L,x.ok):leL regs ids a b:=by
 cases b with
 |nil=>
  unfold NQ at h;split at h
  .exact Ax7
  cases h
 |cons y s=>
  unfold NQ at h;split at h
  .split at h
   .rename_i l m h1 c;cases h;obtain⟨d,f⟩:=Mq hL;exact Ah4 (Qw y h1 d) (Fn s c f)
   cases h
  cases h
end
theorem Ws {regs:B5}{ids:List (Nat×Nat)}{env:Env}:∀(t:Env) {L:List Leaf},Al4 regs ids env t=some L->(∀x∈L,x.ok)->LR regs ids env t
 |[],_,_,_=>trivial
 |(t,b)::r,L,h,hL=>by
  simp only[Al4]at h;split at h
  .rename_i l m h1 a;cases h;obtain⟨c,d⟩:=Mq hL;exact⟨Qw b h1 c,Ws r a d⟩
  cases h
theorem Al7 {regs:B5}{ids:List (Nat×Nat)}{o p:Obj}{L:List Leaf}(h:NR regs ids o p=some L)(hL:∀x∈L,x.ok):leO regs ids o p:=by
 cases p with
 |cells cs=>
  simp only[NR]at h;split at h
  .exact Ah5 (Fn cs h hL)
  cases h
 |vec e k n f vw=>
  simp only[NR]at h;split at h
  .split at h
   .rename_i c;obtain⟨rfl,rfl,d⟩:=c;cases h;obtain⟨rfl,h1⟩:=hL _ (AZ6.2 rfl);exact⟨_,_,rfl,h1,d⟩
   cases h
  cases h
 |map es=>
  simp only[NR]at h;split at h
  .cases h
   have:=hL _ (AZ6.2 rfl)
   simp only[Leaf.ok]at this;subst this;rfl
  cases h
 |arr n f=>
  simp only[NR]at h;split at h
  .cases h;obtain⟨rfl,h1⟩:=hL _ (AZ6.2 rfl);exact⟨_,rfl,fun i j=>by simpa using h1 i j⟩
  cases h
 |ghost cs=>
  simp only[NR]at h;split at h
  .exact⟨_,rfl,Fn cs h hL⟩
  cases h
 |yld r b=>
  simp only[NR]at h;split at h
  .cases h;obtain⟨rfl,rfl⟩:=hL _ (AZ6.2 rfl);rfl
  cases h
 |fam e n jr x=>
  simp only[NR]at h;split at h
  .split at h
   .rename_i l;obtain⟨rfl,hj⟩:=l;split at h
    .cases h;have a:=hL _ (AY6 ..);simp only[Leaf.ok]at a;subst a;exact⟨_,_,rfl,hj,rfl⟩
    .split at h
     .rename_i hn hl;cases h;have a:=hL _ (AY6 ..);have h1:=hL _ (AT2 _ (AY6 ..));simp only[Leaf.ok]at a h1;subst a h1;exact⟨_,_,rfl,hj,_,rfl,hn,Qw _ hl fun x hx=>hL x (by simp[hx])⟩
     cases h
    cases h
   cases h
  cases h
 |rows n g=>
  simp only[NR]at h;split at h
  .cases h;have a:=hL _ (AY6 ..);simp only[Leaf.ok]at a;subst a;exact⟨_,rfl,hL (.ob _ _ _) (by simp)⟩
  cases h
 |dead=>trivial
theorem Wt {regs:B5}{ids:List (Nat×Nat)}:∀(t:B5) {L:List Leaf},Al5 regs ids t=some L->(∀x∈L,x.ok)->RU regs ids t
 |[],_,_,_=>trivial
 |(j,p)::r,L,h,hL=>by
  simp only[Al5]at h;split at h
  .rename_i l m h1 c;cases h;obtain⟨b,d⟩:=Mq hL;refine⟨?_,Wt r c d⟩;split at h1
   .rename_i i a;split at h1
    .rename_i o f;exact .inl ⟨i,o,a,f,Al7 h1 b⟩
    cases h1
   rename_i a;split at h1
   .cases h1;obtain⟨rfl,_⟩:=b _ (AZ6.2 rfl);exact .inr ⟨a,_,_,_,_,rfl⟩
   cases h1
  cases h
theorem At8 {ids:List (Nat×Nat)}{s t:St}{L:List Leaf}(h:leK ids s t=some L)(hL:∀x∈L,x.ok):Le ids s t:=by
 unfold leK at h;split at h
 .rename_i hw;split at h
  .rename_i l m h1 a;cases h;obtain⟨b,c⟩:=Mq hL;exact le_mk hw (Ws _ h1 b) (Wt _ a c)
  cases h
 cases h
theorem kle {ids:List (Nat×Nat)}{s t:St}(h:(leK ids s t).map (·.map Leaf.src)=(leK ids s t).map (·.map Leaf.tgt):=by kernel_rfl)(h1:(leK ids s t).isSome=true:=by kernel_rfl):Le ids s t:=by
 obtain⟨L,hL⟩:=AR8.1 h1;rw[hL]at h;simp only[AR5,AQ2]at h;refine At8 hL fun x hx=>?_;obtain⟨i,a,rfl⟩:=Ba0.1 hx
 have:=congrArg (·[i]?) h
 simp only[AQ9,AQ5 a,AR5,AQ2]at this;exact Leaf.ok_of this
def AK1 (is:List Nat)(f:Leaf->LV)(L:List Leaf):List (Option LV):=L.zipIdx.map fun q=>if is.contains q.2 then none else some (f q.1)
theorem kleR {ids:List (Nat×Nat)}{s t:St}(rs:List (Nat×Leaf))(d:∀q∈rs,q.2.ok)(h:(leK ids s t).map (AK1 (rs.map (·.1)) Leaf.src)=(leK ids s t).map (AK1 (rs.map (·.1)) Leaf.tgt):=by kernel_rfl)
 (a:(leK ids s t).map (fun L=>rs.map fun q=>L[q.1]?)=some (rs.map fun q=>some q.2):=by kernel_rfl):Le ids s t:=by
 cases hL:leK ids s t with
 |none=>rw[hL]at a;cases a
 |some L=>
  rw[hL]at h a;simp only[AR5,AQ2]at h a;refine At8 hL fun x hx=>?_;obtain⟨i,b,rfl⟩:=Ba0.1 hx;by_cases hm:(rs.map (·.1)).contains i=true
  .simp only[AU6,decide_eq_true_eq,AU2]at hm;obtain⟨q,c,rfl⟩:=hm;obtain⟨k,hk,rfl⟩:=Ba0.1 c
   have:=congrArg (·[k]?) a
   simp only[AQ9,AQ5 hk,AR5,AQ2,AQ5 b]at this;rw[this];exact d _ c
  have:=congrArg (·[i]?) h
  simp only[AK1,AQ9,List.getElem?_zipIdx,AQ5 b,AR5,AT6,hm,AQ2]at this;exact Leaf.ok_of (by simpa using this)
end
section
variable {P:Program}
variable {S:W8}{F:I8}{g:Cfg}{pr:Prop}
theorem DX (hS:G8 S P)(hc:pr)(h:G S P F (stp P g))(hp:pr=D0 (cnd P g):=by kernel_rfl):G S P F g:=
 (Gd (F:=F) hS 400 [] g (by subst hp;exact hc)).2 h
theorem AK2 (hS:G8 S P)(hc:pr){b:Bool}(ht:b=true->G S P F (AA1 (stp P g)))(a:b=false->G S P F (AA2 (stp P g)))(hp:pr=D0 (cnd P g):=by kernel_rfl)(hb:Al2 (stp P g)=some b:=by kernel_rfl):G S P F g:=by
 refine DX hS hc ?_ hp;generalize stp P g=g' at hb ht a;unfold Al2 at hb;split at hb
 .split at hb
  .rename_i hc;cases hb;exact AH8 hc ht a
  cases hb
 cases hb
theorem AA7 (hS:G8 S P)(hc:pr){b:Bool}(ht:b=true->G S P F (Mp true (stp P g)))(a:b=false->G S P F (Mp false (stp P g)))(hp:pr=D0 (cnd P g):=by kernel_rfl)(hb:Wr (stp P g)=some b:=by kernel_rfl):G S P F g:=by
 refine DX hS hc ?_ hp;generalize stp P g=g' at hb ht a;unfold Wr at hb;split at hb
 .split at hb
  .rename_i hg;split at hb
   .rename_i d;split at hb
    .rename_i c;cases hb;simp only[Mp,hg,d,Fm,put]at ht a;exact Ax3 hS hg d c ht a
    cases hb
   cases hb
  cases hb
 cases hb
theorem AK3 (hS:G8 S P)(ids:List Nat)(hc:pr){fn:FuncId}{args:List AV}{objs objs' : List Obj}{r:AV}{ks:List Bool}(i:FunO S fn args objs r objs' ks)
 (hk:G S P F (Al3 ids ks r objs' (stp P g))) (hp:pr=D0 (cnd P g):=by kernel_rfl) (a:XU ids (stp P g)=some (fn,args,objs):=by kernel_rfl) (hn:XV ids ks objs'.length (stp P g)=true:=by kernel_rfl):G S P F g:=by
 refine DX hS hc ?_ hp;generalize stp P g=g' at a hn hk;unfold XU at a;split at a
 .split at a
  .rename_i hg f;split at a
   .rename_i c;split at a
    .rename_i ha;split at a
     .rename_i hw;split at a
      .rename_i j d;split at a
       .rename_i b;cases a;simp only[AQ7]at b;simp only[Al3,XV,f,ha,Fm]at hk hn;exact Ax4 hS ids hg f c ha hw j d i b.1 b.2 hn hk
       cases a
      cases a
     cases a
    cases a
   cases a
  cases a
 cases a
theorem Al8 (hS:G8 S P)(hc:pr){kt e:TypeId}{key:PV}{es:List (PV×PV)}{x:PV}{b:Bool}{fd:Option PV}
 (j:find (NF P kt) key es=some fd) (c:D0 (OC P kt))
 (hk:G S P F (AA4 x b (stp P g))) (hp:pr=D0 (cnd P g):=by kernel_rfl) (a:AA3 P (stp P g)=some ⟨kt,e,key,es⟩:=by kernel_rfl) (hx:AJ9 P e fd=some (x,b):=by kernel_rfl):G S P F g:=by
 refine DX hS hc ?_ hp;generalize stp P g=g' at a hk;unfold AA3 at a;split at a
 .split at a
  .rename_i hg f;split at a
   .rename_i i hm;split at a
    .rename_i l ht;split at a
     .rename_i d;simp only[AQ2,LookI.mk.injEq]at a;obtain⟨rfl,rfl,rfl,rfl⟩:=a;simp only[AA4,f,i,Fm]at hk;cases fd with
      |some y=>exact Wq (fd:=some y) hS hg f i hm l ht d j hx c hk
      |none=>exact Wq (fd:=none) hS hg f i hm l ht d j hx c hk
     cases a
    cases a
   cases a
  cases a
 cases a
theorem Al9 (hS:G8 S P)(hc:pr){kt:TypeId}{key y:PV}{es es' : List (PV×PV)}
 (j:upd (NF P kt) key y es=some es') (b:D0 (OC P kt)) (hk:G S P F (updK es' (stp P g))) (hp:pr=D0 (cnd P g):=by kernel_rfl) (a:updE P (stp P g)=some (kt,key,y,es):=by kernel_rfl):G S P F g:=by
 refine DX hS hc ?_ hp;generalize stp P g=g' at a hk;unfold updE at a;split at a
 .split at a
  .rename_i hg d;split at a
   .rename_i h1 f i;split at a
    .rename_i l ht;split at a
     .rename_i c;simp only[AQ2,AR3]at a;obtain⟨rfl,rfl,rfl,rfl⟩:=a;simp only[updK,d,f,i,Fm]at hk;exact UF hS hg d h1 i f l ht c j b hk
     cases a
    cases a
   cases a
  cases a
 cases a
theorem AK4 (hS:G8 S P)(hc:pr)(st:St){ids:List (Nat×Nat)}(hk:G S P F (opsS st (stp P g)))(hp:pr=D0 (cnd P g):=by kernel_rfl)(a:Gl (stp P g)=true:=by kernel_rfl)(hle:Le ids (stp P g).st st:=by exact kle):G S P F g:=by
 refine DX hS hc ?_ hp;generalize stp P g=g' at a hle hk;unfold Gl at a;split at a
 .exact ZM hS st ids hle hk
 cases a
end
section
variable {S:W8}{P:Program}{F:I8}{g:Cfg}{pr:Prop}
theorem IH (hS:G8 S P){K1 K2:List It}(h:∀e s,kp S P K1 F e s->kp S P K2 F e s):∀(K:List It) (e:Hf) (s:St),kp S P (K++K1) F e s->kp S P (K++K2) F e s
 |[],e,s,hk=>h e s hk
 |.code c::K,e,s,hk=>by simp only[AV2,kp]at hk⊢;exact Qu hS (fun t=>Am hS c (IH hS h K)) (IH hS h K) e s hk
 |.blk id::K,e,s,hk=>by
  simp only[AV2,kp]at hk⊢;cases e with
  |exit i=>
   simp only[blk]at hk⊢;split at hk
   .rename_i a;rw[Ll a];exact IH hS h K _ _ hk
   rename_i a;rw[Lm a];exact IH hS h K _ _ hk
  |_=>exact IH hS h K _ _ hk
 |.lp X s' J m n::K,e,s,hk=>by
  simp only[AV2,kp]at hk⊢;cases e with
  |normal=>exact hk
  |_=>exact IH hS h K _ _ hk
 |.mid M::K,e,s,hk=>by simp only[AV2,kp]at hk⊢;exact Qu hS (fun t h=>h) (IH hS h K) e s hk
 |.scp::K,e,s,hk=>by
  simp only[AV2,kp]at hk⊢;cases e with
  |goto l=>exact hk
  |_=>exact IH hS h K _ _ hk
theorem Wu (M:It):∀(n:Nat) (K:List It),n<=K.length->SI M n K=K.take n++M::K.drop n
 |0,K,_=>by simp[SI]
 |n+1,i::K,h=>by simp only[SI,Bb0,List.drop_succ_cons,AV2,Wu M n K (by simpa using h)]
 |n+1,[],h=>by simp at h
theorem At9 (hS:G8 S P)(a:∀s,S.up s (F .normal)->F .normal s)(n:Nat)(hn:n<=g.k.length){M:St->Prop}(b:∀t,M t->G S P F (.pop .normal (g.k.drop n) t))(h:G S P F (AK0 n M g)):G S P F g:=by
 have hk:∀e s,kp S P (SI (.mid M) n g.k) F e s->kp S P g.k F e s:=by
  intro e s;rw[Wu _ _ _ hn]
  conv=>rhs;rw[<- Bb8 n g.k]
  exact IH hS (AJ5 hS a b) _ e s
 cases g with
 |code c K st=>exact Am hS c hk h
 |ops all rest K st=>exact Gi hS hk rest h
 |pop e K st=>exact hk e st h
theorem J_cut (hS:G8 S P)(hc:pr)(b:∀s,S.up s (F .normal)->F .normal s)(n:Nat)(s:St)
 (h1:∀(M:St->Prop),(∀(g' : Cfg) (ids:List (Nat×Nat)) (pr:Prop),pr->(hp:pr=D0 (cnd P g'):=by kernel_rfl)->(a:stp P g' = .pop .normal (.mid M::(stp P g).k.drop n) (stp P g').st:=by kernel_rfl)->(hle:Le ids (stp P g').st s:=by exact kle)->G S P F g')->G S P F (AK0 n M (stp P g)))
 (c:G S P F (.pop .normal ((stp P g).k.drop n) s)) (hp:pr=D0 (cnd P g):=by kernel_rfl) (hn:Nat.ble n (stp P g).k.length=true:=by kernel_rfl):G S P F g:=by
 refine DX hS hc ?_ hp;refine At9 hS b n (AX4 hn) (M:=fun t=>t=s) (fun t ht=>by subst ht;exact c) (h1 _ fun g' ids pr hc hp a hle=>?_);refine DX hS hc ?_ hp;rw[a];exact hS.le ids _ _ _ hle rfl
theorem J_lt (hS:G8 S P)(hc:pr)(c:∀s,S.up s (F .normal)->F .normal s){R A:Type}{f:(A->Option R)->Option R}{k0:A->Option R}{r:R}(h:lt k0 f=some r)(n:Nat)(s:A->St)
 (h1:∀(M:St->Prop) (k:A->Option R),(∀(g' : Cfg) (ids:List (Nat×Nat)) (pr:Prop) (a:A),pr->k a=some r->(hp:pr=D0 (cnd P g'):=by kernel_rfl)->(b:stp P g' = .pop .normal (.mid M::(stp P g).k.drop n) (stp P g').st:=by kernel_rfl)->(hle:Le ids (stp P g').st (s a):=by exact kle)->G S P F g')->f k=some r->G S P F (AK0 n M (stp P g)))
 (d:∀a,k0 a=some r->G S P F (.pop .normal ((stp P g).k.drop n) (s a))) (hp:pr=D0 (cnd P g):=by kernel_rfl) (hn:Nat.ble n (stp P g).k.length=true:=by kernel_rfl):G S P F g:=by
 refine DX hS hc ?_ hp;refine At9 hS c n (AX4 hn) (M:=fun t=>∃a,t=s a/\k0 a=some r) (fun t ⟨a,ht,hk⟩=>by subst ht;exact d a hk) (h1 _ k0 (fun g' ids pr a hc hk hp b hle=>?_) h);refine DX hS hc ?_ hp;rw[b];exact hS.le ids _ _ _ hle ⟨a,rfl,hk⟩
theorem ZP {g:Cfg}(h:KM g=true):g=.code (.loop (UH g)) g.k g.st:=by
 unfold KM at h;split at h
 .rfl
 cases h
theorem AK5 (hS:G8 S P)(hc:pr){R A:Type}{body:(A->Option R)->A->Option R}{N:Nat}{a0:A}{r:R}(h:S3 N body a0=some r)(s:A->St){ids:List (Nat×Nat)}
 (i:∀(X:Type) (s' : X->St) (J:X->Prop) (m:X->Nat) (n:Nat) (b:A->Option R) (a:A),
  (∀(g' : Cfg) (ids:List (Nat×Nat)) (pr:Prop) (a:A),pr->b a=some r->(hp:pr=D0 (cnd P g'):=by kernel_rfl)->(f:stp P g' = .pop .normal (.lp X s' J m n::(stp P g).k) (stp P g').st:=by kernel_rfl)->(hle:Le ids (stp P g').st (s a):=by exact kle)->G S P F g') ->
  body b a=some r->G S P F (.code (UH (stp P g)) (.lp X s' J m n::(stp P g).k) (s a))) (hp:pr=D0 (cnd P g):=by kernel_rfl) (hl:KM (stp P g)=true:=by kernel_rfl) (hle:Le ids (stp P g).st (s a0):=by exact kle):G S P F g:=by
 refine DX hS hc ?_ hp;rw[ZP hl];refine AJ6 hS h s ids hle fun X s' J m n b a hb c=>i X s' J m n b a (fun g' ids pr a hc d hp f hle=>?_) c;refine DX hS hc ?_ hp;rw[f];exact hb _ _ _ hle d
def UI (P:Program)(st:St)(rs:List ResultVar)(outs:List Nat):Option (AV×List Obj):=match Gc P st rs with
 |some l=>match PT outs (one l),J6 outs st.regs outs with
  |some a,some o=>if G0 outs then some (a,o)else none
  |_,_=>none
 |none=>none
theorem J_ret (hS:G8 S P)(hc:pr){n:Nat}{rs:List ResultVar}{Q:Lz->List Obj->List Bool->Prop}{a:AV}{objs:List Obj}(outs:List Nat)(c:Q (.ret a) objs (FI n outs))(hp:pr=D0 (cnd P g):=by kernel_rfl)(d:(AA5 (stp P g)).bind (fun st=>UI P st rs outs)=some (a,objs):=by kernel_rfl) :G S P (Cz S P n rs Q) g:=by
 refine DX hS hc ?_ hp;generalize stp P g=g' at d;obtain⟨st,h1,b⟩:=AZ0.1 d;unfold UI at b;split at b
 .rename_i l hl;split at b
  .rename_i f i;split at b
   .rename_i j;cases b;unfold AA5 at h1;split at h1
    .cases h1;exact hS.refl _ _ ⟨l,outs,a,objs,hl,j,f,i,c⟩
    .cases h1;exact hS.refl _ _ ⟨l,outs,a,objs,hl,j,f,i,c⟩
    cases h1
   cases b
  cases b
 cases b
theorem AK6 (hS:G8 S P)(hc:pr){n:Nat}{rs:List ResultVar}{Q:Lz->List Obj->List Bool->Prop}{a:AV}{objs:List Obj}(st:St)(outs:List Nat){ids:List (Nat×Nat)}(f:Q (.ret a) objs (FI n outs))(hp:pr=D0 (cnd P g):=by kernel_rfl)(c:(AA5 (stp P g)).isSome=true:=by kernel_rfl)(hle:Le ids (stp P g).st st:=by exact kle)(d:UI P st rs outs=some (a,objs):=by kernel_rfl) :G S P (Cz S P n rs Q) g:=by
 refine DX hS hc ?_ hp;generalize stp P g=g' at c hle;have b:=d;unfold UI at b;split at b
 .rename_i l hl;split at b
  .rename_i d i;split at b
   .rename_i j;cases b;unfold AA5 at c;split at c
    .exact hS.le ids _ _ _ hle ⟨l,outs,a,objs,hl,j,d,i,f⟩
    .exact hS.le ids _ _ _ hle ⟨l,outs,a,objs,hl,j,d,i,f⟩
    cases c
   cases b
  cases b
 cases b
theorem AA8 (hS:G8 S P){f:FuncId}{fn:Func}{args:List AV}{objs objs' : List Obj}{ks:List Bool}{r:AV}(d:P.funcs[f]? = some fn)
 (h:G S P (Cz S P objs.length fn.results.toList fun res o k=>res=.ret r/\o=objs' /\ k=ks) (.code (fn.body.getD .skip) [] { env:=argEnv args,regs:=objRegs objs }))
 (hc:fn.body.isSome=true:=by kernel_rfl) (hn:Nat.ble args.length fn.ntmps=true:=by kernel_rfl) (g:Nat.blt objs.length 1000=true:=by kernel_rfl)
 (b:AT fn.ntmps (fn.body.getD .skip)=true:=by kernel_rfl) (c:(fn.name == "runtime.NumGoroutine")=false:=by kernel_rfl):FunO S f args objs r objs' ks:=by
 obtain⟨code,a⟩:=AR8.1 hc;rw[a,AR2]at b h;exact Zd hS d a (AX4 hn) (by simpa[AZ3]using g) rfl b c h
theorem al0:∀q∈([]:List (Nat×Leaf)),q.2.ok:=fun _ h=>by cases h
theorem al1 {i:Nat}{l:Leaf}{rs:List (Nat×Leaf)}(h:l.ok)(t:∀q∈rs,q.2.ok):∀q∈(i,l)::rs,q.2.ok:=fun q a=>by
 rcases AT9.1 a with rfl|a
 .exact h
 exact t q a
structure SC where
 all:List Oper
 cls:List Cls
 rest:List Oper
 env:Env
 regs:B5
 kn:List Nat
def SG (S:W8)(P:Program)(sc:SC)(k:Env->B5->Prop):Prop:=LD S P sc.all sc.cls sc.rest sc.env sc.regs k
def Fc (P:Program)(sc:SC):SC:=match NI P sc.kn sc.all sc.cls sc.rest [] sc.env sc.regs with
 |⟨_,cls,rest,env,regs⟩=>⟨sc.all,cls,rest,env,regs,sc.kn⟩
def XW (P:Program)(sc:SC):List Prop:=(NI P sc.kn sc.all sc.cls sc.rest [] sc.env sc.regs).conds
def Fo:Cfg->Bool
 |.code (.region _ _ true) _ _=>true
 |_=>false
def HW:Cfg->SC
 |.code (.region _ ops true) _ st=>⟨ops.toList,ops.toList.map fun o=>AP4 o.op,ops.toList,st.env,st.regs,[]⟩
 |_=>⟨[],[],[],[],[],[]⟩
theorem AA9 (hS:G8 S P)(hc:pr)
 (h:SG S P (HW (stp P g)) fun env regs=>G S P F (.pop .normal (stp P g).k ⟨env,regs⟩)) (hp:pr=D0 (cnd P g):=by kernel_rfl) (c:Fo (stp P g)=true:=by kernel_rfl) (a:P.follows .mixedOrders=true:=by kernel_rfl) (b:Mn (HW (stp P g)).all (HW (stp P g)).cls=true:=by kernel_rfl):G S P F g:=by
 refine DX hS hc ?_ hp;generalize stp P g=g' at c b h;unfold Fo at c;split at c
 .exact Ak4 hS a rfl b h
 cases c
section
variable {sc:SC}{k:Env->B5->Prop}
theorem AG4 (hc:pr)(h:SG S P (Fc P sc) k)(hp:pr=D0 (XW P sc):=by kernel_rfl):SG S P sc k:=by subst hp;unfold Fc at h;unfold XW at hc;unfold SG at *;generalize a:NI P sc.kn sc.all sc.cls sc.rest [] sc.env sc.regs=r at h hc;obtain⟨c,cls,rest,env,regs⟩:=r;exact s_go a hc h
theorem C_end (hc:pr)(h:k (Fc P sc).env (Fc P sc).regs)(hp:pr=D0 (XW P sc):=by kernel_rfl)(a:(Fc P sc).rest.isEmpty=true:=by kernel_rfl):SG S P sc k:=by
 refine AG4 hc ?_ hp;generalize Fc P sc=s at a h;obtain⟨all,cls,rest,env,regs,kn⟩:=s;cases rest with
 |nil=>exact s_end h
 |cons=>simp at a
def AG5 {R:Type _}(d:Option Nat)(a:AV)(env:Env)(regs:B5)(κ : Env->B5->R):R:=match d with
 |some d=>mkO (ins d a env) regs κ
 |none=>mkO env regs κ
theorem JN {R:Type _}(d:Option Nat)(a:AV)(env:Env)(regs:B5)(κ : Env->B5->R):AG5 d a env regs κ = κ (NP d a env) regs:=by cases d<;>simp only[AG5,EK,NP]
theorem Au0:∀{env:Env}{i d:Nat}{b:AV},Ag9 ((i,b)::env)=true->get env d ≠ .top->d<i
 |[],_,_,_,_,h=>Ln rfl h
 |(j,c)::r,i,d,b,hd,h=>by
  simp only[Ag9,AQ7,decide_eq_true_eq]at hd;by_cases e:j=d
  .subst e;exact hd.1
  simp only[get,e,Lp]at h;exact Nat.lt_trans (Au0 hd.2 h) hd.1
theorem Qx:∀{env:Env}{d:Nat}{a:AV},Ag9 env=true->get env d=a->a ≠ .top->ins d a env=env
 |[],_,_,_,h,hn=>Ln h.symm hn
 |(i,b)::r,d,a,hd,h,hn=>by
  by_cases e:i=d
  .subst e;simp only[get,Lo]at h;subst h;simp[ins]
  simp only[get,e,Lp]at h;have c:=Au0 hd (by rw[h];exact hn);have f:Ag9 r=true:=by
   cases r with
   |nil=>rfl
   |cons p r=>simp only[Ag9,AQ7]at hd;exact hd.2
  simp only[ins,show ¬i<d by omega,e,Lp,Qx f h hn]
def Qy (sc:SC):Option Bool:=match sc.rest with
 |o::_=>match o.guard with
  |some (j,_)=>match AH9 sc.all j with
   |some d=>match get sc.env d with
    |.p (.bb b)=>if Ag9 sc.env then some b else none
    |_=>none
   |none=>none
  |none=>none
 |[]=>none
def Mr (v:Bool)(sc:SC):SC:=match sc.rest with
 |o::_=>match o.guard with
  |some (j,_)=>match AH9 sc.all j with
   |some d=>mkO (ins d (.p (.bb v)) sc.env) sc.regs fun env regs=>⟨sc.all,sc.cls,sc.rest,env,regs,j::sc.kn⟩
   |none=>sc
  |none=>sc
 |[]=>sc
theorem AB0 (hc:pr){b:Bool}(ht:b=true->SG S P (Mr true (Fc P sc)) k)(f:b=false->SG S P (Mr false (Fc P sc)) k)(hp:pr=D0 (XW P sc))(hb:Qy (Fc P sc)=some b):SG S P sc k:=by
 refine AG4 hc ?_ hp;generalize Fc P sc=s at hb ht f;obtain⟨all,cls,rest,env,regs,kn⟩:=s;cases rest with
 |nil=>simp[Qy]at hb
 |cons o rest=>
  simp only[Qy]at hb;split at hb
  .rename_i j w hg;split at hb
   .rename_i d g;split at hb
    .rename_i b' a;split at hb
     .rename_i c;simp only[AQ2]at hb;subst hb;simp only[Mr,hg,g,EK]at ht f;cases b' with
      |true=>have:=ht rfl;rwa [Qx c a (by simp)]at this
      |false=>have:=f rfl;rwa [Qx c a (by simp)]at this
     cases hb
    cases hb
   cases hb
  cases hb
def Wv (ids:List Nat)(sc:SC):Option (FuncId×List AV×List Obj):=match sc.rest with
 |o::_=>match CY sc.all sc.env o,o.op with
  |some true,.call c=>match c.callee with
   |.value f=>match Hg sc.regs (c.args.toList.map (aev sc.env))with
    |some (as,regs)=>match NG sc.env f as with
     |some (fn,as')=>match CS ids as',J6 ids regs ids with
      |some a,some ob=>if G0 ids&&DS ob then some (fn,a,ob)else none
      |_,_=>none
     |none=>none
    |none=>none
   |_=>none
  |_,_=>none
 |[]=>none
def Am0 (js:List Nat):AV->Bool
 |.vec j=>js.contains j
 |.vecp j _=>js.contains j
 |_=>true
theorem Ww {js:List Nat}{regs' : B5}:∀{l:List AV}{regs:B5}{as:List AV},l.all (Am0 js)=true->Hg regs l=some (as,regs')->∀q,q ∉ js->A1 regs' q=A1 regs q
 |[],regs,as,_,h,q,_=>by simp only[Hg,AQ2,AR3]at h;rw[<- h.2]
 |a::r,regs,as,hl,h,q,hq=>by
  simp only[AZ5,AQ7]at hl;simp only[Hg]at h;split at h
  .rename_i x R1 h1;split at h
   .rename_i l1 R2 c;simp only[AQ2,AR3]at h;obtain⟨_,rfl⟩:=h;rw[Ww hl.2 c q hq];cases a with
    |vec j=>
     simp only at h1;split at h1
     .rename_i x2 R3 b;cases h1;exact Qr (by simpa[inJ,Am0]using hl.1) b q hq
     cases h1
    |vecp j m=>
     simp only at h1;split at h1
     .rename_i x2 R3 b;cases h1;exact Qr (by simpa[inJ,Am0]using hl.1) b q hq
     cases h1
    |_=>cases h1;rfl
   cases h
  cases h
def AK7 (R:B5)(a:AV):Option (AV×B5):=match a with | .vec _ | .vecp _ _=>(match Eo R a with|some (x,regs)=>some (AV.p x,regs)|none=>none)|a=>some (a,R)
theorem ZQ (R:B5)(a:AV)(r:List AV):Hg R (a::r)=match AK7 R a with
 |some (a,regs)=>match Hg regs r with
  |some (l,regs)=>some (a::l,regs)
  |none=>none
 |none=>none:=rfl
theorem Am1 {js:List Nat}{a x:AV}{R R2 R' : B5}(hl:inJ js a=true)(c:∀q∈js,A1 R2 q=A1 R q)(hx:AK7 R a=some (x,R')):∃R3,AK7 R2 a=some (x,R3)/\(∀q∈js,A1 R3 q=A1 R' q)/\∀q,q ∉ js->A1 R3 q=A1 R2 q:=by
 have up:∀(i:Nat) (o:Obj),i∈js->(∀q∈js,A1 (ins i o R2) q=A1 (ins i o R) q)/\∀q,q ∉ js->A1 (ins i o R2) q=A1 R2 q:=fun i o f=>
  ⟨fun q d=>by rw[Y3,Y3,c q d],fun q d=>by rw[Y3,Lm (by rintro rfl;exact d f)]⟩
 cases a with
 |p y=>cases hx;exact⟨R2,rfl,c,fun _ _=>rfl⟩
 |vec j=>
  have hj:j∈js:=by simpa[inJ]using hl
  simp only[AK7,Eo,c j hj]at hx⊢;cases b:A1 R j with
  |none=>simp[b]at hx
  |some ob=>cases ob<;>simp only[b]at hx⊢<;>first|(cases hx;exact⟨_,rfl,up _ _ hj⟩)|cases hx
 |vecp j m=>
  have hj:j∈js:=by simpa[inJ]using hl
  simp only[AK7,Eo,c j hj]at hx⊢;cases b:A1 R j with
  |none=>simp[b]at hx
  |some ob=>cases ob<;>simp only[b]at hx⊢<;>first|(cases hx;exact⟨_,rfl,up _ _ hj⟩)|cases hx
 |_=>cases hl
theorem Qz {js:List Nat}:∀{l:List AV}{R R2 R1:B5}{as:List AV},l.all (inJ js)=true->(∀q∈js,A1 R2 q=A1 R q)->Hg R l=some (as,R1) ->
 ∃R3,Hg R2 l=some (as,R3)/\(∀q∈js,A1 R3 q=A1 R1 q)/\∀q,q ∉ js->A1 R3 q=A1 R2 q
 |[],R,R2,R1,as,_,h2,h=>by simp only[Hg,AQ2,AR3]at h;obtain⟨rfl,rfl⟩:=h;exact⟨R2,rfl,h2,fun _ _=>rfl⟩
 |a::r,R,R2,R1,as,hl,h2,h=>by
  simp only[AZ5,AQ7]at hl;simp only[ZQ]at h⊢;split at h
  .rename_i x R' hx;obtain⟨R3,e1,e2,e3⟩:=Am1 hl.1 h2 hx;split at h
   .rename_i l1 R'' c;simp only[AQ2,AR3]at h;obtain⟨rfl,rfl⟩:=h;obtain⟨R4,f1,f2,f3⟩:=Qz hl.2 e2 c;exact⟨R4,by simp only[e1,f1],f2,fun q b=>(f3 q b).trans (e3 q b)⟩
   cases h
  cases h
theorem SJ {m:List Nat}:∀{ids:List Nat}{objs:List Obj}{A B:B5}{q:Nat},A1 A q=A1 B q->A1 (back m ids objs A) q=A1 (back m ids objs B) q
 |[],_,_,_,_,h=>h
 |_::_,[],_,_,_,h=>h
 |j::ids,o::objs,A,B,q,h=>by simp only[back];exact SJ (by rw[Y3,Y3,h])
theorem AB1 {all:List Oper}{k:Env->B5->Prop}{js:List Nat}{cls:List Cls}{o:Oper}{rest:List Oper}{env:Env}{regs regs1:B5}{c:Call}{f:Operand}{as:List AV}{fn:FuncId}{as' args:List AV}{objs' : List Obj}{ks:List Bool}{r:AV}
 (hg:CY all env o=some true) (j:o.op=.call c) (l:c.callee=.value f) (g:(c.args.toList.map (aev env)).all (inJ js)=true)
 (ha:Hg regs (c.args.toList.map (aev env))=some (as,regs1)) (hw:NG env f as=some (fn,as')) (m:CS [] as' = some args) (n:FunO S fn args [] r objs' ks)
 (d:((G4 (o.dst.getD 0) [] ks objs'.length).all fun q=>js.contains q)=true) (hn:Y1 regs1 [] ks (o.dst.getD 0) objs'.length=true)
 (hk:LD S P all cls rest (NP o.dst (unA (G4 (o.dst.getD 0) [] ks objs'.length) r) env) (back (G4 (o.dst.getD 0) [] ks objs'.length) (G4 (o.dst.getD 0) [] ks objs'.length) objs' (M0 [] ks regs1)) k) :
 LD S P all (.a js::cls) (o::rest) env regs k:=by
 have i:∀q,q ∉ js->q ∉ G4 (o.dst.getD 0) [] ks objs'.length:=fun q b h=>b (by simpa using AR4.1 d q h);refine⟨true,hg,?_⟩;rw[Ll rfl];refine⟨_,_,.inr (.inr (.inr (.inr ⟨js,rfl,fun q b=>?_,fun R2 s=>?_⟩))),hk⟩
 .rw[LF (i q b)];obtain⟨R3,e1,_,e3⟩:=Qz (R2:=regs) g (fun _ _=>rfl) ha;rw[ha]at e1;cases e1;exact e3 q b
 obtain⟨R3,e1,e2,e3⟩:=Qz g s ha;refine⟨_,.inl ⟨c,f,as,R3,fn,as',args,[],objs',ks,r,[],j,l,e1,hw,m,rfl,n,rfl,rfl,?_,rfl,rfl⟩,fun q b=>SJ (e2 q b),fun q b=>(LF (i q b)).trans (e3 q b)⟩;unfold Y1 at hn⊢;rw[AR4]at hn⊢;intro p hp;have h1:=hn p hp;have t:nid (o.dst.getD 0) p∈js:=by
  have:=AR4.1 d (nid (o.dst.getD 0) p) (by unfold G4;exact AU2.2 ⟨p,hp,rfl⟩)
  simpa using this
 show (A1 R3 (nid (o.dst.getD 0) p)).isNone=true;rw[e2 _ t];exact h1
def Ms (ids:List Nat)(ks:List Bool)(n:Nat)(sc:SC):Bool:=match sc.cls,sc.rest with
 |.w::_,o::_=>match o.op with
  |.call c=>match Hg sc.regs (c.args.toList.map (aev sc.env))with
   |some (_,regs)=>Y1 regs ids ks (o.dst.getD 0) n
   |none=>false
  |_=>false
 |.b js::_,o::_=>match o.op with
  |.call c=>match Hg sc.regs (c.args.toList.map (aev sc.env))with
   |some (_,regs)=>((c.args.toList.map (aev sc.env)).all (Am0 js)&&ids.isEmpty)&&(((G4 (o.dst.getD 0) ids ks n).all fun q=>js.contains q)&&Y1 regs ids ks (o.dst.getD 0) n)
   |none=>false
  |_=>false
 |.a js::_,o::_=>match o.op with
  |.call c=>match Hg sc.regs (c.args.toList.map (aev sc.env))with
   |some (_,regs)=>((c.args.toList.map (aev sc.env)).all (inJ js)&&ids.isEmpty)&&(((G4 (o.dst.getD 0) ids ks n).all fun q=>js.contains q)&&Y1 regs ids ks (o.dst.getD 0) n)
   |none=>false
  |_=>false
 |_,_=>false
def SK (ids:List Nat)(ks:List Bool)(r:AV)(objs' : List Obj)(sc:SC):SC:=match sc.rest with
 |o::rest=>match o.op with
  |.call c=>match Hg sc.regs (c.args.toList.map (aev sc.env))with
   |some (_,regs)=>AG5 o.dst (unA (G4 (o.dst.getD 0) ids ks objs'.length) r) sc.env
    (back (G4 (o.dst.getD 0) ids ks objs'.length) (G4 (o.dst.getD 0) ids ks objs'.length) objs' (M0 ids ks regs)) fun env regs=>⟨sc.all,sc.cls.tail,rest,env,regs,sc.kn⟩
   |none=>sc
  |_=>sc
 |[]=>sc
theorem AK8 (ids:List Nat)(hc:pr){fn:FuncId}{args:List AV}{objs objs' : List Obj}{r:AV}{ks:List Bool}(u:FunO S fn args objs r objs' ks)
 (hk:SG S P (SK ids ks r objs' (Fc P sc)) k) (hp:pr=D0 (XW P sc):=by kernel_rfl) (d:Wv ids (Fc P sc)=some (fn,args,objs):=by kernel_rfl) (hn:Ms ids ks objs'.length (Fc P sc)=true:=by kernel_rfl):SG S P sc k:=by
 refine AG4 hc ?_ hp;generalize Fc P sc=s at d hn hk;obtain⟨all,cls,rest,env,regs,kn⟩:=s;cases rest with
 |nil=>simp[Wv]at d
 |cons o rest=>
  simp only[Wv]at d;split at d
  .rename_i c hg g;split at d
   .rename_i i;split at d
    .rename_i ha;split at d
     .rename_i hw;split at d
      .rename_i v j;split at d
       .rename_i f;cases d;simp only[AQ7]at f;cases cls with
        |nil=>simp[Ms]at hn
        |cons cl cls=>
         cases cl with
         |w=>simp only[Ms,g,ha]at hn;simp only[SK,g,ha,JN,Bc5]at hk;exact ZJ ids (.inl rfl) hg g i ha hw v j u f.1 f.2 hn hk
         |b js=>simp only[Ms,g,ha,AQ7,Bg8]at hn;obtain⟨⟨l,m⟩,n,t⟩:=hn;subst m;simp only[SK,g,ha,JN,Bc5]at hk;refine ZJ [] (.inr ⟨js,rfl,fun q x=>?_⟩) hg g i ha hw v j u f.1 f.2 t hk;rw[LF (fun h=>x (by simpa using AR4.1 n q h))];exact Ww l ha q x
         |a js=>simp only[Ms,g,ha,AQ7,Bg8]at hn;obtain⟨⟨l,m⟩,n,t⟩:=hn;subst m;simp only[SK,g,ha,JN,Bc5]at hk;cases j;exact AB1 hg g i l ha hw v u n t hk
         |_=>simp[Ms]at hn
       cases d
      cases d
     cases d
    cases d
   cases d
  cases d
def Wx (sc:SC):Bool:=match sc.cls,sc.rest with
 |_::_,o::_=>match o.op with
  |.call c=>(c.args.toList.map (aev sc.env)).all ZD
  |_=>false
 |_,_=>false
def Wy (sc:SC):Option (FuncId×List AV):=match sc.rest with
 |o::_=>match CY sc.all sc.env o,o.op with
  |some true,.call c=>match c.callee with
   |.value f=>match NG sc.env f (c.args.toList.map (aev sc.env))with
    |some (fn,as')=>match CS [] as' with
     |some a=>some (fn,a)
     |none=>none
    |none=>none
   |_=>none
  |_,_=>none
 |[]=>none
def ZR (r:AV)(sc:SC):SC:=match sc.rest with
 |o::rest=>AG5 o.dst (unA [] r) sc.env sc.regs fun env regs=>⟨sc.all,sc.cls.tail,rest,env,regs,sc.kn⟩
 |[]=>sc
theorem AK9 (hc:pr){fn:FuncId}{args:List AV}{r:AV}(f:FunO S fn args [] r [] [])
 (hk:SG S P (ZR r (Fc P sc)) k) (hp:pr=D0 (XW P sc):=by kernel_rfl) (a:Wy (Fc P sc)=some (fn,args):=by kernel_rfl) (hn:Wx (Fc P sc)=true:=by kernel_rfl):SG S P sc k:=by
 refine AG4 hc ?_ hp;generalize Fc P sc=s at a hn hk;obtain⟨all,cls,rest,env,regs,kn⟩:=s;cases rest with
 |nil=>simp[Wy]at a
 |cons o rest=>
  cases cls with
  |nil=>simp[Wx]at hn
  |cons cl cls=>
   simp only[Wy]at a;split at a
   .rename_i c hg d;split at a
    .rename_i b;split at a
     .rename_i hw;split at a
      .rename_i g;cases a;simp only[Wx,d]at hn;simp only[ZR,JN,Bc5]at hk;exact AJ2 hg d b hn hw g f hk
      cases a
     cases a
    cases a
   cases a
def Fp (P:Program)(sc:SC):Option (List Prop×PV):=match sc.cls,sc.rest with
 |_::_,o::_=>match CY sc.all sc.env o with
  |some true=>OE P sc.env o.op
  |_=>none
 |_,_=>none
def UJ (x:PV)(sc:SC):SC:=match sc.rest with
 |o::rest=>AG5 o.dst (.p x) sc.env sc.regs fun env regs=>⟨sc.all,sc.cls.tail,rest,env,regs,sc.kn⟩
 |[]=>sc
theorem AB2 (hc:pr){x:PV}(hk:SG S P (UJ x (Fc P sc)) k)(hp:pr=D0 (XW P sc):=by kernel_rfl)(a:(Fp P (Fc P sc)).map (·.2)=some x:=by kernel_rfl)(b:((Fp P (Fc P sc)).map fun q=>D0 q.1)=some (true=true):=by kernel_rfl):SG S P sc k:=by
 refine AG4 hc ?_ hp;generalize Fc P sc=s at a b hk;obtain⟨all,cls,rest,env,regs,kn⟩:=s;cases rest with
 |nil=>cases cls<;>simp[Fp]at a
 |cons o rest=>
  cases cls with
  |nil=>simp[Fp]at a
  |cons cl cls=>
   cases hg:CY all env o with
   |none=>simp[Fp,hg]at a
   |some bb=>
    cases bb with
    |false=>simp[Fp,hg]at a
    |true=>
     simp only[Fp,hg]at a b;cases ha:OE P env o.op with
     |none=>rw[ha]at a;cases a
     |some q=>obtain⟨c,y⟩:=q;rw[ha]at a b;simp only[AR5,AQ2]at a b;subst a;simp only[UJ,JN,Bc5]at hk;exact Ak3 hg ha (by rw[b];trivial) hk
end
end
structure KG (S:W8) (P:Program) (F:I8) (g:Cfg):Prop where
 out:G S P F g
structure DG (S:W8) (P:Program) (sc:SC) (k:Env->B5->Prop):Prop where
 out:SG S P sc k
structure KLe (ids:List (Nat×Nat)) (s t:St):Prop where
 out:Le ids s t
section
variable {S:W8}{P:Program}{F:I8}{g:Cfg}{pr:Prop}
theorem kl {ids:List (Nat×Nat)}{s t:St}(h:(leK ids s t).map (·.map Leaf.src)=(leK ids s t).map (·.map Leaf.tgt):=by kernel_rfl)(h1:(leK ids s t).isSome=true:=by kernel_rfl):KLe ids s t:=⟨kle h h1⟩
theorem klR {ids:List (Nat×Nat)}{s t:St}(rs:List (Nat×Leaf))(a:∀q∈rs,q.2.ok)(h:(leK ids s t).map (AK1 (rs.map (·.1)) Leaf.src)=(leK ids s t).map (AK1 (rs.map (·.1)) Leaf.tgt):=by kernel_rfl)
 (b:(leK ids s t).map (fun L=>rs.map fun q=>L[q.1]?)=some (rs.map fun q=>some q.2):=by kernel_rfl):KLe ids s t:=⟨kleR rs a h b⟩
theorem E7 (hS:G8 S P)(hc:pr){b:Bool}(ht:b=true->KG S P F (AA1 (stp P g)))(a:b=false->KG S P F (AA2 (stp P g)))(hp:pr=D0 (cnd P g):=by kernel_rfl)(hb:Al2 (stp P g)=some b:=by kernel_rfl):KG S P F g:=
 ⟨AK2 hS hc (fun h=>(ht h).out) (fun h=>(a h).out) hp hb⟩
theorem QA (hS:G8 S P)(hc:pr){b:Bool}(ht:b=true->KG S P F (Mp true (stp P g)))(a:b=false->KG S P F (Mp false (stp P g)))(hp:pr=D0 (cnd P g):=by kernel_rfl)(hb:Wr (stp P g)=some b:=by kernel_rfl):KG S P F g:=
 ⟨AA7 hS hc (fun h=>(ht h).out) (fun h=>(a h).out) hp hb⟩
theorem F0 (hS:G8 S P)(ids:List Nat)(hc:pr){fn:FuncId}{args:List AV}{objs objs' : List Obj}{r:AV}{ks:List Bool}(a:FunO S fn args objs r objs' ks)(hk:KG S P F (Al3 ids ks r objs' (stp P g)))
 (hp:pr=D0 (cnd P g):=by kernel_rfl) (b:XU ids (stp P g)=some (fn,args,objs):=by kernel_rfl) (hn:XV ids ks objs'.length (stp P g)=true:=by kernel_rfl):KG S P F g:=⟨AK3 hS ids hc a hk.out hp b hn⟩
theorem LI (hS:G8 S P)(hc:pr){kt e:TypeId}{key:PV}{es:List (PV×PV)}{x:PV}{b:Bool}{fd:Option PV}(c:find (NF P kt) key es=some fd)(a:D0 (OC P kt))(hk:KG S P F (AA4 x b (stp P g)))
 (hp:pr=D0 (cnd P g):=by kernel_rfl) (d:AA3 P (stp P g)=some ⟨kt,e,key,es⟩:=by kernel_rfl) (hx:AJ9 P e fd=some (x,b):=by kernel_rfl):KG S P F g:=⟨Al8 hS hc c a hk.out hp d hx⟩
theorem QB (hS:G8 S P)(hc:pr){kt:TypeId}{key y:PV}{es es' : List (PV×PV)}(b:upd (NF P kt) key y es=some es')(a:D0 (OC P kt))(hk:KG S P F (updK es' (stp P g)))
 (hp:pr=D0 (cnd P g):=by kernel_rfl) (c:updE P (stp P g)=some (kt,key,y,es):=by kernel_rfl):KG S P F g:=⟨Al9 hS hc b a hk.out hp c⟩
theorem II (hS:G8 S P)(hc:pr)(st:St){ids:List (Nat×Nat)}(hk:KG S P F (opsS st (stp P g)))(hp:pr=D0 (cnd P g):=by kernel_rfl)(a:Gl (stp P g)=true:=by kernel_rfl)(hle:KLe ids (stp P g).st st:=by exact kl):KG S P F g:=
 ⟨AK4 hS hc st hk.out hp a hle.out⟩
theorem UK (hS:G8 S P)(hc:pr)(b:∀s,S.up s (F .normal)->F .normal s)(n:Nat)(s:St)
 (h1:∀(M:St->Prop),(∀(g' : Cfg) (ids:List (Nat×Nat)) (pr:Prop),pr->(hp:pr=D0 (cnd P g'):=by kernel_rfl)->(a:stp P g' = .pop .normal (.mid M::(stp P g).k.drop n) (stp P g').st:=by kernel_rfl)->(hle:KLe ids (stp P g').st s:=by exact kl)->KG S P F g')->KG S P F (AK0 n M (stp P g)))
 (c:KG S P F (.pop .normal ((stp P g).k.drop n) s)) (hp:pr=D0 (cnd P g):=by kernel_rfl) (hn:Nat.ble n (stp P g).k.length=true:=by kernel_rfl):KG S P F g:=
 ⟨J_cut hS hc b n s (fun M hb=>(h1 M fun g' ids pr hc hp a hle=>⟨hb g' ids pr hc hp a hle.out⟩).out) c.out hp hn⟩
theorem QC (hS:G8 S P)(hc:pr)(c:∀s,S.up s (F .normal)->F .normal s){R A:Type}{f:(A->Option R)->Option R}{k0:A->Option R}{r:R}(h:lt k0 f=some r)(n:Nat)(s:A->St)
 (h1:∀(M:St->Prop) (k:A->Option R),(∀(g' : Cfg) (ids:List (Nat×Nat)) (pr:Prop) (a:A),pr->k a=some r->(hp:pr=D0 (cnd P g'):=by kernel_rfl)->(b:stp P g' = .pop .normal (.mid M::(stp P g).k.drop n) (stp P g').st:=by kernel_rfl)->(hle:KLe ids (stp P g').st (s a):=by exact kl)->KG S P F g')->f k=some r->KG S P F (AK0 n M (stp P g)))
 (d:∀a,k0 a=some r->KG S P F (.pop .normal ((stp P g).k.drop n) (s a))) (hp:pr=D0 (cnd P g):=by kernel_rfl) (hn:Nat.ble n (stp P g).k.length=true:=by kernel_rfl):KG S P F g:=
 ⟨J_lt hS hc c h n s (fun M k hb i=>(h1 M k (fun g' ids pr a hc hk hp b hle=>⟨hb g' ids pr a hc hk hp b hle.out⟩) i).out) (fun a hk=>(d a hk).out) hp hn⟩
theorem AF (hS:G8 S P)(hc:pr){R A:Type}{body:(A->Option R)->A->Option R}{N:Nat}{a0:A}{r:R}(h:S3 N body a0=some r)(s:A->St){ids:List (Nat×Nat)}
 (i:∀(X:Type) (s' : X->St) (J:X->Prop) (m:X->Nat) (n:Nat) (b:A->Option R) (a:A),
  (∀(g' : Cfg) (ids:List (Nat×Nat)) (pr:Prop) (a:A),pr->b a=some r->(hp:pr=D0 (cnd P g'):=by kernel_rfl)->(f:stp P g' = .pop .normal (.lp X s' J m n::(stp P g).k) (stp P g').st:=by kernel_rfl)->(hle:KLe ids (stp P g').st (s a):=by exact kl)->KG S P F g') ->
  body b a=some r->KG S P F (.code (UH (stp P g)) (.lp X s' J m n::(stp P g).k) (s a))) (hp:pr=D0 (cnd P g):=by kernel_rfl) (hl:KM (stp P g)=true:=by kernel_rfl) (hle:KLe ids (stp P g).st (s a0):=by exact kl):KG S P F g:=
 ⟨AK5 hS hc h s (fun X s' J m n b a hb c=>(i X s' J m n b a (fun g' ids pr a hc d hp f hle=>⟨hb g' ids pr a hc d hp f hle.out⟩) c).out) hp hl hle.out⟩
theorem Q5 (hS:G8 S P)(hc:pr){R A B:Type}{body:(A->B->Option R)->A->B->Option R}{N:Nat}{a0:A}{b0:B}{r:R}(h:W9 N body a0 b0=some r)(s:A->B->St){ids:List (Nat×Nat)}
 (d:∀(X:Type) (s' : X->St) (J:X->Prop) (m:X->Nat) (n:Nat) (c:A->B->Option R) (a:A) (b:B),
  (∀(g' : Cfg) (ids:List (Nat×Nat)) (pr:Prop) (a:A) (b:B),pr->c a b=some r->(hp:pr=D0 (cnd P g'):=by kernel_rfl)->(o:stp P g' = .pop .normal (.lp X s' J m n::(stp P g).k) (stp P g').st:=by kernel_rfl)->(hle:KLe ids (stp P g').st (s a b):=by exact kl)->KG S P F g') ->
  body c a b=some r->KG S P F (.code (UH (stp P g)) (.lp X s' J m n::(stp P g).k) (s a b))) (hp:pr=D0 (cnd P g):=by kernel_rfl) (hl:KM (stp P g)=true:=by kernel_rfl) (hle:KLe ids (stp P g).st (s a0 b0):=by exact kl):KG S P F g:=
 AF hS hc h (fun x=>s x.1 x.2) (fun X s' J m n c a hb=>d X s' J m n (fun a b=>c (a,b)) a.1 a.2 fun g' ids pr a b h1 f i j l=>hb g' ids pr (a,b) h1 f i j l) hp hl hle
theorem Wz (hS:G8 S P)(hc:pr){R A B C:Type}{body:(A->B->C->Option R)->A->B->C->Option R}{N:Nat}{a0:A}{b0:B}{c0:C}{r:R}(h:Ak9 N body a0 b0 c0=some r)(s:A->B->C->St){ids:List (Nat×Nat)}
 (f:∀(X:Type) (s' : X->St) (J:X->Prop) (m:X->Nat) (n:Nat) (d:A->B->C->Option R) (a:A) (b:B) (c:C),
  (∀(g' : Cfg) (ids:List (Nat×Nat)) (pr:Prop) (a:A) (b:B) (c:C),pr->d a b c=some r->(hp:pr=D0 (cnd P g'):=by kernel_rfl)->(q:stp P g' = .pop .normal (.lp X s' J m n::(stp P g).k) (stp P g').st:=by kernel_rfl)->(hle:KLe ids (stp P g').st (s a b c):=by exact kl)->KG S P F g') ->
  body d a b c=some r->KG S P F (.code (UH (stp P g)) (.lp X s' J m n::(stp P g).k) (s a b c))) (hp:pr=D0 (cnd P g):=by kernel_rfl) (hl:KM (stp P g)=true:=by kernel_rfl) (hle:KLe ids (stp P g).st (s a0 b0 c0):=by exact kl):KG S P F g:=
 AF hS hc h (fun x=>s x.1 x.2.1 x.2.2) (fun X s' J m n d a hb=>f X s' J m n (fun a b c=>d (a,b,c)) a.1 a.2.1 a.2.2 fun g' ids pr a b c h1 i j l o=>hb g' ids pr (a,b,c) h1 i j l o) hp hl hle
theorem ZS (hS:G8 S P)(hc:pr){n:Nat}{rs:List ResultVar}{Q:Lz->List Obj->List Bool->Prop}{a:AV}{objs:List Obj}(outs:List Nat)(b:Q (.ret a) objs (FI n outs))(hp:pr=D0 (cnd P g):=by kernel_rfl)
 (c:(AA5 (stp P g)).bind (fun st=>UI P st rs outs)=some (a,objs):=by kernel_rfl):KG S P (Cz S P n rs Q) g:=⟨J_ret hS hc outs b hp c⟩
theorem A6 (hS:G8 S P)(hc:pr){n:Nat}{rs:List ResultVar}{Q:Lz->List Obj->List Bool->Prop}{a:AV}{objs:List Obj}(st:St)(outs:List Nat){ids:List (Nat×Nat)}(b:Q (.ret a) objs (FI n outs))(hp:pr=D0 (cnd P g):=by kernel_rfl)
 (c:(AA5 (stp P g)).isSome=true:=by kernel_rfl) (hle:KLe ids (stp P g).st st:=by exact kl) (d:UI P st rs outs=some (a,objs):=by kernel_rfl):KG S P (Cz S P n rs Q) g:=⟨AK6 hS hc st outs b hp c hle.out d⟩
theorem A3 (hS:G8 S P){f:FuncId}{fn:Func}{args:List AV}{objs objs' : List Obj}{ks:List Bool}{r:AV}(c:P.funcs[f]? = some fn)
 (h:KG S P (Cz S P objs.length fn.results.toList fun res o k=>res=.ret r/\o=objs' /\ k=ks) (.code (fn.body.getD .skip) [] { env:=argEnv args,regs:=objRegs objs }))
 (hc:fn.body.isSome=true:=by kernel_rfl) (hn:Nat.ble args.length fn.ntmps=true:=by kernel_rfl) (d:Nat.blt objs.length 1000=true:=by kernel_rfl)
 (a:AT fn.ntmps (fn.body.getD .skip)=true:=by kernel_rfl) (b:(fn.name == "runtime.NumGoroutine")=false:=by kernel_rfl):FunO S f args objs r objs' ks:=AA8 hS c h.out hc hn d a b
theorem HX (hS:G8 S P)(hc:pr)(h:DG S P (HW (stp P g)) fun env regs=>KG S P F (.pop .normal (stp P g).k ⟨env,regs⟩))(hp:pr=D0 (cnd P g):=by kernel_rfl)(c:Fo (stp P g)=true:=by kernel_rfl)(a:P.follows .mixedOrders=true:=by kernel_rfl)
 (b:Mn (HW (stp P g)).all (HW (stp P g)).cls=true:=by kernel_rfl):KG S P F g:=by
 have e:(fun env regs=>KG S P F (.pop .normal (stp P g).k ⟨env,regs⟩))=fun env regs=>G S P F (.pop .normal (stp P g).k ⟨env,regs⟩):=by funext env regs;exact propext ⟨fun h=>h.out,fun h=>⟨h⟩⟩
 rw[e]at h;exact⟨AA9 hS hc h.out hp c a b⟩
section
variable {sc:SC}{k:Env->B5->Prop}
theorem N2 (hc:pr)(h:k (Fc P sc).env (Fc P sc).regs)(hp:pr=D0 (XW P sc):=by kernel_rfl)(a:(Fc P sc).rest.isEmpty=true:=by kernel_rfl):DG S P sc k:=⟨C_end hc h hp a⟩
theorem HY (hc:pr){b:Bool}(ht:b=true->DG S P (Mr true (Fc P sc)) k)(a:b=false->DG S P (Mr false (Fc P sc)) k)(hp:pr=D0 (XW P sc):=by kernel_rfl)(hb:Qy (Fc P sc)=some b:=by kernel_rfl):DG S P sc k:=
 ⟨AB0 hc (fun h=>(ht h).out) (fun h=>(a h).out) hp hb⟩
theorem WA (ids:List Nat)(hc:pr){fn:FuncId}{args:List AV}{objs objs' : List Obj}{r:AV}{ks:List Bool}(a:FunO S fn args objs r objs' ks)(hk:DG S P (SK ids ks r objs' (Fc P sc)) k)
 (hp:pr=D0 (XW P sc):=by kernel_rfl) (b:Wv ids (Fc P sc)=some (fn,args,objs):=by kernel_rfl) (hn:Ms ids ks objs'.length (Fc P sc)=true:=by kernel_rfl):DG S P sc k:=⟨AK8 ids hc a hk.out hp b hn⟩
theorem Bv (hc:pr){fn:FuncId}{args:List AV}{r:AV}(a:FunO S fn args [] r [] [])(hk:DG S P (ZR r (Fc P sc)) k)(hp:pr=D0 (XW P sc):=by kernel_rfl)(b:Wy (Fc P sc)=some (fn,args):=by kernel_rfl)(hn:Wx (Fc P sc)=true:=by kernel_rfl):DG S P sc k:=
 ⟨AK9 hc a hk.out hp b hn⟩
theorem Gm (hc:pr){x:PV}(hk:DG S P (UJ x (Fc P sc)) k)(hp:pr=D0 (XW P sc):=by kernel_rfl)(b:(Fp P (Fc P sc)).map (·.2)=some x:=by kernel_rfl)(a:((Fp P (Fc P sc)).map fun q=>D0 q.1)=some (true=true):=by kernel_rfl):DG S P sc k:=⟨AB2 hc hk.out hp b a⟩
end
end
end Go.AM
namespace Go.AM
section
variable {S:W8}{P:Program}{F:I8}{g:Cfg}{pr:Prop}
def yldE:Cfg->Option (List PV×List (List PV))
 |.ops all (o::_) _ st=>match Bs all st.env o,o.op with
  |some true,.call c=>match c.callee with
   |.value f=>match aev st.env f,EA st.regs (c.args.toList.map (aev st.env))with
    |.yf j,some (xs,regs)=>match A1 regs j with
     |some (.yld (ys::rest) true)=>if Dn j regs=true/\xs.length=ys.length then some (xs,ys::rest)else none
     |_=>none
    |_,_=>none
   |_=>none
  |_,_=>none
 |_=>none
def AL0 (b:Bool)(rest:List (List PV)):Cfg->Cfg
 |.ops all (o::ops) K st=>match o.op with
  |.call c=>match c.callee with
   |.value f=>match aev st.env f,EA st.regs (c.args.toList.map (aev st.env))with
    |.yf j,some (_,regs)=>ZO o.dst (.p (.bb b)) st.env (ins j (.yld rest b) regs) fun st=>.ops all ops K st
    |_,_=>.ops all (o::ops) K st
   |_=>.ops all (o::ops) K st
  |_=>.ops all (o::ops) K st
 |g=>g
theorem SL:∀l:List PV,Aw9 l l
 |[]=>trivial
 |x::l=>⟨.inl rfl,SL l⟩
theorem AB3 (hS:G8 S P)(hc:pr){ys:List PV}{rest:List (List PV)}(ht:G S P F (AL0 true rest (stp P g)))(d:G S P F (AL0 false [] (stp P g)))(hp:pr=D0 (cnd P g))(a:yldE (stp P g)=some (ys,ys::rest)):G S P F g:=by
 refine DX hS hc ?_ hp;generalize stp P g=g' at a ht d;unfold yldE at a;split at a
 .split at a
  .rename_i hg i;split at a
   .rename_i c;split at a
    .rename_i hy j;split at a
     .rename_i l;split at a
      .rename_i f;simp only[AQ2,AR3,AV7]at a;obtain⟨rfl,rfl,rfl⟩:=a;simp only[AL0,i,c,hy,j,Fm]at ht d;refine Az7 hS hg i c hy j l f.1 (SL _) fun b=>?_;cases b
       .exact d
       exact ht
      cases a
     cases a
    cases a
   cases a
  cases a
 cases a
theorem Dy (hS:G8 S P)(hc:pr){ys:List PV}{rest:List (List PV)}(ht:KG S P F (AL0 true rest (stp P g)))(a:KG S P F (AL0 false [] (stp P g)))(hp:pr=D0 (cnd P g):=by kernel_rfl)(b:yldE (stp P g)=some (ys,ys::rest):=by kernel_rfl):KG S P F g:=
 ⟨AB3 hS hc ht.out a.out hp b⟩
def Y4 {T:Type}(x:T)(o:Option (List T)):Option (List T):=o.map (x :: ·)
theorem Li {T:Type}{x:T}{o:Option (List T)}{L:List T}(h:Y4 x o=some L):∃L',L=x::L' /\ o=some L':=by simp only[Y4,AS2]at h;obtain⟨l,h1,a⟩:=h;exact⟨l,a.symm,h1⟩
theorem Gn (hS:G8 S P)(hc:pr){R A:Type}{body:(A->Option R)->A->Option R}{N:Nat}{a0:A}{r0:R}(h:S3 N body a0=some r0)(s:A->R->St){ids:List (Nat×Nat)}
 (f:∀(X:Type) (s' : X->St) (J:X->Prop) (m:X->Nat) (n:Nat) (b:A->Option R) (a:A) (r:R),
  (∀(g' : Cfg) (ids:List (Nat×Nat)) (pr:Prop) (a:A) (r:R),pr->b a=some r->(hp:pr=D0 (cnd P g'):=by kernel_rfl)->(d:stp P g' = .pop .normal (.lp X s' J m n::(stp P g).k) (stp P g').st:=by kernel_rfl)->(hle:KLe ids (stp P g').st (s a r):=by exact kl)->KG S P F g') ->
  body b a=some r->KG S P F (.code (UH (stp P g)) (.lp X s' J m n::(stp P g).k) (s a r))) (hp:pr=D0 (cnd P g):=by kernel_rfl) (hl:KM (stp P g)=true:=by kernel_rfl) (hle:KLe ids (stp P g).st (s a0 r0):=by exact kl):KG S P F g:=by
 refine⟨DX hS hc ?_ hp⟩;rw[ZP hl];refine As8 hS (X:=Nat×A×R) (fun x=>s x.2.1 x.2.2) (fun x=>S3 x.1 body x.2.1=some x.2.2) (fun x=>x.1) (N,a0,r0) ids hle.out h ?_;rintro⟨n,a,r⟩ hx;cases n with
 |zero=>cases hx
 |succ n=>exact (f _ _ _ _ _ (S3 n body) a r (fun g' ids pr a r hc c hp d hle=>⟨DX hS hc (by rw[d];exact Zb hS (n,a,r) ids hle.out c (Nat.lt_succ_self n)) hp⟩) hx).out
theorem HZ (hS:G8 S P)(hc:pr){R A B:Type}{body:(A->B->Option R)->A->B->Option R}{N:Nat}{a0:A}{b0:B}{r0:R}(h:W9 N body a0 b0=some r0)(s:A->B->R->St){ids:List (Nat×Nat)}
 (d:∀(X:Type) (s' : X->St) (J:X->Prop) (m:X->Nat) (n:Nat) (c:A->B->Option R) (a:A) (b:B) (r:R),
  (∀(g' : Cfg) (ids:List (Nat×Nat)) (pr:Prop) (a:A) (b:B) (r:R),pr->c a b=some r->(hp:pr=D0 (cnd P g'):=by kernel_rfl)->(o:stp P g' = .pop .normal (.lp X s' J m n::(stp P g).k) (stp P g').st:=by kernel_rfl)->(hle:KLe ids (stp P g').st (s a b r):=by exact kl)->KG S P F g') ->
  body c a b=some r->KG S P F (.code (UH (stp P g)) (.lp X s' J m n::(stp P g).k) (s a b r))) (hp:pr=D0 (cnd P g):=by kernel_rfl) (hl:KM (stp P g)=true:=by kernel_rfl) (hle:KLe ids (stp P g).st (s a0 b0 r0):=by exact kl):KG S P F g:=
 Gn hS hc h (fun x r=>s x.1 x.2 r) (fun X s' J m n c a r hb=>d X s' J m n (fun a b=>c (a,b)) a.1 a.2 r fun g' ids pr a b r h1 f i j l=>hb g' ids pr (a,b) r h1 f i j l) hp hl hle
theorem DY (hS:G8 S P){f:FuncId}{fn:Func}{first caps:List AV}{objs:List Obj}{L:List (List PV)}(i:P.funcs[f]? = some fn)
 (h:KG S P (Cz S P (objs++[Obj.yld L true]).length fn.results.toList fun r objs' ks=>∃b,objs'[objs.length]? = some (.yld [] b)/\ks[objs.length]? = some true/\∃a,r=.ret a) (.code (fn.body.getD .skip) [] { env:=argEnv (first ++ .yf objs.length::caps),regs:=objRegs (objs++[Obj.yld L true]) }))
 (hc:fn.body.isSome=true:=by kernel_rfl) (hn:Nat.ble (first ++ .yf objs.length::caps).length fn.ntmps=true:=by kernel_rfl) (j:Nat.blt (objs++[Obj.yld L true]).length 1000=true:=by kernel_rfl)
 (d:AT fn.ntmps (fn.body.getD .skip)=true:=by kernel_rfl) (g:(fn.name == "runtime.NumGoroutine")=false:=by kernel_rfl):Dh S f first caps objs L:=by
 obtain⟨code,c⟩:=AR8.1 hc;rw[c,AR2]at d h;exact JM hS i c (AX4 hn) (by simpa[AZ3]using j) rfl d g h.out
def Ph (P:Program)(ids:List Nat):Cfg->Option (FuncId×List AV×List AV×List Obj)
 |.code (.rangeFunc op _ _ _) _ st=>match Er st.env op with
  |some (f,first,caps)=>match P.funcs[f]?,J6 ids st.regs ids,CS ids first,CS ids caps with
   |some fn,some objs,some as,some bs=>if (fn.body.isSome && !(fn.name == "runtime.NumGoroutine")&&DS objs&&G0 ids&&(objs.length==ids.length)&&Nat.blt ids.length 1000) then some (f,as,bs,objs)else none
   |_,_,_,_=>none
  |none=>none
 |_=>none
def FL:Cfg->Array Tmp
 |.code (.rangeFunc _ ps _ _) _ _=>ps
 |_=>#[]
def Pj:Cfg->Code
 |.code (.rangeFunc _ _ a _) _ _=>a
 |_=>.skip
def Pk:Cfg->Code
 |.code (.rangeFunc _ _ _ b) _ _=>b
 |_=>.skip
def Pl (ids ts:List Nat)(g:Cfg):St:=⟨S5 ts (ts.map (get g.st.env)),M0 ids (ids.map fun _=>false) g.st.regs⟩
def rst (gh:Nat)(t:St):St:=⟨[],ins gh (.ghost (t.env.map (·.2))) t.regs⟩
def SM (gh:Nat)(ps:Array Tmp)(ys:List PV)(t:St):St:=⟨Lf ps.toList ys t.env,ins gh (.ghost (t.env.map (·.2))) t.regs⟩
def AL1:Cfg->Hf
 |.pop e _ _=>e
 |_=>.normal
def WB:Cfg->Bool
 |.pop .ret [] _=>true
 |.pop (.exit _) [] _=>true
 |_=>false
theorem Mt (regs:B5)(d:Nat)(x:Obj):A1 (ins d x regs) d=some x:=by
 induction regs with
 |nil=>simp[ins,A1]
 |cons p r ih=>
  obtain⟨i,b⟩:=p;simp only[ins];split
  .simp[A1]
  split
  .simp[A1]
  rename_i h1 a;simp only[A1,a,Lp,ih]
theorem Gp (gh:Nat)(t:St):A1 (rst gh t).regs gh=some (.ghost (t.env.map fun p=>p.2)):=by unfold rst;exact Mt _ _ _
def KN (ids:List Nat):Cfg->Option (FuncId×List AV×List AV×List Obj)
 |.code (.rangeFunc op _ _ _) _ st=>match Er st.env op with
  |some (f,first,caps)=>match J6 ids st.regs ids,CS ids first,CS ids caps with
   |some objs,some as,some bs=>if (DS objs&&G0 ids&&(objs.length==ids.length)&&Nat.blt ids.length 1000) then some (f,as,bs,objs)else none
   |_,_,_=>none
  |none=>none
 |_=>none
theorem DZ {ids:List Nat}{g:Cfg}{q:FuncId×List AV×List AV×List Obj}(h:Ph P ids g=some q):KN ids g=some q/\∃fn,P.funcs[q.1]? = some fn/\fn.body.isSome=true/\(fn.name == "runtime.NumGoroutine")=false:=by
 unfold Ph at h;split at h
 .split at h
  .rename_i a;split at h
   .rename_i fn objs' as' bs' h1 c d f;split at h
    .rename_i b;cases h;simp only[AQ7,AS7,beq_iff_eq]at b;obtain⟨⟨⟨⟨⟨e1,e2⟩,e3⟩,e4⟩,e5⟩,e6⟩:=b;refine⟨?_,fn,h1,e1,by simpa using e2⟩;simp only[KN,a,c,d,f,e3,e4,e5,e6,beq_self_eq_true,Be9,Lo]
    cases h
   cases h
  cases h
 cases h
theorem LJ (hS:G8 S P)(hc:pr){f:FuncId}{as bs:List AV}{objs:List Obj}{R T A:Type}{enc:T->List PV}{L:List T}{mb:(A->Option R)->T->A->Option R}{mk:A->Option R}{a0:A}{r:R}(o:∃fn,P.funcs[f]? = some fn/\fn.body.isSome=true/\(fn.name == "runtime.NumGoroutine")=false)
 (ids ts:List Nat) (gh:Nat) (s:A->St) {idl:List (Nat×Nat)}(h:O1 L mb mk a0=some r) (x:Dh S f as bs objs (L.map enc))
 (i:∀t:T,Ah (enc t)=some (FL (stp P g)).size) (hk:∀a,(s a).env.map (·.1)=ts) (hn:∀a,A1 (s a).regs gh=none) (m:∀a,(⟨S5 ts ((s a).env.map (·.2)),del gh (ins gh (.ghost ((s a).env.map (·.2))) (s a).regs)⟩:St)=s a)
 (c:∀(t:T) (next:St->Prop) (d:A->Option R) (a:A),
  (∀(g' : Cfg) (ids:List (Nat×Nat)) (pr:Prop) (a:A),pr->d a=some r->(hp:pr=D0 (cnd P g'):=by kernel_rfl)->(b:stp P g' = .pop .normal [] (stp P g').st:=by kernel_rfl)->(hle:KLe ids (stp P g').st (rst gh (s a)):=by exact kl)->KG S P (Fe S gh ts next (kp S P (stp P g).k F)) g') ->
  mb d t a=some r->KG S P (BC S P (Pk (stp P g)) gh ts next (kp S P (stp P g).k F)) (.code (Pj (stp P g)) [] (SM gh (FL (stp P g)) (enc t) (s a))))
 (j:∀a,mk a=some r->KG S P F (.pop .normal (stp P g).k (s a)))
 (hp:pr=D0 (cnd P g):=by kernel_rfl) (b:KN ids (stp P g)=some (f,as,bs,objs):=by kernel_rfl) (q:Nat.blt gh 1000=true:=by kernel_rfl) (n:A1 (stp P g).st.regs gh=none:=by kernel_rfl) (u:G0 ts=true:=by kernel_rfl)
 (hle:KLe idl (Pl ids ts (stp P g)) (s a0):=by exact kl):KG S P F g:=by
 refine⟨DX hS hc ?_ hp⟩;generalize stp P g=g1 at i c j b n hle;unfold KN at b;split at b
 .rename_i op ps asg body K st;split at b
  .rename_i f' first caps v
   split at b
   .rename_i objs' as' bs' y z h4;split at b
    .rename_i w;simp only[AQ2,AR3]at b;obtain⟨rfl,rfl,rfl,rfl⟩:=b;simp only[AQ7,AS7,beq_iff_eq]at w;obtain⟨⟨⟨e3,e4⟩,e5⟩,e6⟩:=w;refine AA0 hS ids ts gh s idl h x v o y e3 e4 z h4 e5 q n e6 u i hle.out hk hn (fun t next d a hb hm=>?_) (fun a hm=>(j a hm).out);refine (c t next d a (fun g' ids' pr a hc l hp b hle=>⟨DX hS hc ?_ hp⟩) hm).out;rw[b];have hl:((s a).env.map (·.2)).length=ts.length:=by rw[<- hk a];simp
     refine hb _ (rst gh (s a)) ((s a).env.map fun p=>p.2) ids' a hle.out (Gp gh (s a)) hl ?_ (m a) l
     have:=congrArg St.regs (m a)
     simp only at this;show A1 (del gh (ins gh _ _)) gh=none;rw[this];exact hn a
    cases b
   cases b
  cases b
 cases b
theorem JO (hS:G8 S P)(hc:pr){f:FuncId}{as bs:List AV}{objs:List Obj}{R T A:Type}{enc:T->List PV}{L:List T}{mb:(A->Option R)->T->A->Option R}{mk:A->Option R}{a0:A}{r:R}
 (ids ts:List Nat) (gh:Nat) (s:A->St) {idl:List (Nat×Nat)}(h:O1 L mb mk a0=some r) (q:Dh S f as bs objs (L.map enc))
 (d:∀t:T,Ah (enc t)=some (FL (stp P g)).size) (hk:∀a,(s a).env.map (·.1)=ts) (hn:∀a,A1 (s a).regs gh=none) (j:∀a,(⟨S5 ts ((s a).env.map (·.2)),del gh (ins gh (.ghost ((s a).env.map (·.2))) (s a).regs)⟩:St)=s a)
 (b:∀(t:T) (next:St->Prop) (c:A->Option R) (a:A),
  (∀(g' : Cfg) (ids:List (Nat×Nat)) (pr:Prop) (a:A),pr->c a=some r->(hp:pr=D0 (cnd P g'):=by kernel_rfl)->(l:stp P g' = .pop .normal [] (stp P g').st:=by kernel_rfl)->(hle:KLe ids (stp P g').st (rst gh (s a)):=by exact kl)->KG S P (Fe S gh ts next (kp S P (stp P g).k F)) g') ->
  mb c t a=some r->KG S P (BC S P (Pk (stp P g)) gh ts next (kp S P (stp P g).k F)) (.code (Pj (stp P g)) [] (SM gh (FL (stp P g)) (enc t) (s a))))
 (i:∀a,mk a=some r->KG S P F (.pop .normal (stp P g).k (s a)))
 (hp:pr=D0 (cnd P g):=by kernel_rfl) (l:Ph P ids (stp P g)=some (f,as,bs,objs):=by kernel_rfl) (m:Nat.blt gh 1000=true:=by kernel_rfl) (n:A1 (stp P g).st.regs gh=none:=by kernel_rfl) (o:G0 ts=true:=by kernel_rfl)
 (hle:KLe idl (Pl ids ts (stp P g)) (s a0):=by exact kl):KG S P F g:=
 LJ hS hc (DZ l).2 ids ts gh s h q d hk hn j b i hp (DZ l).1 m n o hle
theorem ZT (hS:G8 S P)(hc:pr){f:FuncId}{as bs:List AV}{objs:List Obj}{R T A:Type}{enc:T->List PV}{L:List T}{mb:(A->Option R)->T->A->Option R}{mk:A->Option R}{a0:A}{r0:R}(o:∃fn,P.funcs[f]? = some fn/\fn.body.isSome=true/\(fn.name == "runtime.NumGoroutine")=false)
 (ids ts:List Nat) (gh:Nat) (s:A->R->St) {idl:List (Nat×Nat)}(h:O1 L mb mk a0=some r0) (x:Dh S f as bs objs (L.map enc))
 (i:∀t:T,Ah (enc t)=some (FL (stp P g)).size) (hk:∀a r,(s a r).env.map (·.1)=ts) (hn:∀a r,A1 (s a r).regs gh=none) (m:∀a r,(⟨S5 ts ((s a r).env.map (·.2)),del gh (ins gh (.ghost ((s a r).env.map (·.2))) (s a r).regs)⟩:St)=s a r)
 (c:∀(t:T) (next:St->Prop) (d:A->Option R) (a:A) (r:R),
  (∀(g' : Cfg) (ids:List (Nat×Nat)) (pr:Prop) (a:A) (r:R),pr->d a=some r->(hp:pr=D0 (cnd P g'):=by kernel_rfl)->(b:stp P g' = .pop .normal [] (stp P g').st:=by kernel_rfl)->(hle:KLe ids (stp P g').st (rst gh (s a r)):=by exact kl)->KG S P (Fe S gh ts next (kp S P (stp P g).k F)) g') ->
  mb d t a=some r->KG S P (BC S P (Pk (stp P g)) gh ts next (kp S P (stp P g).k F)) (.code (Pj (stp P g)) [] (SM gh (FL (stp P g)) (enc t) (s a r))))
 (j:∀a r,mk a=some r->KG S P F (.pop .normal (stp P g).k (s a r)))
 (hp:pr=D0 (cnd P g):=by kernel_rfl) (b:KN ids (stp P g)=some (f,as,bs,objs):=by kernel_rfl) (q:Nat.blt gh 1000=true:=by kernel_rfl) (n:A1 (stp P g).st.regs gh=none:=by kernel_rfl) (u:G0 ts=true:=by kernel_rfl)
 (hle:KLe idl (Pl ids ts (stp P g)) (s a0 r0):=by exact kl):KG S P F g:=by
 refine⟨DX hS hc ?_ hp⟩;generalize stp P g=g1 at i c j b n hle;unfold KN at b;split at b
 .rename_i op ps asg body K st;split at b
  .rename_i f' first caps v
   split at b
   .rename_i objs' as' bs' y z h4;split at b
    .rename_i w;simp only[AQ2,AR3]at b;obtain⟨rfl,rfl,rfl,rfl⟩:=b;simp only[AQ7,AS7,beq_iff_eq]at w;obtain⟨⟨⟨e3,e4⟩,e5⟩,e6⟩:=w;refine Al1 hS ids ts gh s idl h x v o y e3 e4 z h4 e5 q n e6 u i hle.out hk hn (fun t next d a r hb hm=>?_) (fun a r hm=>(j a r hm).out);refine (c t next d a r (fun g' ids' pr a r hc l hp b hle=>⟨DX hS hc ?_ hp⟩) hm).out;rw[b];have hl:((s a r).env.map (·.2)).length=ts.length:=by rw[<- hk a r];simp
     refine hb _ (rst gh (s a r)) ((s a r).env.map fun p=>p.2) ids' a r hle.out (Gp gh (s a r)) hl ?_ (m a r) l
     have:=congrArg St.regs (m a r)
     simp only at this;show A1 (del gh (ins gh _ _)) gh=none;rw[this];exact hn a r
    cases b
   cases b
  cases b
 cases b
theorem Am2 (hS:G8 S P)(hc:pr){f:FuncId}{as bs:List AV}{objs:List Obj}{R T A:Type}{enc:T->List PV}{L:List T}{mb:(A->Option R)->T->A->Option R}{mk:A->Option R}{a0:A}{r0:R}
 (ids ts:List Nat) (gh:Nat) (s:A->R->St) {idl:List (Nat×Nat)}(h:O1 L mb mk a0=some r0) (q:Dh S f as bs objs (L.map enc))
 (d:∀t:T,Ah (enc t)=some (FL (stp P g)).size) (hk:∀a r,(s a r).env.map (·.1)=ts) (hn:∀a r,A1 (s a r).regs gh=none) (j:∀a r,(⟨S5 ts ((s a r).env.map (·.2)),del gh (ins gh (.ghost ((s a r).env.map (·.2))) (s a r).regs)⟩:St)=s a r)
 (b:∀(t:T) (next:St->Prop) (c:A->Option R) (a:A) (r:R),
  (∀(g' : Cfg) (ids:List (Nat×Nat)) (pr:Prop) (a:A) (r:R),pr->c a=some r->(hp:pr=D0 (cnd P g'):=by kernel_rfl)->(l:stp P g' = .pop .normal [] (stp P g').st:=by kernel_rfl)->(hle:KLe ids (stp P g').st (rst gh (s a r)):=by exact kl)->KG S P (Fe S gh ts next (kp S P (stp P g).k F)) g') ->
  mb c t a=some r->KG S P (BC S P (Pk (stp P g)) gh ts next (kp S P (stp P g).k F)) (.code (Pj (stp P g)) [] (SM gh (FL (stp P g)) (enc t) (s a r))))
 (i:∀a r,mk a=some r->KG S P F (.pop .normal (stp P g).k (s a r)))
 (hp:pr=D0 (cnd P g):=by kernel_rfl) (l:Ph P ids (stp P g)=some (f,as,bs,objs):=by kernel_rfl) (m:Nat.blt gh 1000=true:=by kernel_rfl) (n:A1 (stp P g).st.regs gh=none:=by kernel_rfl) (o:G0 ts=true:=by kernel_rfl)
 (hle:KLe idl (Pl ids ts (stp P g)) (s a0 r0):=by exact kl):KG S P F g:=
 ZT hS hc (DZ l).2 ids ts gh s h q d hk hn j b i hp (DZ l).1 m n o hle
def AP6 (t:Nat)(a:AV):Cfg->Cfg
 |.ops all rest K st=>mkO (ins t a st.env) st.regs fun env regs=>.ops all rest K ⟨env,regs⟩
 |g=>g
theorem Am3 (hS:G8 S P)(hc:pr)(t:Nat){k n:Nat}{f:Nat->List PV}(b:n=0->KG S P F (AP6 t (.p (.v (.slice none 0 0))) (stp P g)))(h1:KG S P F (AP6 t (.p (.sl true k n f)) (stp P g)))
 (hp:pr=D0 (cnd P g):=by kernel_rfl) (a:Gl (stp P g)=true:=by kernel_rfl) (hg:get (stp P g).st.env t=.p (.sl false k n f):=by kernel_rfl):KG S P F g:=by
 refine⟨DX hS hc ?_ hp⟩;generalize stp P g=g1 at b h1 a hg;unfold Gl at a;split at a
 .refine AI0 hS t hg (fun h=>?_) ?_
  .have:=(b h).out
   simpa only[AP6,EK]using this
  have:=h1.out
  simpa only[AP6,EK]using this
 cases a
def frzC (j:Nat)(ps:List PV):Cfg->Cfg
 |.code c K st=>mkO (Ag1 j ps st.env) (ins j .dead st.regs) fun env regs=>.code c K ⟨env,regs⟩
 |g=>g
theorem AB4 (hS:G8 S P)(hc:pr)(j:Nat)(ps:List PV)(hk:KG S P F (frzC j ps (stp P g)))(hp:pr=D0 (cnd P g):=by kernel_rfl)(c:Fo (stp P g)=true:=by kernel_rfl)(b:P.follows .mixedOrders=true:=by kernel_rfl)
 (a:KA (HW (stp P g)).all=true:=by kernel_rfl) (f:A1 (stp P g).st.regs j=some (.cells (ps.map .p)):=by kernel_rfl):KG S P F g:=by
 refine⟨DX hS hc ?_ hp⟩;generalize stp P g=g1 at hk c a f;unfold Fo at c;split at c
 .rename_i id ops K st;have hk:=hk.out;simp only[frzC,EK]at hk;show awp S P (.region id ops true) (kp S P K F) st;simp only[awp,Lo];have d : Ag8 S P ops.toList (kp S P K F) ⟨Ag1 j ps st.env,ins j .dead st.regs⟩:=by
   have:awp S P (.region id ops true) (kp S P K F) ⟨Ag1 j ps st.env,ins j .dead st.regs⟩:=hk
   simpa only[awp,Lo]using this
  exact Ak7 hS b a (hS.frz st j ps _ f d)
 cases c
def clsN (js:List Nat):Nat->List Oper->List Cls
 |_,[]=>[]
 |i,o::r=>(if js.contains i then .n else if js.contains (i+1000)then .w else AP4 o.op)::clsN js (i+1) r
def QD (js:List Nat):Cfg->SC
 |.code (.region _ ops true) _ st=>⟨ops.toList,clsN js 0 ops.toList,ops.toList,st.env,st.regs,[]⟩
 |_=>⟨[],[],[],[],[],[]⟩
theorem J0 (hS:G8 S P)(hc:pr)(js:List Nat)(h:DG S P (QD js (stp P g)) fun env regs=>KG S P F (.pop .normal (stp P g).k ⟨env,regs⟩))(hp:pr=D0 (cnd P g):=by kernel_rfl)(c:Fo (stp P g)=true:=by kernel_rfl)(a:P.follows .mixedOrders=true:=by kernel_rfl)
 (b:Mn (QD js (stp P g)).all (QD js (stp P g)).cls=true:=by kernel_rfl):KG S P F g:=by
 have e:(fun env regs=>KG S P F (.pop .normal (stp P g).k ⟨env,regs⟩))=fun env regs=>G S P F (.pop .normal (stp P g).k ⟨env,regs⟩):=by funext env regs;exact propext ⟨fun h=>h.out,fun h=>⟨h⟩⟩
 rw[e]at h;refine⟨DX hS hc ?_ hp⟩;have h:=h.out;generalize stp P g=g' at c b h;unfold Fo at c;split at c
 .exact ZG hS _ a b h
 cases c
def clsL (ls:List (Nat×Cls)):Nat->List Oper->List Cls
 |_,[]=>[]
 |i,o::r=>(match ls.find? (fun q=>q.1==i)with|some q=>q.2|none=>AP4 o.op)::clsL ls (i+1) r
def QE (ls:List (Nat×Cls)):Cfg->SC
 |.code (.region _ ops true) _ st=>⟨ops.toList,clsL ls 0 ops.toList,ops.toList,st.env,st.regs,[]⟩
 |_=>⟨[],[],[],[],[],[]⟩
theorem U0 (hS:G8 S P)(hc:pr)(ls:List (Nat×Cls))(h:DG S P (QE ls (stp P g)) fun env regs=>KG S P F (.pop .normal (stp P g).k ⟨env,regs⟩))(hp:pr=D0 (cnd P g):=by kernel_rfl)(c:Fo (stp P g)=true:=by kernel_rfl)(a:P.follows .mixedOrders=true:=by kernel_rfl)
 (b:Mn (QE ls (stp P g)).all (QE ls (stp P g)).cls=true:=by kernel_rfl):KG S P F g:=by
 have e:(fun env regs=>KG S P F (.pop .normal (stp P g).k ⟨env,regs⟩))=fun env regs=>G S P F (.pop .normal (stp P g).k ⟨env,regs⟩):=by funext env regs;exact propext ⟨fun h=>h.out,fun h=>⟨h⟩⟩
 rw[e]at h;refine⟨DX hS hc ?_ hp⟩;have h:=h.out;generalize stp P g=g' at c b h;unfold Fo at c;split at c
 .exact ZG hS _ a b h
 cases c
theorem Lj (hS:G8 S P)(hc:pr){body:Code}{gh:Nat}{ts:List Nat}{next:St->Prop}{Q:I8}(h:KG S P (Fe S gh ts next Q) (.code body [] (stp P g).st))(hp:pr=D0 (cnd P g):=by kernel_rfl)(a:stp P g=.pop .normal [] (stp P g).st:=by kernel_rfl):KG S P (BC S P body gh ts next Q) g:=by refine⟨DX hS hc ?_ hp⟩;rw[a];exact G_asg hS h.out
theorem QF (hS:G8 S P)(hc:pr){K:List It}{gh:Nat}{ts:List Nat}{next:St->Prop}(t:St){ids:List (Nat×Nat)}(hk:KG S P F (.pop (AL1 (stp P g)) K t))(hp:pr=D0 (cnd P g):=by kernel_rfl)(a:WB (stp P g)=true:=by kernel_rfl)
 (hle:KLe ids (stp P g).st (rst gh t):=by exact kl) (h1:t.env.map (·.1)=ts:=by kernel_rfl) (d:A1 t.regs gh=none:=by kernel_rfl) (b:(⟨S5 ts (t.env.map (·.2)),del gh (ins gh (.ghost (t.env.map (·.2))) t.regs)⟩:St)=t:=by kernel_rfl):KG S P (Fe S gh ts next (kp S P K F)) g:=by
 refine⟨DX hS hc ?_ hp⟩;generalize stp P g=g1 at hk a hle;have hl:(t.env.map (·.2)).length=ts.length:=by rw[<- h1];simp
 have c:A1 (del gh (ins gh (.ghost (t.env.map (·.2))) t.regs)) gh=none:=by
  have:=congrArg St.regs b
  simp only at this;rw[this];exact d
 unfold WB at a;split at a
 .exact Wo hS Mz (rst gh t) ids hle.out (Gp gh t) hl c (by rw[show (⟨S5 ts (t.env.map (·.2)),del gh (rst gh t).regs⟩:St)=t from b];exact hk.out)
 .exact Wo hS Mz (rst gh t) ids hle.out (Gp gh t) hl c (by rw[show (⟨S5 ts (t.env.map (·.2)),del gh (rst gh t).regs⟩:St)=t from b];exact hk.out)
 cases a
end
end Go.AM
namespace Go.AM
section
variable {S:W8}{P:Program}{F:I8}{g:Cfg}{pr:Prop}
def AL2 (j:Nat)(ps:List PV):Cfg->Cfg
 |.ops all rest K st=>mkO (Ag1 j ps st.env) (ins j .dead st.regs) fun env regs=>.ops all rest K ⟨env,regs⟩
 |g=>g
def Au1 (ids:List Nat):Cfg->Option (FuncId×List AV×List Obj)
 |.ops all (o::_) _ st=>match Bs all st.env o,o.op with
  |some true,.call c=>match c.callee with
   |.value f=>match NG st.env f (c.args.toList.map (aev st.env))with
    |some (fn,as')=>match CS ids as',J6 ids st.regs ids with
     |some a,some ob=>if G0 ids&&DS ob then some (fn,a,ob)else none
     |_,_=>none
    |none=>none
   |_=>none
  |_,_=>none
 |_=>none
def Au2 (ids:List Nat)(ks:List Bool)(n:Nat):Cfg->Bool
 |.ops _ (o::_) _ st=>Y1 st.regs ids ks (o.dst.getD 0) n
 |_=>false
def Au3 (ids:List Nat)(ks:List Bool)(r:AV)(objs' : List Obj):Cfg->Cfg
 |.ops all (o::rest) K st=>ZO o.dst (unA (G4 (o.dst.getD 0) ids ks objs'.length) r) st.env
  (back (G4 (o.dst.getD 0) ids ks objs'.length) (G4 (o.dst.getD 0) ids ks objs'.length) objs' (M0 ids ks st.regs)) fun st=>.ops all rest K st
 |g=>g
theorem QG (hS:G8 S P)(ids:List Nat)(hc:pr){fn:FuncId}{args:List AV}{objs objs' : List Obj}{r:AV}{ks:List Bool}(f:FunO S fn args objs r objs' ks)(hk:KG S P F (Au3 ids ks r objs' (stp P g)))
 (hp:pr=D0 (cnd P g):=by kernel_rfl) (a:Au1 ids (stp P g)=some (fn,args,objs):=by kernel_rfl) (hn:Au2 ids ks objs'.length (stp P g)=true:=by kernel_rfl):KG S P F g:=by
 refine⟨DX hS hc ?_ hp⟩;have hk:=hk.out;generalize stp P g=g' at a hn hk;unfold Au1 at a;split at a
 .split at a
  .rename_i hg i;split at a
   .rename_i c;split at a
    .rename_i hw;split at a
     .rename_i j d;split at a
      .rename_i b;cases a;simp only[AQ7]at b;simp only[Au3,Au2,Fm]at hk hn;exact Ax5 hS ids hg i c hw j d f b.1 b.2 hn hk
      cases a
     cases a
    cases a
   cases a
  cases a
 cases a
end
section
variable {S:W8}{P:Program}{F:I8}{g:Cfg}{pr:Prop}
theorem Bo (hS:G8 S P)(hc:pr)(d:Nat)(st:St){ids:List (Nat×Nat)}(hk:KG S P F (opsS st (Gk P d g)))(hp:pr=D0 (AG3 P d g):=by kernel_rfl)(a:Gl (Gk P d g)=true:=by kernel_rfl)(hle:KLe ids (Gk P d g).st st:=by exact kl):KG S P F g:=by
 refine⟨(Gd (u:=some d) (F:=F) hS 400 [] g (by subst hp;exact hc)).2 ?_⟩;have hk:=hk.out;have hle:=hle.out;show G S P F (Gk P d g);generalize Gk P d g=g' at a hle hk;unfold Gl at a;split at a
 .exact ZM hS st ids hle hk
 cases a
end
end Go.AM
namespace Go.AM
section
variable {S:W8}{P:Program}{F:I8}{g:Cfg}{pr:Prop}
def AL3 (S:W8)(P:Program)(pv:PV)(m:String)(as:List AV)(r:AV):Prop:=∃t y fn,pv=.iface t y/\RQ P t m=some fn/\Ah3 S fn (.p (nP y)::as) r
def invE:Cfg->Option (PV×String×List AV)
 |.ops all (o::_) _ st=>match Bs all st.env o,o.op with
  |some true,.call c=>match c.callee with
   |.invoke rv m=>match Hg st.regs (c.args.toList.map (aev st.env)),aev st.env rv with
    |some (as,_),.p pv=>match CS [] as with
     |some as'=>some (pv,m,as')
     |none=>none
    |_,_=>none
   |_=>none
  |_,_=>none
 |_=>none
def invK (r:AV):Cfg->Cfg
 |.ops all (o::rest) K st=>match o.op with
  |.call c=>match Hg st.regs (c.args.toList.map (aev st.env))with
   |some (_,regs)=>ZO o.dst (unA [] r) st.env regs fun st=>.ops all rest K st
   |none=>.ops all (o::rest) K st
  |_=>.ops all (o::rest) K st
 |g=>g
theorem LK (hS:G8 S P)(hc:pr){pv:PV}{m:String}{as:List AV}{r:AV}(b:AL3 S P pv m as r)(hk:KG S P F (invK r (stp P g)))
 (hp:pr=D0 (cnd P g):=by kernel_rfl) (a:invE (stp P g)=some (pv,m,as):=by kernel_rfl):KG S P F g:=by
 obtain⟨t,y,fn,rfl,hm,b⟩:=b;refine⟨DX hS hc ?_ hp⟩;have hk:=hk.out;generalize stp P g=g' at a hk;unfold invE at a;split at a
 .split at a
  .rename_i hg f;split at a
   .rename_i c;split at a
    .rename_i ha d;split at a
     .rename_i i;cases a;simp only[invK,f,ha,Fm]at hk;refine Ak5 hS hg f c ha d hm (args:=.p (nP y)::_) ?_ b hk;simp only[CS,PT,i]
     cases a
    cases a
   cases a
  cases a
 cases a
theorem W7 (hS:G8 S P)(hc:pr)(d j:Nat)(ps:List PV)(hk:KG S P F (AL2 j ps (Gk P d g)))(hp:pr=D0 (AG3 P d g):=by kernel_rfl)(a:Gl (Gk P d g)=true:=by kernel_rfl)
 (b:A1 (Gk P d g).st.regs j=some (.cells (ps.map .p)):=by kernel_rfl):KG S P F g:=by
 refine⟨(Gd (u:=some d) (F:=F) hS 400 [] g (by subst hp;exact hc)).2 ?_⟩;have hk:=hk.out;show G S P F (Gk P d g);generalize Gk P d g=g' at a b hk;unfold Gl at a;split at a
 .simp only[AL2,EK]at hk;exact RY hS (hS.frz _ j ps _ b hk)
 cases a
def Am4 (j j' : Nat):AV->AV
 |.vecp i m=>if i=j then .vec j' else .vecp i m
 |a=>a
def Am5 (j j' : Nat):List AV->List AV
 |[]=>[]
 |a::r=>Am4 j j' a::Am5 j j' r
def Am6 (j j' : Nat):Env->Env
 |[]=>[]
 |(t,a)::r=>(t,Am4 j j' a)::Am6 j j' r
def XX (j j' : Nat):B5->B5
 |[]=>[]
 |(t,.cells cs)::r=>(t,.cells (Am5 j j' cs))::XX j j' r
 |(t,o)::r=>(t,o)::XX j j' r
def msA (j:Nat)(r:List Nat):AV->List Nat
 |.vecp i m=>if i=j then m::r else r
 |_=>r
def msL (j:Nat):List AV->List Nat
 |[]=>[]
 |a::r=>msA j (msL j r) a
def msE (j:Nat):Env->List Nat
 |[]=>[]
 |(_,a)::r=>msA j (msE j r) a
def msR (j:Nat):B5->List Nat
 |[]=>[]
 |(_,.cells cs)::r=>msL j cs++msR j r
 |_::r=>msR j r
theorem ZU {j:Nat}{r:List Nat}{a:AV}:∀x∈r,x∈msA j r a:=by
 intro x hx;unfold msA;split
 .split
  .exact AT2 _ hx
  exact hx
 exact hx
theorem WC {j n j' : Nat}{r:List Nat}{a:AV}(h:∀m∈msA j r a,m=n):Ah1 j n j' a=Am4 j j' a:=by
 cases a with
 |vecp i m=>
  simp only[Ah1,Am4];by_cases e:i=j
  .have:m=n:=h m (by simp[msA,e])
   simp[e,this]
  simp[e]
 |_=>rfl
theorem WD {j n j' : Nat}:∀{l:List AV},(∀m∈msL j l,m=n)->As5 j n j' l=Am5 j j' l
 |[],_=>rfl
 |a::r,h=>by simp only[As5,Am5,WC (r:=msL j r) h,WD fun m hm=>h m (ZU m hm)]
theorem WE {j n j' : Nat}:∀{l:Env},(∀m∈msE j l,m=n)->As4 j n j' l=Am6 j j' l
 |[],_=>rfl
 |(t,a)::r,h=>by simp only[As4,Am6,WC (r:=msE j r) h,WE fun m hm=>h m (ZU m hm)]
theorem QH {j n j' : Nat}:∀{l:B5},(∀m∈msR j l,m=n)->VQ j n j' l=XX j j' l
 |[],_=>rfl
 |(t,o)::r,h=>by
  cases o with
  |cells cs=>simp only[VQ,XX,AF9,WD fun m hm=>h m (AT3 _ hm),QH fun m hm=>h m (AS0 _ hm)]
  |_=>simp only[VQ,XX,AF9,QH (l:=r) h]
def truC (j j' : Nat)(e:TypeId)(k n:Nat)(f:Nat->List PV):Cfg->Cfg
 |.ops all rest K st=>mkO (Am6 j j' st.env) (ins j' (.vec e k n f false) (ins j .dead (XX j j' st.regs))) fun env regs=>.ops all rest K ⟨env,regs⟩
 |g=>g
theorem AL4 (hS:G8 S P)(hc:pr)(d j n j' : Nat){e:TypeId}{k N:Nat}{f:Nat->List PV}(hn:n<=N)(hk:KG S P F (truC j j' e k n f (Gk P d g)))(hp:pr=D0 (AG3 P d g):=by kernel_rfl)(b:Gl (Gk P d g)=true:=by kernel_rfl)
 (c:A1 (Gk P d g).st.regs j=some (.vec e k N f false):=by kernel_rfl) (i:A1 (Gk P d g).st.regs j' = none:=by kernel_rfl) (h1:Nat.ble 1000 j' = true:=by kernel_rfl)
 (hm:(msE j (Gk P d g).st.env++msR j (Gk P d g).st.regs)=List.replicate (msE j (Gk P d g).st.env++msR j (Gk P d g).st.regs).length n:=by kernel_rfl):KG S P F g:=by
 refine⟨(Gd (u:=some d) (F:=F) hS 400 [] g (by subst hp;exact hc)).2 ?_⟩;have hk:=hk.out;show G S P F (Gk P d g);generalize Gk P d g=g' at b c i hk hm;unfold Gl at b;split at b
 .rename_i st;have a:∀m∈msE j st.env++msR j st.regs,m=n:=fun m h=>by rw[show msE j st.env++msR j st.regs=_ from hm]at h;exact (List.mem_replicate.1 h).2
  simp only[truC,EK]at hk;refine RY hS (hS.trunc _ j j' n N k e f _ c hn i (AX4 h1) ?_);rw[WE fun m h=>a m (AT3 _ h),QH fun m h=>a m (AS0 _ h)];exact hk
 cases b
end
abbrev cA {α : Type}(n:Nat)(c : α -> PV)(f:Nat -> α):List PV:=CR n (fun i=>c (f i))
theorem F9 (n:Nat)(f:Nat->PV):(CR n f).length=n:=by simp[CR]
theorem E3 (n:Nat)(f:Nat->PV):∀i,i<n->[(CR n f).getD i default]=[f i]:=by intro i a;simp[CR,AQ1,a]
theorem Ci {n:Nat}{z:PV}{ps:List PV}(h:ps=List.replicate n z):∀i,i<n->[ps.getD i default]=[z]:=by intro i a;subst h;simp[AQ1,a]
theorem XY {n:Nat}{f g:Nat->PV}(h:∀i,i<n->[f i]=[g i]):CR n f=CR n g:=by unfold CR;exact AS5 fun i a=>by have:=h i (AU9.1 a);injection this
abbrev Hw {α : Type}(f:Nat -> α)(k:Nat)(x : α):Nat -> α:=fun i=>if i=k then x else f i
theorem Ag4 {α : Type}{c : α -> PV}{n k:Nat}{v:Nat -> α}{f:Nat->PV}{e:PV}{x : α}(h:∀i,i<n->[f i]=[c (v i)])(hx:e=c x):∀i,i<n->[if i=k then e else f i]=[c (if i=k then x else v i)]:=by
 intro i a;by_cases h1:i=k
 .rw[Ll h1,Ll h1,hx]
 rw[Lm h1,Lm h1];exact h i a
theorem app1H {α : Type}{c : α -> List PV}{n:Nat}{v:Sl α}{f g:Nat->List PV}{z : α}(h:∀i,i<n->f i=c (v.g i))(hn:n=v.n):∀i,i<n+1->i≠v.n->Cb n f g i=c ((v.push z).g i):=by
 subst hn;intro i b a;have hl:i<v.n:=by omega
 show (if i<v.n then f i else g (i-v.n))=c (if i<v.n then v.g i else z);rw[Ll hl,Ll hl];exact h i hl
theorem setH {α : Type}{c : α -> List PV}{n k:Nat}{v:Sl α}{f e:Nat->List PV}{x : α}(h:∀i,i<n->i≠k->f i=c (v.g i))(hx:k<n->e k=c x):∀i,i<n->(fun l=>if l=k then e l else f l) i=c ((v.upd k x).g i):=by
 intro i a;show (if i=k then e i else f i)=c (if i=k then x else v.g i);split
 .subst_vars;exact hx a
 exact h i a ‹_›
end Go.AM
namespace Go.AM
section
variable {S:W8}{P:Program}{F:I8}{g:Cfg}{R X:Type}{A B:Option R}{r:R}{b:Bool}
theorem kI (hS:G8 S P)(h:(if b then A else B)=some r)(ht:A=some r->KG S P F (AA1 (stp P g)))(a:B=some r->KG S P F (AA2 (stp P g)))
 (hp:True=D0 (cnd P g):=by kernel_rfl) (hb:Al2 (stp P g)=some b:=by kernel_rfl):KG S P F g:=
 E7 hS Mz (fun c=>ht (itT c h)) (fun c=>a (itF c h)) hp hb
theorem kG (hS:G8 S P)(h:(if b then A else B)=some r)(ht:A=some r->KG S P F (Mp true (stp P g)))(a:B=some r->KG S P F (Mp false (stp P g)))
 (hp:True=D0 (cnd P g):=by kernel_rfl) (hb:Wr (stp P g)=some b:=by kernel_rfl):KG S P F g:=
 QA hS Mz (fun c=>ht (itT c h)) (fun c=>a (itF c h)) hp hb
theorem kR (hS:G8 S P){n:Nat}{rs:List ResultVar}{Q:Lz->List Obj->List Bool->Prop}{a:AV}{objs:List Obj}(b:Q (.ret a) objs (FI n []):=by exact⟨rfl,rfl,rfl⟩)
 (hp:True=D0 (cnd P g):=by kernel_rfl) (c:(AA5 (stp P g)).bind (fun st=>UI P st rs [])=some (a,objs):=by kernel_rfl):KG S P (Cz S P n rs Q) g:=
 ZS hS Mz [] b hp c
theorem kC (hS:G8 S P){x:Option X}{f:X->Option R}(h:x.bind f=some r){fn:FuncId}{args:List AV}{objs:List Obj}{objs' : X->List Obj}{rr:X->AV}{ks:List Bool}
 (a:∀{y},x=some y->FunO S fn args objs (rr y) (objs' y) ks) (hk:∀y,f y=some r->KG S P F (Al3 [] ks (rr y) (objs' y) (stp P g)))
 (hp:True=D0 (cnd P g):=by kernel_rfl) (b:XU [] (stp P g)=some (fn,args,objs):=by kernel_rfl) (hn:∀y,XV [] ks (objs' y).length (stp P g)=true:=by intro y;kernel_rfl):KG S P F g:=by
 obtain⟨y,e,h⟩:=D1 h;exact F0 hS [] Mz (a e) (hk y h) hp b (hn y)
end
end Go.AM
namespace Go.AM
inductive BT where
 |l (b:Bool)
 |n (b:Bool) (t f:BT)
def BT.ev:BT->Bool
 |.l b=>b
 |.n b t f=>if b then t.ev else f.ev
inductive BE where
 |a (b:Bool)
 |n (x y:BE)
 |o (x y:BE)
def BE.den:BE->Bool
 |.a b=>b
 |.n x y=>x.den&&y.den
 |.o x y=>x.den||y.den
def BE.tr:BE->BT->BT->BT
 |.a b,t,f=>.n b t f
 |.n x y,t,f=>x.tr (y.tr t f) f
 |.o x y,t,f=>x.tr t (y.tr t f)
def BE.top:BE->BT
 |.a b=>.l b
 |.n x y=>x.tr y.top (.l false)
 |.o x y=>x.tr (.l true) y.top
theorem BE.tr_ev:∀(e:BE) (t f:BT),(e.tr t f).ev=if e.den then t.ev else f.ev
 |.a b,t,f=>rfl
 |.n x y,t,f=>by simp only[tr,den,x.tr_ev,y.tr_ev];by_cases h:x.den=true<;>simp[h]
 |.o x y,t,f=>by simp only[tr,den,x.tr_ev,y.tr_ev];by_cases h:x.den=true<;>simp[h]
theorem BE.top_ev:∀e:BE,e.top.ev=e.den
 |.a b=>rfl
 |.n x y=>by simp only[top,den,x.tr_ev,y.top_ev,BT.ev];by_cases h:x.den=true<;>simp[h]
 |.o x y=>by simp only[top,den,x.tr_ev,y.top_ev,BT.ev];by_cases h:x.den=true<;>simp[h]
def keeps:Op->Bool
 |.move _ | .assign _ | .pick .. | .load .. | .nilCheck _ | .binOp .. | .unOp .. | .convert .. | .fieldAddr .. | .field .. | .indexAddr .. | .index .. | .extract ..=>true
 |.call { callee:=.builtin .len,.. } | .call { callee:=.builtin .min,.. } | .call { callee:=.builtin .max,.. }=>true
 |_=>false
theorem XZ {P:Program}{env:Env}{regs:B5}{d:Nat}{o:Op}{out:Out}(hk:keeps o=true)(h:aop P env regs d o=some out):out.regs=regs:=by unfold keeps at hk;split at hk<;>first|(cases hk;done)|(simp only[aop]at h;(repeat' split at h)<;>first|(cases h;rfl)|cases h)
theorem Pm {o:Op}(hk:keeps o=true):As6 o=true:=by unfold keeps at hk;split at hk<;>first|cases hk;done|rfl
def Am7:List Prop->List Prop
 |[]=>[]
 |c=>[D0 c]
def bgo (P:Program)(regs:B5)(o:Oper)(last:Bool)(rec:List Prop->Env->Option (BT×List Prop))(c:List Prop)(env:Env)(runs:Bool):Option (BT×List Prop):=match runs with
 |true=>match keeps o.op,o.dst with
  |true,some d=>match aop P env regs d o.op with
   |some ⟨p,v,_⟩=>match last with
    |true=>match LP v with
     |some b=>some (.l b,Am7 (p++c))
     |none=>none
    |false=>fA v fun v=>YY d v env fun env=>rec (p++c) env
   |none=>none
  |_,_=>none
 |false=>match last,o.dst with
  |false,some d=>YY d By env fun env=>rec c env
  |_,_=>none
def bev (P:Program)(all:List Oper)(regs:B5):List Oper->List Prop->Env->Option (BT×List Prop)
 |[],_,_=>none
 |o::rest,c,env=>
  match o.guard with
  |none=>bgo P regs o rest.isEmpty (fun c env=>bev P all regs rest c env) c env true
  |some (j,want)=>match get env (FV all j)with
   |.p (.v (.bool b))=>bgo P regs o rest.isEmpty (fun c env=>bev P all regs rest c env) c env (b==want)
   |.p (.v (.tuple _))=>bgo P regs o rest.isEmpty (fun c env=>bev P all regs rest c env) c env false
   |.p (.bb b)=>match YY (FV all j) (.p (.v (.bool true))) env fun env=>bgo P regs o rest.isEmpty (fun c env=>bev P all regs rest c env) [] env want,
    YY (FV all j) (.p (.v (.bool false))) env fun env=>bgo P regs o rest.isEmpty (fun c env=>bev P all regs rest c env) [] env !want with
    |some (t,ct),some (f,cf)=>some (.n b t f,Am7 c++(ct.map (fun p=>b=true->p)++cf.map (fun p=>b=false->p)))
    |_,_=>none
   |_=>none
def YI (l:List Oper):List Nat:=l.filterMap (·.dst)
def AB5 (ks:List Nat)(env:Env):Env:=env.filter fun q=>!ks.contains q.1
theorem WF (ks:List Nat)(env:Env)(x:Nat):get (AB5 ks env) x=if x∈ks then .top else get env x:=by
 induction env with
 |nil=>simp[AB5,get]
 |cons q r ih=>
  obtain⟨i,a⟩:=q;simp only[AB5,List.filter_cons];by_cases b:i∈ks
  .rw[Lm (by simpa using b)]
   have:=ih
   simp only[AB5]at this;rw[this];by_cases hx:x∈ks
   .simp[hx]
   have:i≠x:=fun e=>hx (e ▸ b)
   simp[hx,get,this]
  rw[Ll (by simpa using b)];simp only[get]
  have:=ih
  simp only[AB5]at this;rw[this];by_cases hx:i=x
  .subst hx;simp[b]
  simp[hx]
def UL:List Oper->Option Nat
 |[]=>none
 |[o]=>o.dst
 |_::r=>UL r
section
variable {S:W8}{P:Program}
theorem Pn {c:List Prop}(h:∀p∈Am7 c,p):D0 c:=by
 cases c with
 |nil=>trivial
 |cons p r=>exact h _ (by simp[Am7])
theorem AL5 (hS:G8 S P){all:List Oper}{regs:B5}{Q:I8}{post:List Oper}{envF:Env}{V:Bool}{d:Nat}(hQ:∀s,S.up s (JA S P all post Q)->JA S P all post Q s)(hV:get envF d=.p (.bb V))
 (hw:JA S P all post Q ⟨envF,regs⟩) :
 ∀(L:List Oper) (c:List Prop) (env:Env) (T:BT) (C:List Prop),bev P all regs L c env=some (T,C)->(∀p∈C,p)->T.ev=V->UL L=some d ->
  (∀x,x≠d->PW (get envF x) (get env x) \/ (x∈YI L/\get envF x=.top))->(∀x∈YI L,x≠d->get envF x=.top)->D0 c/\JA S P all (L++post) Q ⟨env,regs⟩:=by
 intro L
 induction L with
 |nil=>intro c env T C h;cases h
 |cons o rest ih=>
  intro c env T C h w i hd hl ht;simp only[bev,HL]at h;have key:∀(c:List Prop) (env:Env) (runs:Bool) (T:BT) (C:List Prop),bgo P regs o rest.isEmpty (fun c env=>bev P all regs rest c env) c env runs=some (T,C)->(∀p∈C,p)->T.ev=V ->
   (∀x,x≠d->PW (get envF x) (get env x) \/ (x∈YI (o::rest)/\get envF x=.top)) ->
   D0 c/\(if runs then wOp S P o (JA S P all (rest++post) Q) Q ⟨env,regs⟩else JA S P all (rest++post) Q (put ⟨env,regs⟩ o.dst By)):=by
   intro c env runs T C h w i hl;have l:rest.isEmpty=false->UL rest=some d:=by
    intro hr;cases rest with
    |nil=>cases hr
    |cons a r=>simpa[UL]using hd
   have a0:∀{d'},o.dst=some d' -> YI (o::rest)=d' :: YI rest:=fun g=>by simp[YI,g]
   have m:∀d' (v:AV),o.dst=some d' -> ∀x,x≠d->PW (get envF x) (get (ins d' v env) x) \/ (x∈YI rest/\get envF x=.top):=by
    intro d' v g x hx;rw[Dg];by_cases n:d' = x
    .subst n;exact .inl (.inl (ht _ (by rw[a0 g];exact AY6 ..) hx))
    rw[Lm n];rcases hl x hx with h|⟨h1,h2⟩
    .exact .inl h
    exact .inl (.inl h2)
   cases runs with
   |true=>
    simp only[bgo,Xt,HL,Lo]at h⊢;split at h
    .rename_i d' hk g;split at h
     .rename_i p v regs' ha;have hr:regs' = regs:=XZ hk ha;subst hr;have ha' : aop P env regs' (o.dst.getD 0) o.op=some ⟨p,v,regs'⟩:=by rw[g];exact ha
      split at h
      .rename_i u;split at h
       .rename_i b hb;cases h;have a1:=Pn w;obtain⟨hc,hp⟩:=(Cd _ _).1 a1;refine⟨hc,LA (Pm hk) ha' hp ?_⟩;obtain rfl:rest=[]:=Bg8.1 u;simp only[UL]at hd;have e:d' = d:=by rw[g]at hd;exact AS8 hd
        subst e;refine hQ _ (hS.less _ ⟨envF,regs'⟩ _ (fun x=>?_) (fun _=>by rw[g];rfl) (by simpa using hw));rw[g];show PW (get envF x) (get (ins d' v env) x);rw[Dg];by_cases hx:d' = x
        .subst hx;rw[Ll rfl,hV];have i:b=V:=i;subst i;unfold LP at hb;split at hb
         .cases hb;exact .inr (.inr ⟨_,rfl,rfl⟩)
         .cases hb;exact .inr (.inl rfl)
         cases hb
        rw[Lm hx];rcases hl x (fun e=>hx e.symm)with h|⟨_,h⟩
        .exact h
        exact .inl h
       cases h
      rename_i u;have hn:∀x,x≠d->PW (get envF x) (get (ins d' v env) x) \/ (x∈YI rest/\get envF x=.top):=m d' v g;obtain⟨a1,a2⟩:=ih _ _ _ _ h w i (l (by simpa using u)) hn (fun x hx=>ht x (by rw[a0 g];exact AT2 _ hx));obtain⟨hc,hp⟩:=(Cd _ _).1 a1;exact⟨hc,LA (Pm hk) ha' hp (by rw[g];exact a2)⟩
     cases h
    cases h
   |false=>
    simp only[bgo,HL,AR0,Lp]at h⊢;split at h
    .rename_i d' u g;have hn:∀x,x≠d->PW (get envF x) (get (ins d' By env) x) \/ (x∈YI rest/\get envF x=.top):=m d' _ g;obtain⟨hc,a2⟩:=ih _ _ _ _ h w i (l (by simpa using u)) hn (fun x hx=>ht x (by rw[a0 g];exact AT2 _ hx));exact⟨hc,by rw[g];exact a2⟩
    cases h
  simp only[AV2,JA];cases hg:o.guard with
  |none=>simp only[hg]at h;obtain⟨hc,hk⟩:=key _ _ _ _ _ h w i hl;exact⟨hc,hS.refl _ _ (by simpa[hg]using hk)⟩
  |some q=>
   obtain⟨j,want⟩:=q;simp only[hg]at h;split at h
   .rename_i b hb;obtain⟨hc,hk⟩:=key _ _ _ _ _ h w i hl;refine⟨hc,hS.refl _ _ ⟨some b,by rw[hb];rfl,?_⟩⟩;have e:(some b=some want)↔(b==want)=true:=by simp
    by_cases z:(b==want)=true
    .rw[Ll (e.2 z)];simpa[z]using hk
    rw[Lm (fun x=>z (e.1 x))];simpa[z]using hk
   .rename_i tt hb;obtain⟨hc,hk⟩:=key _ _ _ _ _ h w i hl;refine⟨hc,hS.refl _ _ ⟨none,by rw[hb];rfl,?_⟩⟩;rw[Lm (by simp)];simpa using hk
   .rename_i b hb;split at h
    .rename_i t ct f cf h1 h2;cases h;have hc:D0 c:=Pn fun p hp=>w p (AT3 _ hp);refine⟨hc,hS.bool _ _ b _ hb ?_⟩;have hl2:∀x,x≠d->PW (get envF x) (get (ins (FV all j) (.p (.v (.bool b))) env) x) \/ (x∈YI (o::rest)/\get envF x=.top):=by
      intro x hx;rw[Dg];by_cases n:FV all j=x
      .subst n;rw[Ll rfl];rcases hl _ hx with h|h
       .rw[hb]at h;rcases h with h|h|⟨y,h1,h2⟩
        .exact .inl (.inl h)
        .exact .inl (.inr (.inr ⟨b,h,rfl⟩))
        cases h2
       exact .inr h
      rw[Lm n];exact hl x hx
     cases b with
     |true=>
      obtain⟨_,hk⟩:=key _ _ _ _ _ h1 (fun p hp=>w (true=true->p) (AS0 _ (AT3 _ (AU2.2 ⟨p,hp,rfl⟩))) rfl) i hl2;refine⟨some true,by show yv (get (ins _ _ _) _)=_;rw[Dg,Ll rfl];rfl,?_⟩;cases want with
      |true=>simpa using hk
      |false=>simpa using hk
     |false=>
      obtain⟨_,hk⟩:=key _ _ _ _ _ h2 (fun p hp=>w (false=false->p) (AS0 _ (AS0 _ (AU2.2 ⟨p,hp,rfl⟩))) rfl) i hl2;refine⟨some false,by show yv (get (ins _ _ _) _)=_;rw[Dg,Ll rfl];rfl,?_⟩;cases want with
      |true=>simpa using hk
      |false=>simpa using hk
    cases h
   cases h
end
def AB6 (P:Program)(m:Nat):Cfg->Option (BT×List Prop)
 |.ops all rest K st=>bev P all st.regs (rest.take m) [] st.env
 |_=>none
def AL6 (m:Nat)(b:Bool):Cfg->Cfg
 |.ops all rest K st=>match UL (rest.take m)with
  |some d=>mkO (ins d (.p (.bb b)) (AB5 (YI (rest.take m)) st.env)) st.regs fun env regs=>.ops all (rest.drop m) K ⟨env,regs⟩
  |none=>.ops all rest K st
 |g=>g
def AL7 (m:Nat):Cfg->Bool
 |.ops all rest K st=>(UL (rest.take m)).isSome
 |_=>false
def AL8:List Prop->Prop
 |[]=>True
 |p::r=>r.foldl And p
theorem Am8 {l:List Prop}(h:AL8 l):∀p∈l,p:=by
 have:∀(r:List Prop) (p:Prop),r.foldl And p->p/\∀q∈r,q:=by
  intro r
  induction r with
  |nil=>intro p h;exact⟨h,fun q b=>by cases b⟩
  |cons a r ih=>intro p h;obtain⟨⟨h1,c⟩,d⟩:=ih _ h;exact⟨h1,fun q b=>by rcases AT9.1 b with rfl|b;exact c;exact d q b⟩
 cases l with
 |nil=>intro p hp;cases hp
 |cons a r=>obtain⟨h1,c⟩:=this _ _ h;exact fun q b=>by rcases AT9.1 b with rfl|b;exact h1;exact c q b
section
variable {S:W8}{P:Program}{F:I8}{g:Cfg}{pr pc:Prop}
theorem kB (hS:G8 S P)(n:∀s,S.up s (F .normal)->F .normal s)(hc:pr)(c:pc)(m:Nat)(E:BE)(hk:KG S P F (AL6 m E.den (stp P g)))
 (hp:pr=D0 (cnd P g):=by kernel_rfl) (a:(AB6 P m (stp P g)).map (·.1)=some E.top:=by kernel_rfl) (b:(AB6 P m (stp P g)).map (fun x=>AL8 x.2)=some pc:=by kernel_rfl) (f:AL7 m (stp P g)=true:=by kernel_rfl):KG S P F g:=by
 refine⟨DX hS hc ?_ hp⟩;have hk:=hk.out;generalize stp P g=g' at hk a b f;unfold AB6 at a b;split at a
 .rename_i all rest K st;simp only[AL7,AR8]at f;obtain⟨d,j⟩:=f;simp only[AL6,j,EK]at hk;cases hb:bev P all st.regs (rest.take m) [] st.env with
  |none=>rw[hb]at a;cases a
  |some q=>
   obtain⟨T,C⟩:=q;simp only[hb]at a b;simp only[AR5,AQ2]at a b;subst a
   have:=(AL5 hS (Q:=kp S P K F) (post:=rest.drop m) (envF:=ins d (.p (.bb E.den)) (AB5 (YI (rest.take m)) st.env)) (V:=E.den) (d:=d) ?_ (by rw[Dg,Ll rfl]) hk (rest.take m) [] st.env E.top C hb
    (Am8 (b ▸ c)) E.top_ev j (fun x hx=>?_) (fun x hx i=>?_)).2
   .rwa [Bb8]at this
   .intro s h;cases l:rest.drop m with
    |nil=>rw[l]at h;exact Ak8 hS n K s h
    |cons o r=>rw[l]at h;exact hS.trans _ _ h
   .rw[Dg,Lm (fun e=>hx e.symm),WF];split
    .exact .inl (.inl rfl)
    exact .inl (.inr (.inl rfl))
   rw[Dg,Lm (fun e=>i e.symm),WF,Ll hx]
 cases a
end
end Go.AM
namespace Go.AM
def famC (op:Xs):Cfg->List Prop
 |.ops _ _ _ st=>match Y2 op st with
  |some (c,_)=>c
  |none=>[False]
 |_=>[False]
def famG (op:Xs):Cfg->Cfg
 |.ops all rest K st=>match Y2 op st with
  |some (_,st)=>mkO st.env st.regs fun env regs=>.ops all rest K ⟨env,regs⟩
  |none=>.ops all rest K st
 |g=>g
section
variable {S:W8}{P:Program}{F:I8}{g:Cfg}{pr pc:Prop}
theorem WG (hS:G8 S P)(hc:pr)(d:Nat)(op:Xs)(b:pc)(hk:KG S P F (famG op (Gk P d g)))(hp:pr=D0 (AG3 P d g):=by kernel_rfl)(f:Gl (Gk P d g)=true:=by kernel_rfl)
 (a:pc=D0 (famC op (Gk P d g)):=by kernel_rfl):KG S P F g:=by
 refine⟨(Gd (u:=some d) (F:=F) hS 400 [] g (by subst hp;exact hc)).2 ?_⟩;have hk:=hk.out;show G S P F (Gk P d g);generalize Gk P d g=g' at f a hk;unfold Gl at f;split at f
 .rename_i all o rest K st;simp only[famC]at a;simp only[famG]at hk;cases i:Y2 op st with
  |none=>rw[i]at a;subst a;exact b.elim
  |some q=>obtain⟨c,st'⟩:=q;simp only[i,EK]at hk a;subst a;exact RY hS (hS.fam op _ _ c _ i b hk)
 cases f
end
def AL9 (j k n:Nat)(e:TypeId)(g:Nat->List PV)(vw:Bool):Cfg->Cfg
 |.ops all rest K st=>mkO st.env (ins j (.vec e k n g vw) st.regs) fun env regs=>.ops all rest K ⟨env,regs⟩
 |g=>g
theorem QI {S:W8}{P:Program}{F:I8}{g:Cfg}{pr:Prop}(hS:G8 S P)(hc:pr)(d j:Nat){k n:Nat}{e:TypeId}{vw:Bool}(f q:Nat->List PV)(c:∀i,i<n->leC (f i) (q i))(hk:KG S P F (AL9 j k n e q vw (Gk P d g)))
 (hp:pr=D0 (AG3 P d g):=by kernel_rfl) (a:Gl (Gk P d g)=true:=by kernel_rfl) (b:A1 (Gk P d g).st.regs j=some (.vec e k n f vw):=by kernel_rfl):KG S P F g:=by
 refine⟨(Gd (u:=some d) (F:=F) hS 400 [] g (by subst hp;exact hc)).2 ?_⟩;have hk:=hk.out;show G S P F (Gk P d g);generalize Gk P d g=g1 at hk a b;unfold Gl at a;split at a
 .simp only[AL9,EK]at hk;exact RY hS (hS.vecq _ j n k e f q vw _ b c hk)
 cases a
theorem leCn {k:Nat}{g:Nat->List PV}:leC [.v (.slice none 0 0)] [.sl false k 0 g]:=leCc lePN leC0
theorem leCr (l:List PV):leC l l:=⟨rfl,fun _=>.p (.inl rfl)⟩
end Go.AM
namespace Go.AM
end Go.AM
namespace Go.AM
def SN {P:Program}{f:FuncId}{vw:Bool}{args:List PV}{e:TypeId}{k n:Nat}{g:Nat->List PV}(s:∀as w,(callFunc f as).run P w=.ok (.enter f as) w)(hk:∀i,i<n->(g i).length=k)
 (h:∀(w:World) (Pi:Nat->Nat->Prop) (vs:Array Value),(∀b off,Pi b off->b<w.heap.size)->vs.size=args.length->(∀i,i<args.length->RepP w Pi (vs.getD i undef) (args.getD i default)) ->
  Calls P f vs w fun x w'=>∃v,x=.returned v/\RowKit.Below w.heap.size w w' /\ ((v=.slice none 0 0/\n=0) \/ ∃b cap c,v=.slice (some ⟨b,0,none⟩) n cap/\w.heap.size<=b/\w'.heap[b]? = some (.cells c e (0,0))/\n<=cap/\c.size=cap*k/\cap<=maxLen /\
   ∀i j,i<n->j<k->RepP w Pi (c.getD (i*k+j) undef) ((g i).getD j default)/\(c.getD (i*k+j) undef).oneCell' = true)):FunO (Ga P) f (args.map .p) [] (.vec 0) [.vec e k n g vw] []:=by
 intro 𝒢 C w vs rho hG hs hsz;have t:∀j,A1 (objRegs []) j=none:=fun j=>by simp[objRegs,objRegs.go,A1]
 have h0:=h w (Prv C.X (A1 (objRegs [])) rho) vs (fun b off hp=>by
  rcases hp with hp|⟨j,o,hj,_⟩
  .exact hs.hp.bound b off hp
  .simp[t]at hj) (by simpa using hsz) (fun i q=>by
  have:=hs.env i
  rw[Ak]at this;have e:(args.map AV.p).getD i .top=.p (args.getD i default):=by simp[q]
  rw[e]at this;exact this.toP)
 refine⟨_,_,s _ _,callsIn_wide.2 (h0.mono ?_)⟩;rintro x w' ⟨v,rfl,hb,hv⟩;have hR:∀j o,A1 (objRegs [Obj.vec e k n g vw]) j=some o->j=0/\o=.vec e k n g vw:=fun j o hj=>by
  simp only[objRegs,objRegs.go,A1]at hj;split at hj
  .rename_i hj0;cases hj;exact⟨hj0.symm,rfl⟩
  cases hj
 have y:A1 (objRegs [Obj.vec e k n g vw]) 0=some (.vec e k n g vw):=rfl
 let rho' : Nat->Value:=fun j=>if j=0 then v else rho j
 have hr0:rho' 0=v:=rfl;have d:∀b,D6 v (.vec e k n g vw) b->w.heap.size<=b/\b<w'.heap.size:=by
  intro b z;rcases hv with⟨rfl,_⟩ | ⟨b',cap,c,rfl,h1,h2,_⟩
  .cases z
  cases z;exact⟨h1,(AR1.1 h2).1⟩
 have a0:∀b o,Prv C.X (A1 (objRegs [Obj.vec e k n g vw])) rho' b o->C.X b o \/ w.heap.size<=b:=by
  rintro b o (hX|⟨j,o',hj,a,_⟩)
  .exact .inl hX
  obtain⟨rfl,rfl⟩:=hR j o' hj;exact .inr (d b a).1
 have l:Keeps w (Prv C.X (A1 (objRegs [])) rho) w' (Prv C.X (A1 (objRegs [Obj.vec e k n g vw])) rho'):=fun b o u hp hc=>by
  have m:=AY9 w ⟨b,o,none⟩ hc;refine⟨by rw[<- hc];exact AV4 (hb.block b m),fun hpp=>?_⟩;rcases a0 b o hpp with hX|hge
  .exact hp (.inl hX)
  have:b<w.heap.size:=m
  omega
 refine⟨C,.ret (.vec 0),[.vec e k n g vw],[],rho',hG,⟨rfl,rfl,rfl⟩,?_,⟨v,rfl,?_⟩,fun i q=>by simp at q⟩
 .refine⟨⟨fun j o hj=>?_,fun i j oi oj b q hj _ _=>by rw[(hR i oi q).1,(hR j oj hj).1],fun j o b off hj a hX=>?_,fun b off hp=>AT0 (hs.hp.bound b off hp) hb.size⟩,hs.ext.trans ⟨hb.os,hb.output⟩,AW5 hs.size hb.size,fun b m hE=>?_,hs.keep.trans l,fun b a=>?_,fun j r b hj=>by cases (hR j _ hj).2⟩
  .obtain⟨rfl,rfl⟩:=hR j o hj;rw[hr0];rcases hv with hn|⟨b,cap,c,rfl,h1,h2,h3,h4,h5,h6⟩
   .exact .inl hn
   exact .inr ⟨b,cap,c,rfl,h2,h3,h4,h5,hk,fun i j q hj=>⟨(h6 i j q hj).1.keeps l,(h6 i j q hj).2⟩⟩
  .obtain⟨rfl,rfl⟩:=hR j o hj;have h1:=(d b a).1;have h2:=hs.hp.bound b off hX;omega
  .rw[hb.block b (AT0 m hs.size)];exact hs.same b m hE
  obtain⟨j,o,hj,a⟩:=a;obtain⟨rfl,rfl⟩:=hR j o hj;exact .inr (AW5 hs.size (d b a).1)
 rcases hv with⟨rfl,_⟩ | ⟨b,cap,c,rfl,_⟩
 .exact .vec 0 none 0 0 (by simp[Lv,y]) rfl
 exact .vec 0 _ n cap (by simp[Lv,y]) rfl
end Go.AM
namespace Go.AM
open Go.RowKit Go.ChangeShapes
end Go.AM
namespace Go.AM
section
variable {S:W8}{P:Program}{F:I8}{K:List It}{st:St}{g:Cfg}{pr:Prop}
def AB7 (p:Option PV)(r:Lz):Prop:=match p with
 |none=>∃a,r=.ret a
 |some x=>r=.panic x
def Mu (S:W8)(f:FuncId)(first caps:List AV)(objs:List Obj)(L:List (List PV))(p:Option PV):Prop:= S.F f (first ++ .yf objs.length::caps) (objs++[.yld L true]) fun r objs' ks=>∃b,objs'[objs.length]? = some (.yld [] b)/\ks[objs.length]? = some true/\(b=true->AB7 p r)/\(b=false->∃a,r=.ret a)
def endP:Option PV->Hf
 |none=>.normal
 |some x=>.panic x
theorem Am9 (hS:G8 S P){g:Operand}{ps:Array Tmp}{asg body:Code}{f:FuncId}{first caps as bs:List AV}{objs:List Obj}(ids ts:List Nat)(gh:Nat)(L:List (List PV)){p:Option PV}{X:Type}(s:X->St)(J:List (List PV)->X->Prop)(x0:X)(idl:List (Nat×Nat))
 (hp:Er st.env g=some (f,first,caps)) (n:∃fn,P.funcs[f]? = some fn/\fn.body.isSome=true/\(fn.name == "runtime.NumGoroutine")=false) (q:J6 ids st.regs ids=some objs) (t:DS objs=true) (hd:G0 ids=true) (u:CS ids first=some as) (v:CS ids caps=some bs) (w:objs.length=ids.length)
 (z:gh<1000) (a0:A1 st.regs gh=none) (a1:ids.length<1000) (a2:G0 ts=true) (d:∀ys∈L,Ah ys=some ps.size)
 (hF:Mu S f as bs objs L p) (hle:Le idl ⟨S5 ts (ts.map (get st.env)),M0 ids (ids.map fun _=>false) st.regs⟩ (s x0)) (h0:J L x0) (hk:∀x,(s x).env.map (·.1)=ts) (hn:∀x,A1 (s x).regs gh=none)
 (c:∀ys rest x,J (ys::rest) x->G S P (BC S P body gh ts (Wn s J rest) (kp S P K F)) (.code asg [] ⟨Lf ps.toList ys (s x).env,ins gh (.ghost ((s x).env.map (·.2))) (s x).regs⟩))
 (i:∀x,J [] x->G S P F (.pop (endP p) K (s x))):G S P F (.code (.rangeFunc g ps asg body) K st):=by
 have j:∀{l:List Nat},G0 l=true->l.Nodup:=by
  intro l
  induction l with
  |nil=>intro _;exact AX5
  |cons a r ih=>intro h;simp only[G0,AQ7,AS7,AU6,decide_eq_false_iff_not]at h;exact AW0.2 ⟨h.1,ih h.2⟩
 refine⟨f,first,caps,as,bs,objs,ids,ts,gh,none,L,Wn s J,fun b r=>b=true->AB7 p r,hp,n,t,hd,u,v,q,z,a0,a1,j a2,d,hS.le idl _ _ _ hle ⟨hk x0,hn x0,x0,rfl,h0⟩,?_,?_,?_⟩
 .rintro ys rest _ _ _ ⟨x,rfl,hJ⟩;have h:=c ys rest x hJ;have e:BC S P body gh ts (Wn s J rest) (kp S P K F)=fun e s'=>match e with
   |.normal=>S.up s' fun s'=>awp S P body (Fe S gh ts (Wn s J rest) (kp S P K F)) s'
   |_=>False:=by funext e s';cases e<;>rfl
  rw[e]at h;exact h
 .rintro _ r _ _ ⟨x,rfl,hJ⟩ hf;have h1:=hf rfl;have m:=i x hJ;cases p with
  |none=>obtain⟨a,rfl⟩:=h1;exact m
  |some y=>cases h1;exact m
 rw[<- w];refine hS.monoF _ _ _ _ _ ?_ hF;rintro r o ks ⟨b,h1,m,h3,h4⟩;exact⟨b,h1,m,h3,h4⟩
theorem An0 (hS:G8 S P){g:Operand}{ps:Array Tmp}{asg body:Code}{f:FuncId}{first caps as bs:List AV}{objs:List Obj}{R T A:Type}{enc:T->List PV}{L:List T}{p:Option PV}{mb:(A->Option R)->T->A->Option R}{mk:A->Option R}{a0:A}{r:R}
 (ids ts:List Nat) (gh:Nat) (s:A->St) (idl:List (Nat×Nat)) (h:O1 L mb mk a0=some r) (y:Mu S f as bs objs (L.map enc) p)
 (hp:Er st.env g=some (f,first,caps)) (j:∃fn,P.funcs[f]? = some fn/\fn.body.isSome=true/\(fn.name == "runtime.NumGoroutine")=false) (l:J6 ids st.regs ids=some objs) (m:DS objs=true) (z:G0 ids=true) (n:CS ids first=some as) (o:CS ids caps=some bs) (q:objs.length=ids.length)
 (u:Nat.blt gh 1000=true) (v:A1 st.regs gh=none) (w:Nat.blt ids.length 1000=true) (x:G0 ts=true) (d:∀t:T,Ah (enc t)=some ps.size)
 (hle:Le idl ⟨S5 ts (ts.map (get st.env)),M0 ids (ids.map fun _=>false) st.regs⟩ (s a0)) (hk:∀a,(s a).env.map (·.1)=ts) (hn:∀a,A1 (s a).regs gh=none)
 (b:∀(t:T) (next:St->Prop) (c:A->Option R) (a:A),(∀(st st1:St) (cs:List AV) (idl:List (Nat×Nat)) (a:A),Le idl st st1->A1 st1.regs gh=some (.ghost cs)->cs.length=ts.length->A1 (del gh st1.regs) gh=none->(⟨S5 ts cs,del gh st1.regs⟩:St)=s a->c a=some r->G S P (Fe S gh ts next (kp S P K F)) (.pop .normal [] st)) ->
  mb c t a=some r->G S P (BC S P body gh ts next (kp S P K F)) (.code asg [] ⟨Lf ps.toList (enc t) (s a).env,ins gh (.ghost ((s a).env.map (·.2))) (s a).regs⟩))
 (i:∀a,mk a=some r->G S P F (.pop (endP p) K (s a))):G S P F (.code (.rangeFunc g ps asg body) K st):=by
 refine Am9 hS ids ts gh (L.map enc) s (fun rest a=>∃L',rest=L'.map enc/\O1 L' mb mk a=some r) a0 idl hp j l m z n o q (by simpa[AZ3]using u) v (by simpa[AZ3]using w) x (fun ys hy=>?_) y hle ⟨L,rfl,h⟩ hk hn ?_ ?_
 .obtain⟨t,_,rfl⟩:=AU2.1 hy;exact d t
 .rintro ys rest a ⟨L',hL,hx⟩;cases L' with
  |nil=>cases hL
  |cons t L'=>simp only[AR9,AV7]at hL;obtain⟨rfl,rfl⟩:=hL;refine b t _ (O1 L' mb mk) a (fun st st1 cs idl a hle h1 h2 h3 h4 h5=>?_) hx;exact UC hS st1 a idl hle h1 h2 h3 h4 ⟨L',rfl,h5⟩
 rintro a ⟨L',hL,hx⟩;cases L' with
 |nil=>exact i a hx
 |cons t L'=>cases hL
theorem WH (hS:G8 S P)(hc:pr){f:FuncId}{as bs:List AV}{objs:List Obj}{R T A:Type}{enc:T->List PV}{L:List T}{p:Option PV}{mb:(A->Option R)->T->A->Option R}{mk:A->Option R}{a0:A}{r:R}
 (ids ts:List Nat) (gh:Nat) (s:A->St) {idl:List (Nat×Nat)}(h:O1 L mb mk a0=some r) (x:Mu S f as bs objs (L.map enc) p)
 (i:∀t:T,Ah (enc t)=some (FL (stp P g)).size) (hk:∀a,(s a).env.map (·.1)=ts) (hn:∀a,A1 (s a).regs gh=none) (m:∀a,(⟨S5 ts ((s a).env.map (·.2)),del gh (ins gh (.ghost ((s a).env.map (·.2))) (s a).regs)⟩:St)=s a)
 (c:∀(t:T) (next:St->Prop) (d:A->Option R) (a:A),
  (∀(g' : Cfg) (ids:List (Nat×Nat)) (pr:Prop) (a:A),pr->d a=some r->(hp:pr=D0 (cnd P g'):=by kernel_rfl)->(b:stp P g' = .pop .normal [] (stp P g').st:=by kernel_rfl)->(hle:KLe ids (stp P g').st (rst gh (s a)):=by exact kl)->KG S P (Fe S gh ts next (kp S P (stp P g).k F)) g') ->
  mb d t a=some r->KG S P (BC S P (Pk (stp P g)) gh ts next (kp S P (stp P g).k F)) (.code (Pj (stp P g)) [] (SM gh (FL (stp P g)) (enc t) (s a))))
 (j:∀a,mk a=some r->KG S P F (.pop (endP p) (stp P g).k (s a)))
 (hp:pr=D0 (cnd P g):=by kernel_rfl) (b:Ph P ids (stp P g)=some (f,as,bs,objs):=by kernel_rfl) (o:Nat.blt gh 1000=true:=by kernel_rfl) (n:A1 (stp P g).st.regs gh=none:=by kernel_rfl) (q:G0 ts=true:=by kernel_rfl)
 (hle:KLe idl (Pl ids ts (stp P g)) (s a0):=by exact kl):KG S P F g:=by
 refine⟨DX hS hc ?_ hp⟩;have u:=(DZ b).2;replace b:=(DZ b).1;generalize stp P g=g1 at i c j b n hle;unfold KN at b;split at b
 .rename_i op ps asg body K st;split at b
  .rename_i f' first caps v
   split at b
   .rename_i objs' as' bs' y z h4;split at b
    .rename_i w;simp only[AQ2,AR3]at b;obtain⟨rfl,rfl,rfl,rfl⟩:=b;simp only[AQ7,AS7,beq_iff_eq]at w;obtain⟨⟨⟨e3,e4⟩,e5⟩,e6⟩:=w;refine An0 hS ids ts gh s idl h x v u y e3 e4 z h4 e5 o n e6 q i hle.out hk hn (fun t next d a hb hm=>?_) (fun a hm=>(j a hm).out);refine (c t next d a (fun g' ids' pr a hc l hp b hle=>⟨DX hS hc ?_ hp⟩) hm).out;rw[b];have hl:((s a).env.map (·.2)).length=ts.length:=by rw[<- hk a];simp
     refine hb _ (rst gh (s a)) ((s a).env.map fun p=>p.2) ids' a hle.out (Gp gh (s a)) hl ?_ (m a) l
     have:=congrArg St.regs (m a)
     simp only at this;show A1 (del gh (ins gh _ _)) gh=none;rw[this];exact hn a
    cases b
   cases b
  cases b
 cases b
theorem ZV (hS:G8 S P){f:FuncId}{fn:Func}{first caps:List AV}{objs:List Obj}{L:List (List PV)}{p:Option PV}(i:P.funcs[f]? = some fn)
 (h:KG S P (Cz S P (objs++[Obj.yld L true]).length fn.results.toList fun r objs' ks=>∃b,objs'[objs.length]? = some (.yld [] b)/\ks[objs.length]? = some true/\(b=true->AB7 p r)/\(b=false->∃a,r=.ret a)) (.code (fn.body.getD .skip) [] { env:=argEnv (first ++ .yf objs.length::caps),regs:=objRegs (objs++[Obj.yld L true]) }))
 (hc:fn.body.isSome=true:=by kernel_rfl) (hn:Nat.ble (first ++ .yf objs.length::caps).length fn.ntmps=true:=by kernel_rfl) (j:Nat.blt (objs++[Obj.yld L true]).length 1000=true:=by kernel_rfl)
 (d:AT fn.ntmps (fn.body.getD .skip)=true:=by kernel_rfl) (g:(fn.name == "runtime.NumGoroutine")=false:=by kernel_rfl):Mu S f first caps objs L p:=by
 obtain⟨code,c⟩:=AR8.1 hc;rw[c,AR2]at d h;exact JM hS i c (AX4 hn) (by simpa[AZ3]using j) rfl d g h.out
theorem An1 (hS:G8 S P){f:FuncId}{fn:Func}{args:List AV}{objs:List Obj}{Q:Lz->List Obj->List Bool->Prop}(d:P.funcs[f]? = some fn)
 (h:KG S P (Cz S P objs.length fn.results.toList Q) (.code (fn.body.getD .skip) [] { env:=argEnv args,regs:=objRegs objs }))
 (hc:fn.body.isSome=true:=by kernel_rfl) (hn:Nat.ble args.length fn.ntmps=true:=by kernel_rfl) (g:Nat.blt objs.length 1000=true:=by kernel_rfl)
 (b:AT fn.ntmps (fn.body.getD .skip)=true:=by kernel_rfl) (c:(fn.name == "runtime.NumGoroutine")=false:=by kernel_rfl):S.F f args objs Q:=by
 obtain⟨code,a⟩:=AR8.1 hc;rw[a,AR2]at b h;exact JM hS d a (AX4 hn) (by simpa[AZ3]using g) rfl b c h.out
def panE:Cfg->Option PV
 |.ops all (o::_) _ st=>match Bs all st.env o,o.op with
  |some true,.panic x=>match aev st.env x with
   |.p (.iface t y)=>some (.iface t y)
   |_=>none
  |_,_=>none
 |_=>none
def panC (x:PV):Cfg->Cfg
 |.ops _ _ K st=>.pop (.panic x) K st
 |g=>g
theorem AB8 (hS:G8 S P)(hc:pr){x:PV}(hk:KG S P F (panC x (stp P g)))(hp:pr=D0 (cnd P g):=by kernel_rfl)(a:panE (stp P g)=some x:=by kernel_rfl):KG S P F g:=by
 refine⟨DX hS hc ?_ hp⟩;have hk:=hk.out;generalize stp P g=g1 at hk a;unfold panE at a;split at a
 .rename_i all o rest K st;split at a
  .rename_i y hg b;split at a
   .rename_i t z hx;cases a;exact Az8 hS hg b hx hk
   cases a
  cases a
 cases a
def An2:Cfg->Option PV
 |.pop (.panic x) [] _=>some x
 |_=>none
theorem Au4 (hS:G8 S P)(hc:pr){n:Nat}{rs:List ResultVar}{Q:Lz->List Obj->List Bool->Prop}{x:PV}{objs:List Obj}(outs:List Nat)(c:Q (.panic x) objs (FI n outs))(hp:pr=D0 (cnd P g):=by kernel_rfl)
 (a:An2 (stp P g)=some x:=by kernel_rfl) (d:G0 outs=true:=by kernel_rfl) (b:J6 outs (stp P g).st.regs outs=some objs:=by kernel_rfl):KG S P (Cz S P n rs Q) g:=by
 refine⟨DX hS hc ?_ hp⟩;generalize stp P g=g1 at a b;unfold An2 at a;split at a
 .cases a;exact⟨outs,objs,d,b,c⟩
 cases a
theorem AB9 (hS:G8 S P){all rest:List Oper}{o:Oper}{c:Call}{f:Operand}{as:List AV}{regs:B5}{fn:FuncId}{as' args:List AV}{objs objs' : List Obj}{ks:List Bool}{x:PV}(ids:List Nat)
 (hg:Bs all st.env o=some true) (d:o.op=.call c) (b:c.callee=.value f) (ha:Hg st.regs (c.args.toList.map (aev st.env))=some (as,regs))
 (hw:NG st.env f as=some (fn,as')) (g:CS ids as' = some args) (a:J6 ids regs ids=some objs) (i:S.F fn args objs fun res o k=>res=.panic x/\o=objs' /\ k=ks)
 (j:G0 ids=true) (hy:DS objs=true) (hn:Y1 regs ids ks (o.dst.getD 0) objs'.length=true)
 (hk:G S P F (.pop (.panic x) K { env:=st.env,regs:=back (G4 (o.dst.getD 0) ids ks objs'.length) (G4 (o.dst.getD 0) ids ks objs'.length) objs' (M0 ids ks regs) })) :
 G S P F (.ops all (o::rest) K st):=by
 refine Bz hS hg ?_;unfold wOp;obtain⟨callee,cargs,types⟩:=c;simp only at b ha;subst b;rw[d];refine .inl ⟨as,regs,_,_,.inl ha,hw,ids,args,objs,j,g,a,hy,hS.monoF _ _ _ _ _ ?_ i⟩;rintro _ _ _ ⟨rfl,rfl,rfl⟩;exact⟨hn,hk⟩
def Au5 (ids:List Nat)(ks:List Bool)(x:PV)(objs' : List Obj):Cfg->Cfg
 |.ops all (o::rest) K st=>match o.op with
  |.call c=>match Hg st.regs (c.args.toList.map (aev st.env))with
   |some (_,regs)=>mkO st.env (back (G4 (o.dst.getD 0) ids ks objs'.length) (G4 (o.dst.getD 0) ids ks objs'.length) objs' (M0 ids ks regs)) fun env regs=>.pop (.panic x) K ⟨env,regs⟩
   |none=>.ops all (o::rest) K st
  |_=>.ops all (o::rest) K st
 |g=>g
theorem AC0 (hS:G8 S P)(ids:List Nat)(hc:pr){fn:FuncId}{args:List AV}{objs objs' : List Obj}{x:PV}{ks:List Bool}(i:S.F fn args objs fun res o k=>res=.panic x/\o=objs' /\ k=ks)
 (hk:KG S P F (Au5 ids ks x objs' (stp P g))) (hp:pr=D0 (cnd P g):=by kernel_rfl) (a:XU ids (stp P g)=some (fn,args,objs):=by kernel_rfl) (hn:XV ids ks objs'.length (stp P g)=true:=by kernel_rfl):KG S P F g:=by
 refine⟨DX hS hc ?_ hp⟩;replace hk:=hk.out;generalize stp P g=g' at a hn hk;unfold XU at a;split at a
 .split at a
  .rename_i hg f;split at a
   .rename_i c;split at a
    .rename_i ha;split at a
     .rename_i hw;split at a
      .rename_i j d;split at a
       .rename_i b;cases a;simp only[AQ7]at b;simp only[Au5,XV,f,ha,EK]at hk hn;exact AB9 hS ids hg f c ha hw j d i b.1 b.2 hn hk
       cases a
      cases a
     cases a
    cases a
   cases a
  cases a
 cases a
def Po (S:W8)(R:St->Prop)(X:PV->St->Prop):I8
 |.normal,st=>S.up st R
 |.panic x,st=>X x st
 |_,_=>False
theorem K_upN (hS:G8 S P)(hc:pr){R:St->Prop}{X:PV->St->Prop}(st:St){ids:List (Nat×Nat)}(hR:R st)(hp:pr=D0 (cnd P g):=by kernel_rfl)(a:stp P g=.pop .normal [] (stp P g).st:=by kernel_rfl)
 (hle:KLe ids (stp P g).st st:=by exact kl):KG S P (Po S R X) g:=by
 refine⟨DX hS hc ?_ hp⟩;rw[a];exact hS.le ids _ _ R hle.out hR
theorem K_upP (hS:G8 S P)(hc:pr){R:St->Prop}{X:PV->St->Prop}{x:PV}(b:X x (stp P g).st)(hp:pr=D0 (cnd P g):=by kernel_rfl)(a:An2 (stp P g)=some x:=by kernel_rfl):KG S P (Po S R X) g:=by
 refine⟨DX hS hc ?_ hp⟩;generalize stp P g=g1 at a b;unfold An2 at a;split at a
 .cases a;exact b
 cases a
end
end Go.AM
namespace Go.AM
section
variable {S:W8}{P:Program}{F:I8}{K:List It}{g:Cfg}{pr:Prop}
end
end Go.AM
namespace Go.AM
open Go.RowKit Go.ChangeShapes Go.Deep
mutual
inductive LeD:PV->PV->Prop
 |refl (x:PV):LeD x x
 |sl {k n:Nat}{f g:Nat->List PV}(h:∀i,i<n->LeDs (f i) (g i)):LeD (.sl false k n f) (.sl false k n g)
inductive LeDs:List PV->List PV->Prop
 |nil:LeDs [] []
 |cons {x y:PV}{l r:List PV}(h:LeD x y) (h' : LeDs l r):LeDs (x::l) (y::r)
end
theorem LeDs.refl:∀l:List PV,LeDs l l
 |[]=>.nil
 |x::l=>.cons (.refl x) (LeDs.refl l)
theorem LeDs.length {l r:List PV}(h:LeDs l r):l.length=r.length:=by
 induction l generalizing r with
 |nil=>cases h;rfl
 |cons x l ih=>cases h with|cons _ h'=>simp[ih h']
theorem LeDs.get {l r:List PV}(h:LeDs l r):∀i,LeD (l.getD i default) (r.getD i default):=by
 induction l generalizing r with
 |nil=>cases h;exact fun i=>.refl _
 |cons x l ih=>
  cases h with
  |cons h h'=>
   intro i;cases i with
   |zero=>exact h
   |succ i=>simpa using ih h' i
theorem LeDs.append {a b c d:List PV}(h:LeDs a b)(h' : LeDs c d):LeDs (a++c) (b++d):=by
 induction a generalizing b with
 |nil=>cases h;exact h'
 |cons x l ih=>cases h with|cons h1 h2=>exact .cons h1 (ih h2)
theorem RepP.leD {w:World}{Pi:Nat->Nat->Prop}{v:Value}{x:PV}(h:RepP w Pi v x):∀{y:PV},LeD x y->RepP w Pi v y:=by
 induction h with
 |slnil k f=>intro y hy;cases hy with
  |refl=>exact .slnil _ _
  |sl h=>exact .slnil _ _
 |sl nn b off cap k n f c hn hk hc h sp hsp ih=>
  intro y hy;cases hy with
  |refl=>exact .sl nn b off cap k n f c hn hk hc h sp hsp
  |sl h'=>exact .sl false b off cap k n _ c hn (fun i d=>by rw[<- (h' i d).length];exact hk i d) hc (fun i j d hj=>ih i j d hj ((h' i d).get j)) sp hsp
 |v x=>intro y hy;cases hy;exact .v x
 |bb b=>intro y hy;cases hy;exact .bb b
 |str l=>intro y hy;cases hy;exact .str l
 |agg vs cs hs h1 h ih=>intro y hy;cases hy;exact .agg vs cs hs h1 h
 |ptr b off cs c hc h ih=>intro y hy;cases hy;exact .ptr b off cs c hc h
 |iface t x a h ih=>intro y hy;cases hy;exact .iface t x a h
 |fn f x y a b hx hy ha hb iha ihb=>intro y hy;cases hy;exact .fn f x _ a b hx ‹_› ha hb
theorem CRep.leD {W:World}{cs:List Value}{p q:List PV}(h:CRep W cs p)(hl:LeDs p q):CRep W cs q:=
 ⟨by rw[h.1,hl.length],fun i a=>⟨(h.2 i (by rw[hl.length];exact a)).1.leD (hl.get i),(h.2 i (by rw[hl.length];exact a)).2⟩⟩
section
variable {P:Program}{t e:TypeId}{m:Nat}{pvs:List PV}
def FZ (f:Nat->Nat):Nat->Nat
 |0=>0
 |k+1=>FZ f k+f k
theorem AC1 (f:Nat->Nat){k n:Nat}(h:k<=n):FZ f k<=FZ f n:=by
 induction h with
 |refl=>exact AQ8 _
 |step _ ih=>simp only[FZ];omega
theorem QJ (f:Nat->Nat){k n:Nat}(h:k<n):f k<=FZ f n:=by
 have:=AC1 f (show k+1<=n from h)
 simp only[FZ]at this;omega
theorem SO {f g:Nat->Nat}:∀{n:Nat},(∀i,i<n->f i<=g i)->FZ f n<=FZ g n
 |0,_=>AQ8 _
 |n+1,h=>by have h1:=SO (n:=n) fun i a=>h i (by omega);have b:=h n (by omega);simp only[FZ];omega
theorem Pp (f:Nat->Nat):∀n,Ue ((List.range n).map f)=FZ f n:=by
 have app:∀a b:List Nat,Ue (a++b)=Ue a+Ue b:=by
  intro a b
  induction a with
  |nil=>simp[Ue]
  |cons x r ih=>simp only[AV2,SB,ih];omega
 intro n
 induction n with
 |zero=>rfl
 |succ n ih=>rw[Ba7,Ba8,app,ih];simp[FZ,Ue]
def Lk (P:Program)(t:TypeId){T:Type}(c:T->List PV)(W:T->Prop)(sz:T->Nat):Prop:= ∀(m:Nat) (pvs:List PV),HU P m t pvs->∃x:T,LeDs pvs (c x)/\W x/\sz x<=m
theorem U4 {k:IntKind}(ht:P.underlying t=some (.int k)):Lk P t (cI k) (fun n=>(Lit.int k n).wf=true) (fun _=>1):=by
 intro m pvs h;cases h with
 |bool ht'=>rw[ht]at ht';cases ht'
 |str ht'=>rw[ht]at ht';cases ht'
 |slice _ ht'=>rw[ht]at ht';cases ht'
 |arr ht'=>rw[ht]at ht';cases ht'
 |struct ht'=>rw[ht]at ht';cases ht'
 |int ht' hw hm=>rw[ht]at ht';cases ht';exact⟨_,LeDs.refl _,hw,hm⟩
theorem Pq (ht:P.underlying t=some .bool):Lk P t cB (fun _=>True) (fun _=>1):=by
 intro m pvs h;cases h with
 |int ht'=>rw[ht]at ht';cases ht'
 |str ht'=>rw[ht]at ht';cases ht'
 |slice _ ht'=>rw[ht]at ht';cases ht'
 |arr ht'=>rw[ht]at ht';cases ht'
 |struct ht'=>rw[ht]at ht';cases ht'
 |bool ht' hm=>exact⟨_,LeDs.refl _,trivial,hm⟩
theorem SP (ht:P.underlying t=some .string):Lk P t cS (fun _=>True) (fun l=>l.length+1):=by
 intro m pvs h;cases h with
 |int ht'=>rw[ht]at ht';cases ht'
 |bool ht'=>rw[ht]at ht';cases ht'
 |slice _ ht'=>rw[ht]at ht';cases ht'
 |arr ht'=>rw[ht]at ht';cases ht'
 |struct ht'=>rw[ht]at ht';cases ht'
 |str ht' hm=>exact⟨_,LeDs.refl _,trivial,hm⟩
theorem T8 {T:Type}[Inhabited T]{c:T->List PV}{W:T->Prop}{sz:T->Nat}{k:Nat}(ht:P.underlying t=some (.slice e))(hk:P.cellsOf e=k)(h:Lk P e c W sz) :Lk P t (cL k c) (fun s=>∀i,i<s.n->W (s.g i)) (fun s=>FZ (fun i=>sz (s.g i)) s.n+1):=by
 intro m pvs hs;cases hs with
 |int ht'=>rw[ht]at ht';cases ht'
 |bool ht'=>rw[ht]at ht';cases ht'
 |str ht'=>rw[ht]at ht';cases ht'
 |arr ht'=>rw[ht]at ht';cases ht'
 |struct ht'=>rw[ht]at ht';cases ht'
 | @slice _ _ e' n f ms ht' hl hel hm=>
  rw[ht]at ht';cases ht';obtain⟨g,hg⟩:=choose_lt (α:=T) (p:=fun i x=>LeDs (f i) (c x)/\W x/\sz x<=ms i) fun i a=>h _ _ (hel i a);refine⟨⟨n,g⟩,?_,fun i a=>(hg i a).2.1,?_⟩
  .subst hk;exact .cons (.sl fun i a=>(hg i a).1) .nil
  have h1:=SO (n:=n) fun i a=>(hg i a).2.2;rw[Pp]at hm;show FZ (fun i=>sz (g i)) n+1<=m;omega
theorem Y5 {fs:Array Field}(ht:P.underlying t=some (.struct fs))(h:HU P m t pvs):∃m',Gh P m' (fs.toList.map (·.type)) pvs/\m' + 1<=m:=by
 cases h with
 |int ht'=>rw[ht]at ht';cases ht'
 |bool ht'=>rw[ht]at ht';cases ht'
 |str ht'=>rw[ht]at ht';cases ht'
 |slice _ ht'=>rw[ht]at ht';cases ht'
 |arr ht'=>rw[ht]at ht';cases ht'
 |struct ht' h hm=>rw[ht]at ht';cases ht';exact⟨_,h,hm⟩
theorem C6 {ts:List TypeId}(h:Gh P m (t::ts) pvs):∃a b p q,pvs=p++q/\HU P a t p/\Gh P b ts q/\a+b<=m:=by
 cases h with
 |cons h h' hm=>exact⟨_,_,_,_,rfl,h,h',hm⟩
theorem Cj (h:Gh P m [] pvs):pvs=[]:=by cases h;rfl
end
end Go.AM
namespace Go.AM
section
variable {S:W8}{P:Program}{sc:SC}{k:Env->B5->Prop}{pr:Prop}
end
end Go.AM
namespace Go.AM
section
variable {κ ν : Type}
end
section
variable {S:W8}{P:Program}{F:I8}{g:Cfg}{pr:Prop}
end
end Go.AM
namespace Go.AM
section
variable {S:W8}{P:Program}{F:I8}{g:Cfg}{pr:Prop}
def AM0:Cfg->Option (Prop×FuncId×List AV)
 |.ops all (o::_) _ st=>match Bs all st.env o,o.op with
  |some true,.call c=>match c.callee with
   |.value f=>match NG st.env f (c.args.toList.map (aev st.env))with
    |some (fn,as)=>match Ir (HK st.regs 9) as with
     |some (cs,xs)=>some (D0 cs,fn,xs.map .p)
     |none=>none
    |none=>none
   |_=>none
  |_,_=>none
 |_=>none
def AM1 (r:AV):Cfg->Cfg
 |.ops all (o::rest) K st=>ZO o.dst r st.env st.regs fun st=>.ops all rest K st
 |g=>g
theorem AM2 (hS:G8 S P)(hc:pr){cs:Prop}(d:cs){fn:FuncId}{args:List AV}{r:AV}(j:FunO S fn args [] r [] [])(hk:KG S P F (AM1 r (stp P g)))
 (hp:pr=D0 (cnd P g):=by kernel_rfl) (a:AM0 (stp P g)=some (cs,fn,args):=by kernel_rfl) (i:Ag7 r=true:=by kernel_rfl):KG S P F g:=by
 refine⟨DX hS hc ?_ hp⟩;replace hk:=hk.out;generalize stp P g=g' at a hk;unfold AM0 at a;split at a
 .rename_i all o rest K st;split at a
  .rename_i c hg l;split at a
   .rename_i f b;split at a
    .rename_i fn' as hw;split at a
     .rename_i cs' xs hl;simp only[AQ2,AR3]at a;obtain⟨rfl,rfl,rfl⟩:=a;simp only[AM1,Fm]at hk;refine Bz hS hg ?_;unfold wOp;obtain⟨callee,cargs,types⟩:=c;simp only at b hw;subst b;rw[l];exact .inr (.inr (.inl ⟨fn',as,cs',xs,hw,hl,d,hS.monoF _ _ _ _ _ (fun res o k ⟨h1,_,_⟩=>.inl ⟨r,h1,i,hk⟩) j⟩))
     cases a
    cases a
   cases a
  cases a
 cases a
end
end Go.AM
namespace Go.AM
section
variable {S:W8}{P:Program}{pr:Prop}{sc:SC}{k:Env->B5->Prop}
end
end Go.AM
namespace Go.AM
section
variable {S:W8}{P:Program}{F:I8}{g:Cfg}{pr:Prop}
theorem Gq (regs:B5)(d t:Nat)(x:Obj):A1 (ins d x regs) t=if d=t then some x else A1 regs t:=by
 induction regs with
 |nil=>simp[ins,A1]
 |cons p r ih=>
  obtain⟨i,b⟩:=p;simp only[ins];split
  .simp only[A1]
  split
  .rename_i h;subst h;simp only[A1];split<;>rfl
  rename_i h1 a;simp only[A1,ih];by_cases h:i=t
  .simp only[h,Lo];rw[Lm (by omega)]
  simp only[h,Lp]
def ylE:Cfg->Option (List PV×List (List PV))
 |.ops all (o::_) _ st=>match Bs all st.env o,o.op with
  |some true,.call c=>match c.callee with
   |.value f=>match aev st.env f,c.args.toList.map (aev st.env)with
    |.yf j,[.vec jw]=>match A1 st.regs j,A1 st.regs jw with
     |some (.yld L true),some (.vec e m n f false)=>if Dn j st.regs then some (Dp e m n f,L)else none
     |_,_=>none
    |_,_=>none
   |_=>none
  |_,_=>none
 |_=>none
def ylK (b:Bool)(rest:List (List PV)):Cfg->Cfg
 |.ops all (o::ops) K st=>match o.op with
  |.call c=>match c.callee with
   |.value f=>match aev st.env f with
    |.yf j=>ZO o.dst (.p (.bb b)) st.env (ins j (.yld rest b) st.regs) fun st=>.ops all ops K st
    |_=>.ops all (o::ops) K st
   |_=>.ops all (o::ops) K st
  |_=>.ops all (o::ops) K st
 |g=>g
theorem An3 (hS:G8 S P)(hc:pr){ys:List PV}{rest:List (List PV)}(ht:KG S P F (ylK true rest (stp P g)))(l:KG S P F (ylK false [] (stp P g)))(hp:pr=D0 (cnd P g):=by kernel_rfl)(a:ylE (stp P g)=some (ys,ys::rest):=by kernel_rfl):KG S P F g:=by
 refine⟨DX hS hc ?_ hp⟩;replace ht:=ht.out;replace l:=l.out;generalize stp P g=g' at a ht l;unfold ylE at a;split at a
 .rename_i all o ops K st;split at a
  .rename_i c hg q;split at a
   .rename_i f d;split at a
    .rename_i j jw hy ha;split at a
     .rename_i L e m n f' r hw;split at a
      .rename_i i;simp only[AQ2,AR3]at a;obtain⟨rfl,rfl⟩:=a;simp only[ylK,q,d,hy,Fm]at ht l;refine Bz hS hg ?_;unfold wOp;obtain⟨callee,cargs,types⟩:=c;simp only at d ha;subst d;rw[q];refine .inr (.inr (.inr ⟨j,jw,e,m,n,f',rest,⟨hy,ha,hw⟩,r,i,fun b=>?_⟩));cases b
       .exact l
       exact ht
      cases a
     cases a
    cases a
   cases a
  cases a
 cases a
def LL (S:W8)(P:Program)(body:Code)(gh j:Nat)(ts:List Nat)(o:Obj)(next:St->Prop)(Q:I8):I8
 |.normal,s=>S.up s fun s=>awp S P body (KB S gh j ts o next Q) s
 |_,_=>False
def AM3 (gh j:Nat)(o:Obj)(t:St):St:=⟨[],ins j o (ins gh (.ghost (t.env.map (·.2))) t.regs)⟩
def ZW (gh j:Nat)(ps:Array Tmp)(o:Obj)(t:St):St:=⟨ins (ps.getD 0 0) (.vec j) t.env,ins j o (ins gh (.ghost (t.env.map (·.2))) t.regs)⟩
structure LoopOk (ts:List Nat) (gh j:Nat) (o:Obj) (t:St):Prop where
 keys:t.env.map (·.1)=ts
 hg:A1 t.regs gh=none
 hj:A1 t.regs j=none
 back:(⟨S5 ts (t.env.map (·.2)),del j (del gh (ins j o (ins gh (.ghost (t.env.map (·.2))) t.regs)))⟩:St)=t
 env:(t.env.map (·.2)).all (inA (t.regs.map (·.1)))=true
 regs:t.regs.all (fun p=>inO (t.regs.map (·.1)) p.2)=true
theorem LoopOk.endL {ts:List Nat}{gh j:Nat}{o:Obj}{t:St}(h:LoopOk ts gh j o t)(a:j≠gh):endL gh j ts o (AM3 gh j o t) (t.env.map (·.2)):=by
 have hb:=congrArg St.regs h.back;simp only at hb;refine⟨⟨?_,by rw[<- h.keys];simp,?_⟩,⟨?_,?_⟩,?_,?_⟩
 .show A1 (ins j o (ins gh _ _)) gh=_;rw[Gq,Lm a,Mt]
 .show A1 (ins j o _) j=_;rw[Mt]
 .show A1 (del j (del gh (ins j o (ins gh _ _)))) gh=none;rw[hb];exact h.hg
 .show A1 (del j (del gh (ins j o (ins gh _ _)))) j=none;rw[hb];exact h.hj
 .show List.all _ (inA ((del j (del gh (ins j o (ins gh _ _)))).map (·.1)))=true;rw[hb];exact h.env
 show List.all (del j (del gh (ins j o (ins gh _ _)))) (fun p=>inO ((del j (del gh (ins j o (ins gh _ _)))).map (·.1)) p.2)=true;rw[hb];exact h.regs
theorem An4 (hS:G8 S P)(hc:pr){f:FuncId}{as bs:List AV}{objs:List Obj}{R T A:Type}{e:TypeId}{m:Nat}{nT:T->Nat}{fT:T->Nat->List PV}{L:List T}{mb:(A->Option R)->T->A->Option R}{mk:A->Option R}{a0:A}{r:R}
 (ids ts:List Nat) (gh j:Nat) (s:A->St) {idl:List (Nat×Nat)}(h:O1 L mb mk a0=some r) (hF:Dh S f as bs objs (L.map fun t=>Dp e m (nT t) (fT t))) (hs:∀a o,LoopOk ts gh j o (s a))
 (d:∀(t:T) (next:St->Prop) (i:A->Option R) (a:A),
  (∀(g' : Cfg) (ids:List (Nat×Nat)) (pr:Prop) (a:A),pr->i a=some r->(hp:pr=D0 (cnd P g'):=by kernel_rfl)->(c:stp P g' = .pop .normal [] (stp P g').st:=by kernel_rfl)->(hle:KLe ids (stp P g').st (AM3 gh j (.vec e m (nT t) (fT t) false) (s a)):=by exact kl)->KG S P (KB S gh j ts (.vec e m (nT t) (fT t) false) next (kp S P (stp P g).k F)) g') ->
  mb i t a=some r->KG S P (LL S P (Pk (stp P g)) gh j ts (.vec e m (nT t) (fT t) false) next (kp S P (stp P g).k F)) (.code (Pj (stp P g)) [] (ZW gh j (FL (stp P g)) (.vec e m (nT t) (fT t) false) (s a))))
 (n:∀a,mk a=some r->KG S P F (.pop .normal (stp P g).k (s a)))
 (hp:pr=D0 (cnd P g):=by kernel_rfl) (c:Ph P ids (stp P g)=some (f,as,bs,objs):=by kernel_rfl) (v:(FL (stp P g)).size=1:=by kernel_rfl) (hgh:Nat.blt gh 1000=true:=by kernel_rfl) (hj:Nat.blt j 1000=true:=by kernel_rfl) (w:Nat.beq j gh=false:=by kernel_rfl) (y:A1 (stp P g).st.regs gh=none:=by kernel_rfl) (hts:G0 ts=true:=by kernel_rfl)
 (hle:KLe idl (Pl ids ts (stp P g)) (s a0):=by exact kl):KG S P F g:=by
 have hfn:=(DZ c).2;replace c:=(DZ c).1;have q : j≠gh:=by rintro rfl;rw[show Nat.beq j j=true from by simp]at w;cases w
 have z:∀{l:List Nat},G0 l=true->l.Nodup:=by
  intro l
  induction l with
  |nil=>intro _;exact AX5
  |cons a r ih=>intro h;simp only[G0,AQ7,AS7,AU6,decide_eq_false_iff_not]at h;exact AW0.2 ⟨h.1,ih h.2⟩
 have hj' : j<1000:=by simpa[AZ3]using hj
 refine⟨DX hS hc ?_ hp⟩;generalize stp P g=g1 at d n c y hle v;unfold KN at c;split at c
 .rename_i op ps asg body K st;split at c
  .rename_i f' first caps hpo
   split at c
   .rename_i objs' as' bs' h2 h3 h4;split at c
    .rename_i hh;simp only[AQ2,AR3]at c;obtain⟨rfl,rfl,rfl,rfl⟩:=c;simp only[AQ7,AS7,beq_iff_eq]at hh;obtain⟨⟨⟨e3,e4⟩,e5⟩,e6⟩:=hh
     let J:List (List PV)->A->Prop:=fun rest a=>∃L',rest=L'.map (fun t=>Dp e m (nT t) (fT t))/\O1 L' mb mk a=some r
     refine⟨f',first,caps,as',bs',objs',ids,ts,gh,some j,_,Wn s J,fun _ r=>∃a,r=.ret a,hpo,hfn,e3,e4,h3,h4,h2,by simpa[AZ3]using hgh,y,by simpa[AZ3]using e6,z hts,fun ys hy=>⟨v,?_⟩,hS.le idl _ _ _ hle.out ⟨(hs a0 .dead).keys,(hs a0 .dead).hg,a0,rfl,L,rfl,h⟩,?_,?_,?_⟩
     .obtain⟨t,_,rfl⟩:=AU2.1 hy;exact⟨_,_,_,_,rfl⟩
     .rintro ys rest _ _ _ ⟨x,rfl,L',hL,hx⟩;cases L' with
      |nil=>cases hL
      |cons t L'=>
       simp only[AR9,AV7]at hL;obtain⟨rfl,rfl⟩:=hL;refine⟨⟨hj',q,(hs x .dead).hj⟩,fun e' k' n' f0 hy=>?_⟩;simp only[Dp,AV7,PV.agg.injEq,PV.iface.injEq,PV.sl.injEq,and_true,true_and]at hy;obtain⟨rfl,rfl,rfl,rfl⟩:=hy;have hr:=(d t (Wn s J (L'.map fun t=>Dp e m (nT t) (fT t))) (O1 L' mb mk) x (fun g' ids' pr a hc u hp c hle=>⟨DX hS hc ?_ hp⟩) hx).out
       .have e0:LL S P body gh j ts (.vec e m (nT t) (fT t) false) (Wn s J (L'.map fun t=>Dp e m (nT t) (fT t))) (kp S P K F)=fun e' s'=>match e' with
         |.normal=>S.up s' fun s'=>awp S P body (KB S gh j ts (.vec e m (nT t) (fT t) false) (Wn s J (L'.map fun t=>Dp e m (nT t) (fT t))) (kp S P K F)) s'
         |_=>False:=by funext e' s';cases e'<;>rfl
        have a1 : awp S P asg (LL S P body gh j ts (.vec e m (nT t) (fT t) false) (Wn s J (L'.map fun t=>Dp e m (nT t) (fT t))) (kp S P K F)) (ZW gh j ps (.vec e m (nT t) (fT t) false) (s x)):=hr;rw[e0]at a1;exact a1
       rw[c];have hq:=hs a (.vec e m (nT t) (fT t) false);exact hS.le ids' _ _ _ hle.out ⟨_,hq.endL q,a,hq.back,L',rfl,u⟩
     .rintro _ r' _ _ ⟨x,rfl,L',hL,hx⟩ ⟨a,rfl⟩;cases L' with
      |nil=>exact (n x hx).out
      |cons t L'=>cases hL
     rw[<- e5];refine hS.monoF _ _ _ _ _ ?_ hF;rintro r o ks ⟨b,h1,h2,h3⟩;exact⟨b,h1,h2,h3,fun _=>h3⟩
    cases c
   cases c
  cases c
 cases c
theorem AM4 (hS:G8 S P)(hc:pr){body:Code}{gh j:Nat}{ts:List Nat}{o:Obj}{next:St->Prop}{Q:I8}(h:KG S P (KB S gh j ts o next Q) (.code body [] (stp P g).st))(hp:pr=D0 (cnd P g):=by kernel_rfl)(a:stp P g=.pop .normal [] (stp P g).st:=by kernel_rfl):KG S P (LL S P body gh j ts o next Q) g:=by refine⟨DX hS hc ?_ hp⟩;rw[a];exact hS.refl _ _ h.out
theorem ZX (hS:G8 S P)(hc:pr){K:List It}{gh j:Nat}{ts:List Nat}{o:Obj}{next:St->Prop}(t:St){ids:List (Nat×Nat)}(hk:KG S P F (.pop (AL1 (stp P g)) K t))(ht:LoopOk ts gh j o t)(hp:pr=D0 (cnd P g):=by kernel_rfl)(c:WB (stp P g)=true:=by kernel_rfl)(b:Nat.beq j gh=false:=by kernel_rfl)
 (hle:KLe ids (stp P g).st (AM3 gh j o t):=by exact kl):KG S P (KB S gh j ts o next (kp S P K F)) g:=by
 have a : j≠gh:=by rintro rfl;rw[show Nat.beq j j=true from by simp]at b;cases b
 refine⟨DX hS hc ?_ hp⟩;replace hk:=hk.out;generalize stp P g=g1 at hk c hle;unfold WB at c;split at c
 .refine hS.le ids _ _ _ hle.out ⟨_,ht.endL a, ?_⟩;rw[show (⟨S5 ts (t.env.map (·.2)),del j (del gh (AM3 gh j o t).regs)⟩:St)=t from ht.back];exact hk
 .refine hS.le ids _ _ _ hle.out ⟨_,ht.endL a, ?_⟩;rw[show (⟨S5 ts (t.env.map (·.2)),del j (del gh (AM3 gh j o t).regs)⟩:St)=t from ht.back];exact hk
 cases c
end
section
variable {S:W8}{P:Program}{pr:Prop}{sc:SC}{k:Env->B5->Prop}
def An5 (js:List Nat)(regs:B5):AV->Bool
 |.p _=>true
 |.vec j=>js.contains j&&(match A1 regs j with|some (.vec _ _ _ _ _)=>true|_=>false)
 |_=>false
theorem WI {js:List Nat}{regs R2:B5}(b:∀q∈js,A1 R2 q=A1 regs q):∀{as:List AV},as.all (An5 js regs)=true->Ir (HK R2 9) as=Ir (HK regs 9) as
 |[],_=>rfl
 |a::as,h=>by
  simp only[AZ5,AQ7]at h;have ha:HK R2 9 a=HK regs 9 a:=by
   cases a with
   |p x=>rfl
   |vec j=>
    simp only[An5,AQ7]at h;have hj:=b j (by simpa using h.1.1);have c:=h.1.2;simp only[HK,hj];split at c
    .rename_i d;simp only[d]
    cases c
   |_=>simp[An5]at h
  simp only[Ir,ha,WI b h.2]
def Au6 (sc:SC):Option (Prop×FuncId×List AV):=match sc.cls,sc.rest with
 |.a js::_,o::_=>match CY sc.all sc.env o,o.op with
  |some true,.call c=>match c.callee with
   |.value f=>match NG sc.env f (c.args.toList.map (aev sc.env))with
    |some (fn,as)=>match Ir (HK sc.regs 9) as with
     |some (cs,xs)=>if (as.all (An5 js sc.regs)&&(js.contains (nid (o.dst.getD 0) 0)&&(A1 sc.regs (nid (o.dst.getD 0) 0)).isNone)) then some (D0 cs,fn,xs.map .p)else none
     |none=>none
    |none=>none
   |_=>none
  |_,_=>none
 |_,_=>none
def Au7 (e:TypeId)(m n:Nat)(g:Nat->List PV)(sc:SC):SC:=match sc.rest with
 |o::rest=>AG5 o.dst (.vec (nid (o.dst.getD 0) 0)) sc.env (ins (nid (o.dst.getD 0) 0) (.vec e m n g false) sc.regs) fun env regs=>⟨sc.all,sc.cls.tail,rest,env,regs,sc.kn⟩
 |[]=>sc
theorem AC2 (hc:pr){cs:Prop}(u:cs){fn:FuncId}{args:List AV}{e1:TypeId}{m n:Nat}{f1:Nat->List PV}(z:FunO S fn args [] (.vec 0) [.vec e1 m n f1 false] [])(v:∀i l,i<n->l<m->RR ((f1 i).getD l default)=true)(hk:DG S P (Au7 e1 m n f1 (Fc P sc)) k)
 (hp:pr=D0 (XW P sc):=by kernel_rfl) (a:Au6 (Fc P sc)=some (cs,fn,args):=by kernel_rfl):DG S P sc k:=by
 refine⟨AG4 hc ?_ hp⟩;replace hk:=hk.out;generalize Fc P sc=s at a hk;obtain⟨all,cls,rest,env,regs,kn⟩:=s;unfold Au6 at a;split at a
 .rename_i js cls' o rest' g j;simp only at g j;subst g j;split at a
  .rename_i c hg ho;split at a
   .rename_i f r;split at a
    .rename_i fn' as hw;split at a
     .rename_i cs' xs hl;split at a
      .rename_i y;simp only[AQ2,AR3]at a;obtain⟨rfl,rfl,rfl⟩:=a;simp only[AQ7,Option.isNone_iff_eq_none]at y;obtain⟨hJ,w,d⟩:=y;have b : nid (o.dst.getD 0) 0∈js:=by simpa using w
       simp only[Au7,JN,Bc5]at hk;refine⟨true,hg,?_⟩;rw[Ll rfl];refine⟨_,_,.inr (.inr (.inr (.inr ⟨js,rfl,fun q t=>?_,fun R2 x=>⟨ins (nid (o.dst.getD 0) 0) (.vec e1 m n f1 false) R2,.inr ⟨c,f,fn',as,cs',xs,e1,m,n,f1,ho,r,hw,(WI x hJ).trans hl,u,z,v,(x _ b).trans d,rfl,rfl⟩,fun q t=>?_,fun q t=>?_⟩⟩))),hk⟩
       .rw[Gq,Lm (by rintro rfl;exact t b)]
       .rw[Gq,Gq,x q t]
       rw[Gq,Lm (by rintro rfl;exact t b)]
      cases a
     cases a
    cases a
   cases a
  cases a
 cases a
end
end Go.AM
namespace Go.AM
def appQ1 {α : Type}{c : α -> List PV}{v:Sl α}{x : α}{bf sf:Nat->List PV}(hb:∀i,i<v.n->bf i=c (v.g i))(hx:leC (sf 0) (c x)):∀i,i<v.n+1->leC (Cb v.n bf sf i) (c ((v.push x).g i)):=by
 intro i a;unfold Cb Sl.push;by_cases h:i<v.n
 .simp only[h,Lo,hb i h];exact leCr _
 obtain rfl:i=v.n:=by omega
 simpa using hx
end Go.AM
namespace Go.AM
def Au8 (j n:Nat)(f:Nat->PV):Cfg->Cfg
 |.ops all rest K st=>mkO st.env (ins j (.arr n f) st.regs) fun env regs=>.ops all rest K ⟨env,regs⟩
 |g=>g
def An6 {S:W8}{P:Program}{F:I8}{g:Cfg}{pr:Prop}(hS:G8 S P)(hc:pr)(d j n:Nat)(f:Nat->PV)(hk:KG S P F (Au8 j n f (Gk P d g)))(hp:pr=D0 (AG3 P d g):=by kernel_rfl)
 (a:Gl (Gk P d g)=true:=by kernel_rfl) (b:A1 (Gk P d g).st.regs j=some (.cells (Ag2 n f)):=by kernel_rfl):KG S P F g:=by
 refine⟨(Gd (u:=some d) (F:=F) hS 400 [] g (by subst hp;exact hc)).2 ?_⟩;have hk:=hk.out;show G S P F (Gk P d g);generalize Gk P d g=g1 at hk a b;unfold Gl at a;split at a
 .simp only[Au8,EK]at hk;exact RY hS (hS.toArr _ j n f _ b hk)
 cases a
end Go.AM
