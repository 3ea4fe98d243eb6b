/- Part 5. -/
import Derived.Test.YtcoileenpgjmoaaGreatDoorSD
import Derived.KernelRfl
import Derived.Laws.IdiomRangeMap
set_option linter.defProp false
set_option linter.unusedSimpArgs false
set_option linter.unusedVariables false
set_option linter.unusedSectionVars false
namespace Go.AM
def Fb:=True.intro
def Bk1:=@Nat.le_of_ble_eq_true
def Bk5:=@List.mem_singleton
def Bl0:=@List.tail_cons
def Bp3:=@List.range_succ
def Br9:=@List.map_append
def Bu1:=@List.isEmpty_iff
def Bu3:=@Nat.lt_of_succ_lt_succ
def Bv9:=@List.getD_cons_succ
def Bw7:=@List.set_cons_succ
section
variable (P:Program)
def stp (g:Cfg):Cfg:=(run P none 400 [] g).cfg
def cnd (g:Cfg):List Prop:=(run P none 400 [] g).conds
def Hq (d:Nat)(g:Cfg):Cfg:=(run P (some d) 400 [] g).cfg
def AM5 (d:Nat)(g:Cfg):List Prop:=(run P (some d) 400 [] g).conds
def Cfg.st:Cfg->St
 |.code _ _ s=>s
 |.ops _ _ _ s=>s
 |.pop _ _ s=>s
def Cfg.k:Cfg->List It
 |.code _ K _=>K
 |.ops _ _ K _=>K
 |.pop _ K _=>K
def mkO {R:Type _}(env:Env)(regs:C5)(κ : Env->C5->R):R:=fE env λenv=>fR regs λregs=>κ env regs
theorem Gn {R:Type _}(env:Env)(regs:C5)(κ : Env->C5->R):mkO env regs κ = κ env regs:=by simp only[mkO,fE_eq,AJ4]
def ZX {R:Type _}(d:Option Nat)(a:AV)(env:Env)(regs:C5)(κ : St->R):R:=match d with
 |some d=>mkO (ins d a env) regs λenv regs=>κ ⟨env,regs⟩
 |none=>mkO env regs λenv regs=>κ ⟨env,regs⟩
theorem FQ {R:Type _}(d:Option Nat)(a:AV)(env:Env)(regs:C5)(κ : St->R):ZX d a env regs κ = κ (put ⟨env,regs⟩ d a):=by cases d<;>simp only[ZX,Gn,put]
def Aw2:Cfg->Option Bool
 |.code (.cond c _ _) _ st=>match aev st.env c with
  |.p (.bb b)=>some b
  |_=>none
 |_=>none
def AM6:Cfg->Cfg
 |.code (.cond _ t _) K st=>.code t K st
 |g=>g
def AM7:Cfg->Cfg
 |.code (.cond _ _ e) K st=>.code e K st
 |g=>g
def YK:Cfg->Option Bool
 |.ops all (o::_) _ st=>match o.guard with
  |some (j,_)=>match AU1 all j with
   |some d=>match get st.env d with
    |.p (.bb b)=>some b
    |_=>none
   |none=>none
  |none=>none
 |_=>none
def Oi (b:Bool):Cfg->Cfg
 |.ops all (o::rest) K st=>match o.guard with
  |some (j,_)=>match AU1 all j with
   |some d=>ZX (some d) (.p (.v (.bool b))) st.env st.regs λst=>.ops all (o::rest) K st
   |none=>.ops all (o::rest) K st
  |none=>.ops all (o::rest) K st
 |g=>g
def ZY (ids:List Nat):Cfg->Option (FuncId×List AV×List Obj)
 |.ops all (o::_) _ st=>match BC all st.env o,o.op with
  |some true,.call c=>match c.callee with
   |.value f=>match HK st.regs (c.args.toList.map (aev st.env))with
    |some (as,regs)=>match QN st.env f as with
     |some (fn,as')=>match Eg ids as',M0 ids regs ids with
      |some a,some ob=>if I2 ids&&FA ob then some (fn,a,ob)else none
      |_,_=>none
     |none=>none
    |none=>none
   |_=>none
  |_,_=>none
 |_=>none
def ZZ (ids:List Nat)(ks:List Bool)(n:Nat):Cfg->Bool
 |.ops _ (o::_) _ st=>match o.op with
  |.call c=>match HK st.regs (c.args.toList.map (aev st.env))with
   |some (_,regs)=>X2 regs ids ks (o.dst.getD 0) n
   |none=>false
  |_=>false
 |_=>false
def Aw3 (ids:List Nat)(ks:List Bool)(r:AV)(objs' : List Obj):Cfg->Cfg
 |.ops all (o::rest) K st=>match o.op with
  |.call c=>match HK st.regs (c.args.toList.map (aev st.env))with
   |some (_,regs)=>ZX o.dst (unA (H5 (o.dst.getD 0) ids ks objs'.length) r) st.env
    (back (H5 (o.dst.getD 0) ids ks objs'.length) (H5 (o.dst.getD 0) ids ks objs'.length) objs' (K6 ids ks regs)) λst=>.ops all rest K st
   |none=>.ops all (o::rest) K st
  |_=>.ops all (o::rest) K st
 |g=>g
structure LookI where
 kt:TypeId
 e:TypeId
 key:PV
 es:List (PV×PV)
def Aj2:Cfg->Option LookI
 |.ops all (o::_) _ st=>match BC all st.env o,o.op with
  |some true,.lookup t m k _=>match Ef st.regs (aev st.env k),aev st.env m with
   |some (key,regs),.mref j=>match A1 regs j,tk P t with
    |some (.map es),some (.map kt e)=>if Gg P kt key then some ⟨kt,e,key,es⟩else none
    |_,_=>none
   |_,_=>none
  |_,_=>none
 |_=>none
def UH (e:TypeId):Option PV->Option (PV×Bool)
 |some x=>some (x,true)
 |none=>(Hm P e).map λz=>(z,false)
def Aj3 (x:PV)(b:Bool):Cfg->Cfg
 |.ops all (o::rest) K st=>match o.op with
  |.lookup _ _ k ok=>match Ef st.regs (aev st.env k)with
   |some (_,regs)=>ZX o.dst (if ok then .tup [.p x,.bool b]else .p x) st.env regs λst=>.ops all rest K st
   |none=>.ops all (o::rest) K st
  |_=>.ops all (o::rest) K st
 |g=>g
def Bd3:Cfg->Option (TypeId×PV×PV×List (PV×PV))
 |.ops all (o::_) _ st=>match BC all st.env o,o.op with
  |some true,.mapUpdate t m k x=>match aev st.env k,aev st.env m,Ef st.regs (aev st.env x)with
   |.p key,.mref j,some (y,regs)=>match A1 regs j,tk P t with
    |some (.map es),some (.map kt _)=>if Gg P kt (nP key) then some (kt,nP key,y,es)else none
    |_,_=>none
   |_,_,_=>none
  |_,_=>none
 |_=>none
def Bd4 (es' : List (PV×PV)):Cfg->Cfg
 |.ops all (o::rest) K st=>match o.op with
  |.mapUpdate _ m _ x=>match aev st.env m,Ef st.regs (aev st.env x)with
   |.mref j,some (_,regs)=>ZX o.dst Km st.env (ins j (.map es') regs) λst=>.ops all rest K st
   |_,_=>.ops all (o::rest) K st
  |_=>.ops all (o::rest) K st
 |g=>g
def HV:Cfg->Bool
 |.code (.loop _) _ _=>true
 |_=>false
def PU:Cfg->Code
 |.code (.loop b) _ _=>b
 |_=>.skip
def popSt:Cfg->Option St
 |.pop .normal _ st=>some st
 |_=>none
def UI (M:It):Nat->List It->List It
 |0,K=>M::K
 |n+1,i::K=>i::UI M n K
 |_+1,[]=>[M]
def AW2 (n:Nat)(M:St->Prop):Cfg->Cfg
 |.code c K st=>.code c (UI (.mid M) n K) st
 |.ops all rest K st=>.ops all rest (UI (.mid M) n K) st
 |.pop e K st=>.pop e (UI (.mid M) n K) st
def JT:Cfg->Bool
 |.ops _ (_::_) _ _=>true
 |_=>false
def opsS (st:St):Cfg->Cfg
 |.ops all rest K _=>.ops all rest K st
 |g=>g
def Aw4:Cfg->Option St
 |.pop .ret [] st=>some st
 |.pop .normal [] st=>some st
 |_=>none
inductive Leaf where
 |eq (x y:PV)
 |fn (n m:Nat) (f g:Nat->List PV)
 |mp (x y:List (PV×PV))
 |yl (x y:List (List PV)) (b c:Bool)
 |nt (a b:Nat)
 |ob (n:Nat) (f g:Nat->Obj)
inductive LV where
 |eq (x:PV)
 |fn (n:Nat) (f:Nat->List PV)
 |mp (x:List (PV×PV))
 |yl (x:List (List PV)) (b:Bool)
 |nt (a:Nat)
 |ob (f:Nat->Obj)
def Leaf.src:Leaf->LV
 |.eq x _=>.eq x
 |.fn n _ f _=>.fn n f
 |.mp x _=>.mp x
 |.yl x _ b _=>.yl x b
 |.nt a _=>.nt a
 |.ob _ f _=>.ob f
def Leaf.tgt:Leaf->LV
 |.eq _ y=>.eq y
 |.fn _ m _ g=>.fn m g
 |.mp _ y=>.mp y
 |.yl _ y _ c=>.yl y c
 |.nt _ b=>.nt b
 |.ob _ _ g=>.ob g
def Leaf.ok:Leaf->Prop
 |.eq x y=>x=y
 |.fn n m f g=>n=m/\∀i,i<n->f i=g i
 |.mp x y=>x=y
 |.yl x y b c=>x=y/\b=c
 |.nt a b=>a=b
 |.ob n f g=>∀i,i<n->f i=g i
theorem Leaf.ok_of {l:Leaf}(h:l.src=l.tgt):l.ok:=by
 cases l with
 |eq x y=>simp only[Leaf.src,Leaf.tgt,LV.eq.injEq]at h;exact h
 |fn n m f g=>simp only[Leaf.src,Leaf.tgt,LV.fn.injEq]at h;obtain⟨rfl,rfl⟩:=h;exact⟨rfl,λ_ _=>rfl⟩
 |mp x y=>simp only[Leaf.src,Leaf.tgt,LV.mp.injEq]at h;exact h
 |yl x y b c=>simp only[Leaf.src,Leaf.tgt,LV.yl.injEq]at h;exact h
 |nt a b=>simp only[Leaf.src,Leaf.tgt,LV.nt.injEq]at h;exact h
 |ob n f g=>simp only[Leaf.src,Leaf.tgt,LV.ob.injEq]at h;subst h;exact λ_ _=>rfl
def AM8:PV->PV->Leaf
 |.v (.bool b),.bb c=>.eq (.bb b) (.bb c)
 |.v (.slice none 0 0),.sl false _ n f=>.fn 0 n f f
 |.sl nn k n f,.sl false l m g=>if k=l then .fn n m f g else .eq (.sl nn k n f) (.sl false l m g)
 |x,y=>.eq x y
mutual
def JU (regs:C5)(ids:List (Nat×Nat))(a b:AV):Option (List Leaf):=
 match b with
 |.top=>some []
 |.p y=>match viewP regs a with
  |some x=>some [AM8 x y]
  |none=>none
 |.reg j off=>match a with | .reg i off'=>if lk ids j=some i/\off=off' then some []else none|_=>none
 |.vec j=>match a with
  |.vec i=>if lk ids j=some i then some []else none
  |.p (.v (.slice none 0 0))=>if lk ids j=none then some []else none
  |_=>none
 |.vecp j n=>match a with | .vecp i m=>if lk ids j=some i/\n=m then some []else none|_=>none
 |.elt j k n off=>match a with | .elt i k' n' off'=>if lk ids j=some i/\k=k' /\ n=n' /\ off=off' then some []else none|_=>none
 |.mref j=>match a with | .mref i=>if lk ids j=some i then some []else none|_=>none
 |.yf j=>match a with | .yf i=>if lk ids j=some i then some []else none|_=>none
 |.rsl j n=>match a with | .rsl i m=>if lk ids j=some i/\n=m then some []else none|_=>none
 |.clo f x y=>match a with
  |.clo f' x' y'=>match PW regs ids x' x,PW regs ids y' y with|some l,some m=>some (.nt f' f::l++m)|_,_=>none
  |_=>none
 |.tup l=>match a with | .tup l'=>PW regs ids l' l|_=>none
 |.agr l=>match a with | .agr l'=>PW regs ids l' l|_=>none
def PW (regs:C5)(ids:List (Nat×Nat))(a b:List AV):Option (List Leaf):=
 match b with
 |[]=>match a with | []=>some [] | _=>none
 |y::s=>match a with
  |x::r=>match JU regs ids x y,PW regs ids r s with|some l,some m=>some (l++m)|_,_=>none
  |[]=>none
end
def Aw5 (regs:C5)(ids:List (Nat×Nat))(env:Env):Env->Option (List Leaf)
 |[]=>some []
 |(t,b)::r=>match JU regs ids (get env t) b,Aw5 regs ids env r with|some l,some m=>some (l++m)|_,_=>none
def Oj (regs:C5)(ids:List (Nat×Nat))(o p:Obj):Option (List Leaf):=
 match p with
 |.cells cs=>match o with | .cells cs'=>PW regs ids cs' cs|_=>none
 |.vec e k n f vw=>match o with
  |.vec e' k' m g vw'=>if e=e' /\ k=k' /\ (vw' = true->vw=true)then some [.fn m n g f]else none
  |_=>none
 |.map es=>match o with | .map es'=>some [.mp es' es] | _=>none
 |.arr n f=>match o with | .arr m g=>some [.fn m n (λi=>[g i]) (λi=>[f i])] | _=>none
 |.blk l jr=>match o with | .blk l' jr'=>if lk ids jr=some jr' then some [.ob 1 (λ_=>.blk l' 0) (λ_=>.blk l 0)]else none|_=>none
 |.ghost cs=>match o with | .ghost cs'=>PW regs ids cs' cs|_=>none
 |.yld r b=>match o with | .yld r' b'=>some [.yl r' r b' b] | _=>none
 |.fam e n jr x=>match o with
  |.fam e' m jr' x'=>if e=e' /\ lk ids jr=some jr' then (match x,x' with
   |none,none=>some [.nt m n]
   |some (i,a),some (i',a')=>match nov a' a,JU regs ids a' a with
    |true,some l=>some (.nt m n :: .nt i' i::l)
    |_,_=>none
   |_,_=>none)else none
  |_=>none
 |.rows n g=>match o with | .rows m g'=>some [.nt m n,.ob n g' g] | _=>none
 |.dead=>some []
def Aw6 (regs:C5)(ids:List (Nat×Nat)):C5->Option (List Leaf)
 |[]=>some []
 |(j,p)::r=>match (match lk ids j with
  |some i=>match A1 regs i with
   |some o=>Oj regs ids o p
   |none=>none
  |none=>match p with
   |.vec _ _ n f _=>some [.fn 0 n f f]
   |_=>none:Option (List Leaf)),Aw6 regs ids r with
  |some l,some m=>some (l++m)
  |_,_=>none
def leK (ids:List (Nat×Nat))(s t:St):Option (List Leaf):=
 if (wf t&&I2 (ids.map (·.2))&&Zv ids&&QP ids t.regs&&Mh ids (seen s.env t.env++Kr ids s.regs t.regs) t.regs) then
  match Aw5 s.regs ids s.env t.env,Aw6 s.regs ids t.regs with
  |some l,some m=>some (l++m)
  |_,_=>none
 else none
theorem Aw7 {x y:PV}(h:(AM8 x y).ok):leP x y:=by
 unfold AM8 at h;split at h
 .simp only[Leaf.ok,PV.bb.injEq]at h;subst h;exact .inr (.inr (.inr (.inl ⟨_,rfl,rfl⟩)))
 .obtain⟨rfl,_⟩:=h;exact .inr (.inr (.inl ⟨_,_,rfl,rfl⟩))
 .split at h
  .rename_i hk;subst hk;obtain⟨rfl,h⟩:=h;exact .inr (.inl ⟨_,_,_,_,_,rfl,rfl,h⟩)
  exact .inl h
 exact .inl h
theorem Ok {l m:List Leaf}(h:∀x∈l++m,x.ok):(∀x∈l,x.ok)/\∀x∈m,x.ok:=
 ⟨λx hx=>h x (Bh2 _ hx),λx hx=>h x (Bg4 _ hx)⟩
mutual
theorem Sx {regs:C5}{ids:List (Nat×Nat)}{a:AV}(b:AV){L:List Leaf}(h:JU regs ids a b=some L)(hL:∀x∈L,x.ok):leA regs ids a b:=by
 cases b with
 |top=>unfold leA;trivial
 |p y=>
  unfold JU at h;split at h
  .rename_i x hx;cases h;unfold leA;exact⟨x,hx,Aw7 (hL _ (by simp))⟩
  cases h
 |reg j off=>
  unfold JU at h;split at h
  .split at h
   .rename_i c;obtain⟨h1,rfl⟩:=c;exact AU4 h1
   cases h
  cases h
 |vec j=>
  unfold JU at h;split at h
  .split at h
   .rename_i h1;exact AU3 h1
   cases h
  .split at h
   .rename_i h1;exact AJ9 h1
   cases h
  cases h
 |vecp j n=>
  unfold JU at h;split at h
  .split at h
   .rename_i c;obtain⟨h1,rfl⟩:=c;unfold leA;exact⟨_,h1,rfl⟩
   cases h
  cases h
 |elt j k n off=>
  unfold JU at h;split at h
  .split at h
   .rename_i c;obtain⟨h1,rfl,rfl,rfl⟩:=c;unfold leA;exact⟨_,h1,rfl⟩
   cases h
  cases h
 |mref j=>
  unfold JU at h;split at h
  .split at h
   .rename_i h1;exact AK0 h1
   cases h
  cases h
 |rsl j n=>
  unfold JU at h;split at h
  .split at h
   .rename_i c;obtain⟨h1,rfl⟩:=c;unfold leA;exact⟨_,h1,rfl⟩
   cases h
  cases h
 |yf j=>
  unfold JU at h;split at h
  .split at h
   .rename_i h1;exact le_yf h1
   cases h
  cases h
 |clo f x y=>
  unfold JU at h;split at h
  .split at h
   .rename_i l m h1 g;cases h;have d:=hL _ (Bm3 ..);simp only[Leaf.ok]at d;subst d;obtain⟨i,o⟩:=Ok λx hx=>hL x (Bf7 _ hx);exact AU5 (GO x h1 i) (GO y g o)
   cases h
  cases h
 |tup l=>
  unfold JU at h;split at h
  .exact AW0 (GO l h hL)
  cases h
 |agr l=>
  unfold JU at h;split at h
  .exact AW1 (GO l h hL)
  cases h
theorem GO {regs:C5}{ids:List (Nat×Nat)}{a:List AV}(b:List AV){L:List Leaf}(h:PW regs ids a b=some L)(hL:∀x∈L,x.ok):leL regs ids a b:=by
 cases b with
 |nil=>
  unfold PW at h;split at h
  .exact AK1
  cases h
 |cons y s=>
  unfold PW at h;split at h
  .split at h
   .rename_i l m h1 c;cases h;obtain⟨d,f⟩:=Ok hL;exact As3 (Sx y h1 d) (GO s c f)
   cases h
  cases h
end
theorem YL {regs:C5}{ids:List (Nat×Nat)}{env:Env}:∀(t:Env) {L:List Leaf},Aw5 regs ids env t=some L->(∀x∈L,x.ok)->RU regs ids env t
 |[],_,_,_=>trivial
 |(t,b)::r,L,h,hL=>by
  simp only[Aw5]at h;split at h
  .rename_i l m h1 a;cases h;obtain⟨c,d⟩:=Ok hL;exact⟨Sx b h1 c,YL r a d⟩
  cases h
theorem Aw8 {regs:C5}{ids:List (Nat×Nat)}{o p:Obj}{L:List Leaf}(h:Oj regs ids o p=some L)(hL:∀x∈L,x.ok):leO regs ids o p:=by
 cases p with
 |cells cs=>
  simp only[Oj]at h;split at h
  .exact As4 (GO cs h hL)
  cases h
 |vec e k n f vw=>
  simp only[Oj]at h;split at h
  .split at h
   .rename_i c;obtain⟨rfl,rfl,j⟩:=c;cases h;obtain⟨rfl,h1⟩:=hL _ (Bk5.2 rfl);exact⟨_,_,rfl,h1,j⟩
   cases h
  cases h
 |map es=>
  simp only[Oj]at h;split at h
  .cases h
   have:=hL _ (Bk5.2 rfl)
   simp only[Leaf.ok]at this;subst this;rfl
  cases h
 |blk l jr=>
  simp only[Oj]at h;split at h
  .split at h
   .rename_i c;cases h;have h1:=hL _ (Bk5.2 rfl);have m:=h1 0 (Bu0 0);cases m;exact⟨_,rfl,c⟩
   cases h
  cases h
 |arr n f=>
  simp only[Oj]at h;split at h
  .cases h;obtain⟨rfl,h1⟩:=hL _ (Bk5.2 rfl);exact⟨_,rfl,λi q=>by simpa using h1 i q⟩
  cases h
 |ghost cs=>
  simp only[Oj]at h;split at h
  .exact⟨_,rfl,GO cs h hL⟩
  cases h
 |yld r b=>
  simp only[Oj]at h;split at h
  .cases h;obtain⟨rfl,rfl⟩:=hL _ (Bk5.2 rfl);rfl
  cases h
 |fam e n jr x=>
  simp only[Oj]at h;split at h
  .split at h
   .rename_i s;obtain⟨rfl,d⟩:=s;split at h
    .cases h;have a:=hL _ (Bm3 ..);simp only[Leaf.ok]at a;subst a;exact⟨_,_,rfl,d,rfl⟩
    .split at h
     .rename_i hn hl;cases h;have a:=hL _ (Bm3 ..);have h1:=hL _ (Bf7 _ (Bm3 ..));simp only[Leaf.ok]at a h1;subst a h1;exact⟨_,_,rfl,d,_,rfl,hn,Sx _ hl λx hx=>hL x (by simp[hx])⟩
     cases h
    cases h
   cases h
  cases h
 |rows n g=>
  simp only[Oj]at h;split at h
  .cases h;have a:=hL _ (Bm3 ..);simp only[Leaf.ok]at a;subst a;exact⟨_,rfl,hL (.ob _ _ _) (by simp)⟩
  cases h
 |dead=>trivial
theorem YM {regs:C5}{ids:List (Nat×Nat)}:∀(t:C5) {L:List Leaf},Aw6 regs ids t=some L->(∀x∈L,x.ok)->TY regs ids t
 |[],_,_,_=>trivial
 |(j,p)::r,L,h,hL=>by
  simp only[Aw6]at h;split at h
  .rename_i l m h1 c;cases h;obtain⟨b,d⟩:=Ok hL;refine⟨?_,YM r c d⟩;split at h1
   .rename_i i a;split at h1
    .rename_i o f;exact .inl ⟨i,o,a,f,Aw8 h1 b⟩
    cases h1
   rename_i a;split at h1
   .cases h1;obtain⟨rfl,_⟩:=b _ (Bk5.2 rfl);exact .inr ⟨a,_,_,_,_,rfl⟩
   cases h1
  cases h
theorem AG1 {ids:List (Nat×Nat)}{s t:St}{L:List Leaf}(h:leK ids s t=some L)(hL:∀x∈L,x.ok):Le ids s t:=by
 unfold leK at h;split at h
 .rename_i hw;split at h
  .rename_i l m h1 a;cases h;obtain⟨b,c⟩:=Ok hL;exact le_mk hw (YL _ h1 b) (YM _ a c)
  cases h
 cases h
theorem kle {ids:List (Nat×Nat)}{s t:St}(h:(leK ids s t).map (·.map Leaf.src)=(leK ids s t).map (·.map Leaf.tgt):=by kernel_rfl)(h1:(leK ids s t).isSome=true:=by kernel_rfl):Le ids s t:=by
 obtain⟨L,hL⟩:=Bf6.1 h1;rw[hL]at h;simp only[Bf2,Be2]at h;refine AG1 hL λx hx=>?_;obtain⟨i,a,rfl⟩:=Bn5.1 hx
 have:=congrArg (·[i]?) h
 simp only[Be5,Be3 a,Bf2,Be2]at this;exact Leaf.ok_of this
def Aw9 (is:List Nat)(f:Leaf->LV)(L:List Leaf):List (Option LV):=L.zipIdx.map λq=>if is.contains q.2 then none else some (f q.1)
theorem kleR {ids:List (Nat×Nat)}{s t:St}(rs:List (Nat×Leaf))(d:∀q∈rs,q.2.ok)(h:(leK ids s t).map (Aw9 (rs.map (·.1)) Leaf.src)=(leK ids s t).map (Aw9 (rs.map (·.1)) Leaf.tgt):=by kernel_rfl)
 (a:(leK ids s t).map (λL=>rs.map λq=>L[q.1]?)=some (rs.map λq=>some q.2):=by kernel_rfl):Le ids s t:=by
 cases hL:leK ids s t with
 |none=>rw[hL]at a;cases a
 |some L=>
  rw[hL]at h a;simp only[Bf2,Be2]at h a;refine AG1 hL λx hx=>?_;obtain⟨i,b,rfl⟩:=Bn5.1 hx;by_cases hm:(rs.map (·.1)).contains i=true
  .simp only[Bh4,decide_eq_true_eq,Bk8]at hm;obtain⟨q,c,rfl⟩:=hm;obtain⟨k,hk,rfl⟩:=Bn5.1 c
   have:=congrArg (·[k]?) a
   simp only[Be5,Be3 hk,Bf2,Be2,Be3 b]at this;rw[this];exact d _ c
  have:=congrArg (·[i]?) h
  simp only[Aw9,Be5,List.getElem?_zipIdx,Be3 b,Bf2,Bi7,hm,Be2]at this;exact Leaf.ok_of (by simpa using this)
end
section
variable {P:Program}
variable {S:V2}{F:L7}{g:Cfg}{pr:Prop}
theorem FB (hS:G8 S P)(hc:pr)(h:G S P F (stp P g))(hp:pr=C6 (cnd P g):=by kernel_rfl):G S P F g:=
 (GG (F:=F) hS 400 [] g (by subst hp;exact hc)).2 h
theorem AW3 (hS:G8 S P)(hc:pr){b:Bool}(ht:b=true->G S P F (AM6 (stp P g)))(a:b=false->G S P F (AM7 (stp P g)))(hp:pr=C6 (cnd P g):=by kernel_rfl)(hb:Aw2 (stp P g)=some b:=by kernel_rfl):G S P F g:=by
 refine FB hS hc ?_ hp;generalize stp P g=g' at hb ht a;unfold Aw2 at hb;split at hb
 .split at hb
  .rename_i hc;cases hb;exact AU0 hc ht a
  cases hb
 cases hb
theorem AM9 (hS:G8 S P)(hc:pr){b:Bool}(ht:b=true->G S P F (Oi true (stp P g)))(a:b=false->G S P F (Oi false (stp P g)))(hp:pr=C6 (cnd P g):=by kernel_rfl)(hb:YK (stp P g)=some b:=by kernel_rfl):G S P F g:=by
 refine FB hS hc ?_ hp;generalize stp P g=g' at hb ht a;unfold YK at hb;split at hb
 .split at hb
  .rename_i d;split at hb
   .rename_i f;split at hb
    .rename_i c;cases hb;simp only[Oi,d,f,FQ,put]at ht a;exact AJ6 hS d f c ht a
    cases hb
   cases hb
  cases hb
 cases hb
theorem AW4 (hS:G8 S P)(ids:List Nat)(hc:pr){fn:FuncId}{args:List AV}{objs objs' : List Obj}{r:AV}{ks:List Bool}(i:FunO S fn args objs r objs' ks)
 (hk:G S P F (Aw3 ids ks r objs' (stp P g))) (hp:pr=C6 (cnd P g):=by kernel_rfl) (a:ZY ids (stp P g)=some (fn,args,objs):=by kernel_rfl) (hn:ZZ ids ks objs'.length (stp P g)=true:=by kernel_rfl):G S P F g:=by
 refine FB hS hc ?_ hp;generalize stp P g=g' at a hn hk;unfold ZY at a;split at a
 .split at a
  .rename_i j f;split at a
   .rename_i c;split at a
    .rename_i ha;split at a
     .rename_i hw;split at a
      .rename_i l d;split at a
       .rename_i b;cases a;simp only[Be4]at b;simp only[Aw3,ZZ,f,ha,FQ]at hk hn;exact AJ7 hS ids j f c ha hw l d i b.1 b.2 hn hk
       cases a
      cases a
     cases a
    cases a
   cases a
  cases a
 cases a
theorem Ax0 (hS:G8 S P)(hc:pr){kt e:TypeId}{key:PV}{es:List (PV×PV)}{x:PV}{b:Bool}{fd:Option PV}
 (j:find (HF P kt) key es=some fd) (c:C6 (Hl P kt))
 (hk:G S P F (Aj3 x b (stp P g))) (hp:pr=C6 (cnd P g):=by kernel_rfl) (a:Aj2 P (stp P g)=some ⟨kt,e,key,es⟩:=by kernel_rfl) (hx:UH P e fd=some (x,b):=by kernel_rfl):G S P F g:=by
 refine FB hS hc ?_ hp;generalize stp P g=g' at a hk;unfold Aj2 at a;split at a
 .split at a
  .rename_i l f;split at a
   .rename_i i hm;split at a
    .rename_i m ht;split at a
     .rename_i d;simp only[Be2,LookI.mk.injEq]at a;obtain⟨rfl,rfl,rfl,rfl⟩:=a;simp only[Aj3,f,i,FQ]at hk;cases fd with
      |some y=>exact YH (fd:=some y) hS l f i hm m ht d j hx c hk
      |none=>exact YH (fd:=none) hS l f i hm m ht d j hx c hk
     cases a
    cases a
   cases a
  cases a
 cases a
theorem Ax1 (hS:G8 S P)(hc:pr){kt:TypeId}{key y:PV}{es es' : List (PV×PV)}
 (j:upd (HF P kt) key y es=some es') (b:C6 (Hl P kt)) (hk:G S P F (Bd4 es' (stp P g))) (hp:pr=C6 (cnd P g):=by kernel_rfl) (a:Bd3 P (stp P g)=some (kt,key,y,es):=by kernel_rfl):G S P F g:=by
 refine FB hS hc ?_ hp;generalize stp P g=g' at a hk;unfold Bd3 at a;split at a
 .split at a
  .rename_i l d;split at a
   .rename_i h1 f i;split at a
    .rename_i m ht;split at a
     .rename_i c;simp only[Be2,Be9]at a;obtain⟨rfl,rfl,rfl,rfl⟩:=a;simp only[Bd4,d,f,i,FQ]at hk;exact WU hS l d h1 i f m ht c j b hk
     cases a
    cases a
   cases a
  cases a
 cases a
theorem AW5 (hS:G8 S P)(hc:pr)(st:St){ids:List (Nat×Nat)}(hk:G S P F (opsS st (stp P g)))(hp:pr=C6 (cnd P g):=by kernel_rfl)(a:JT (stp P g)=true:=by kernel_rfl)(hle:Le ids (stp P g).st st:=by exact kle):G S P F g:=by
 refine FB hS hc ?_ hp;generalize stp P g=g' at a hle hk;unfold JT at a;split at a
 .exact Aj1 hS st ids hle hk
 cases a
end
section
variable {S:V2}{P:Program}{F:L7}{g:Cfg}{pr:Prop}
theorem KH (hS:G8 S P){K1 K2:List It}(h:∀e s,kp S P K1 F e s->kp S P K2 F e s):∀(K:List It) (e:IT) (s:St),kp S P (K++K1) F e s->kp S P (K++K2) F e s
 |[],e,s,hk=>h e s hk
 |.code c::K,e,s,hk=>by simp only[Bg9,kp]at hk⊢;exact Sv hS (λt=>AN hS c (KH hS h K)) (KH hS h K) e s hk
 |.blk id::K,e,s,hk=>by
  simp only[Bg9,kp]at hk⊢;cases e with
  |exit i=>
   simp only[blk]at hk⊢;split at hk
   .rename_i a;rw[Dq a];exact KH hS h K _ _ hk
   rename_i a;rw[Ej a];exact KH hS h K _ _ hk
  |_=>exact KH hS h K _ _ hk
 |.lp X s' J m n::K,e,s,hk=>by
  simp only[Bg9,kp]at hk⊢;cases e with
  |normal=>exact hk
  |_=>exact KH hS h K _ _ hk
 |.mid M::K,e,s,hk=>by simp only[Bg9,kp]at hk⊢;exact Sv hS (λt h=>h) (KH hS h K) e s hk
 |.scp::K,e,s,hk=>by
  simp only[Bg9,kp]at hk⊢;cases e with
  |goto l=>exact hk
  |_=>exact KH hS h K _ _ hk
theorem YN (M:It):∀(n:Nat) (K:List It),n<=K.length->UI M n K=K.take n++M::K.drop n
 |0,K,_=>by simp[UI]
 |n+1,i::K,h=>by simp only[UI,Bo0,List.drop_succ_cons,Bg9,YN M n K (by simpa using h)]
 |n+1,[],h=>by simp at h
theorem AG2 (hS:G8 S P)(a:∀s,S.up s (F .normal)->F .normal s)(n:Nat)(hn:n<=g.k.length){M:St->Prop}(b:∀t,M t->G S P F (.pop .normal (g.k.drop n) t))(h:G S P F (AW2 n M g)):G S P F g:=by
 have hk:∀e s,kp S P (UI (.mid M) n g.k) F e s->kp S P g.k F e s:=by
  intro e s;rw[YN _ _ _ hn]
  conv=>rhs;rw[<- Bp2 n g.k]
  exact KH hS (AV8 hS a b) _ e s
 cases g with
 |code c K st=>exact AN hS c hk h
 |ops all rest K st=>exact HT hS hk rest h
 |pop e K st=>exact hk e st h
theorem J_cut (hS:G8 S P)(hc:pr)(b:∀s,S.up s (F .normal)->F .normal s)(n:Nat)(s:St)
 (h1:∀(M:St->Prop),(∀(g' : Cfg) (ids:List (Nat×Nat)) (pr:Prop),pr->(hp:pr=C6 (cnd P g'):=by kernel_rfl)->(a:stp P g' = .pop .normal (.mid M::(stp P g).k.drop n) (stp P g').st:=by kernel_rfl)->(hle:Le ids (stp P g').st s:=by exact kle)->G S P F g')->G S P F (AW2 n M (stp P g)))
 (c:G S P F (.pop .normal ((stp P g).k.drop n) s)) (hp:pr=C6 (cnd P g):=by kernel_rfl) (hn:Nat.ble n (stp P g).k.length=true:=by kernel_rfl):G S P F g:=by
 refine FB hS hc ?_ hp;refine AG2 hS b n (Bk1 hn) (M:=λt=>t=s) (λt ht=>by subst ht;exact c) (h1 _ λg' ids pr hc hp a hle=>?_);refine FB hS hc ?_ hp;rw[a];exact hS.le ids _ _ _ hle rfl
theorem J_lt (hS:G8 S P)(hc:pr)(c:∀s,S.up s (F .normal)->F .normal s){R A:Type}{f:(A->Option R)->Option R}{k0:A->Option R}{r:R}(h:lt k0 f=some r)(n:Nat)(s:A->St)
 (h1:∀(M:St->Prop) (k:A->Option R),(∀(g' : Cfg) (ids:List (Nat×Nat)) (pr:Prop) (a:A),pr->k a=some r->(hp:pr=C6 (cnd P g'):=by kernel_rfl)->(b:stp P g' = .pop .normal (.mid M::(stp P g).k.drop n) (stp P g').st:=by kernel_rfl)->(hle:Le ids (stp P g').st (s a):=by exact kle)->G S P F g')->f k=some r->G S P F (AW2 n M (stp P g)))
 (d:∀a,k0 a=some r->G S P F (.pop .normal ((stp P g).k.drop n) (s a))) (hp:pr=C6 (cnd P g):=by kernel_rfl) (hn:Nat.ble n (stp P g).k.length=true:=by kernel_rfl):G S P F g:=by
 refine FB hS hc ?_ hp;refine AG2 hS c n (Bk1 hn) (M:=λt=>∃a,t=s a/\k0 a=some r) (λt ⟨a,ht,hk⟩=>by subst ht;exact d a hk) (h1 _ k0 (λg' ids pr a hc hk hp b hle=>?_) h);refine FB hS hc ?_ hp;rw[b];exact hS.le ids _ _ _ hle ⟨a,rfl,hk⟩
theorem Sy {g:Cfg}(h:HV g=true):g=.code (.loop (PU g)) g.k g.st:=by
 unfold HV at h;split at h
 .rfl
 cases h
theorem AW6 (hS:G8 S P)(hc:pr){R A:Type}{body:(A->Option R)->A->Option R}{N:Nat}{a0:A}{r:R}(h:Y3 N body a0=some r)(s:A->St){ids:List (Nat×Nat)}
 (i:∀(X:Type) (s' : X->St) (J:X->Prop) (m:X->Nat) (n:Nat) (b:A->Option R) (a:A),
  (∀(g' : Cfg) (ids:List (Nat×Nat)) (pr:Prop) (a:A),pr->b a=some r->(hp:pr=C6 (cnd P g'):=by kernel_rfl)->(f:stp P g' = .pop .normal (.lp X s' J m n::(stp P g).k) (stp P g').st:=by kernel_rfl)->(hle:Le ids (stp P g').st (s a):=by exact kle)->G S P F g') ->
  body b a=some r->G S P F (.code (PU (stp P g)) (.lp X s' J m n::(stp P g).k) (s a))) (hp:pr=C6 (cnd P g):=by kernel_rfl) (hl:HV (stp P g)=true:=by kernel_rfl) (hle:Le ids (stp P g).st (s a0):=by exact kle):G S P F g:=by
 refine FB hS hc ?_ hp;rw[Sy hl];refine AV9 hS h s ids hle λX s' J m n b a hb c=>i X s' J m n b a (λg' ids pr a hc d hp f hle=>?_) c;refine FB hS hc ?_ hp;rw[f];exact hb _ _ _ hle d
def Sz (P:Program)(st:St)(rs:List ResultVar)(outs:List Nat):Option (AV×List Obj):=match HN P st rs with
 |some l=>match RO outs (one l),M0 outs st.regs outs with
  |some a,some o=>if I2 outs then some (a,o)else none
  |_,_=>none
 |none=>none
theorem J_ret (hS:G8 S P)(hc:pr){n:Nat}{rs:List ResultVar}{Q:ARes->List Obj->List Bool->Prop}{a:AV}{objs:List Obj}(outs:List Nat)(c:Q (.ret a) objs (FE n outs))(hp:pr=C6 (cnd P g):=by kernel_rfl)(d:(Aw4 (stp P g)).bind (λst=>Sz P st rs outs)=some (a,objs):=by kernel_rfl) :G S P (CH S P n rs Q) g:=by
 refine FB hS hc ?_ hp;generalize stp P g=g' at d;obtain⟨st,h1,b⟩:=Bo1.1 d;unfold Sz at b;split at b
 .rename_i l hl;split at b
  .rename_i f i;split at b
   .rename_i j;cases b;unfold Aw4 at h1;split at h1
    .cases h1;exact hS.refl _ _ ⟨l,outs,a,objs,hl,j,f,i,c⟩
    .cases h1;exact hS.refl _ _ ⟨l,outs,a,objs,hl,j,f,i,c⟩
    cases h1
   cases b
  cases b
 cases b
theorem AW7 (hS:G8 S P)(hc:pr){n:Nat}{rs:List ResultVar}{Q:ARes->List Obj->List Bool->Prop}{a:AV}{objs:List Obj}(st:St)(outs:List Nat){ids:List (Nat×Nat)}(f:Q (.ret a) objs (FE n outs))(hp:pr=C6 (cnd P g):=by kernel_rfl)(c:(Aw4 (stp P g)).isSome=true:=by kernel_rfl)(hle:Le ids (stp P g).st st:=by exact kle)(d:Sz P st rs outs=some (a,objs):=by kernel_rfl) :G S P (CH S P n rs Q) g:=by
 refine FB hS hc ?_ hp;generalize stp P g=g' at c hle;have b:=d;unfold Sz at b;split at b
 .rename_i l hl;split at b
  .rename_i d i;split at b
   .rename_i j;cases b;unfold Aw4 at c;split at c
    .exact hS.le ids _ _ _ hle ⟨l,outs,a,objs,hl,j,d,i,f⟩
    .exact hS.le ids _ _ _ hle ⟨l,outs,a,objs,hl,j,d,i,f⟩
    cases c
   cases b
  cases b
 cases b
theorem AN0 (hS:G8 S P){f:FuncId}{fn:Func}{args:List AV}{objs objs' : List Obj}{ks:List Bool}{r:AV}(d:P.funcs[f]? = some fn)
 (h:G S P (CH S P objs.length fn.results.toList λres o k=>res=.ret r/\o=objs' /\ k=ks) (.code (fn.body.getD .skip) [] { env:=argEnv args,regs:=objRegs objs }))
 (hc:fn.body.isSome=true:=by kernel_rfl) (hn:Nat.ble args.length fn.ntmps=true:=by kernel_rfl) (g:Nat.blt objs.length 1000=true:=by kernel_rfl)
 (b:BB fn.ntmps (fn.body.getD .skip)=true:=by kernel_rfl) (c:(fn.name == "runtime.NumGoroutine")=false:=by kernel_rfl):FunO S f args objs r objs' ks:=by
 obtain⟨code,a⟩:=Bf6.1 hc;rw[a,Bf0]at b h;exact Af4 hS d a (Bk1 hn) (by simpa[Bn7]using g) rfl b c h
theorem al0:∀q∈([]:List (Nat×Leaf)),q.2.ok:=λ_ h=>by cases h
theorem al1 {i:Nat}{l:Leaf}{rs:List (Nat×Leaf)}(h:l.ok)(t:∀q∈rs,q.2.ok):∀q∈(i,l)::rs,q.2.ok:=λq a=>by
 rcases Bf8.1 a with rfl|a
 .exact h
 exact t q a
structure SC where
 all:List Oper
 cls:List Cls
 rest:List Oper
 env:Env
 regs:C5
 kn:List Nat
def SG (S:V2)(P:Program)(sc:SC)(k:Env->C5->Prop):Prop:=Kl S P sc.all sc.cls sc.rest sc.env sc.regs k
def BA (P:Program)(sc:SC):SC:=match PM P sc.kn sc.all sc.cls sc.rest [] sc.env sc.regs with
 |⟨_,cls,rest,env,regs⟩=>⟨sc.all,cls,rest,env,regs,sc.kn⟩
def Ol (P:Program)(sc:SC):List Prop:=(PM P sc.kn sc.all sc.cls sc.rest [] sc.env sc.regs).conds
def Dl:Cfg->Bool
 |.code (.region _ _ true) _ _=>true
 |_=>false
def HW:Cfg->SC
 |.code (.region _ ops true) _ st=>⟨ops.toList,ops.toList.map λo=>Bd1 o.op,ops.toList,st.env,st.regs,[]⟩
 |_=>⟨[],[],[],[],[],[]⟩
theorem AN1 (hS:G8 S P)(hc:pr)
 (h:SG S P (HW (stp P g)) λenv regs=>G S P F (.pop .normal (stp P g).k ⟨env,regs⟩)) (hp:pr=C6 (cnd P g):=by kernel_rfl) (c:Dl (stp P g)=true:=by kernel_rfl) (a:P.follows .mixedOrders=true:=by kernel_rfl) (b:Mn (HW (stp P g)).all (HW (stp P g)).cls=true:=by kernel_rfl):G S P F g:=by
 refine FB hS hc ?_ hp;generalize stp P g=g' at c b h;unfold Dl at c;split at c
 .exact Av5 hS a rfl b h
 cases c
section
variable {sc:SC}{k:Env->C5->Prop}
theorem Aj4 (hc:pr)(h:SG S P (BA P sc) k)(hp:pr=C6 (Ol P sc):=by kernel_rfl):SG S P sc k:=by subst hp;unfold BA at h;unfold Ol at hc;unfold SG at *;generalize a:PM P sc.kn sc.all sc.cls sc.rest [] sc.env sc.regs=r at h hc;obtain⟨c,cls,rest,env,regs⟩:=r;exact s_go a hc h
theorem C_end (hc:pr)(h:k (BA P sc).env (BA P sc).regs)(hp:pr=C6 (Ol P sc):=by kernel_rfl)(a:(BA P sc).rest.isEmpty=true:=by kernel_rfl):SG S P sc k:=by
 refine Aj4 hc ?_ hp;generalize BA P sc=s at a h;obtain⟨all,cls,rest,env,regs,kn⟩:=s;cases rest with
 |nil=>exact s_end h
 |cons=>simp at a
def Ax2 {R:Type _}(d:Option Nat)(a:AV)(env:Env)(regs:C5)(κ : Env->C5->R):R:=match d with
 |some d=>mkO (ins d a env) regs κ
 |none=>mkO env regs κ
theorem EU {R:Type _}(d:Option Nat)(a:AV)(env:Env)(regs:C5)(κ : Env->C5->R):Ax2 d a env regs κ = κ (Nx d a env) regs:=by cases d<;>simp only[Ax2,Gn,Nx]
theorem AG3:∀{env:Env}{i d:Nat}{b:AV},Ar8 ((i,b)::env)=true->get env d ≠ .top->d<i
 |[],_,_,_,_,h=>Er rfl h
 |(j,c)::r,i,d,b,hd,h=>by
  simp only[Ar8,Be4,decide_eq_true_eq]at hd;by_cases e:j=d
  .subst e;exact hd.1
  simp only[get,e,Eu]at h;exact Nat.lt_trans (AG3 hd.2 h) hd.1
theorem SA:∀{env:Env}{d:Nat}{a:AV},Ar8 env=true->get env d=a->a ≠ .top->ins d a env=env
 |[],_,_,_,h,hn=>Er h.symm hn
 |(i,b)::r,d,a,hd,h,hn=>by
  by_cases e:i=d
  .subst e;simp only[get,Es]at h;subst h;simp[ins]
  simp only[get,e,Eu]at h;have c:=AG3 hd (by rw[h];exact hn);have f:Ar8 r=true:=by
   cases r with
   |nil=>rfl
   |cons p r=>simp only[Ar8,Be4]at hd;exact hd.2
  simp only[ins,show ¬i<d by omega,e,Eu,SA f h hn]
def SB (sc:SC):Option Bool:=match sc.rest with
 |o::_=>match o.guard with
  |some (j,_)=>match AU1 sc.all j with
   |some d=>match get sc.env d with
    |.p (.bb b)=>if Ar8 sc.env then some b else none
    |_=>none
   |none=>none
  |none=>none
 |[]=>none
def Om (v:Bool)(sc:SC):SC:=match sc.rest with
 |o::_=>match o.guard with
  |some (j,_)=>match AU1 sc.all j with
   |some d=>mkO (ins d (.p (.bb v)) sc.env) sc.regs λenv regs=>⟨sc.all,sc.cls,sc.rest,env,regs,j::sc.kn⟩
   |none=>sc
  |none=>sc
 |[]=>sc
theorem AN2 (hc:pr){b:Bool}(ht:b=true->SG S P (Om true (BA P sc)) k)(f:b=false->SG S P (Om false (BA P sc)) k)(hp:pr=C6 (Ol P sc))(hb:SB (BA P sc)=some b):SG S P sc k:=by
 refine Aj4 hc ?_ hp;generalize BA P sc=s at hb ht f;obtain⟨all,cls,rest,env,regs,kn⟩:=s;cases rest with
 |nil=>simp[SB]at hb
 |cons o rest=>
  simp only[SB]at hb;split at hb
  .rename_i j w g;split at hb
   .rename_i d i;split at hb
    .rename_i b' a;split at hb
     .rename_i c;simp only[Be2]at hb;subst hb;simp only[Om,g,i,Gn]at ht f;cases b' with
      |true=>have:=ht rfl;rwa [SA c a (by simp)]at this
      |false=>have:=f rfl;rwa [SA c a (by simp)]at this
     cases hb
    cases hb
   cases hb
  cases hb
def Oo (ids:List Nat)(sc:SC):Option (FuncId×List AV×List Obj):=match sc.rest with
 |o::_=>match An sc.all sc.env o,o.op with
  |some true,.call c=>match c.callee with
   |.value f=>match HK sc.regs (c.args.toList.map (aev sc.env))with
    |some (as,regs)=>match QN sc.env f as with
     |some (fn,as')=>match Eg ids as',M0 ids regs ids with
      |some a,some ob=>if I2 ids&&FA ob then some (fn,a,ob)else none
      |_,_=>none
     |none=>none
    |none=>none
   |_=>none
  |_,_=>none
 |[]=>none
def Ax3 (js:List Nat):AV->Bool
 |.vec j=>js.contains j
 |.vecp j _=>js.contains j
 |_=>true
theorem YO {js:List Nat}{regs' : C5}:∀{l:List AV}{regs:C5}{as:List AV},l.all (Ax3 js)=true->HK regs l=some (as,regs')->∀q,q ∉ js->A1 regs' q=A1 regs q
 |[],regs,as,_,h,q,_=>by simp only[HK,Be2,Be9]at h;rw[<- h.2]
 |a::r,regs,as,hl,h,q,hq=>by
  simp only[Bn1,Be4]at hl;simp only[HK]at h;split at h
  .rename_i x R1 h1;split at h
   .rename_i l1 R2 c;simp only[Be2,Be9]at h;obtain⟨_,rfl⟩:=h;rw[YO hl.2 c q hq];cases a with
    |vec j=>
     simp only at h1;split at h1
     .rename_i x2 R3 b;cases h1;exact Sr (by simpa[inJ,Ax3]using hl.1) b q hq
     cases h1
    |vecp j m=>
     simp only at h1;split at h1
     .rename_i x2 R3 b;cases h1;exact Sr (by simpa[inJ,Ax3]using hl.1) b q hq
     cases h1
    |_=>cases h1;rfl
   cases h
  cases h
def AW8 (R:C5)(a:AV):Option (AV×C5):=match a with | .vec _ | .vecp _ _=>(match Ef R a with|some (x,regs)=>some (AV.p x,regs)|none=>none)|a=>some (a,R)
theorem Aj5 (R:C5)(a:AV)(r:List AV):HK R (a::r)=match AW8 R a with
 |some (a,regs)=>match HK regs r with
  |some (l,regs)=>some (a::l,regs)
  |none=>none
 |none=>none:=rfl
theorem Ax4 {js:List Nat}{a x:AV}{R R2 R' : C5}(hl:inJ js a=true)(d:∀q∈js,A1 R2 q=A1 R q)(hx:AW8 R a=some (x,R')):∃R3,AW8 R2 a=some (x,R3)/\(∀q∈js,A1 R3 q=A1 R' q)/\∀q,q ∉ js->A1 R3 q=A1 R2 q:=by
 have up:∀(i:Nat) (o:Obj),i∈js->(∀q∈js,A1 (ins i o R2) q=A1 (ins i o R) q)/\∀q,q ∉ js->A1 (ins i o R2) q=A1 R2 q:=λi o g=>
  ⟨λq f=>by rw[N8,N8,d q f],λq f=>by rw[N8,Ej (by rintro rfl;exact f g)]⟩
 cases a with
 |p y=>cases hx;exact⟨R2,rfl,d,λ_ _=>rfl⟩
 |vec j=>
  have b:j∈js:=by simpa[inJ]using hl
  simp only[AW8,Ef,d j b]at hx⊢;cases c:A1 R j with
  |none=>simp[c]at hx
  |some ob=>cases ob<;>simp only[c]at hx⊢<;>first|(cases hx;exact⟨_,rfl,up _ _ b⟩)|cases hx
 |vecp j m=>
  have b:j∈js:=by simpa[inJ]using hl
  simp only[AW8,Ef,d j b]at hx⊢;cases c:A1 R j with
  |none=>simp[c]at hx
  |some ob=>cases ob<;>simp only[c]at hx⊢<;>first|(cases hx;exact⟨_,rfl,up _ _ b⟩)|cases hx
 |_=>cases hl
theorem SD {js:List Nat}:∀{l:List AV}{R R2 R1:C5}{as:List AV},l.all (inJ js)=true->(∀q∈js,A1 R2 q=A1 R q)->HK R l=some (as,R1) ->
 ∃R3,HK R2 l=some (as,R3)/\(∀q∈js,A1 R3 q=A1 R1 q)/\∀q,q ∉ js->A1 R3 q=A1 R2 q
 |[],R,R2,R1,as,_,h2,h=>by simp only[HK,Be2,Be9]at h;obtain⟨rfl,rfl⟩:=h;exact⟨R2,rfl,h2,λ_ _=>rfl⟩
 |a::r,R,R2,R1,as,hl,h2,h=>by
  simp only[Bn1,Be4]at hl;simp only[Aj5]at h⊢;split at h
  .rename_i x R' hx;obtain⟨R3,e1,e2,e3⟩:=Ax4 hl.1 h2 hx;split at h
   .rename_i l1 R'' c;simp only[Be2,Be9]at h;obtain⟨rfl,rfl⟩:=h;obtain⟨R4,f1,f2,f3⟩:=SD hl.2 e2 c;exact⟨R4,by simp only[e1,f1],f2,λq b=>(f3 q b).trans (e3 q b)⟩
   cases h
  cases h
theorem Oq {m:List Nat}:∀{ids:List Nat}{objs:List Obj}{A B:C5}{q:Nat},A1 A q=A1 B q->A1 (back m ids objs A) q=A1 (back m ids objs B) q
 |[],_,_,_,_,h=>h
 |_::_,[],_,_,_,h=>h
 |j::ids,o::objs,A,B,q,h=>by simp only[back];exact Oq (by rw[N8,N8,h])
theorem AN3 {all:List Oper}{k:Env->C5->Prop}{js:List Nat}{cls:List Cls}{o:Oper}{rest:List Oper}{env:Env}{regs regs1:C5}{c:Call}{f:Operand}{as:List AV}{fn:FuncId}{as' args:List AV}{objs' : List Obj}{ks:List Bool}{r:AV}
 (j:An all env o=some true) (l:o.op=.call c) (m:c.callee=.value f) (g:(c.args.toList.map (aev env)).all (inJ js)=true)
 (ha:HK regs (c.args.toList.map (aev env))=some (as,regs1)) (hw:QN env f as=some (fn,as')) (n:Eg [] as' = some args) (s:FunO S fn args [] r objs' ks)
 (d:((H5 (o.dst.getD 0) [] ks objs'.length).all λq=>js.contains q)=true) (hn:X2 regs1 [] ks (o.dst.getD 0) objs'.length=true)
 (hk:Kl S P all cls rest (Nx o.dst (unA (H5 (o.dst.getD 0) [] ks objs'.length) r) env) (back (H5 (o.dst.getD 0) [] ks objs'.length) (H5 (o.dst.getD 0) [] ks objs'.length) objs' (K6 [] ks regs1)) k) :
 Kl S P all (.a js::cls) (o::rest) env regs k:=by
 have i:∀q,q ∉ js->q ∉ H5 (o.dst.getD 0) [] ks objs'.length:=λq b h=>b (by simpa using Bf1.1 d q h);refine⟨true,j,?_⟩;rw[Dq rfl];refine⟨_,_,.inr (.inr (.inr (.inr ⟨js,rfl,λq b=>?_,λR2 t=>?_⟩))),hk⟩
 .rw[IN (i q b)];obtain⟨R3,e1,_,e3⟩:=SD (R2:=regs) g (λ_ _=>rfl) ha;rw[ha]at e1;cases e1;exact e3 q b
 obtain⟨R3,e1,e2,e3⟩:=SD g t ha;refine⟨_,.inl ⟨c,f,as,R3,fn,as',args,[],objs',ks,r,[],l,m,e1,hw,n,rfl,s,rfl,rfl,?_,rfl,rfl⟩,λq b=>Oq (e2 q b),λq b=>(IN (i q b)).trans (e3 q b)⟩;unfold X2 at hn⊢;rw[Bf1]at hn⊢;intro p hp;have h1:=hn p hp;have u:nid (o.dst.getD 0) p∈js:=by
  have:=Bf1.1 d (nid (o.dst.getD 0) p) (by unfold H5;exact Bk8.2 ⟨p,hp,rfl⟩)
  simpa using this
 show (A1 R3 (nid (o.dst.getD 0) p)).isNone=true;rw[e2 _ u];exact h1
def Or (ids:List Nat)(ks:List Bool)(n:Nat)(sc:SC):Bool:=match sc.cls,sc.rest with
 |.w::_,o::_=>match o.op with
  |.call c=>match HK sc.regs (c.args.toList.map (aev sc.env))with
   |some (_,regs)=>X2 regs ids ks (o.dst.getD 0) n
   |none=>false
  |_=>false
 |.b js::_,o::_=>match o.op with
  |.call c=>match HK sc.regs (c.args.toList.map (aev sc.env))with
   |some (_,regs)=>((c.args.toList.map (aev sc.env)).all (Ax3 js)&&ids.isEmpty)&&(((H5 (o.dst.getD 0) ids ks n).all λq=>js.contains q)&&X2 regs ids ks (o.dst.getD 0) n)
   |none=>false
  |_=>false
 |.a js::_,o::_=>match o.op with
  |.call c=>match HK sc.regs (c.args.toList.map (aev sc.env))with
   |some (_,regs)=>((c.args.toList.map (aev sc.env)).all (inJ js)&&ids.isEmpty)&&(((H5 (o.dst.getD 0) ids ks n).all λq=>js.contains q)&&X2 regs ids ks (o.dst.getD 0) n)
   |none=>false
  |_=>false
 |_,_=>false
def Ot (ids:List Nat)(ks:List Bool)(r:AV)(objs' : List Obj)(sc:SC):SC:=match sc.rest with
 |o::rest=>match o.op with
  |.call c=>match HK sc.regs (c.args.toList.map (aev sc.env))with
   |some (_,regs)=>Ax2 o.dst (unA (H5 (o.dst.getD 0) ids ks objs'.length) r) sc.env
    (back (H5 (o.dst.getD 0) ids ks objs'.length) (H5 (o.dst.getD 0) ids ks objs'.length) objs' (K6 ids ks regs)) λenv regs=>⟨sc.all,sc.cls.tail,rest,env,regs,sc.kn⟩
   |none=>sc
  |_=>sc
 |[]=>sc
theorem AW9 (ids:List Nat)(hc:pr){fn:FuncId}{args:List AV}{objs objs' : List Obj}{r:AV}{ks:List Bool}(u:FunO S fn args objs r objs' ks)
 (hk:SG S P (Ot ids ks r objs' (BA P sc)) k) (hp:pr=C6 (Ol P sc):=by kernel_rfl) (d:Oo ids (BA P sc)=some (fn,args,objs):=by kernel_rfl) (hn:Or ids ks objs'.length (BA P sc)=true:=by kernel_rfl):SG S P sc k:=by
 refine Aj4 hc ?_ hp;generalize BA P sc=s at d hn hk;obtain⟨all,cls,rest,env,regs,kn⟩:=s;cases rest with
 |nil=>simp[Oo]at d
 |cons o rest=>
  simp only[Oo]at d;split at d
  .rename_i c v g;split at d
   .rename_i i;split at d
    .rename_i ha;split at d
     .rename_i hw;split at d
      .rename_i x j;split at d
       .rename_i f;cases d;simp only[Be4]at f;cases cls with
        |nil=>simp[Or]at hn
        |cons cl cls=>
         cases cl with
         |w=>simp only[Or,g,ha]at hn;simp only[Ot,g,ha,EU,Bl0]at hk;exact Ai7 ids (.inl rfl) v g i ha hw x j u f.1 f.2 hn hk
         |b js=>simp only[Or,g,ha,Be4,Bu1]at hn;obtain⟨⟨l,m⟩,n,t⟩:=hn;subst m;simp only[Ot,g,ha,EU,Bl0]at hk;refine Ai7 [] (.inr ⟨js,rfl,λq y=>?_⟩) v g i ha hw x j u f.1 f.2 t hk;rw[IN (λh=>y (by simpa using Bf1.1 n q h))];exact YO l ha q y
         |a js=>simp only[Or,g,ha,Be4,Bu1]at hn;obtain⟨⟨l,m⟩,n,t⟩:=hn;subst m;simp only[Ot,g,ha,EU,Bl0]at hk;cases j;exact AN3 v g i l ha hw x u n t hk
         |_=>simp[Or]at hn
       cases d
      cases d
     cases d
    cases d
   cases d
  cases d
def YP (sc:SC):Bool:=match sc.cls,sc.rest with
 |_::_,o::_=>match o.op with
  |.call c=>(c.args.toList.map (aev sc.env)).all Ai2
  |_=>false
 |_,_=>false
def YQ (sc:SC):Option (FuncId×List AV):=match sc.rest with
 |o::_=>match An sc.all sc.env o,o.op with
  |some true,.call c=>match c.callee with
   |.value f=>match QN sc.env f (c.args.toList.map (aev sc.env))with
    |some (fn,as')=>match Eg [] as' with
     |some a=>some (fn,a)
     |none=>none
    |none=>none
   |_=>none
  |_,_=>none
 |[]=>none
def Aj6 (r:AV)(sc:SC):SC:=match sc.rest with
 |o::rest=>Ax2 o.dst (unA [] r) sc.env sc.regs λenv regs=>⟨sc.all,sc.cls.tail,rest,env,regs,sc.kn⟩
 |[]=>sc
theorem AX0 (hc:pr){fn:FuncId}{args:List AV}{r:AV}(f:FunO S fn args [] r [] [])
 (hk:SG S P (Aj6 r (BA P sc)) k) (hp:pr=C6 (Ol P sc):=by kernel_rfl) (a:YQ (BA P sc)=some (fn,args):=by kernel_rfl) (hn:YP (BA P sc)=true:=by kernel_rfl):SG S P sc k:=by
 refine Aj4 hc ?_ hp;generalize BA P sc=s at a hn hk;obtain⟨all,cls,rest,env,regs,kn⟩:=s;cases rest with
 |nil=>simp[YQ]at a
 |cons o rest=>
  cases cls with
  |nil=>simp[YP]at hn
  |cons cl cls=>
   simp only[YQ]at a;split at a
   .rename_i c g d;split at a
    .rename_i b;split at a
     .rename_i hw;split at a
      .rename_i i;cases a;simp only[YP,d]at hn;simp only[Aj6,EU,Bl0]at hk;exact AV6 g d b hn hw i f hk
      cases a
     cases a
    cases a
   cases a
def GP (P:Program)(sc:SC):Option (List Prop×PV):=match sc.cls,sc.rest with
 |_::_,o::_=>match An sc.all sc.env o with
  |some true=>PP P sc.env o.op
  |_=>none
 |_,_=>none
def WX (x:PV)(sc:SC):SC:=match sc.rest with
 |o::rest=>Ax2 o.dst (.p x) sc.env sc.regs λenv regs=>⟨sc.all,sc.cls.tail,rest,env,regs,sc.kn⟩
 |[]=>sc
theorem AN4 (hc:pr){x:PV}(hk:SG S P (WX x (BA P sc)) k)(hp:pr=C6 (Ol P sc):=by kernel_rfl)(a:(GP P (BA P sc)).map (·.2)=some x:=by kernel_rfl)(b:((GP P (BA P sc)).map λq=>C6 q.1)=some (true=true):=by kernel_rfl):SG S P sc k:=by
 refine Aj4 hc ?_ hp;generalize BA P sc=s at a b hk;obtain⟨all,cls,rest,env,regs,kn⟩:=s;cases rest with
 |nil=>cases cls<;>simp[GP]at a
 |cons o rest=>
  cases cls with
  |nil=>simp[GP]at a
  |cons cl cls=>
   cases d:An all env o with
   |none=>simp[GP,d]at a
   |some bb=>
    cases bb with
    |false=>simp[GP,d]at a
    |true=>
     simp only[GP,d]at a b;cases ha:PP P env o.op with
     |none=>rw[ha]at a;cases a
     |some q=>obtain⟨c,y⟩:=q;rw[ha]at a b;simp only[Bf2,Be2]at a b;subst a;simp only[WX,EU,Bl0]at hk;exact Av4 d ha (by rw[b];trivial) hk
def Ou (P:Program)(sc:SC):Option LookI:=match sc.cls,sc.rest with
 |cl::_,o::_=>match An sc.all sc.env o,o.op with
  |some true,.lookup t m q _=>match Ef sc.regs (aev sc.env q),aev sc.env m with
   |some (key,regs),.mref j=>match A1 regs j,tk P t with
    |some (.map es),some (.map kt e)=>if (Gg P kt key&&Uz cl sc.env (o.dst.getD 0) o.op) then some ⟨kt,e,key,es⟩else none
    |_,_=>none
   |_,_=>none
  |_,_=>none
 |_,_=>none
def UJ (x:PV)(b:Bool)(sc:SC):SC:=match sc.rest with
 |o::rest=>match o.op with
  |.lookup _ _ q ok=>match Ef sc.regs (aev sc.env q)with
   |some (_,regs)=>Ax2 o.dst (if ok then .tup [.p x,.bool b]else .p x) sc.env regs λenv regs=>⟨sc.all,sc.cls.tail,rest,env,regs,sc.kn⟩
   |none=>sc
  |_=>sc
 |[]=>sc
theorem Ax5 (hc:pr){kt e:TypeId}{key:PV}{es:List (PV×PV)}{x:PV}{b:Bool}{fd:Option PV}
 (j:find (HF P kt) key es=some fd) (g:C6 (Hl P kt)) (hk:SG S P (UJ x b (BA P sc)) k) (hp:pr=C6 (Ol P sc):=by kernel_rfl) (a:Ou P (BA P sc)=some ⟨kt,e,key,es⟩:=by kernel_rfl) (hx:UH P e fd=some (x,b):=by kernel_rfl):SG S P sc k:=by
 refine Aj4 hc ?_ hp;generalize BA P sc=s at a hk;obtain⟨all,cls,rest,env,regs,kn⟩:=s;cases rest with
 |nil=>cases cls<;>simp[Ou]at a
 |cons o rest=>
  cases cls with
  |nil=>simp[Ou]at a
  |cons cl cls=>
   simp only[Ou]at a;split at a
   .rename_i l f;split at a
    .rename_i i hm;split at a
     .rename_i m ht;split at a
      .rename_i c;simp only[Be2,LookI.mk.injEq]at a;obtain⟨rfl,rfl,rfl,rfl⟩:=a;simp only[Be4]at c;simp only[UJ,f,i,EU,Bl0]at hk;have d:=c.2;simp only[f]at d;cases fd with
       |some y=>exact YJ (fd:=some y) l f i hm m ht c.1 j hx g (by rw[f];exact d) hk
       |none=>exact YJ (fd:=none) l f i hm m ht c.1 j hx g (by rw[f];exact d) hk
      cases a
     cases a
    cases a
   cases a
def UK (P:Program)(sc:SC):Option (TypeId×PV×PV×List (PV×PV)):=match sc.cls,sc.rest with
 |.w::_,o::_=>match An sc.all sc.env o,o.op with
  |some true,.mapUpdate t m q x=>match aev sc.env q,aev sc.env m,Ef sc.regs (aev sc.env x)with
   |.p key,.mref j,some (y,regs)=>match A1 regs j,tk P t with
    |some (.map es),some (.map kt _)=>if Gg P kt (nP key) then some (kt,nP key,y,es)else none
    |_,_=>none
   |_,_,_=>none
  |_,_=>none
 |_,_=>none
def Ax6 (es' : List (PV×PV))(sc:SC):SC:=match sc.rest with
 |o::rest=>match o.op with
  |.mapUpdate _ m _ x=>match aev sc.env m,Ef sc.regs (aev sc.env x)with
   |.mref j,some (_,regs)=>Ax2 o.dst Km sc.env (ins j (.map es') regs) λenv regs=>⟨sc.all,sc.cls.tail,rest,env,regs,sc.kn⟩
   |_,_=>sc
  |_=>sc
 |[]=>sc
theorem Ax7 (hc:pr){kt:TypeId}{key y:PV}{es es' : List (PV×PV)}
 (i:upd (HF P kt) key y es=some es') (b:C6 (Hl P kt)) (hk:SG S P (Ax6 es' (BA P sc)) k) (hp:pr=C6 (Ol P sc):=by kernel_rfl) (a:UK P (BA P sc)=some (kt,key,y,es):=by kernel_rfl):SG S P sc k:=by
 refine Aj4 hc ?_ hp;generalize BA P sc=s at a hk;obtain⟨all,cls,rest,env,regs,kn⟩:=s;cases rest with
 |nil=>cases cls with
  |nil=>simp[UK]at a
  |cons cl cls=>cases cl<;>simp[UK]at a
 |cons o rest=>
  cases cls with
  |nil=>simp[UK]at a
  |cons cl cls=>
   cases cl with
   |w=>
    simp only[UK]at a;split at a
    .rename_i j d;split at a
     .rename_i h1 f g;split at a
      .rename_i l ht;split at a
       .rename_i c;simp only[Be2,Be9]at a;obtain⟨rfl,rfl,rfl,rfl⟩:=a;simp only[Ax6,d,f,g,EU,Bl0]at hk;exact WW j d h1 g f l ht c i b hk
       cases a
      cases a
     cases a
    cases a
   |_=>simp[UK]at a
end
end
structure KG (S:V2) (P:Program) (F:L7) (g:Cfg):Prop where
 out:G S P F g
structure DG (S:V2) (P:Program) (sc:SC) (k:Env->C5->Prop):Prop where
 out:SG S P sc k
structure KLe (ids:List (Nat×Nat)) (s t:St):Prop where
 out:Le ids s t
section
variable {S:V2}{P:Program}{F:L7}{g:Cfg}{pr:Prop}
theorem kl {ids:List (Nat×Nat)}{s t:St}(h:(leK ids s t).map (·.map Leaf.src)=(leK ids s t).map (·.map Leaf.tgt):=by kernel_rfl)(h1:(leK ids s t).isSome=true:=by kernel_rfl):KLe ids s t:=⟨kle h h1⟩
theorem klR {ids:List (Nat×Nat)}{s t:St}(rs:List (Nat×Leaf))(a:∀q∈rs,q.2.ok)(h:(leK ids s t).map (Aw9 (rs.map (·.1)) Leaf.src)=(leK ids s t).map (Aw9 (rs.map (·.1)) Leaf.tgt):=by kernel_rfl)
 (b:(leK ids s t).map (λL=>rs.map λq=>L[q.1]?)=some (rs.map λq=>some q.2):=by kernel_rfl):KLe ids s t:=⟨kleR rs a h b⟩
theorem C9 (hS:G8 S P)(hc:pr){b:Bool}(ht:b=true->KG S P F (AM6 (stp P g)))(a:b=false->KG S P F (AM7 (stp P g)))(hp:pr=C6 (cnd P g):=by kernel_rfl)(hb:Aw2 (stp P g)=some b:=by kernel_rfl):KG S P F g:=
 ⟨AW3 hS hc (λh=>(ht h).out) (λh=>(a h).out) hp hb⟩
theorem GQ (hS:G8 S P)(hc:pr){b:Bool}(ht:b=true->KG S P F (Oi true (stp P g)))(a:b=false->KG S P F (Oi false (stp P g)))(hp:pr=C6 (cnd P g):=by kernel_rfl)(hb:YK (stp P g)=some b:=by kernel_rfl):KG S P F g:=
 ⟨AM9 hS hc (λh=>(ht h).out) (λh=>(a h).out) hp hb⟩
theorem B3 (hS:G8 S P)(ids:List Nat)(hc:pr){fn:FuncId}{args:List AV}{objs objs' : List Obj}{r:AV}{ks:List Bool}(a:FunO S fn args objs r objs' ks)(hk:KG S P F (Aw3 ids ks r objs' (stp P g)))
 (hp:pr=C6 (cnd P g):=by kernel_rfl) (b:ZY ids (stp P g)=some (fn,args,objs):=by kernel_rfl) (hn:ZZ ids ks objs'.length (stp P g)=true:=by kernel_rfl):KG S P F g:=⟨AW4 hS ids hc a hk.out hp b hn⟩
theorem YR (hS:G8 S P)(hc:pr){kt e:TypeId}{key:PV}{es:List (PV×PV)}{x:PV}{b:Bool}{fd:Option PV}(c:find (HF P kt) key es=some fd)(a:C6 (Hl P kt))(hk:KG S P F (Aj3 x b (stp P g)))
 (hp:pr=C6 (cnd P g):=by kernel_rfl) (d:Aj2 P (stp P g)=some ⟨kt,e,key,es⟩:=by kernel_rfl) (hx:UH P e fd=some (x,b):=by kernel_rfl):KG S P F g:=⟨Ax0 hS hc c a hk.out hp d hx⟩
theorem Ax8 (hS:G8 S P)(hc:pr){kt:TypeId}{key y:PV}{es es' : List (PV×PV)}(b:upd (HF P kt) key y es=some es')(a:C6 (Hl P kt))(hk:KG S P F (Bd4 es' (stp P g)))
 (hp:pr=C6 (cnd P g):=by kernel_rfl) (c:Bd3 P (stp P g)=some (kt,key,y,es):=by kernel_rfl):KG S P F g:=⟨Ax1 hS hc b a hk.out hp c⟩
theorem KI (hS:G8 S P)(hc:pr)(st:St){ids:List (Nat×Nat)}(hk:KG S P F (opsS st (stp P g)))(hp:pr=C6 (cnd P g):=by kernel_rfl)(a:JT (stp P g)=true:=by kernel_rfl)(hle:KLe ids (stp P g).st st:=by exact kl):KG S P F g:=
 ⟨AW5 hS hc st hk.out hp a hle.out⟩
theorem WY (hS:G8 S P)(hc:pr)(b:∀s,S.up s (F .normal)->F .normal s)(n:Nat)(s:St)
 (h1:∀(M:St->Prop),(∀(g' : Cfg) (ids:List (Nat×Nat)) (pr:Prop),pr->(hp:pr=C6 (cnd P g'):=by kernel_rfl)->(a:stp P g' = .pop .normal (.mid M::(stp P g).k.drop n) (stp P g').st:=by kernel_rfl)->(hle:KLe ids (stp P g').st s:=by exact kl)->KG S P F g')->KG S P F (AW2 n M (stp P g)))
 (c:KG S P F (.pop .normal ((stp P g).k.drop n) s)) (hp:pr=C6 (cnd P g):=by kernel_rfl) (hn:Nat.ble n (stp P g).k.length=true:=by kernel_rfl):KG S P F g:=
 ⟨J_cut hS hc b n s (λM hb=>(h1 M λg' ids pr hc hp a hle=>⟨hb g' ids pr hc hp a hle.out⟩).out) c.out hp hn⟩
theorem LO (hS:G8 S P)(hc:pr)(c:∀s,S.up s (F .normal)->F .normal s){R A:Type}{f:(A->Option R)->Option R}{k0:A->Option R}{r:R}(h:lt k0 f=some r)(n:Nat)(s:A->St)
 (h1:∀(M:St->Prop) (k:A->Option R),(∀(g' : Cfg) (ids:List (Nat×Nat)) (pr:Prop) (a:A),pr->k a=some r->(hp:pr=C6 (cnd P g'):=by kernel_rfl)->(b:stp P g' = .pop .normal (.mid M::(stp P g).k.drop n) (stp P g').st:=by kernel_rfl)->(hle:KLe ids (stp P g').st (s a):=by exact kl)->KG S P F g')->f k=some r->KG S P F (AW2 n M (stp P g)))
 (d:∀a,k0 a=some r->KG S P F (.pop .normal ((stp P g).k.drop n) (s a))) (hp:pr=C6 (cnd P g):=by kernel_rfl) (hn:Nat.ble n (stp P g).k.length=true:=by kernel_rfl):KG S P F g:=
 ⟨J_lt hS hc c h n s (λM k hb i=>(h1 M k (λg' ids pr a hc hk hp b hle=>⟨hb g' ids pr a hc hk hp b hle.out⟩) i).out) (λa hk=>(d a hk).out) hp hn⟩
theorem R8 (hS:G8 S P)(hc:pr){R A:Type}{body:(A->Option R)->A->Option R}{N:Nat}{a0:A}{r:R}(h:Y3 N body a0=some r)(s:A->St){ids:List (Nat×Nat)}
 (i:∀(X:Type) (s' : X->St) (J:X->Prop) (m:X->Nat) (n:Nat) (b:A->Option R) (a:A),
  (∀(g' : Cfg) (ids:List (Nat×Nat)) (pr:Prop) (a:A),pr->b a=some r->(hp:pr=C6 (cnd P g'):=by kernel_rfl)->(f:stp P g' = .pop .normal (.lp X s' J m n::(stp P g).k) (stp P g').st:=by kernel_rfl)->(hle:KLe ids (stp P g').st (s a):=by exact kl)->KG S P F g') ->
  body b a=some r->KG S P F (.code (PU (stp P g)) (.lp X s' J m n::(stp P g).k) (s a))) (hp:pr=C6 (cnd P g):=by kernel_rfl) (hl:HV (stp P g)=true:=by kernel_rfl) (hle:KLe ids (stp P g).st (s a0):=by exact kl):KG S P F g:=
 ⟨AW6 hS hc h s (λX s' J m n b a hb c=>(i X s' J m n b a (λg' ids pr a hc d hp f hle=>⟨hb g' ids pr a hc d hp f hle.out⟩) c).out) hp hl hle.out⟩
theorem H3 (hS:G8 S P)(hc:pr){R A B:Type}{body:(A->B->Option R)->A->B->Option R}{N:Nat}{a0:A}{b0:B}{r:R}(h:Bj N body a0 b0=some r)(s:A->B->St){ids:List (Nat×Nat)}
 (d:∀(X:Type) (s' : X->St) (J:X->Prop) (m:X->Nat) (n:Nat) (c:A->B->Option R) (a:A) (b:B),
  (∀(g' : Cfg) (ids:List (Nat×Nat)) (pr:Prop) (a:A) (b:B),pr->c a b=some r->(hp:pr=C6 (cnd P g'):=by kernel_rfl)->(o:stp P g' = .pop .normal (.lp X s' J m n::(stp P g).k) (stp P g').st:=by kernel_rfl)->(hle:KLe ids (stp P g').st (s a b):=by exact kl)->KG S P F g') ->
  body c a b=some r->KG S P F (.code (PU (stp P g)) (.lp X s' J m n::(stp P g).k) (s a b))) (hp:pr=C6 (cnd P g):=by kernel_rfl) (hl:HV (stp P g)=true:=by kernel_rfl) (hle:KLe ids (stp P g).st (s a0 b0):=by exact kl):KG S P F g:=
 R8 hS hc h (λx=>s x.1 x.2) (λX s' J m n c a hb=>d X s' J m n (λa b=>c (a,b)) a.1 a.2 λg' ids pr a b h1 f i j l=>hb g' ids pr (a,b) h1 f i j l) hp hl hle
theorem KJ (hS:G8 S P)(hc:pr){R A B C:Type}{body:(A->B->C->Option R)->A->B->C->Option R}{N:Nat}{a0:A}{b0:B}{c0:C}{r:R}(h:Aj0 N body a0 b0 c0=some r)(s:A->B->C->St){ids:List (Nat×Nat)}
 (f:∀(X:Type) (s' : X->St) (J:X->Prop) (m:X->Nat) (n:Nat) (d:A->B->C->Option R) (a:A) (b:B) (c:C),
  (∀(g' : Cfg) (ids:List (Nat×Nat)) (pr:Prop) (a:A) (b:B) (c:C),pr->d a b c=some r->(hp:pr=C6 (cnd P g'):=by kernel_rfl)->(q:stp P g' = .pop .normal (.lp X s' J m n::(stp P g).k) (stp P g').st:=by kernel_rfl)->(hle:KLe ids (stp P g').st (s a b c):=by exact kl)->KG S P F g') ->
  body d a b c=some r->KG S P F (.code (PU (stp P g)) (.lp X s' J m n::(stp P g).k) (s a b c))) (hp:pr=C6 (cnd P g):=by kernel_rfl) (hl:HV (stp P g)=true:=by kernel_rfl) (hle:KLe ids (stp P g).st (s a0 b0 c0):=by exact kl):KG S P F g:=
 R8 hS hc h (λx=>s x.1 x.2.1 x.2.2) (λX s' J m n d a hb=>f X s' J m n (λa b c=>d (a,b,c)) a.1 a.2.1 a.2.2 λg' ids pr a b c h1 i j l o=>hb g' ids pr (a,b,c) h1 i j l o) hp hl hle
theorem AX1 (hS:G8 S P)(hc:pr){R A B C D E F' : Type}{body:(A->B->C->D->E->F' -> Option R)->A->B->C->D->E->F' -> Option R}{N:Nat}{a0:A}{b0:B}{c0:C}{d0:D}{e0:E}{f0:F'}{r:R}(h:fix6 N body a0 b0 c0 d0 e0 f0=some r)(s:A->B->C->D->E->F' -> St){ids:List (Nat×Nat)}
 (j:∀(X:Type) (s' : X->St) (J:X->Prop) (m:X->Nat) (n:Nat) (i:A->B->C->D->E->F' -> Option R) (a:A) (b:B) (c:C) (d:D) (e:E) (f:F'),
  (∀(g' : Cfg) (ids:List (Nat×Nat)) (pr:Prop) (a:A) (b:B) (c:C) (d:D) (e:E) (f:F'),pr->i a b c d e f=some r->(hp:pr=C6 (cnd P g'):=by kernel_rfl)->(u:stp P g' = .pop .normal (.lp X s' J m n::(stp P g).k) (stp P g').st:=by kernel_rfl)->(hle:KLe ids (stp P g').st (s a b c d e f):=by exact kl)->KG S P F g') ->
  body i a b c d e f=some r->KG S P F (.code (PU (stp P g)) (.lp X s' J m n::(stp P g).k) (s a b c d e f))) (hp:pr=C6 (cnd P g):=by kernel_rfl) (hl:HV (stp P g)=true:=by kernel_rfl) (hle:KLe ids (stp P g).st (s a0 b0 c0 d0 e0 f0):=by exact kl):KG S P F g:=
 R8 hS hc h (λx=>s x.1 x.2.1 x.2.2.1 x.2.2.2.1 x.2.2.2.2.1 x.2.2.2.2.2) (λX s' J m n i a hb=>j X s' J m n (λa b c d e f=>i (a,b,c,d,e,f)) a.1 a.2.1 a.2.2.1 a.2.2.2.1 a.2.2.2.2.1 a.2.2.2.2.2 λg' ids pr a b c d e f h1 l o q t=>hb g' ids pr (a,b,c,d,e,f) h1 l o q t) hp hl hle
theorem Aj7 (hS:G8 S P)(hc:pr){n:Nat}{rs:List ResultVar}{Q:ARes->List Obj->List Bool->Prop}{a:AV}{objs:List Obj}(outs:List Nat)(b:Q (.ret a) objs (FE n outs))(hp:pr=C6 (cnd P g):=by kernel_rfl)
 (c:(Aw4 (stp P g)).bind (λst=>Sz P st rs outs)=some (a,objs):=by kernel_rfl):KG S P (CH S P n rs Q) g:=⟨J_ret hS hc outs b hp c⟩
theorem J5 (hS:G8 S P)(hc:pr){n:Nat}{rs:List ResultVar}{Q:ARes->List Obj->List Bool->Prop}{a:AV}{objs:List Obj}(st:St)(outs:List Nat){ids:List (Nat×Nat)}(b:Q (.ret a) objs (FE n outs))(hp:pr=C6 (cnd P g):=by kernel_rfl)
 (c:(Aw4 (stp P g)).isSome=true:=by kernel_rfl) (hle:KLe ids (stp P g).st st:=by exact kl) (d:Sz P st rs outs=some (a,objs):=by kernel_rfl):KG S P (CH S P n rs Q) g:=⟨AW7 hS hc st outs b hp c hle.out d⟩
theorem A2 (hS:G8 S P){f:FuncId}{fn:Func}{args:List AV}{objs objs' : List Obj}{ks:List Bool}{r:AV}(c:P.funcs[f]? = some fn)
 (h:KG S P (CH S P objs.length fn.results.toList λres o k=>res=.ret r/\o=objs' /\ k=ks) (.code (fn.body.getD .skip) [] { env:=argEnv args,regs:=objRegs objs }))
 (hc:fn.body.isSome=true:=by kernel_rfl) (hn:Nat.ble args.length fn.ntmps=true:=by kernel_rfl) (d:Nat.blt objs.length 1000=true:=by kernel_rfl)
 (a:BB fn.ntmps (fn.body.getD .skip)=true:=by kernel_rfl) (b:(fn.name == "runtime.NumGoroutine")=false:=by kernel_rfl):FunO S f args objs r objs' ks:=AN0 hS c h.out hc hn d a b
theorem EV (hS:G8 S P)(hc:pr)(h:DG S P (HW (stp P g)) λenv regs=>KG S P F (.pop .normal (stp P g).k ⟨env,regs⟩))(hp:pr=C6 (cnd P g):=by kernel_rfl)(c:Dl (stp P g)=true:=by kernel_rfl)(a:P.follows .mixedOrders=true:=by kernel_rfl)
 (b:Mn (HW (stp P g)).all (HW (stp P g)).cls=true:=by kernel_rfl):KG S P F g:=by
 have e:(λenv regs=>KG S P F (.pop .normal (stp P g).k ⟨env,regs⟩))=λenv regs=>G S P F (.pop .normal (stp P g).k ⟨env,regs⟩):=by funext env regs;exact propext ⟨λh=>h.out,λh=>⟨h⟩⟩
 rw[e]at h;exact⟨AN1 hS hc h.out hp c a b⟩
section
variable {sc:SC}{k:Env->C5->Prop}
theorem D6 (hc:pr)(h:k (BA P sc).env (BA P sc).regs)(hp:pr=C6 (Ol P sc):=by kernel_rfl)(a:(BA P sc).rest.isEmpty=true:=by kernel_rfl):DG S P sc k:=⟨C_end hc h hp a⟩
theorem U1 (hc:pr){b:Bool}(ht:b=true->DG S P (Om true (BA P sc)) k)(a:b=false->DG S P (Om false (BA P sc)) k)(hp:pr=C6 (Ol P sc):=by kernel_rfl)(hb:SB (BA P sc)=some b:=by kernel_rfl):DG S P sc k:=
 ⟨AN2 hc (λh=>(ht h).out) (λh=>(a h).out) hp hb⟩
theorem Ov (ids:List Nat)(hc:pr){fn:FuncId}{args:List AV}{objs objs' : List Obj}{r:AV}{ks:List Bool}(a:FunO S fn args objs r objs' ks)(hk:DG S P (Ot ids ks r objs' (BA P sc)) k)
 (hp:pr=C6 (Ol P sc):=by kernel_rfl) (b:Oo ids (BA P sc)=some (fn,args,objs):=by kernel_rfl) (hn:Or ids ks objs'.length (BA P sc)=true:=by kernel_rfl):DG S P sc k:=⟨AW9 ids hc a hk.out hp b hn⟩
theorem G5 (hc:pr){fn:FuncId}{args:List AV}{r:AV}(a:FunO S fn args [] r [] [])(hk:DG S P (Aj6 r (BA P sc)) k)(hp:pr=C6 (Ol P sc):=by kernel_rfl)(b:YQ (BA P sc)=some (fn,args):=by kernel_rfl)(hn:YP (BA P sc)=true:=by kernel_rfl):DG S P sc k:=
 ⟨AX0 hc a hk.out hp b hn⟩
theorem N0 (hc:pr){x:PV}(hk:DG S P (WX x (BA P sc)) k)(hp:pr=C6 (Ol P sc):=by kernel_rfl)(b:(GP P (BA P sc)).map (·.2)=some x:=by kernel_rfl)(a:((GP P (BA P sc)).map λq=>C6 q.1)=some (true=true):=by kernel_rfl):DG S P sc k:=⟨AN4 hc hk.out hp b a⟩
theorem YS (hc:pr){kt e:TypeId}{key:PV}{es:List (PV×PV)}{x:PV}{b:Bool}{fd:Option PV}(c:find (HF P kt) key es=some fd)(a:C6 (Hl P kt))(hk:DG S P (UJ x b (BA P sc)) k)
 (hp:pr=C6 (Ol P sc):=by kernel_rfl) (d:Ou P (BA P sc)=some ⟨kt,e,key,es⟩:=by kernel_rfl) (hx:UH P e fd=some (x,b):=by kernel_rfl):DG S P sc k:=⟨Ax5 hc c a hk.out hp d hx⟩
theorem Ax9 (hc:pr){kt:TypeId}{key y:PV}{es es' : List (PV×PV)}(b:upd (HF P kt) key y es=some es')(a:C6 (Hl P kt))(hk:DG S P (Ax6 es' (BA P sc)) k)
 (hp:pr=C6 (Ol P sc):=by kernel_rfl) (c:UK P (BA P sc)=some (kt,key,y,es):=by kernel_rfl):DG S P sc k:=⟨Ax7 hc b a hk.out hp c⟩
end
end
end Go.AM
namespace Go.AM
section
variable {S:V2}{P:Program}{F:L7}{g:Cfg}{pr:Prop}
def yldE:Cfg->Option (List PV×List (List PV))
 |.ops all (o::_) _ st=>match BC all st.env o,o.op with
  |some true,.call c=>match c.callee with
   |.value f=>match aev st.env f,Gd st.regs (c.args.toList.map (aev st.env))with
    |.yf j,some (xs,regs)=>match A1 regs j with
     |some (.yld (ys::rest) true)=>if FP j regs=true/\xs.length=ys.length then some (xs,ys::rest)else none
     |_=>none
    |_,_=>none
   |_=>none
  |_,_=>none
 |_=>none
def AX2 (b:Bool)(rest:List (List PV)):Cfg->Cfg
 |.ops all (o::ops) K st=>match o.op with
  |.call c=>match c.callee with
   |.value f=>match aev st.env f,Gd st.regs (c.args.toList.map (aev st.env))with
    |.yf j,some (_,regs)=>ZX o.dst (.p (.bb b)) st.env (ins j (.yld rest b) regs) λst=>.ops all ops K st
    |_,_=>.ops all (o::ops) K st
   |_=>.ops all (o::ops) K st
  |_=>.ops all (o::ops) K st
 |g=>g
theorem UL:∀l:List PV,AJ1 l l
 |[]=>trivial
 |x::l=>⟨.inl rfl,UL l⟩
theorem AN5 (hS:G8 S P)(hc:pr){ys:List PV}{rest:List (List PV)}(ht:G S P F (AX2 true rest (stp P g)))(d:G S P F (AX2 false [] (stp P g)))(hp:pr=C6 (cnd P g))(a:yldE (stp P g)=some (ys,ys::rest)):G S P F g:=by
 refine FB hS hc ?_ hp;generalize stp P g=g' at a ht d;unfold yldE at a;split at a
 .split at a
  .rename_i l i;split at a
   .rename_i c;split at a
    .rename_i hy j;split at a
     .rename_i m;split at a
      .rename_i f;simp only[Be2,Be9,Bi8]at a;obtain⟨rfl,rfl,rfl⟩:=a;simp only[AX2,i,c,hy,j,FQ]at ht d;refine AM1 hS l i c hy j m f.1 (UL _) λb=>?_;cases b
       .exact d
       exact ht
      cases a
     cases a
    cases a
   cases a
  cases a
 cases a
theorem Dm (hS:G8 S P)(hc:pr){ys:List PV}{rest:List (List PV)}(ht:KG S P F (AX2 true rest (stp P g)))(a:KG S P F (AX2 false [] (stp P g)))(hp:pr=C6 (cnd P g):=by kernel_rfl)(b:yldE (stp P g)=some (ys,ys::rest):=by kernel_rfl):KG S P F g:=
 ⟨AN5 hS hc ht.out a.out hp b⟩
def Ag {T:Type}(x:T)(o:Option (List T)):Option (List T):=o.map (x :: ·)
theorem LP {T:Type}{x:T}{o:Option (List T)}{L:List T}(h:Ag x o=some L):∃L',L=x::L' /\ o=some L':=by simp only[Ag,Bg5]at h;obtain⟨l,h1,a⟩:=h;exact⟨l,a.symm,h1⟩
theorem Dn (hS:G8 S P)(hc:pr){R A:Type}{body:(A->Option R)->A->Option R}{N:Nat}{a0:A}{r0:R}(h:Y3 N body a0=some r0)(s:A->R->St){ids:List (Nat×Nat)}
 (f:∀(X:Type) (s' : X->St) (J:X->Prop) (m:X->Nat) (n:Nat) (b:A->Option R) (a:A) (r:R),
  (∀(g' : Cfg) (ids:List (Nat×Nat)) (pr:Prop) (a:A) (r:R),pr->b a=some r->(hp:pr=C6 (cnd P g'):=by kernel_rfl)->(d:stp P g' = .pop .normal (.lp X s' J m n::(stp P g).k) (stp P g').st:=by kernel_rfl)->(hle:KLe ids (stp P g').st (s a r):=by exact kl)->KG S P F g') ->
  body b a=some r->KG S P F (.code (PU (stp P g)) (.lp X s' J m n::(stp P g).k) (s a r))) (hp:pr=C6 (cnd P g):=by kernel_rfl) (hl:HV (stp P g)=true:=by kernel_rfl) (hle:KLe ids (stp P g).st (s a0 r0):=by exact kl):KG S P F g:=by
 refine⟨FB hS hc ?_ hp⟩;rw[Sy hl];refine Yg hS (X:=Nat×A×R) (λx=>s x.2.1 x.2.2) (λx=>Y3 x.1 body x.2.1=some x.2.2) (λx=>x.1) (N,a0,r0) ids hle.out h ?_;rintro⟨n,a,r⟩ hx;cases n with
 |zero=>cases hx
 |succ n=>exact (f _ _ _ _ _ (Y3 n body) a r (λg' ids pr a r hc c hp d hle=>⟨FB hS hc (by rw[d];exact Wv hS (n,a,r) ids hle.out c (Bu0 n)) hp⟩) hx).out
theorem SE (hS:G8 S P)(hc:pr){R A B:Type}{body:(A->B->Option R)->A->B->Option R}{N:Nat}{a0:A}{b0:B}{r0:R}(h:Bj N body a0 b0=some r0)(s:A->B->R->St){ids:List (Nat×Nat)}
 (d:∀(X:Type) (s' : X->St) (J:X->Prop) (m:X->Nat) (n:Nat) (c:A->B->Option R) (a:A) (b:B) (r:R),
  (∀(g' : Cfg) (ids:List (Nat×Nat)) (pr:Prop) (a:A) (b:B) (r:R),pr->c a b=some r->(hp:pr=C6 (cnd P g'):=by kernel_rfl)->(o:stp P g' = .pop .normal (.lp X s' J m n::(stp P g).k) (stp P g').st:=by kernel_rfl)->(hle:KLe ids (stp P g').st (s a b r):=by exact kl)->KG S P F g') ->
  body c a b=some r->KG S P F (.code (PU (stp P g)) (.lp X s' J m n::(stp P g).k) (s a b r))) (hp:pr=C6 (cnd P g):=by kernel_rfl) (hl:HV (stp P g)=true:=by kernel_rfl) (hle:KLe ids (stp P g).st (s a0 b0 r0):=by exact kl):KG S P F g:=
 Dn hS hc h (λx r=>s x.1 x.2 r) (λX s' J m n c a r hb=>d X s' J m n (λa b=>c (a,b)) a.1 a.2 r λg' ids pr a b r h1 f i j l=>hb g' ids pr (a,b) r h1 f i j l) hp hl hle
theorem EA (hS:G8 S P){f:FuncId}{fn:Func}{first caps:List AV}{objs:List Obj}{L:List (List PV)}(i:P.funcs[f]? = some fn)
 (h:KG S P (CH S P (objs++[Obj.yld L true]).length fn.results.toList λr objs' ks=>∃b,objs'[objs.length]? = some (.yld [] b)/\ks[objs.length]? = some true/\∃a,r=.ret a) (.code (fn.body.getD .skip) [] { env:=argEnv (first ++ .yf objs.length::caps),regs:=objRegs (objs++[Obj.yld L true]) }))
 (hc:fn.body.isSome=true:=by kernel_rfl) (hn:Nat.ble (first ++ .yf objs.length::caps).length fn.ntmps=true:=by kernel_rfl) (j:Nat.blt (objs++[Obj.yld L true]).length 1000=true:=by kernel_rfl)
 (d:BB fn.ntmps (fn.body.getD .skip)=true:=by kernel_rfl) (g:(fn.name == "runtime.NumGoroutine")=false:=by kernel_rfl):ES S f first caps objs L:=by
 obtain⟨code,c⟩:=Bf6.1 hc;rw[c,Bf0]at d h;exact LM hS i c (Bk1 hn) (by simpa[Bn7]using j) rfl d g h.out
def UM (P:Program)(ids:List Nat):Cfg->Option (FuncId×List AV×List AV×List Obj)
 |.code (.rangeFunc op _ _ _) _ st=>match FN st.env op with
  |some (f,first,caps)=>match P.funcs[f]?,M0 ids st.regs ids,Eg ids first,Eg ids caps with
   |some fn,some objs,some as,some bs=>if (fn.body.isSome && !(fn.name == "runtime.NumGoroutine")&&FA objs&&I2 ids&&(objs.length==ids.length)&&Nat.blt ids.length 1000) then some (f,as,bs,objs)else none
   |_,_,_,_=>none
  |none=>none
 |_=>none
def Jg:Cfg->Array Tmp
 |.code (.rangeFunc _ ps _ _) _ _=>ps
 |_=>#[]
def UN:Cfg->Code
 |.code (.rangeFunc _ _ a _) _ _=>a
 |_=>.skip
def UO:Cfg->Code
 |.code (.rangeFunc _ _ _ b) _ _=>b
 |_=>.skip
def UP (ids ts:List Nat)(g:Cfg):St:=⟨Y2 ts (ts.map (get g.st.env)),K6 ids (ids.map λ_=>false) g.st.regs⟩
def rst (gh:Nat)(t:St):St:=⟨[],ins gh (.ghost (t.env.map (·.2))) t.regs⟩
def UQ (gh:Nat)(ps:Array Tmp)(ys:List PV)(t:St):St:=⟨MU ps.toList ys t.env,ins gh (.ghost (t.env.map (·.2))) t.regs⟩
def exitE:Cfg->IT
 |.pop e _ _=>e
 |_=>.normal
def AG4:Cfg->Bool
 |.pop .ret [] _=>true
 |.pop (.exit _) [] _=>true
 |_=>false
theorem Aj8 (regs:C5)(d:Nat)(x:Obj):A1 (ins d x regs) d=some x:=by
 induction regs with
 |nil=>simp[ins,A1]
 |cons p r ih=>
  obtain⟨i,b⟩:=p;simp only[ins];split
  .simp[A1]
  split
  .simp[A1]
  rename_i h1 a;simp only[A1,a,Eu,ih]
theorem HX (gh:Nat)(t:St):A1 (rst gh t).regs gh=some (.ghost (t.env.map λp=>p.2)):=by unfold rst;exact Aj8 _ _ _
def Ow (ids:List Nat):Cfg->Option (FuncId×List AV×List AV×List Obj)
 |.code (.rangeFunc op _ _ _) _ st=>match FN st.env op with
  |some (f,first,caps)=>match M0 ids st.regs ids,Eg ids first,Eg ids caps with
   |some objs,some as,some bs=>if (FA objs&&I2 ids&&(objs.length==ids.length)&&Nat.blt ids.length 1000) then some (f,as,bs,objs)else none
   |_,_,_=>none
  |none=>none
 |_=>none
theorem IO {ids:List Nat}{g:Cfg}{q:FuncId×List AV×List AV×List Obj}(h:UM P ids g=some q):Ow ids g=some q/\∃fn,P.funcs[q.1]? = some fn/\fn.body.isSome=true/\(fn.name == "runtime.NumGoroutine")=false:=by
 unfold UM at h;split at h
 .split at h
  .rename_i a;split at h
   .rename_i fn objs' as' bs' h1 c d f;split at h
    .rename_i b;cases h;simp only[Be4,Bg3,beq_iff_eq]at b;obtain⟨⟨⟨⟨⟨e1,e2⟩,e3⟩,e4⟩,e5⟩,e6⟩:=b;refine⟨?_,fn,h1,e1,by simpa using e2⟩;simp only[Ow,a,c,d,f,e3,e4,e5,e6,beq_self_eq_true,Bt6,Es]
    cases h
   cases h
  cases h
 cases h
theorem Nz (hS:G8 S P)(hc:pr){f:FuncId}{as bs:List AV}{objs:List Obj}{R T A:Type}{enc:T->List PV}{L:List T}{mb:(A->Option R)->T->A->Option R}{mk:A->Option R}{a0:A}{r:R}(o:∃fn,P.funcs[f]? = some fn/\fn.body.isSome=true/\(fn.name == "runtime.NumGoroutine")=false)
 (ids ts:List Nat) (gh:Nat) (s:A->St) {idl:List (Nat×Nat)}(h:S9 L mb mk a0=some r) (x:ES S f as bs objs (L.map enc))
 (i:∀t:T,AI (enc t)=some (Jg (stp P g)).size) (hk:∀a,(s a).env.map (·.1)=ts) (hn:∀a,A1 (s a).regs gh=none) (m:∀a,(⟨Y2 ts ((s a).env.map (·.2)),del gh (ins gh (.ghost ((s a).env.map (·.2))) (s a).regs)⟩:St)=s a)
 (c:∀(t:T) (next:St->Prop) (d:A->Option R) (a:A),
  (∀(g' : Cfg) (ids:List (Nat×Nat)) (pr:Prop) (a:A),pr->d a=some r->(hp:pr=C6 (cnd P g'):=by kernel_rfl)->(b:stp P g' = .pop .normal [] (stp P g').st:=by kernel_rfl)->(hle:KLe ids (stp P g').st (rst gh (s a)):=by exact kl)->KG S P (GF S gh ts next (kp S P (stp P g).k F)) g') ->
  mb d t a=some r->KG S P (CJ S P (UO (stp P g)) gh ts next (kp S P (stp P g).k F)) (.code (UN (stp P g)) [] (UQ gh (Jg (stp P g)) (enc t) (s a))))
 (j:∀a,mk a=some r->KG S P F (.pop .normal (stp P g).k (s a)))
 (hp:pr=C6 (cnd P g):=by kernel_rfl) (b:Ow ids (stp P g)=some (f,as,bs,objs):=by kernel_rfl) (q:Nat.blt gh 1000=true:=by kernel_rfl) (n:A1 (stp P g).st.regs gh=none:=by kernel_rfl) (u:I2 ts=true:=by kernel_rfl)
 (hle:KLe idl (UP ids ts (stp P g)) (s a0):=by exact kl):KG S P F g:=by
 refine⟨FB hS hc ?_ hp⟩;generalize stp P g=g1 at i c j b n hle;unfold Ow at b;split at b
 .rename_i op ps asg body K st;split at b
  .rename_i f' first caps v
   split at b
   .rename_i objs' as' bs' y z h4;split at b
    .rename_i w;simp only[Be2,Be9]at b;obtain⟨rfl,rfl,rfl,rfl⟩:=b;simp only[Be4,Bg3,beq_iff_eq]at w;obtain⟨⟨⟨e3,e4⟩,e5⟩,e6⟩:=w;refine AM4 hS ids ts gh s idl h x v o y e3 e4 z h4 e5 q n e6 u i hle.out hk hn (λt next d a hb hm=>?_) (λa hm=>(j a hm).out);refine (c t next d a (λg' ids' pr a hc l hp b hle=>⟨FB hS hc ?_ hp⟩) hm).out;rw[b];have hl:((s a).env.map (·.2)).length=ts.length:=by rw[<- hk a];simp
     refine hb _ (rst gh (s a)) ((s a).env.map λp=>p.2) ids' a hle.out (HX gh (s a)) hl ?_ (m a) l
     have:=congrArg St.regs (m a)
     simp only at this;show A1 (del gh (ins gh _ _)) gh=none;rw[this];exact hn a
    cases b
   cases b
  cases b
 cases b
theorem GR (hS:G8 S P)(hc:pr){f:FuncId}{as bs:List AV}{objs:List Obj}{R T A:Type}{enc:T->List PV}{L:List T}{mb:(A->Option R)->T->A->Option R}{mk:A->Option R}{a0:A}{r:R}
 (ids ts:List Nat) (gh:Nat) (s:A->St) {idl:List (Nat×Nat)}(h:S9 L mb mk a0=some r) (q:ES S f as bs objs (L.map enc))
 (d:∀t:T,AI (enc t)=some (Jg (stp P g)).size) (hk:∀a,(s a).env.map (·.1)=ts) (hn:∀a,A1 (s a).regs gh=none) (j:∀a,(⟨Y2 ts ((s a).env.map (·.2)),del gh (ins gh (.ghost ((s a).env.map (·.2))) (s a).regs)⟩:St)=s a)
 (b:∀(t:T) (next:St->Prop) (c:A->Option R) (a:A),
  (∀(g' : Cfg) (ids:List (Nat×Nat)) (pr:Prop) (a:A),pr->c a=some r->(hp:pr=C6 (cnd P g'):=by kernel_rfl)->(l:stp P g' = .pop .normal [] (stp P g').st:=by kernel_rfl)->(hle:KLe ids (stp P g').st (rst gh (s a)):=by exact kl)->KG S P (GF S gh ts next (kp S P (stp P g).k F)) g') ->
  mb c t a=some r->KG S P (CJ S P (UO (stp P g)) gh ts next (kp S P (stp P g).k F)) (.code (UN (stp P g)) [] (UQ gh (Jg (stp P g)) (enc t) (s a))))
 (i:∀a,mk a=some r->KG S P F (.pop .normal (stp P g).k (s a)))
 (hp:pr=C6 (cnd P g):=by kernel_rfl) (l:UM P ids (stp P g)=some (f,as,bs,objs):=by kernel_rfl) (m:Nat.blt gh 1000=true:=by kernel_rfl) (n:A1 (stp P g).st.regs gh=none:=by kernel_rfl) (o:I2 ts=true:=by kernel_rfl)
 (hle:KLe idl (UP ids ts (stp P g)) (s a0):=by exact kl):KG S P F g:=
 Nz hS hc (IO l).2 ids ts gh s h q d hk hn j b i hp (IO l).1 m n o hle
theorem Aj9 (hS:G8 S P)(hc:pr){f:FuncId}{as bs:List AV}{objs:List Obj}{R T A:Type}{enc:T->List PV}{L:List T}{mb:(A->Option R)->T->A->Option R}{mk:A->Option R}{a0:A}{r0:R}(o:∃fn,P.funcs[f]? = some fn/\fn.body.isSome=true/\(fn.name == "runtime.NumGoroutine")=false)
 (ids ts:List Nat) (gh:Nat) (s:A->R->St) {idl:List (Nat×Nat)}(h:S9 L mb mk a0=some r0) (x:ES S f as bs objs (L.map enc))
 (i:∀t:T,AI (enc t)=some (Jg (stp P g)).size) (hk:∀a r,(s a r).env.map (·.1)=ts) (hn:∀a r,A1 (s a r).regs gh=none) (m:∀a r,(⟨Y2 ts ((s a r).env.map (·.2)),del gh (ins gh (.ghost ((s a r).env.map (·.2))) (s a r).regs)⟩:St)=s a r)
 (c:∀(t:T) (next:St->Prop) (d:A->Option R) (a:A) (r:R),
  (∀(g' : Cfg) (ids:List (Nat×Nat)) (pr:Prop) (a:A) (r:R),pr->d a=some r->(hp:pr=C6 (cnd P g'):=by kernel_rfl)->(b:stp P g' = .pop .normal [] (stp P g').st:=by kernel_rfl)->(hle:KLe ids (stp P g').st (rst gh (s a r)):=by exact kl)->KG S P (GF S gh ts next (kp S P (stp P g).k F)) g') ->
  mb d t a=some r->KG S P (CJ S P (UO (stp P g)) gh ts next (kp S P (stp P g).k F)) (.code (UN (stp P g)) [] (UQ gh (Jg (stp P g)) (enc t) (s a r))))
 (j:∀a r,mk a=some r->KG S P F (.pop .normal (stp P g).k (s a r)))
 (hp:pr=C6 (cnd P g):=by kernel_rfl) (b:Ow ids (stp P g)=some (f,as,bs,objs):=by kernel_rfl) (q:Nat.blt gh 1000=true:=by kernel_rfl) (n:A1 (stp P g).st.regs gh=none:=by kernel_rfl) (u:I2 ts=true:=by kernel_rfl)
 (hle:KLe idl (UP ids ts (stp P g)) (s a0 r0):=by exact kl):KG S P F g:=by
 refine⟨FB hS hc ?_ hp⟩;generalize stp P g=g1 at i c j b n hle;unfold Ow at b;split at b
 .rename_i op ps asg body K st;split at b
  .rename_i f' first caps v
   split at b
   .rename_i objs' as' bs' y z h4;split at b
    .rename_i w;simp only[Be2,Be9]at b;obtain⟨rfl,rfl,rfl,rfl⟩:=b;simp only[Be4,Bg3,beq_iff_eq]at w;obtain⟨⟨⟨e3,e4⟩,e5⟩,e6⟩:=w;refine Aw1 hS ids ts gh s idl h x v o y e3 e4 z h4 e5 q n e6 u i hle.out hk hn (λt next d a r hb hm=>?_) (λa r hm=>(j a r hm).out);refine (c t next d a r (λg' ids' pr a r hc l hp b hle=>⟨FB hS hc ?_ hp⟩) hm).out;rw[b];have hl:((s a r).env.map (·.2)).length=ts.length:=by rw[<- hk a r];simp
     refine hb _ (rst gh (s a r)) ((s a r).env.map λp=>p.2) ids' a r hle.out (HX gh (s a r)) hl ?_ (m a r) l
     have:=congrArg St.regs (m a r)
     simp only at this;show A1 (del gh (ins gh _ _)) gh=none;rw[this];exact hn a r
    cases b
   cases b
  cases b
 cases b
theorem Ay0 (hS:G8 S P)(hc:pr){f:FuncId}{as bs:List AV}{objs:List Obj}{R T A:Type}{enc:T->List PV}{L:List T}{mb:(A->Option R)->T->A->Option R}{mk:A->Option R}{a0:A}{r0:R}
 (ids ts:List Nat) (gh:Nat) (s:A->R->St) {idl:List (Nat×Nat)}(h:S9 L mb mk a0=some r0) (q:ES S f as bs objs (L.map enc))
 (d:∀t:T,AI (enc t)=some (Jg (stp P g)).size) (hk:∀a r,(s a r).env.map (·.1)=ts) (hn:∀a r,A1 (s a r).regs gh=none) (j:∀a r,(⟨Y2 ts ((s a r).env.map (·.2)),del gh (ins gh (.ghost ((s a r).env.map (·.2))) (s a r).regs)⟩:St)=s a r)
 (b:∀(t:T) (next:St->Prop) (c:A->Option R) (a:A) (r:R),
  (∀(g' : Cfg) (ids:List (Nat×Nat)) (pr:Prop) (a:A) (r:R),pr->c a=some r->(hp:pr=C6 (cnd P g'):=by kernel_rfl)->(l:stp P g' = .pop .normal [] (stp P g').st:=by kernel_rfl)->(hle:KLe ids (stp P g').st (rst gh (s a r)):=by exact kl)->KG S P (GF S gh ts next (kp S P (stp P g).k F)) g') ->
  mb c t a=some r->KG S P (CJ S P (UO (stp P g)) gh ts next (kp S P (stp P g).k F)) (.code (UN (stp P g)) [] (UQ gh (Jg (stp P g)) (enc t) (s a r))))
 (i:∀a r,mk a=some r->KG S P F (.pop .normal (stp P g).k (s a r)))
 (hp:pr=C6 (cnd P g):=by kernel_rfl) (l:UM P ids (stp P g)=some (f,as,bs,objs):=by kernel_rfl) (m:Nat.blt gh 1000=true:=by kernel_rfl) (n:A1 (stp P g).st.regs gh=none:=by kernel_rfl) (o:I2 ts=true:=by kernel_rfl)
 (hle:KLe idl (UP ids ts (stp P g)) (s a0 r0):=by exact kl):KG S P F g:=
 Aj9 hS hc (IO l).2 ids ts gh s h q d hk hn j b i hp (IO l).1 m n o hle
def Bd5 (t:Nat)(a:AV):Cfg->Cfg
 |.ops all rest K st=>mkO (ins t a st.env) st.regs λenv regs=>.ops all rest K ⟨env,regs⟩
 |g=>g
theorem UR (hS:G8 S P)(hc:pr)(t:Nat){k n:Nat}{f:Nat->List PV}(b:n=0->KG S P F (Bd5 t (.p (.v (.slice none 0 0))) (stp P g)))(h1:KG S P F (Bd5 t (.p (.sl true k n f)) (stp P g)))
 (hp:pr=C6 (cnd P g):=by kernel_rfl) (a:JT (stp P g)=true:=by kernel_rfl) (c:get (stp P g).st.env t=.p (.sl false k n f):=by kernel_rfl):KG S P F g:=by
 refine⟨FB hS hc ?_ hp⟩;generalize stp P g=g1 at b h1 a c;unfold JT at a;split at a
 .refine AU2 hS t c (λh=>?_) ?_
  .have:=(b h).out
   simpa only[Bd5,Gn]using this
  have:=h1.out
  simpa only[Bd5,Gn]using this
 cases a
def frzC (j:Nat)(ps:List PV):Cfg->Cfg
 |.code c K st=>mkO (Ar3 j ps st.env) (ins j .dead st.regs) λenv regs=>.code c K ⟨env,regs⟩
 |g=>g
theorem US (hS:G8 S P)(hc:pr)(j:Nat)(ps:List PV)(hk:KG S P F (frzC j ps (stp P g)))(hp:pr=C6 (cnd P g):=by kernel_rfl)(c:Dl (stp P g)=true:=by kernel_rfl)(b:P.follows .mixedOrders=true:=by kernel_rfl)
 (a:HM (HW (stp P g)).all=true:=by kernel_rfl) (f:A1 (stp P g).st.regs j=some (.cells (ps.map .p)):=by kernel_rfl):KG S P F g:=by
 refine⟨FB hS hc ?_ hp⟩;generalize stp P g=g1 at hk c a f;unfold Dl at c;split at c
 .rename_i id ops K st;have hk:=hk.out;simp only[frzC,Gn]at hk;show awp S P (.region id ops true) (kp S P K F) st;simp only[awp,Es];have d : Ws S P ops.toList (kp S P K F) ⟨Ar3 j ps st.env,ins j .dead st.regs⟩:=by
   have:awp S P (.region id ops true) (kp S P K F) ⟨Ar3 j ps st.env,ins j .dead st.regs⟩:=hk
   simpa only[awp,Es]using this
  exact YG hS b a (hS.frz st j ps _ f d)
 cases c
def clsN (js:List Nat):Nat->List Oper->List Cls
 |_,[]=>[]
 |i,o::r=>(if js.contains i then .n else if js.contains (i+1000)then .w else Bd1 o.op)::clsN js (i+1) r
def SF (js:List Nat):Cfg->SC
 |.code (.region _ ops true) _ st=>⟨ops.toList,clsN js 0 ops.toList,ops.toList,st.env,st.regs,[]⟩
 |_=>⟨[],[],[],[],[],[]⟩
theorem E4 (hS:G8 S P)(hc:pr)(js:List Nat)(h:DG S P (SF js (stp P g)) λenv regs=>KG S P F (.pop .normal (stp P g).k ⟨env,regs⟩))(hp:pr=C6 (cnd P g):=by kernel_rfl)(c:Dl (stp P g)=true:=by kernel_rfl)(a:P.follows .mixedOrders=true:=by kernel_rfl)
 (b:Mn (SF js (stp P g)).all (SF js (stp P g)).cls=true:=by kernel_rfl):KG S P F g:=by
 have e:(λenv regs=>KG S P F (.pop .normal (stp P g).k ⟨env,regs⟩))=λenv regs=>G S P F (.pop .normal (stp P g).k ⟨env,regs⟩):=by funext env regs;exact propext ⟨λh=>h.out,λh=>⟨h⟩⟩
 rw[e]at h;refine⟨FB hS hc ?_ hp⟩;have h:=h.out;generalize stp P g=g' at c b h;unfold Dl at c;split at c
 .exact Yz hS _ a b h
 cases c
def Bd6 (ls:List (Nat×Cls)):Nat->List Oper->List Cls
 |_,[]=>[]
 |i,o::r=>(match ls.find? (λq=>q.1==i)with|some q=>q.2|none=>Bd1 o.op)::Bd6 ls (i+1) r
def SH (ls:List (Nat×Cls)):Cfg->SC
 |.code (.region _ ops true) _ st=>⟨ops.toList,Bd6 ls 0 ops.toList,ops.toList,st.env,st.regs,[]⟩
 |_=>⟨[],[],[],[],[],[]⟩
theorem G4 (hS:G8 S P)(hc:pr)(ls:List (Nat×Cls))(h:DG S P (SH ls (stp P g)) λenv regs=>KG S P F (.pop .normal (stp P g).k ⟨env,regs⟩))(hp:pr=C6 (cnd P g):=by kernel_rfl)(c:Dl (stp P g)=true:=by kernel_rfl)(a:P.follows .mixedOrders=true:=by kernel_rfl)
 (b:Mn (SH ls (stp P g)).all (SH ls (stp P g)).cls=true:=by kernel_rfl):KG S P F g:=by
 have e:(λenv regs=>KG S P F (.pop .normal (stp P g).k ⟨env,regs⟩))=λenv regs=>G S P F (.pop .normal (stp P g).k ⟨env,regs⟩):=by funext env regs;exact propext ⟨λh=>h.out,λh=>⟨h⟩⟩
 rw[e]at h;refine⟨FB hS hc ?_ hp⟩;have h:=h.out;generalize stp P g=g' at c b h;unfold Dl at c;split at c
 .exact Yz hS _ a b h
 cases c
theorem JV (hS:G8 S P)(hc:pr){body:Code}{gh:Nat}{ts:List Nat}{next:St->Prop}{Q:L7}(h:KG S P (GF S gh ts next Q) (.code body [] (stp P g).st))(hp:pr=C6 (cnd P g):=by kernel_rfl)(a:stp P g=.pop .normal [] (stp P g).st:=by kernel_rfl):KG S P (CJ S P body gh ts next Q) g:=by refine⟨FB hS hc ?_ hp⟩;rw[a];exact G_asg hS h.out
theorem NA (hS:G8 S P)(hc:pr){K:List It}{gh:Nat}{ts:List Nat}{next:St->Prop}(t:St){ids:List (Nat×Nat)}(hk:KG S P F (.pop (exitE (stp P g)) K t))(hp:pr=C6 (cnd P g):=by kernel_rfl)(a:AG4 (stp P g)=true:=by kernel_rfl)
 (hle:KLe ids (stp P g).st (rst gh t):=by exact kl) (h1:t.env.map (·.1)=ts:=by kernel_rfl) (d:A1 t.regs gh=none:=by kernel_rfl) (b:(⟨Y2 ts (t.env.map (·.2)),del gh (ins gh (.ghost (t.env.map (·.2))) t.regs)⟩:St)=t:=by kernel_rfl):KG S P (GF S gh ts next (kp S P K F)) g:=by
 refine⟨FB hS hc ?_ hp⟩;generalize stp P g=g1 at hk a hle;have hl:(t.env.map (·.2)).length=ts.length:=by rw[<- h1];simp
 have c:A1 (del gh (ins gh (.ghost (t.env.map (·.2))) t.regs)) gh=none:=by
  have:=congrArg St.regs b
  simp only at this;rw[this];exact d
 unfold AG4 at a;split at a
 .exact YD hS Fb (rst gh t) ids hle.out (HX gh t) hl c (by rw[show (⟨Y2 ts (t.env.map (·.2)),del gh (rst gh t).regs⟩:St)=t from b];exact hk.out)
 .exact YD hS Fb (rst gh t) ids hle.out (HX gh t) hl c (by rw[show (⟨Y2 ts (t.env.map (·.2)),del gh (rst gh t).regs⟩:St)=t from b];exact hk.out)
 cases a
end
end Go.AM
namespace Go.AM
section
variable {S:V2}{P:Program}{F:L7}{g:Cfg}{pr:Prop}
def AX3 (j:Nat)(ps:List PV):Cfg->Cfg
 |.ops all rest K st=>mkO (Ar3 j ps st.env) (ins j .dead st.regs) λenv regs=>.ops all rest K ⟨env,regs⟩
 |g=>g
def AG5 (ids:List Nat):Cfg->Option (FuncId×List AV×List Obj)
 |.ops all (o::_) _ st=>match BC all st.env o,o.op with
  |some true,.call c=>match c.callee with
   |.value f=>match QN st.env f (c.args.toList.map (aev st.env))with
    |some (fn,as')=>match Eg ids as',M0 ids st.regs ids with
     |some a,some ob=>if I2 ids&&FA ob then some (fn,a,ob)else none
     |_,_=>none
    |none=>none
   |_=>none
  |_,_=>none
 |_=>none
def AG6 (ids:List Nat)(ks:List Bool)(n:Nat):Cfg->Bool
 |.ops _ (o::_) _ st=>X2 st.regs ids ks (o.dst.getD 0) n
 |_=>false
def AG7 (ids:List Nat)(ks:List Bool)(r:AV)(objs' : List Obj):Cfg->Cfg
 |.ops all (o::rest) K st=>ZX o.dst (unA (H5 (o.dst.getD 0) ids ks objs'.length) r) st.env
  (back (H5 (o.dst.getD 0) ids ks objs'.length) (H5 (o.dst.getD 0) ids ks objs'.length) objs' (K6 ids ks st.regs)) λst=>.ops all rest K st
 |g=>g
theorem AN6 (hS:G8 S P)(ids:List Nat)(hc:pr){fn:FuncId}{args:List AV}{objs objs' : List Obj}{r:AV}{ks:List Bool}(f:FunO S fn args objs r objs' ks)(hk:KG S P F (AG7 ids ks r objs' (stp P g)))
 (hp:pr=C6 (cnd P g):=by kernel_rfl) (a:AG5 ids (stp P g)=some (fn,args,objs):=by kernel_rfl) (hn:AG6 ids ks objs'.length (stp P g)=true:=by kernel_rfl):KG S P F g:=by
 refine⟨FB hS hc ?_ hp⟩;have hk:=hk.out;generalize stp P g=g' at a hn hk;unfold AG5 at a;split at a
 .split at a
  .rename_i i j;split at a
   .rename_i c;split at a
    .rename_i hw;split at a
     .rename_i l d;split at a
      .rename_i b;cases a;simp only[Be4]at b;simp only[AG7,AG6,FQ]at hk hn;exact AJ8 hS ids i j c hw l d f b.1 b.2 hn hk
      cases a
     cases a
    cases a
   cases a
  cases a
 cases a
def unrT:List (St->Prop)->Nat->St->Prop
 |[],_,_=>False
 |a::_,0,t=>a t
 |_::l,i+1,t=>unrT l i t
theorem Ay1 (hS:G8 S P)(hc:pr)(n:Nat)(T:Nat->St->Prop)(s0:St){ids:List (Nat×Nat)}(j:T 0 s0)
 (l:∀(X:Type) (s' : X->St) (J:X->Prop) (m:X->Nat) (i k:Nat) (t:St),i<=n->T i t ->
  (∀(g' : Cfg) (ids:List (Nat×Nat)) (pr:Prop) (t' : St),pr->Nat.ble (i+1) n=true->T (i+1) t' -> (hp:pr=C6 (cnd P g'):=by kernel_rfl)->(q:stp P g' = .pop .normal (.lp X s' J m k::(stp P g).k) (stp P g').st:=by kernel_rfl)->(hle:KLe ids (stp P g').st t':=by exact kl)->KG S P F g') ->
  KG S P F (.code (PU (stp P g)) (.lp X s' J m k::(stp P g).k) t)) (hp:pr=C6 (cnd P g):=by kernel_rfl) (hl:HV (stp P g)=true:=by kernel_rfl) (hle:KLe ids (stp P g).st s0:=by exact kl):KG S P F g:=by
 refine⟨FB hS hc ?_ hp⟩;rw[Sy hl];refine Yg hS (X:=Nat×St) (λx=>x.2) (λx=>x.1<=n/\T x.1 x.2) (λx=>n-x.1) (0,s0) ids hle.out ⟨Bl6 _,j⟩ ?_;rintro⟨i,t⟩ ⟨o,ht⟩;refine (l (Nat×St) (λx=>x.2) (λx=>x.1<=n/\T x.1 x.2) (λx=>n-x.1) i (n-i) t o ht λg' ids' pr' t' b hn c d f a=>⟨FB hS b ?_ d⟩).out;rw[f];have hn:i+1<=n:=Bk1 hn;exact hS.le ids' _ _ _ a.out ⟨(i+1,t'),rfl,⟨hn,c⟩,by show n-(i+1)<n-i;omega⟩
end
section
variable {S:V2}{P:Program}{F:L7}{g:Cfg}{pr:Prop}
theorem O4 (hS:G8 S P)(hc:pr)(d:Nat)(st:St){ids:List (Nat×Nat)}(hk:KG S P F (opsS st (Hq P d g)))(hp:pr=C6 (AM5 P d g):=by kernel_rfl)(a:JT (Hq P d g)=true:=by kernel_rfl)(hle:KLe ids (Hq P d g).st st:=by exact kl):KG S P F g:=by
 refine⟨(GG (u:=some d) (F:=F) hS 400 [] g (by subst hp;exact hc)).2 ?_⟩;have hk:=hk.out;have hle:=hle.out;show G S P F (Hq P d g);generalize Hq P d g=g' at a hle hk;unfold JT at a;split at a
 .exact Aj1 hS st ids hle hk
 cases a
end
end Go.AM
namespace Go.AM
section
variable {S:V2}{P:Program}{F:L7}{g:Cfg}{pr:Prop}
def AX4 (S:V2)(P:Program)(pv:PV)(m:String)(as:List AV)(r:AV):Prop:=∃t y fn,pv=.iface t y/\TW P t m=some fn/\Uc S fn (.p (nP y)::as) r
def invE:Cfg->Option (PV×String×List AV)
 |.ops all (o::_) _ st=>match BC all st.env o,o.op with
  |some true,.call c=>match c.callee with
   |.invoke rv m=>match HK st.regs (c.args.toList.map (aev st.env)),aev st.env rv with
    |some (as,_),.p pv=>match Eg [] as with
     |some as'=>some (pv,m,as')
     |none=>none
    |_,_=>none
   |_=>none
  |_,_=>none
 |_=>none
def invK (r:AV):Cfg->Cfg
 |.ops all (o::rest) K st=>match o.op with
  |.call c=>match HK st.regs (c.args.toList.map (aev st.env))with
   |some (_,regs)=>ZX o.dst (unA [] r) st.env regs λst=>.ops all rest K st
   |none=>.ops all (o::rest) K st
  |_=>.ops all (o::rest) K st
 |g=>g
theorem NB (hS:G8 S P)(hc:pr){pv:PV}{m:String}{as:List AV}{r:AV}(b:AX4 S P pv m as r)(hk:KG S P F (invK r (stp P g)))
 (hp:pr=C6 (cnd P g):=by kernel_rfl) (a:invE (stp P g)=some (pv,m,as):=by kernel_rfl):KG S P F g:=by
 obtain⟨t,y,fn,rfl,hm,b⟩:=b;refine⟨FB hS hc ?_ hp⟩;have hk:=hk.out;generalize stp P g=g' at a hk;unfold invE at a;split at a
 .split at a
  .rename_i i f;split at a
   .rename_i c;split at a
    .rename_i ha d;split at a
     .rename_i j;cases a;simp only[invK,f,ha,FQ]at hk;refine Av6 hS i f c ha d hm (args:=.p (nP y)::_) ?_ b hk;simp only[Eg,RO,j]
     cases a
    cases a
   cases a
  cases a
 cases a
theorem F9 (hS:G8 S P)(hc:pr)(d j:Nat)(ps:List PV)(hk:KG S P F (AX3 j ps (Hq P d g)))(hp:pr=C6 (AM5 P d g):=by kernel_rfl)(a:JT (Hq P d g)=true:=by kernel_rfl)
 (b:A1 (Hq P d g).st.regs j=some (.cells (ps.map .p)):=by kernel_rfl):KG S P F g:=by
 refine⟨(GG (u:=some d) (F:=F) hS 400 [] g (by subst hp;exact hc)).2 ?_⟩;have hk:=hk.out;show G S P F (Hq P d g);generalize Hq P d g=g' at a b hk;unfold JT at a;split at a
 .simp only[AX3,Gn]at hk;exact Wu hS (hS.frz _ j ps _ b hk)
 cases a
def Ay2 (j j' : Nat):AV->AV
 |.vecp i m=>if i=j then .vec j' else .vecp i m
 |a=>a
def Ay3 (j j' : Nat):List AV->List AV
 |[]=>[]
 |a::r=>Ay2 j j' a::Ay3 j j' r
def Ay4 (j j' : Nat):Env->Env
 |[]=>[]
 |(t,a)::r=>(t,Ay2 j j' a)::Ay4 j j' r
def Aa0 (j j' : Nat):C5->C5
 |[]=>[]
 |(t,.cells cs)::r=>(t,.cells (Ay3 j j' cs))::Aa0 j j' r
 |(t,o)::r=>(t,o)::Aa0 j j' r
def msA (j:Nat)(r:List Nat):AV->List Nat
 |.vecp i m=>if i=j then m::r else r
 |_=>r
def msL (j:Nat):List AV->List Nat
 |[]=>[]
 |a::r=>msA j (msL j r) a
def msE (j:Nat):Env->List Nat
 |[]=>[]
 |(_,a)::r=>msA j (msE j r) a
def msR (j:Nat):C5->List Nat
 |[]=>[]
 |(_,.cells cs)::r=>msL j cs++msR j r
 |_::r=>msR j r
theorem Ak0 {j:Nat}{r:List Nat}{a:AV}:∀x∈r,x∈msA j r a:=by
 intro x hx;unfold msA;split
 .split
  .exact Bf7 _ hx
  exact hx
 exact hx
theorem YT {j n j' : Nat}{r:List Nat}{a:AV}(h:∀m∈msA j r a,m=n):Ar9 j n j' a=Ay2 j j' a:=by
 cases a with
 |vecp i m=>
  simp only[Ar9,Ay2];by_cases e:i=j
  .have:m=n:=h m (by simp[msA,e])
   simp[e,this]
  simp[e]
 |_=>rfl
theorem YU {j n j' : Nat}:∀{l:List AV},(∀m∈msL j l,m=n)->AF3 j n j' l=Ay3 j j' l
 |[],_=>rfl
 |a::r,h=>by simp only[AF3,Ay3,YT (r:=msL j r) h,YU λm hm=>h m (Ak0 m hm)]
theorem YV {j n j' : Nat}:∀{l:Env},(∀m∈msE j l,m=n)->AF2 j n j' l=Ay4 j j' l
 |[],_=>rfl
 |(t,a)::r,h=>by simp only[AF2,Ay4,YT (r:=msE j r) h,YV λm hm=>h m (Ak0 m hm)]
theorem SI {j n j' : Nat}:∀{l:C5},(∀m∈msR j l,m=n)->Yf j n j' l=Aa0 j j' l
 |[],_=>rfl
 |(t,o)::r,h=>by
  cases o with
  |cells cs=>simp only[Yf,Aa0,AS1,YU λm hm=>h m (Bh2 _ hm),SI λm hm=>h m (Bg4 _ hm)]
  |_=>simp only[Yf,Aa0,AS1,SI (l:=r) h]
def truC (j j' : Nat)(e:TypeId)(k n:Nat)(f:Nat->List PV):Cfg->Cfg
 |.ops all rest K st=>mkO (Ay4 j j' st.env) (ins j' (.vec e k n f false) (ins j .dead (Aa0 j j' st.regs))) λenv regs=>.ops all rest K ⟨env,regs⟩
 |g=>g
theorem AX5 (hS:G8 S P)(hc:pr)(d j n j' : Nat){e:TypeId}{k N:Nat}{f:Nat->List PV}(hn:n<=N)(hk:KG S P F (truC j j' e k n f (Hq P d g)))(hp:pr=C6 (AM5 P d g):=by kernel_rfl)(b:JT (Hq P d g)=true:=by kernel_rfl)
 (c:A1 (Hq P d g).st.regs j=some (.vec e k N f false):=by kernel_rfl) (i:A1 (Hq P d g).st.regs j' = none:=by kernel_rfl) (h1:Nat.ble 1000 j' = true:=by kernel_rfl)
 (hm:(msE j (Hq P d g).st.env++msR j (Hq P d g).st.regs)=List.replicate (msE j (Hq P d g).st.env++msR j (Hq P d g).st.regs).length n:=by kernel_rfl):KG S P F g:=by
 refine⟨(GG (u:=some d) (F:=F) hS 400 [] g (by subst hp;exact hc)).2 ?_⟩;have hk:=hk.out;show G S P F (Hq P d g);generalize Hq P d g=g' at b c i hk hm;unfold JT at b;split at b
 .rename_i st;have a:∀m∈msE j st.env++msR j st.regs,m=n:=λm h=>by rw[show msE j st.env++msR j st.regs=_ from hm]at h;exact (List.mem_replicate.1 h).2
  simp only[truC,Gn]at hk;refine Wu hS (hS.trunc _ j j' n N k e f _ c hn i (Bk1 h1) ?_);rw[YV λm h=>a m (Bh2 _ h),SI λm h=>a m (Bg4 _ h)];exact hk
 cases b
end
abbrev cA {α : Type}(n:Nat)(c : α -> PV)(f:Nat -> α):List PV:=Ed n (λi=>c (f i))
theorem G9 (n:Nat)(f:Nat->PV):(Ed n f).length=n:=by simp[Ed]
theorem DC (n:Nat)(f:Nat->PV):∀i,i<n->[(Ed n f).getD i default]=[f i]:=by intro i a;simp[Ed,Be1,a]
theorem Ox {n:Nat}{z:PV}{ps:List PV}(h:ps=List.replicate n z):∀i,i<n->[ps.getD i default]=[z]:=by intro i a;subst h;simp[Be1,a]
theorem Aa1 {n:Nat}{f g:Nat->PV}(h:∀i,i<n->[f i]=[g i]):Ed n f=Ed n g:=by unfold Ed;exact Bh3 λi a=>by have:=h i (Bk2.1 a);injection this
abbrev Oy {α : Type}(f:Nat -> α)(k:Nat)(x : α):Nat -> α:=λi=>if i=k then x else f i
theorem AN7 {α : Type}{c : α -> PV}{n k:Nat}{v:Nat -> α}{f:Nat->PV}{e:PV}{x : α}(h:∀i,i<n->[f i]=[c (v i)])(hx:e=c x):∀i,i<n->[if i=k then e else f i]=[c (if i=k then x else v i)]:=by
 intro i a;by_cases h1:i=k
 .rw[Dq h1,Dq h1,hx]
 rw[Ej h1,Ej h1];exact h i a
theorem app1H {α : Type}{c : α -> List PV}{n:Nat}{v:Sl α}{f g:Nat->List PV}{z : α}(h:∀i,i<n->f i=c (v.g i))(hn:n=v.n):∀i,i<n+1->i≠v.n->GB n f g i=c ((v.push z).g i):=by
 subst hn;intro i b a;have hl:i<v.n:=by omega
 show (if i<v.n then f i else g (i-v.n))=c (if i<v.n then v.g i else z);rw[Dq hl,Dq hl];exact h i hl
theorem setH {α : Type}{c : α -> List PV}{n k:Nat}{v:Sl α}{f e:Nat->List PV}{x : α}(h:∀i,i<n->i≠k->f i=c (v.g i))(hx:k<n->e k=c x):∀i,i<n->(λl=>if l=k then e l else f l) i=c ((v.upd k x).g i):=by
 intro i a;show (if i=k then e i else f i)=c (if i=k then x else v.g i);split
 .subst_vars;exact hx a
 exact h i a ‹_›
end Go.AM
namespace Go.AM
section
variable {S:V2}{P:Program}{F:L7}{g:Cfg}{R X:Type}{A B:Option R}{r:R}{b:Bool}
theorem kI (hS:G8 S P)(h:(if b then A else B)=some r)(ht:A=some r->KG S P F (AM6 (stp P g)))(a:B=some r->KG S P F (AM7 (stp P g)))
 (hp:True=C6 (cnd P g):=by kernel_rfl) (hb:Aw2 (stp P g)=some b:=by kernel_rfl):KG S P F g:=
 C9 hS Fb (λc=>ht (itT c h)) (λc=>a (itF c h)) hp hb
theorem kG (hS:G8 S P)(h:(if b then A else B)=some r)(ht:A=some r->KG S P F (Oi true (stp P g)))(a:B=some r->KG S P F (Oi false (stp P g)))
 (hp:True=C6 (cnd P g):=by kernel_rfl) (hb:YK (stp P g)=some b:=by kernel_rfl):KG S P F g:=
 GQ hS Fb (λc=>ht (itT c h)) (λc=>a (itF c h)) hp hb
theorem kR (hS:G8 S P){n:Nat}{rs:List ResultVar}{Q:ARes->List Obj->List Bool->Prop}{a:AV}{objs:List Obj}(b:Q (.ret a) objs (FE n []):=by exact⟨rfl,rfl,rfl⟩)
 (hp:True=C6 (cnd P g):=by kernel_rfl) (c:(Aw4 (stp P g)).bind (λst=>Sz P st rs [])=some (a,objs):=by kernel_rfl):KG S P (CH S P n rs Q) g:=
 Aj7 hS Fb [] b hp c
theorem kC (hS:G8 S P){x:Option X}{f:X->Option R}(h:x.bind f=some r){fn:FuncId}{args:List AV}{objs:List Obj}{objs' : X->List Obj}{rr:X->AV}{ks:List Bool}
 (a:∀{y},x=some y->FunO S fn args objs (rr y) (objs' y) ks) (hk:∀y,f y=some r->KG S P F (Aw3 [] ks (rr y) (objs' y) (stp P g)))
 (hp:True=C6 (cnd P g):=by kernel_rfl) (b:ZY [] (stp P g)=some (fn,args,objs):=by kernel_rfl) (hn:∀y,ZZ [] ks (objs' y).length (stp P g)=true:=by intro y;kernel_rfl):KG S P F g:=by
 obtain⟨y,e,h⟩:=A7 h;exact B3 hS [] Fb (a e) (hk y h) hp b (hn y)
end
end Go.AM
namespace Go.AM
inductive BT where
 |l (b:Bool)
 |n (b:Bool) (t f:BT)
def BT.ev:BT->Bool
 |.l b=>b
 |.n b t f=>if b then t.ev else f.ev
inductive BE where
 |a (b:Bool)
 |n (x y:BE)
 |o (x y:BE)
def BE.den:BE->Bool
 |.a b=>b
 |.n x y=>x.den&&y.den
 |.o x y=>x.den||y.den
def BE.tr:BE->BT->BT->BT
 |.a b,t,f=>.n b t f
 |.n x y,t,f=>x.tr (y.tr t f) f
 |.o x y,t,f=>x.tr t (y.tr t f)
def BE.top:BE->BT
 |.a b=>.l b
 |.n x y=>x.tr y.top (.l false)
 |.o x y=>x.tr (.l true) y.top
theorem BE.tr_ev:∀(e:BE) (t f:BT),(e.tr t f).ev=if e.den then t.ev else f.ev
 |.a b,t,f=>rfl
 |.n x y,t,f=>by simp only[tr,den,x.tr_ev,y.tr_ev];by_cases h:x.den=true<;>simp[h]
 |.o x y,t,f=>by simp only[tr,den,x.tr_ev,y.tr_ev];by_cases h:x.den=true<;>simp[h]
theorem BE.top_ev:∀e:BE,e.top.ev=e.den
 |.a b=>rfl
 |.n x y=>by simp only[top,den,x.tr_ev,y.top_ev,BT.ev];by_cases h:x.den=true<;>simp[h]
 |.o x y=>by simp only[top,den,x.tr_ev,y.top_ev,BT.ev];by_cases h:x.den=true<;>simp[h]
def keeps:Op->Bool
 |.move _ | .assign _ | .pick .. | .load .. | .nilCheck _ | .binOp .. | .unOp .. | .convert .. | .fieldAddr .. | .field .. | .indexAddr .. | .index .. | .extract ..=>true
 |.call { callee:=.builtin .len,.. } | .call { callee:=.builtin .min,.. } | .call { callee:=.builtin .max,.. }=>true
 |_=>false
theorem Aa2 {P:Program}{env:Env}{regs:C5}{d:Nat}{o:Op}{out:Out}(hk:keeps o=true)(h:aop P env regs d o=some out):out.regs=regs:=by unfold keeps at hk;split at hk<;>first|(cases hk;done)|(simp only[aop]at h;(repeat' split at h)<;>first|(cases h;rfl)|cases h)
theorem Rp {o:Op}(hk:keeps o=true):As1 o=true:=by unfold keeps at hk;split at hk<;>first|cases hk;done|rfl
def Ay5:List Prop->List Prop
 |[]=>[]
 |c=>[C6 c]
def bgo (P:Program)(regs:C5)(o:Oper)(last:Bool)(rec:List Prop->Env->Option (BT×List Prop))(c:List Prop)(env:Env)(runs:Bool):Option (BT×List Prop):=match runs with
 |true=>match keeps o.op,o.dst with
  |true,some d=>match aop P env regs d o.op with
   |some ⟨p,v,_⟩=>match last with
    |true=>match NJ v with
     |some b=>some (.l b,Ay5 (p++c))
     |none=>none
    |false=>fA v λv=>Af2 d v env λenv=>rec (p++c) env
   |none=>none
  |_,_=>none
 |false=>match last,o.dst with
  |false,some d=>Af2 d CG env λenv=>rec c env
  |_,_=>none
def bev (P:Program)(all:List Oper)(regs:C5):List Oper->List Prop->Env->Option (BT×List Prop)
 |[],_,_=>none
 |o::rest,c,env=>
  match o.guard with
  |none=>bgo P regs o rest.isEmpty (λc env=>bev P all regs rest c env) c env true
  |some (j,want)=>match get env (FO all j)with
   |.p (.v (.bool b))=>bgo P regs o rest.isEmpty (λc env=>bev P all regs rest c env) c env (b==want)
   |.p (.v (.tuple _))=>bgo P regs o rest.isEmpty (λc env=>bev P all regs rest c env) c env false
   |.p (.bb b)=>match Af2 (FO all j) (.p (.v (.bool true))) env λenv=>bgo P regs o rest.isEmpty (λc env=>bev P all regs rest c env) [] env want,
    Af2 (FO all j) (.p (.v (.bool false))) env λenv=>bgo P regs o rest.isEmpty (λc env=>bev P all regs rest c env) [] env !want with
    |some (t,ct),some (f,cf)=>some (.n b t f,Ay5 c++(ct.map (λp=>b=true->p)++cf.map (λp=>b=false->p)))
    |_,_=>none
   |_=>none
def Ad8 (l:List Oper):List Nat:=l.filterMap (·.dst)
def AN8 (ks:List Nat)(env:Env):Env:=env.filter λq=>!ks.contains q.1
theorem YW (ks:List Nat)(env:Env)(x:Nat):get (AN8 ks env) x=if x∈ks then .top else get env x:=by
 induction env with
 |nil=>simp[AN8,get]
 |cons q r ih=>
  obtain⟨i,a⟩:=q;simp only[AN8,List.filter_cons];by_cases b:i∈ks
  .rw[Ej (by simpa using b)]
   have:=ih
   simp only[AN8]at this;rw[this];by_cases hx:x∈ks
   .simp[hx]
   have:i≠x:=λe=>hx (e ▸ b)
   simp[hx,get,this]
  rw[Dq (by simpa using b)];simp only[get]
  have:=ih
  simp only[AN8]at this;rw[this];by_cases hx:i=x
  .subst hx;simp[b]
  simp[hx]
def WZ:List Oper->Option Nat
 |[]=>none
 |[o]=>o.dst
 |_::r=>WZ r
section
variable {S:V2}{P:Program}
theorem Rq {c:List Prop}(h:∀p∈Ay5 c,p):C6 c:=by
 cases c with
 |nil=>trivial
 |cons p r=>exact h _ (by simp[Ay5])
theorem AX6 (hS:G8 S P){all:List Oper}{regs:C5}{Q:L7}{post:List Oper}{envF:Env}{V:Bool}{d:Nat}(hQ:∀s,S.up s (IU S P all post Q)->IU S P all post Q s)(hV:get envF d=.p (.bb V))
 (hw:IU S P all post Q ⟨envF,regs⟩) :
 ∀(L:List Oper) (c:List Prop) (env:Env) (T:BT) (C:List Prop),bev P all regs L c env=some (T,C)->(∀p∈C,p)->T.ev=V->WZ L=some d ->
  (∀x,x≠d->RW (get envF x) (get env x) \/ (x∈Ad8 L/\get envF x=.top))->(∀x∈Ad8 L,x≠d->get envF x=.top)->C6 c/\IU S P all (L++post) Q ⟨env,regs⟩:=by
 intro L
 induction L with
 |nil=>intro c env T C h;cases h
 |cons o rest ih=>
  intro c env T C h w i hd hl ht;simp only[bev,JI]at h;have key:∀(c:List Prop) (env:Env) (runs:Bool) (T:BT) (C:List Prop),bgo P regs o rest.isEmpty (λc env=>bev P all regs rest c env) c env runs=some (T,C)->(∀p∈C,p)->T.ev=V ->
   (∀x,x≠d->RW (get envF x) (get env x) \/ (x∈Ad8 (o::rest)/\get envF x=.top)) ->
   C6 c/\(if runs then wOp S P o (IU S P all (rest++post) Q) Q ⟨env,regs⟩else IU S P all (rest++post) Q (put ⟨env,regs⟩ o.dst CG)):=by
   intro c env runs T C h w i hl;have l:rest.isEmpty=false->WZ rest=some d:=by
    intro hr;cases rest with
    |nil=>cases hr
    |cons a r=>simpa[WZ]using hd
   have a0:∀{d'},o.dst=some d' -> Ad8 (o::rest)=d' :: Ad8 rest:=λg=>by simp[Ad8,g]
   have m:∀d' (v:AV),o.dst=some d' -> ∀x,x≠d->RW (get envF x) (get (ins d' v env) x) \/ (x∈Ad8 rest/\get envF x=.top):=by
    intro d' v g x hx;rw[Ez];by_cases n:d' = x
    .subst n;exact .inl (.inl (ht _ (by rw[a0 g];exact Bm3 ..) hx))
    rw[Ej n];rcases hl x hx with h|⟨h1,h2⟩
    .exact .inl h
    exact .inl (.inl h2)
   cases runs with
   |true=>
    simp only[bgo,Zw,JI,Es]at h⊢;split at h
    .rename_i d' hk g;split at h
     .rename_i p v regs' ha;have hr:regs' = regs:=Aa2 hk ha;subst hr;have ha' : aop P env regs' (o.dst.getD 0) o.op=some ⟨p,v,regs'⟩:=by rw[g];exact ha
      split at h
      .rename_i u;split at h
       .rename_i b hb;cases h;have a1:=Rq w;obtain⟨hc,hp⟩:=(Dh _ _).1 a1;refine⟨hc,Nu (Rp hk) ha' hp ?_⟩;obtain rfl:rest=[]:=Bu1.1 u;simp only[WZ]at hd;have e:d' = d:=by rw[g]at hd;exact Bj1 hd
        subst e;refine hQ _ (hS.less _ ⟨envF,regs'⟩ _ (λx=>?_) (λ_=>by rw[g];rfl) (by simpa using hw));rw[g];show RW (get envF x) (get (ins d' v env) x);rw[Ez];by_cases hx:d' = x
        .subst hx;rw[Dq rfl,hV];have i:b=V:=i;subst i;unfold NJ at hb;split at hb
         .cases hb;exact .inr (.inr ⟨_,rfl,rfl⟩)
         .cases hb;exact .inr (.inl rfl)
         cases hb
        rw[Ej hx];rcases hl x (λe=>hx e.symm)with h|⟨_,h⟩
        .exact h
        exact .inl h
       cases h
      rename_i u;have hn:∀x,x≠d->RW (get envF x) (get (ins d' v env) x) \/ (x∈Ad8 rest/\get envF x=.top):=m d' v g;obtain⟨a1,a2⟩:=ih _ _ _ _ h w i (l (by simpa using u)) hn (λx hx=>ht x (by rw[a0 g];exact Bf7 _ hx));obtain⟨hc,hp⟩:=(Dh _ _).1 a1;exact⟨hc,Nu (Rp hk) ha' hp (by rw[g];exact a2)⟩
     cases h
    cases h
   |false=>
    simp only[bgo,JI,Be7,Eu]at h⊢;split at h
    .rename_i d' u g;have hn:∀x,x≠d->RW (get envF x) (get (ins d' CG env) x) \/ (x∈Ad8 rest/\get envF x=.top):=m d' _ g;obtain⟨hc,a2⟩:=ih _ _ _ _ h w i (l (by simpa using u)) hn (λx hx=>ht x (by rw[a0 g];exact Bf7 _ hx));exact⟨hc,by rw[g];exact a2⟩
    cases h
  simp only[Bg9,IU];cases hg:o.guard with
  |none=>simp only[hg]at h;obtain⟨hc,hk⟩:=key _ _ _ _ _ h w i hl;exact⟨hc,hS.refl _ _ (by simpa[hg]using hk)⟩
  |some q=>
   obtain⟨j,want⟩:=q;simp only[hg]at h;split at h
   .rename_i b hb;obtain⟨hc,hk⟩:=key _ _ _ _ _ h w i hl;refine⟨hc,hS.refl _ _ ⟨some b,by rw[hb];rfl,?_⟩⟩;have e:(some b=some want)↔(b==want)=true:=by simp
    by_cases z:(b==want)=true
    .rw[Dq (e.2 z)];simpa[z]using hk
    rw[Ej (λx=>z (e.1 x))];simpa[z]using hk
   .rename_i tt hb;obtain⟨hc,hk⟩:=key _ _ _ _ _ h w i hl;refine⟨hc,hS.refl _ _ ⟨none,by rw[hb];rfl,?_⟩⟩;rw[Ej (by simp)];simpa using hk
   .rename_i b hb;split at h
    .rename_i t ct f cf h1 h2;cases h;have hc:C6 c:=Rq λp hp=>w p (Bh2 _ hp);refine⟨hc,hS.bool _ _ b _ hb ?_⟩;have hl2:∀x,x≠d->RW (get envF x) (get (ins (FO all j) (.p (.v (.bool b))) env) x) \/ (x∈Ad8 (o::rest)/\get envF x=.top):=by
      intro x hx;rw[Ez];by_cases n:FO all j=x
      .subst n;rw[Dq rfl];rcases hl _ hx with h|h
       .rw[hb]at h;rcases h with h|h|⟨y,h1,h2⟩
        .exact .inl (.inl h)
        .exact .inl (.inr (.inr ⟨b,h,rfl⟩))
        cases h2
       exact .inr h
      rw[Ej n];exact hl x hx
     cases b with
     |true=>
      obtain⟨_,hk⟩:=key _ _ _ _ _ h1 (λp hp=>w (true=true->p) (Bg4 _ (Bh2 _ (Bk8.2 ⟨p,hp,rfl⟩))) rfl) i hl2;refine⟨some true,by show yv (get (ins _ _ _) _)=_;rw[Ez,Dq rfl];rfl,?_⟩;cases want with
      |true=>simpa using hk
      |false=>simpa using hk
     |false=>
      obtain⟨_,hk⟩:=key _ _ _ _ _ h2 (λp hp=>w (false=false->p) (Bg4 _ (Bg4 _ (Bk8.2 ⟨p,hp,rfl⟩))) rfl) i hl2;refine⟨some false,by show yv (get (ins _ _ _) _)=_;rw[Ez,Dq rfl];rfl,?_⟩;cases want with
      |true=>simpa using hk
      |false=>simpa using hk
    cases h
   cases h
end
def AN9 (P:Program)(m:Nat):Cfg->Option (BT×List Prop)
 |.ops all rest K st=>bev P all st.regs (rest.take m) [] st.env
 |_=>none
def AX7 (m:Nat)(b:Bool):Cfg->Cfg
 |.ops all rest K st=>match WZ (rest.take m)with
  |some d=>mkO (ins d (.p (.bb b)) (AN8 (Ad8 (rest.take m)) st.env)) st.regs λenv regs=>.ops all (rest.drop m) K ⟨env,regs⟩
  |none=>.ops all rest K st
 |g=>g
def AX8 (m:Nat):Cfg->Bool
 |.ops all rest K st=>(WZ (rest.take m)).isSome
 |_=>false
def AX9:List Prop->Prop
 |[]=>True
 |p::r=>r.foldl And p
theorem Ay6 {l:List Prop}(h:AX9 l):∀p∈l,p:=by
 have:∀(r:List Prop) (p:Prop),r.foldl And p->p/\∀q∈r,q:=by
  intro r
  induction r with
  |nil=>intro p h;exact⟨h,λq b=>by cases b⟩
  |cons a r ih=>intro p h;obtain⟨⟨h1,c⟩,d⟩:=ih _ h;exact⟨h1,λq b=>by rcases Bf8.1 b with rfl|b;exact c;exact d q b⟩
 cases l with
 |nil=>intro p hp;cases hp
 |cons a r=>obtain⟨h1,c⟩:=this _ _ h;exact λq b=>by rcases Bf8.1 b with rfl|b;exact h1;exact c q b
section
variable {S:V2}{P:Program}{F:L7}{g:Cfg}{pr pc:Prop}
theorem kB (hS:G8 S P)(n:∀s,S.up s (F .normal)->F .normal s)(hc:pr)(c:pc)(m:Nat)(E:BE)(hk:KG S P F (AX7 m E.den (stp P g)))
 (hp:pr=C6 (cnd P g):=by kernel_rfl) (a:(AN9 P m (stp P g)).map (·.1)=some E.top:=by kernel_rfl) (b:(AN9 P m (stp P g)).map (λx=>AX9 x.2)=some pc:=by kernel_rfl) (f:AX8 m (stp P g)=true:=by kernel_rfl):KG S P F g:=by
 refine⟨FB hS hc ?_ hp⟩;have hk:=hk.out;generalize stp P g=g' at hk a b f;unfold AN9 at a b;split at a
 .rename_i all rest K st;simp only[AX8,Bf6]at f;obtain⟨d,j⟩:=f;simp only[AX7,j,Gn]at hk;cases hb:bev P all st.regs (rest.take m) [] st.env with
  |none=>rw[hb]at a;cases a
  |some q=>
   obtain⟨T,C⟩:=q;simp only[hb]at a b;simp only[Bf2,Be2]at a b;subst a
   have:=(AX6 hS (Q:=kp S P K F) (post:=rest.drop m) (envF:=ins d (.p (.bb E.den)) (AN8 (Ad8 (rest.take m)) st.env)) (V:=E.den) (d:=d) ?_ (by rw[Ez,Dq rfl]) hk (rest.take m) [] st.env E.top C hb
    (Ay6 (b ▸ c)) E.top_ev j (λx hx=>?_) (λx hx i=>?_)).2
   .rwa [Bp2]at this
   .intro s h;cases l:rest.drop m with
    |nil=>rw[l]at h;exact Av9 hS n K s h
    |cons o r=>rw[l]at h;exact hS.trans _ _ h
   .rw[Ez,Ej (λe=>hx e.symm),YW];split
    .exact .inl (.inl rfl)
    exact .inl (.inr (.inl rfl))
   rw[Ez,Ej (λe=>i e.symm),YW,Dq hx]
 cases a
end
end Go.AM
namespace Go.AM
def famC (op:RV):Cfg->List Prop
 |.ops _ _ _ st=>match V5 op st with
  |some (c,_)=>c
  |none=>[False]
 |_=>[False]
def famG (op:RV):Cfg->Cfg
 |.ops all rest K st=>match V5 op st with
  |some (_,st)=>mkO st.env st.regs λenv regs=>.ops all rest K ⟨env,regs⟩
  |none=>.ops all rest K st
 |g=>g
section
variable {S:V2}{P:Program}{F:L7}{g:Cfg}{pr pc:Prop}
theorem EW (hS:G8 S P)(hc:pr)(d:Nat)(op:RV)(b:pc)(hk:KG S P F (famG op (Hq P d g)))(hp:pr=C6 (AM5 P d g):=by kernel_rfl)(f:JT (Hq P d g)=true:=by kernel_rfl)
 (a:pc=C6 (famC op (Hq P d g)):=by kernel_rfl):KG S P F g:=by
 refine⟨(GG (u:=some d) (F:=F) hS 400 [] g (by subst hp;exact hc)).2 ?_⟩;have hk:=hk.out;show G S P F (Hq P d g);generalize Hq P d g=g' at f a hk;unfold JT at f;split at f
 .rename_i all o rest K st;simp only[famC]at a;simp only[famG]at hk;cases i:V5 op st with
  |none=>rw[i]at a;subst a;exact b.elim
  |some q=>obtain⟨c,st'⟩:=q;simp only[i,Gn]at hk a;subst a;exact Wu hS (hS.fam op _ _ c _ i b hk)
 cases f
end
def AY0 (j k n:Nat)(e:TypeId)(g:Nat->List PV)(vw:Bool):Cfg->Cfg
 |.ops all rest K st=>mkO st.env (ins j (.vec e k n g vw) st.regs) λenv regs=>.ops all rest K ⟨env,regs⟩
 |g=>g
theorem Ak1 {S:V2}{P:Program}{F:L7}{g:Cfg}{pr:Prop}(hS:G8 S P)(hc:pr)(d j:Nat){k n:Nat}{e:TypeId}{vw:Bool}(f q:Nat->List PV)(c:∀i,i<n->leC (f i) (q i))(hk:KG S P F (AY0 j k n e q vw (Hq P d g)))
 (hp:pr=C6 (AM5 P d g):=by kernel_rfl) (a:JT (Hq P d g)=true:=by kernel_rfl) (b:A1 (Hq P d g).st.regs j=some (.vec e k n f vw):=by kernel_rfl):KG S P F g:=by
 refine⟨(GG (u:=some d) (F:=F) hS 400 [] g (by subst hp;exact hc)).2 ?_⟩;have hk:=hk.out;show G S P F (Hq P d g);generalize Hq P d g=g1 at hk a b;unfold JT at a;split at a
 .simp only[AY0,Gn]at hk;exact Wu hS (hS.vecq _ j n k e f q vw _ b c hk)
 cases a
theorem leCn {k:Nat}{g:Nat->List PV}:leC [.v (.slice none 0 0)] [.sl false k 0 g]:=GC AS2 Bc8
theorem leCr (l:List PV):leC l l:=⟨rfl,λ_=>.p (.inl rfl)⟩
end Go.AM
namespace Go.AM
def AY1 (op:RV):Cfg->List Prop
 |.code _ _ st=>match V5 op st with
  |some (c,_)=>c
  |none=>[False]
 |_=>[False]
def AY2 (op:RV):Cfg->Cfg
 |.code c K st=>match V5 op st with
  |some (_,st)=>mkO st.env st.regs λenv regs=>.code c K ⟨env,regs⟩
  |none=>.code c K st
 |g=>g
def YX {S:V2}{P:Program}{F:L7}{g:Cfg}{pr pc:Prop}(hS:G8 S P)(hc:pr)(op:RV)(d:pc)(hk:KG S P F (AY2 op (stp P g)))(hp:pr=C6 (cnd P g):=by kernel_rfl)(i:Dl (stp P g)=true:=by kernel_rfl)(f:P.follows .mixedOrders=true:=by kernel_rfl)
 (b:HM (HW (stp P g)).all=true:=by kernel_rfl) (a:pc=C6 (AY1 op (stp P g)):=by kernel_rfl):KG S P F g:=by
 refine⟨FB hS hc ?_ hp⟩;generalize stp P g=g1 at hk i b a;unfold Dl at i;split at i
 .rename_i id ops K st;have hk:=hk.out;simp only[AY2]at hk;simp only[AY1]at a;cases j:V5 op st with
  |none=>rw[j]at a;subst a;exact d.elim
  |some q=>
   obtain⟨c,st'⟩:=q;simp only[j,Gn]at hk a;subst a;show awp S P (.region id ops true) (kp S P K F) st;simp only[awp,Es];have l : Ws S P ops.toList (kp S P K F) st':=by
    have:awp S P (.region id ops true) (kp S P K F) st':=hk
    simpa only[awp,Es]using this
   exact YG hS f b (hS.fam op _ _ c _ j d l)
 cases i
def UT {P:Program}{f:FuncId}{vw:Bool}{args:List PV}{e:TypeId}{k n:Nat}{g:Nat->List PV}(t:∀as w,(callFunc f as).run P w=.ok (.enter f as) w)(hk:∀i,i<n->(g i).length=k)
 (h:∀(w:World) (Pi:Nat->Nat->Prop) (vs:Array Value),(∀b off,Pi b off->b<w.heap.size)->vs.size=args.length->(∀i,i<args.length->RepP w Pi (vs.getD i undef) (args.getD i default)) ->
  Calls P f vs w λx w'=>∃v,x=.returned v/\RowKit.Below w.heap.size w w' /\ ((v=.slice none 0 0/\n=0) \/ ∃b cap c,v=.slice (some ⟨b,0,none⟩) n cap/\w.heap.size<=b/\w'.heap[b]? = some (.cells c e (0,0))/\n<=cap/\c.size=cap*k/\cap<=maxLen /\
   ∀i j,i<n->j<k->RepP w Pi (c.getD (i*k+j) undef) ((g i).getD j default)/\(c.getD (i*k+j) undef).oneCell' = true)):FunO (Gc P) f (args.map .p) [] (.vec 0) [.vec e k n g vw] []:=by
 intro 𝒢 C w vs rho hG hs hsz;have y:∀j,A1 (objRegs []) j=none:=λj=>by simp[objRegs,objRegs.go,A1]
 have h0:=h w (Prv C.X (A1 (objRegs [])) rho) vs (λb off hp=>by
  rcases hp with hp|⟨j,o,a,_⟩
  .exact hs.hp.bound b off hp
  .simp[y]at a) (by simpa using hsz) (λi s=>by
  have:=hs.env i
  rw[AK]at this;have e:(args.map AV.p).getD i .top=.p (args.getD i default):=by simp[s]
  rw[e]at this;exact this.toP)
 refine⟨_,_,t _ _,callsIn_wide.2 (h0.mono ?_)⟩;rintro x w' ⟨v,rfl,hb,hv⟩;have hR:∀j o,A1 (objRegs [Obj.vec e k n g vw]) j=some o->j=0/\o=.vec e k n g vw:=λj o a=>by
  simp only[objRegs,objRegs.go,A1]at a;split at a
  .rename_i hj0;cases a;exact⟨hj0.symm,rfl⟩
  cases a
 have z:A1 (objRegs [Obj.vec e k n g vw]) 0=some (.vec e k n g vw):=rfl
 let rho' : Nat->Value:=λj=>if j=0 then v else rho j
 have hr0:rho' 0=v:=rfl;have l:∀b,E9 v (.vec e k n g vw) b->w.heap.size<=b/\b<w'.heap.size:=by
  intro b a0;rcases hv with⟨rfl,_⟩ | ⟨b',cap,c,rfl,h1,h2,_⟩
  .cases a0
  cases a0;exact⟨h1,(Be6.1 h2).1⟩
 have a1:∀b o,Prv C.X (A1 (objRegs [Obj.vec e k n g vw])) rho' b o->C.X b o \/ w.heap.size<=b:=by
  rintro b o (hX|⟨j,o',a,d,_⟩)
  .exact .inl hX
  obtain⟨rfl,rfl⟩:=hR j o' a;exact .inr (l b d).1
 have m:Keeps w (Prv C.X (A1 (objRegs [])) rho) w' (Prv C.X (A1 (objRegs [Obj.vec e k n g vw])) rho'):=λb o u hp hc=>by
  have q:=Bk3 w ⟨b,o,none⟩ hc;refine⟨by rw[<- hc];exact Bh7 (hb.block b q),λhpp=>?_⟩;rcases a1 b o hpp with hX|hge
  .exact hp (.inl hX)
  have:b<w.heap.size:=q
  omega
 refine⟨C,.ret (.vec 0),[.vec e k n g vw],[],rho',hG,⟨rfl,rfl,rfl⟩,?_,⟨v,rfl,?_⟩,λi s=>by simp at s⟩
 .refine⟨⟨λj o a=>?_,λi j oi oj b s a _ _=>by rw[(hR i oi s).1,(hR j oj a).1],λj o b off a d hX=>?_,λb off hp=>Bg6 (hs.hp.bound b off hp) hb.size⟩,hs.ext.trans ⟨hb.os,hb.output⟩,Bi9 hs.size hb.size,λb q hE=>?_,hs.keep.trans m,λb d=>?_,λj r b a=>by cases (hR j _ a).2⟩
  .obtain⟨rfl,rfl⟩:=hR j o a;rw[hr0];rcases hv with hn|⟨b,cap,c,rfl,h1,h2,h3,h4,h5,h6⟩
   .exact .inl hn
   exact .inr ⟨b,cap,c,rfl,h2,h3,h4,h5,hk,λi j s a=>⟨(h6 i j s a).1.keeps m,(h6 i j s a).2⟩⟩
  .obtain⟨rfl,rfl⟩:=hR j o a;have h1:=(l b d).1;have h2:=hs.hp.bound b off hX;omega
  .rw[hb.block b (Bg6 q hs.size)];exact hs.same b q hE
  obtain⟨j,o,a,d⟩:=d;obtain⟨rfl,rfl⟩:=hR j o a;exact .inr (Bi9 hs.size (l b d).1)
 rcases hv with⟨rfl,_⟩ | ⟨b,cap,c,rfl,_⟩
 .exact .vec 0 none 0 0 (by simp[Lv,z]) rfl
 exact .vec 0 _ n cap (by simp[Lv,z]) rfl
end Go.AM
namespace Go.AM
open Go.RowKit Go.ChangeShapes
end Go.AM
namespace Go.AM
section
variable {S:V2}{P:Program}{F:L7}{K:List It}{st:St}{g:Cfg}{pr:Prop}
def AO0 (p:Option PV)(r:ARes):Prop:=match p with
 |none=>∃a,r=.ret a
 |some x=>r=.panic x
def Oz (S:V2)(f:FuncId)(first caps:List AV)(objs:List Obj)(L:List (List PV))(p:Option PV):Prop:= S.F f (first ++ .yf objs.length::caps) (objs++[.yld L true]) λr objs' ks=>∃b,objs'[objs.length]? = some (.yld [] b)/\ks[objs.length]? = some true/\(b=true->AO0 p r)/\(b=false->∃a,r=.ret a)
def endP:Option PV->IT
 |none=>.normal
 |some x=>.panic x
theorem Ay7 (hS:G8 S P){g:Operand}{ps:Array Tmp}{asg body:Code}{f:FuncId}{first caps as bs:List AV}{objs:List Obj}(ids ts:List Nat)(gh:Nat)(L:List (List PV)){p:Option PV}{X:Type}(s:X->St)(J:List (List PV)->X->Prop)(x0:X)(idl:List (Nat×Nat))
 (hp:FN st.env g=some (f,first,caps)) (n:∃fn,P.funcs[f]? = some fn/\fn.body.isSome=true/\(fn.name == "runtime.NumGoroutine")=false) (q:M0 ids st.regs ids=some objs) (t:FA objs=true) (hd:I2 ids=true) (u:Eg ids first=some as) (v:Eg ids caps=some bs) (w:objs.length=ids.length)
 (z:gh<1000) (a0:A1 st.regs gh=none) (a1:ids.length<1000) (a2:I2 ts=true) (d:∀ys∈L,AI ys=some ps.size)
 (hF:Oz S f as bs objs L p) (hle:Le idl ⟨Y2 ts (ts.map (get st.env)),K6 ids (ids.map λ_=>false) st.regs⟩ (s x0)) (h0:J L x0) (hk:∀x,(s x).env.map (·.1)=ts) (hn:∀x,A1 (s x).regs gh=none)
 (c:∀ys rest x,J (ys::rest) x->G S P (CJ S P body gh ts (Av7 s J rest) (kp S P K F)) (.code asg [] ⟨MU ps.toList ys (s x).env,ins gh (.ghost ((s x).env.map (·.2))) (s x).regs⟩))
 (i:∀x,J [] x->G S P F (.pop (endP p) K (s x))):G S P F (.code (.rangeFunc g ps asg body) K st):=by
 have j:∀{l:List Nat},I2 l=true->l.Nodup:=by
  intro l
  induction l with
  |nil=>intro _;exact Bl9
  |cons a r ih=>intro h;simp only[I2,Be4,Bg3,Bh4,decide_eq_false_iff_not]at h;exact Bj2.2 ⟨h.1,ih h.2⟩
 refine⟨f,first,caps,as,bs,objs,ids,ts,gh,none,L,Av7 s J,λb r=>b=true->AO0 p r,hp,n,t,hd,u,v,q,z,a0,a1,j a2,d,hS.le idl _ _ _ hle ⟨hk x0,hn x0,x0,rfl,h0⟩,?_,?_,?_⟩
 .rintro ys rest _ _ _ ⟨x,rfl,hJ⟩;have h:=c ys rest x hJ;have e:CJ S P body gh ts (Av7 s J rest) (kp S P K F)=λe s'=>match e with
   |.normal=>S.up s' λs'=>awp S P body (GF S gh ts (Av7 s J rest) (kp S P K F)) s'
   |_=>False:=by funext e s';cases e<;>rfl
  rw[e]at h;exact h
 .rintro _ r _ _ ⟨x,rfl,hJ⟩ hf;have h1:=hf rfl;have m:=i x hJ;cases p with
  |none=>obtain⟨a,rfl⟩:=h1;exact m
  |some y=>cases h1;exact m
 rw[<- w];refine hS.monoF _ _ _ _ _ ?_ hF;rintro r o ks ⟨b,h1,m,h3,h4⟩;exact⟨b,h1,m,h3,h4⟩
theorem Ay8 (hS:G8 S P){g:Operand}{ps:Array Tmp}{asg body:Code}{f:FuncId}{first caps as bs:List AV}{objs:List Obj}{R T A:Type}{enc:T->List PV}{L:List T}{p:Option PV}{mb:(A->Option R)->T->A->Option R}{mk:A->Option R}{a0:A}{r:R}
 (ids ts:List Nat) (gh:Nat) (s:A->St) (idl:List (Nat×Nat)) (h:S9 L mb mk a0=some r) (y:Oz S f as bs objs (L.map enc) p)
 (hp:FN st.env g=some (f,first,caps)) (j:∃fn,P.funcs[f]? = some fn/\fn.body.isSome=true/\(fn.name == "runtime.NumGoroutine")=false) (l:M0 ids st.regs ids=some objs) (m:FA objs=true) (z:I2 ids=true) (n:Eg ids first=some as) (o:Eg ids caps=some bs) (q:objs.length=ids.length)
 (u:Nat.blt gh 1000=true) (v:A1 st.regs gh=none) (w:Nat.blt ids.length 1000=true) (x:I2 ts=true) (d:∀t:T,AI (enc t)=some ps.size)
 (hle:Le idl ⟨Y2 ts (ts.map (get st.env)),K6 ids (ids.map λ_=>false) st.regs⟩ (s a0)) (hk:∀a,(s a).env.map (·.1)=ts) (hn:∀a,A1 (s a).regs gh=none)
 (b:∀(t:T) (next:St->Prop) (c:A->Option R) (a:A),(∀(st st1:St) (cs:List AV) (idl:List (Nat×Nat)) (a:A),Le idl st st1->A1 st1.regs gh=some (.ghost cs)->cs.length=ts.length->A1 (del gh st1.regs) gh=none->(⟨Y2 ts cs,del gh st1.regs⟩:St)=s a->c a=some r->G S P (GF S gh ts next (kp S P K F)) (.pop .normal [] st)) ->
  mb c t a=some r->G S P (CJ S P body gh ts next (kp S P K F)) (.code asg [] ⟨MU ps.toList (enc t) (s a).env,ins gh (.ghost ((s a).env.map (·.2))) (s a).regs⟩))
 (i:∀a,mk a=some r->G S P F (.pop (endP p) K (s a))):G S P F (.code (.rangeFunc g ps asg body) K st):=by
 refine Ay7 hS ids ts gh (L.map enc) s (λrest a=>∃L',rest=L'.map enc/\S9 L' mb mk a=some r) a0 idl hp j l m z n o q (by simpa[Bn7]using u) v (by simpa[Bn7]using w) x (λys hy=>?_) y hle ⟨L,rfl,h⟩ hk hn ?_ ?_
 .obtain⟨t,_,rfl⟩:=Bk8.1 hy;exact d t
 .rintro ys rest a ⟨L',hL,hx⟩;cases L' with
  |nil=>cases hL
  |cons t L'=>simp only[Bg1,Bi8]at hL;obtain⟨rfl,rfl⟩:=hL;refine b t _ (S9 L' mb mk) a (λst st1 cs idl a hle h1 h2 h3 h4 h5=>?_) hx;exact WR hS st1 a idl hle h1 h2 h3 h4 ⟨L',rfl,h5⟩
 rintro a ⟨L',hL,hx⟩;cases L' with
 |nil=>exact i a hx
 |cons t L'=>cases hL
theorem YY (hS:G8 S P)(hc:pr){f:FuncId}{as bs:List AV}{objs:List Obj}{R T A:Type}{enc:T->List PV}{L:List T}{p:Option PV}{mb:(A->Option R)->T->A->Option R}{mk:A->Option R}{a0:A}{r:R}
 (ids ts:List Nat) (gh:Nat) (s:A->St) {idl:List (Nat×Nat)}(h:S9 L mb mk a0=some r) (x:Oz S f as bs objs (L.map enc) p)
 (i:∀t:T,AI (enc t)=some (Jg (stp P g)).size) (hk:∀a,(s a).env.map (·.1)=ts) (hn:∀a,A1 (s a).regs gh=none) (m:∀a,(⟨Y2 ts ((s a).env.map (·.2)),del gh (ins gh (.ghost ((s a).env.map (·.2))) (s a).regs)⟩:St)=s a)
 (c:∀(t:T) (next:St->Prop) (d:A->Option R) (a:A),
  (∀(g' : Cfg) (ids:List (Nat×Nat)) (pr:Prop) (a:A),pr->d a=some r->(hp:pr=C6 (cnd P g'):=by kernel_rfl)->(b:stp P g' = .pop .normal [] (stp P g').st:=by kernel_rfl)->(hle:KLe ids (stp P g').st (rst gh (s a)):=by exact kl)->KG S P (GF S gh ts next (kp S P (stp P g).k F)) g') ->
  mb d t a=some r->KG S P (CJ S P (UO (stp P g)) gh ts next (kp S P (stp P g).k F)) (.code (UN (stp P g)) [] (UQ gh (Jg (stp P g)) (enc t) (s a))))
 (j:∀a,mk a=some r->KG S P F (.pop (endP p) (stp P g).k (s a)))
 (hp:pr=C6 (cnd P g):=by kernel_rfl) (b:UM P ids (stp P g)=some (f,as,bs,objs):=by kernel_rfl) (o:Nat.blt gh 1000=true:=by kernel_rfl) (n:A1 (stp P g).st.regs gh=none:=by kernel_rfl) (q:I2 ts=true:=by kernel_rfl)
 (hle:KLe idl (UP ids ts (stp P g)) (s a0):=by exact kl):KG S P F g:=by
 refine⟨FB hS hc ?_ hp⟩;have u:=(IO b).2;replace b:=(IO b).1;generalize stp P g=g1 at i c j b n hle;unfold Ow at b;split at b
 .rename_i op ps asg body K st;split at b
  .rename_i f' first caps v
   split at b
   .rename_i objs' as' bs' y z h4;split at b
    .rename_i w;simp only[Be2,Be9]at b;obtain⟨rfl,rfl,rfl,rfl⟩:=b;simp only[Be4,Bg3,beq_iff_eq]at w;obtain⟨⟨⟨e3,e4⟩,e5⟩,e6⟩:=w;refine Ay8 hS ids ts gh s idl h x v u y e3 e4 z h4 e5 o n e6 q i hle.out hk hn (λt next d a hb hm=>?_) (λa hm=>(j a hm).out);refine (c t next d a (λg' ids' pr a hc l hp b hle=>⟨FB hS hc ?_ hp⟩) hm).out;rw[b];have hl:((s a).env.map (·.2)).length=ts.length:=by rw[<- hk a];simp
     refine hb _ (rst gh (s a)) ((s a).env.map λp=>p.2) ids' a hle.out (HX gh (s a)) hl ?_ (m a) l
     have:=congrArg St.regs (m a)
     simp only at this;show A1 (del gh (ins gh _ _)) gh=none;rw[this];exact hn a
    cases b
   cases b
  cases b
 cases b
theorem Ak2 (hS:G8 S P){f:FuncId}{fn:Func}{first caps:List AV}{objs:List Obj}{L:List (List PV)}{p:Option PV}(i:P.funcs[f]? = some fn)
 (h:KG S P (CH S P (objs++[Obj.yld L true]).length fn.results.toList λr objs' ks=>∃b,objs'[objs.length]? = some (.yld [] b)/\ks[objs.length]? = some true/\(b=true->AO0 p r)/\(b=false->∃a,r=.ret a)) (.code (fn.body.getD .skip) [] { env:=argEnv (first ++ .yf objs.length::caps),regs:=objRegs (objs++[Obj.yld L true]) }))
 (hc:fn.body.isSome=true:=by kernel_rfl) (hn:Nat.ble (first ++ .yf objs.length::caps).length fn.ntmps=true:=by kernel_rfl) (j:Nat.blt (objs++[Obj.yld L true]).length 1000=true:=by kernel_rfl)
 (d:BB fn.ntmps (fn.body.getD .skip)=true:=by kernel_rfl) (g:(fn.name == "runtime.NumGoroutine")=false:=by kernel_rfl):Oz S f first caps objs L p:=by
 obtain⟨code,c⟩:=Bf6.1 hc;rw[c,Bf0]at d h;exact LM hS i c (Bk1 hn) (by simpa[Bn7]using j) rfl d g h.out
theorem Ay9 (hS:G8 S P){f:FuncId}{fn:Func}{args:List AV}{objs:List Obj}{Q:ARes->List Obj->List Bool->Prop}(d:P.funcs[f]? = some fn)
 (h:KG S P (CH S P objs.length fn.results.toList Q) (.code (fn.body.getD .skip) [] { env:=argEnv args,regs:=objRegs objs }))
 (hc:fn.body.isSome=true:=by kernel_rfl) (hn:Nat.ble args.length fn.ntmps=true:=by kernel_rfl) (g:Nat.blt objs.length 1000=true:=by kernel_rfl)
 (b:BB fn.ntmps (fn.body.getD .skip)=true:=by kernel_rfl) (c:(fn.name == "runtime.NumGoroutine")=false:=by kernel_rfl):S.F f args objs Q:=by
 obtain⟨code,a⟩:=Bf6.1 hc;rw[a,Bf0]at b h;exact LM hS d a (Bk1 hn) (by simpa[Bn7]using g) rfl b c h.out
def panE:Cfg->Option PV
 |.ops all (o::_) _ st=>match BC all st.env o,o.op with
  |some true,.panic x=>match aev st.env x with
   |.p (.iface t y)=>some (.iface t y)
   |_=>none
  |_,_=>none
 |_=>none
def panC (x:PV):Cfg->Cfg
 |.ops _ _ K st=>.pop (.panic x) K st
 |g=>g
theorem AO1 (hS:G8 S P)(hc:pr){x:PV}(hk:KG S P F (panC x (stp P g)))(hp:pr=C6 (cnd P g):=by kernel_rfl)(a:panE (stp P g)=some x:=by kernel_rfl):KG S P F g:=by
 refine⟨FB hS hc ?_ hp⟩;have hk:=hk.out;generalize stp P g=g1 at hk a;unfold panE at a;split at a
 .rename_i all o rest K st;split at a
  .rename_i y b c;split at a
   .rename_i t z hx;cases a;exact AM2 hS b c hx hk
   cases a
  cases a
 cases a
def Az0:Cfg->Option PV
 |.pop (.panic x) [] _=>some x
 |_=>none
theorem AG8 (hS:G8 S P)(hc:pr){n:Nat}{rs:List ResultVar}{Q:ARes->List Obj->List Bool->Prop}{x:PV}{objs:List Obj}(outs:List Nat)(c:Q (.panic x) objs (FE n outs))(hp:pr=C6 (cnd P g):=by kernel_rfl)
 (a:Az0 (stp P g)=some x:=by kernel_rfl) (d:I2 outs=true:=by kernel_rfl) (b:M0 outs (stp P g).st.regs outs=some objs:=by kernel_rfl):KG S P (CH S P n rs Q) g:=by
 refine⟨FB hS hc ?_ hp⟩;generalize stp P g=g1 at a b;unfold Az0 at a;split at a
 .cases a;exact⟨outs,objs,d,b,c⟩
 cases a
theorem AO2 (hS:G8 S P){all rest:List Oper}{o:Oper}{c:Call}{f:Operand}{as:List AV}{regs:C5}{fn:FuncId}{as' args:List AV}{objs objs' : List Obj}{ks:List Bool}{x:PV}(ids:List Nat)
 (d:BC all st.env o=some true) (g:o.op=.call c) (b:c.callee=.value f) (ha:HK st.regs (c.args.toList.map (aev st.env))=some (as,regs))
 (hw:QN st.env f as=some (fn,as')) (i:Eg ids as' = some args) (a:M0 ids regs ids=some objs) (j:S.F fn args objs λres o k=>res=.panic x/\o=objs' /\ k=ks)
 (l:I2 ids=true) (hy:FA objs=true) (hn:X2 regs ids ks (o.dst.getD 0) objs'.length=true)
 (hk:G S P F (.pop (.panic x) K { env:=st.env,regs:=back (H5 (o.dst.getD 0) ids ks objs'.length) (H5 (o.dst.getD 0) ids ks objs'.length) objs' (K6 ids ks regs) })) :
 G S P F (.ops all (o::rest) K st):=by
 refine BD hS d ?_;unfold wOp;obtain⟨callee,cargs,types⟩:=c;simp only at b ha;subst b;rw[g];refine .inl ⟨as,regs,_,_,.inl ha,hw,ids,args,objs,l,i,a,hy,hS.monoF _ _ _ _ _ ?_ j⟩;rintro _ _ _ ⟨rfl,rfl,rfl⟩;exact⟨hn,hk⟩
def AG9 (ids:List Nat)(ks:List Bool)(x:PV)(objs' : List Obj):Cfg->Cfg
 |.ops all (o::rest) K st=>match o.op with
  |.call c=>match HK st.regs (c.args.toList.map (aev st.env))with
   |some (_,regs)=>mkO st.env (back (H5 (o.dst.getD 0) ids ks objs'.length) (H5 (o.dst.getD 0) ids ks objs'.length) objs' (K6 ids ks regs)) λenv regs=>.pop (.panic x) K ⟨env,regs⟩
   |none=>.ops all (o::rest) K st
  |_=>.ops all (o::rest) K st
 |g=>g
theorem AO3 (hS:G8 S P)(ids:List Nat)(hc:pr){fn:FuncId}{args:List AV}{objs objs' : List Obj}{x:PV}{ks:List Bool}(i:S.F fn args objs λres o k=>res=.panic x/\o=objs' /\ k=ks)
 (hk:KG S P F (AG9 ids ks x objs' (stp P g))) (hp:pr=C6 (cnd P g):=by kernel_rfl) (a:ZY ids (stp P g)=some (fn,args,objs):=by kernel_rfl) (hn:ZZ ids ks objs'.length (stp P g)=true:=by kernel_rfl):KG S P F g:=by
 refine⟨FB hS hc ?_ hp⟩;replace hk:=hk.out;generalize stp P g=g' at a hn hk;unfold ZY at a;split at a
 .split at a
  .rename_i j f;split at a
   .rename_i c;split at a
    .rename_i ha;split at a
     .rename_i hw;split at a
      .rename_i l d;split at a
       .rename_i b;cases a;simp only[Be4]at b;simp only[AG9,ZZ,f,ha,Gn]at hk hn;exact AO2 hS ids j f c ha hw l d i b.1 b.2 hn hk
       cases a
      cases a
     cases a
    cases a
   cases a
  cases a
 cases a
def Rr (S:V2)(R:St->Prop)(X:PV->St->Prop):L7
 |.normal,st=>S.up st R
 |.panic x,st=>X x st
 |_,_=>False
theorem K_upN (hS:G8 S P)(hc:pr){R:St->Prop}{X:PV->St->Prop}(st:St){ids:List (Nat×Nat)}(hR:R st)(hp:pr=C6 (cnd P g):=by kernel_rfl)(a:stp P g=.pop .normal [] (stp P g).st:=by kernel_rfl)
 (hle:KLe ids (stp P g).st st:=by exact kl):KG S P (Rr S R X) g:=by
 refine⟨FB hS hc ?_ hp⟩;rw[a];exact hS.le ids _ _ R hle.out hR
theorem K_upP (hS:G8 S P)(hc:pr){R:St->Prop}{X:PV->St->Prop}{x:PV}(b:X x (stp P g).st)(hp:pr=C6 (cnd P g):=by kernel_rfl)(a:Az0 (stp P g)=some x:=by kernel_rfl):KG S P (Rr S R X) g:=by
 refine⟨FB hS hc ?_ hp⟩;generalize stp P g=g1 at a b;unfold Az0 at a;split at a
 .cases a;exact b
 cases a
end
end Go.AM
namespace Go.AM
section
variable {S:V2}{P:Program}{F:L7}{K:List It}{g:Cfg}{pr:Prop}
theorem Xa (hS:G8 S P){all:List Oper}{o:Oper}{k k' : St->Prop}{Q Q' : L7}(hk:∀s,k s->k' s)(hq:∀x s,Q (.panic x) s->Q' (.panic x) s){st:St}(h:HG S P all o k Q st):HG S P all o k' Q' st:=by
 have e:∀st,wOp S P o k Q st->wOp S P o k' Q' st:=by
  intro st h;have u:∀d ids f args st,Wq S d ids f args st (HL o.dst k Q)->Wq S d ids f args st (HL o.dst k' Q'):=by
   rintro d ids f args st ⟨a,ob,h1,l,q,v,w⟩;refine⟨a,ob,h1,l,q,v,hS.monoF _ _ _ _ _ (λr o ks ⟨z,h7⟩=>⟨z,?_⟩) w⟩;cases r with
   |ret a=>exact hk _ h7
   |panic x=>exact hq _ _ h7
  unfold wOp at h⊢;split at h
  .rcases h with⟨as,regs,f',as',h1,l,ids,q⟩ | ⟨j,xs,regs,ys,rest,h1,l,q,v,w,z⟩ | ⟨f',as',c,xs,h1,l,q,v⟩ | ⟨j,jw,e,m,n,g,rest,h1,l,q,v⟩
   .exact .inl ⟨as,regs,f',as',h1,l,ids,u _ _ _ _ _ q⟩
   .exact .inr (.inl ⟨j,xs,regs,ys,rest,h1,l,q,v,w,λb=>hk _ (z b)⟩)
   .exact .inr (.inr (.inl ⟨f',as',c,xs,h1,l,q,hS.monoF _ _ _ _ _ (λr o ks e=>e.imp (fun⟨a,e1,e2,e3⟩=>⟨a,e1,e2,hk _ e3⟩) fun⟨e0,m,n,g,e1,e2,e3,e4,e5⟩=>⟨e0,m,n,g,e1,e2,e3,e4,hk _ e5⟩) v⟩))
   exact .inr (.inr (.inr ⟨j,jw,e,m,n,g,rest,h1,l,q,λb=>hk _ (v b)⟩))
  .obtain⟨as,regs,t,y,f',h1,l,q,ids,v⟩:=h;exact⟨as,regs,t,y,f',h1,l,q,ids,u _ _ _ _ _ v⟩
  .obtain⟨t,y,h1,l⟩:=h;exact⟨t,y,h1,hq _ _ l⟩
  .obtain⟨j,cl,last,seen,jm,es,h1,l,q,v,w,z,h7⟩:=h;exact⟨j,cl,last,seen,jm,es,h1,l,q,v,w,λg=>hk _ (z g),λi hi hs=>hk _ (h7 i hi hs)⟩
  rcases h with⟨out,h1,l,q⟩ | ⟨c,x,h1,l,q⟩ | ⟨out,h1,l,q⟩
  .exact .inl ⟨out,h1,l,hk _ q⟩
  .exact .inr (.inl ⟨c,x,h1,l,hk _ q⟩)
  exact .inr (.inr ⟨out,h1,l,hk _ q⟩)
 unfold HG at h⊢;refine hS.mono _ _ _ (λt h=>?_) h;split at h
 .exact e _ h
 obtain⟨b,h1,l⟩:=h;refine⟨b,h1,?_⟩;split
 .rename_i hb;rw[Dq hb]at l;exact e _ l
 rename_i hb;rw[Ej hb]at l;exact hk _ l
def AO4 (all:List Oper)(n:Nat):Bool:= Nat.blt n all.length&&(List.range all.length).all λi=>Nat.blt i n||(List.range i).all λj=>((AV4 all).getD i []).contains j
def Xb (all:List Oper)(n:Nat):Bool:=(all.take n).all λo=>match o.guard with
 |some (j,_)=>Nat.blt j n
 |none=>true
theorem Aa3 (all:List Oper){n:Nat}(b:Xb all n=true){o:Oper}(c:o∈all.take n){k:St->Prop}{Q:L7}{s:St}(h:HG S P (all.take n) o k Q s):HG S P all o k Q s:=by
 have h1:=Bf1.1 b o c;unfold HG at h⊢;cases a:o.guard with
 |none=>simpa only[a]using h
 |some q=>
  obtain⟨j,want⟩:=q;simp only[a,Bn7]at h1 h⊢;have e:FO (all.take n) j=FO all j:=by unfold FO;rw[Bm2,Dq h1]
  rw[e]at h;exact h
theorem UU (hS:G8 S P){all:List Oper}{n:Nat}{Q:L7}{st:St}(r:HM all=true)(y:AO4 all n=true)(hg:Xb all n=true)
 (h:Ws S P (all.take n) (λe s=>match e with | .normal=>IU S P all (all.drop n) Q s | .panic x=>Q (.panic x) s|_=>False) st):Ws S P all Q st:=by
 obtain⟨z,hdp,Inv,h0,u,a0⟩:=h;simp only[AO4,Be4,Bn7,Bf1,Bk2,Bj3,Bh4,decide_eq_true_eq]at y;obtain⟨hn,y⟩:=y
 let down:(Nat->Bool)->Prop:=λD=>∀i o,D i=true->all[i]? = some o->∀e∈o.after.toList,EK e=true->D e.on=true
 let Inv' : (Nat->Bool)->St->Prop:=λD s=>down D/\(((∀i,n<=i->D i=false)/\Inv D s) \/ ∃j,n<=j/\j<=all.length/\(∀i,i<all.length->(D i=true↔i<j))/\IU S P all (all.drop j) Q s)
 refine⟨z,r,Inv',⟨λi o hi=>(by cases hi),.inl ⟨λ_ _=>rfl,h0⟩⟩,?_,?_⟩
 .intro D i s o ⟨hD,hc⟩ ho hDi b;have g:i<all.length:=(Bf3.1 ho).1;have t:=LL r hD i o ho b;have l:down λj=>if j=i then true else D j:=by
   intro j oj m v e he hbe;show (if e.on=i then true else D e.on)=true;by_cases e1:j=i
   .subst e1;rw[ho]at v;cases v;split
    .rfl
    exact b e he hbe
   have m:(if j=i then true else D j)=true:=m;rw[Ej e1]at m;split
   .rfl
   exact hD j oj m v e he hbe
  have d:(∀j,j<i->D j=true)->(∀j,i<j->j<all.length->D j=false)->n<=i->S.up s (IU S P all (all.drop i) Q)->HG S P all o (Inv' λj=>if j=i then true else D j) Q s:=by
   intro c hhi hni h2;have hd:all.drop i=o::all.drop (i+1):=by rw[Bn3 g];congr 1;exact (Bf3.1 ho).2
   rw[hd]at h2;have h3:HG S P all o (IU S P all (all.drop (i+1)) Q) Q s:=hS.trans _ _ h2;refine LN hS (λs' w=>?_) (λe s h=>h) h3;refine⟨l,.inr ⟨i+1,by omega,g,λi' hi'=>?_,w⟩⟩;by_cases e:i' = i
   .simp[e]
   simp only[e,Eu];constructor
   .intro q;by_cases h5:i<i'
    .rw[hhi i' h5 hi']at q;cases q
    omega
   intro q;exact c i' (by omega)
  rcases hc with⟨c,hI⟩ | ⟨j,hj1,hj2,f,hw⟩
  .by_cases hi:i<n
   .have ho' : (all.take n)[i]? = some o:=by rw[Bm2,Dq hi];exact ho
    have h1:=Aa3 all hg (Bg8 ho') (u D i s o hI ho' hDi b);refine Xa hS (λs' w=>?_) (λx s' h=>h) h1;refine⟨l,.inl ⟨λi' h'=>?_,w⟩⟩
    have:i' ≠ i:=by omega
    show (if i' = i then true else D i')=false;rw[Ej this];exact c i' h'
   have a:∀j,j<i->D j=true:=λj m=>t j ((y i g).resolve_left hi j m);have e:i=n:=by
    by_cases q:n<i
    .have:=a n q;rw[c n (Be8 _)]at this;cases this
    omega
   subst e;refine d a (λj m _=>c j (by omega)) (Be8 _) ?_;exact a0 D s hI λj m=>a j (by simp at m;omega)
  have e:i=j:=by
   by_cases q:i<j
   .have:=(f i g).2 q;rw[hDi]at this;cases this
   by_cases h5:j<i
   .have a:D j=true:=t j ((y i g).resolve_left (by omega) j h5)
    have:=(f j (by omega)).1 a;omega
   omega
  subst e;refine d (λj m=>(f j (by omega)).2 m) (λj h1 h2=>?_) hj1 (hS.refl _ _ hw);cases hh:D j with
  |false=>rfl
  |true=>have:=(f j h2).1 hh;omega
 rintro D s ⟨hD,hc⟩ a;rcases hc with⟨c,hI⟩ | ⟨j,hj1,hj2,f,hw⟩
 .have:=a n hn;rw[c n (Be8 _)]at this;cases this
 have e:j=all.length:=by
  by_cases q:j<all.length
  .have:=(f j q).1 (a j q);omega
  omega
 subst e;rw[List.drop_length]at hw;exact hS.refl _ _ hw
def NC (n:Nat)(ls:List (Nat×Cls)):Cfg->SC
 |.code (.region _ ops true) _ st=>⟨ops.toList.take n,Bd6 ls 0 (ops.toList.take n),ops.toList.take n,st.env,st.regs,[]⟩
 |_=>⟨[],[],[],[],[],[]⟩
def Ak3 (n:Nat)(env:Env)(regs:C5):Cfg->Cfg
 |.code (.region _ ops true) K _=>.ops ops.toList (ops.toList.drop n) K ⟨env,regs⟩
 |g=>g
def Ak4 (n:Nat):Cfg->Bool
 |.code (.region _ ops true) _ _=>HM ops.toList&&AO4 ops.toList n&&Xb ops.toList n
 |_=>false
theorem Az1 (hS:G8 S P)(hc:pr)(n:Nat)(ls:List (Nat×Cls))(h:DG S P (NC n ls (stp P g)) λenv regs=>KG S P F (Ak3 n env regs (stp P g)))(hp:pr=C6 (cnd P g):=by kernel_rfl)(c:Dl (stp P g)=true:=by kernel_rfl)(a:P.follows .mixedOrders=true:=by kernel_rfl)
 (b:Mn (NC n ls (stp P g)).all (NC n ls (stp P g)).cls=true:=by kernel_rfl) (hb:Ak4 n (stp P g)=true:=by kernel_rfl):KG S P F g:=by
 have e:(λenv regs=>KG S P F (Ak3 n env regs (stp P g)))=λenv regs=>G S P F (Ak3 n env regs (stp P g)):=by funext env regs;exact propext ⟨λh=>h.out,λh=>⟨h⟩⟩
 rw[e]at h;refine⟨FB hS hc ?_ hp⟩;have h:=h.out;generalize stp P g=g' at c b h hb;unfold Dl at c;split at c
 .rename_i id ops K st;simp only[Ak4,Be4]at hb;show awp S P (.region id ops true) (kp S P K F) st;simp only[awp,Es];refine UU hS hb.1.1 hb.1.2 hb.2 ?_;have d:(ops.toList.take n).toArray.toList=ops.toList.take n:=rfl
  have:=Yz hS (F:=λe s=>match e with | .normal=>IU S P ops.toList (ops.toList.drop n) (kp S P K F) s | .panic x=>kp S P K F (.panic x) s|_=>False) (K:=[]) (id:=id) (ops:=(ops.toList.take n).toArray) (Bd6 ls 0 (ops.toList.take n)) a b h
  simpa only[G,awp,Es,kp,NC]using this
 cases c
end
end Go.AM
namespace Go.AM
open Go.RowKit Go.ChangeShapes Go.Deep
mutual
inductive LeD:PV->PV->Prop
 |refl (x:PV):LeD x x
 |sl {k n:Nat}{f g:Nat->List PV}(h:∀i,i<n->LeDs (f i) (g i)):LeD (.sl false k n f) (.sl false k n g)
inductive LeDs:List PV->List PV->Prop
 |nil:LeDs [] []
 |cons {x y:PV}{l r:List PV}(h:LeD x y) (h' : LeDs l r):LeDs (x::l) (y::r)
end
theorem LeDs.refl:∀l:List PV,LeDs l l
 |[]=>.nil
 |x::l=>.cons (.refl x) (LeDs.refl l)
theorem LeDs.length {l r:List PV}(h:LeDs l r):l.length=r.length:=by
 induction l generalizing r with
 |nil=>cases h;rfl
 |cons x l ih=>cases h with|cons _ h'=>simp[ih h']
theorem LeDs.get {l r:List PV}(h:LeDs l r):∀i,LeD (l.getD i default) (r.getD i default):=by
 induction l generalizing r with
 |nil=>cases h;exact λi=>.refl _
 |cons x l ih=>
  cases h with
  |cons h h'=>
   intro i;cases i with
   |zero=>exact h
   |succ i=>simpa using ih h' i
theorem LeDs.append {a b c d:List PV}(h:LeDs a b)(h' : LeDs c d):LeDs (a++c) (b++d):=by
 induction a generalizing b with
 |nil=>cases h;exact h'
 |cons x l ih=>cases h with|cons h1 h2=>exact .cons h1 (ih h2)
theorem RepP.leD {w:World}{Pi:Nat->Nat->Prop}{v:Value}{x:PV}(h:RepP w Pi v x):∀{y:PV},LeD x y->RepP w Pi v y:=by
 induction h with
 |slnil k f=>intro y hy;cases hy with
  |refl=>exact .slnil _ _
  |sl h=>exact .slnil _ _
 |sl nn b off cap k n f c hn hk hc h sp hsp ih=>
  intro y hy;cases hy with
  |refl=>exact .sl nn b off cap k n f c hn hk hc h sp hsp
  |sl h'=>exact .sl false b off cap k n _ c hn (λi d=>by rw[<- (h' i d).length];exact hk i d) hc (λi j d g=>ih i j d g ((h' i d).get j)) sp hsp
 |v x=>intro y hy;cases hy;exact .v x
 |bb b=>intro y hy;cases hy;exact .bb b
 |str l=>intro y hy;cases hy;exact .str l
 |agg vs cs hs h1 h ih=>intro y hy;cases hy;exact .agg vs cs hs h1 h
 |ptr b off cs c hc h ih=>intro y hy;cases hy;exact .ptr b off cs c hc h
 |iface t x a h ih=>intro y hy;cases hy;exact .iface t x a h
 |fn f x y a b hx hy ha hb iha ihb=>intro y hy;cases hy;exact .fn f x _ a b hx ‹_› ha hb
theorem CRep.leD {W:World}{cs:List Value}{p q:List PV}(h:CRep W cs p)(hl:LeDs p q):CRep W cs q:=
 ⟨by rw[h.1,hl.length],λi a=>⟨(h.2 i (by rw[hl.length];exact a)).1.leD (hl.get i),(h.2 i (by rw[hl.length];exact a)).2⟩⟩
section
variable {P:Program}{t e:TypeId}{m:Nat}{pvs:List PV}
def Lz (f:Nat->Nat):Nat->Nat
 |0=>0
 |k+1=>Lz f k+f k
theorem AO5 (f:Nat->Nat){k n:Nat}(h:k<=n):Lz f k<=Lz f n:=by
 induction h with
 |refl=>exact Be8 _
 |step _ ih=>simp only[Lz];omega
theorem Ak5 (f:Nat->Nat){k n:Nat}(h:k<n):f k<=Lz f n:=by
 have:=AO5 f (show k+1<=n from h)
 simp only[Lz]at this;omega
theorem UV {f g:Nat->Nat}:∀{n:Nat},(∀i,i<n->f i<=g i)->Lz f n<=Lz g n
 |0,_=>Be8 _
 |n+1,h=>by have h1:=UV (n:=n) λi a=>h i (by omega);have b:=h n (by omega);simp only[Lz];omega
theorem Rs (f:Nat->Nat):∀n,Wo ((List.range n).map f)=Lz f n:=by
 have app:∀a b:List Nat,Wo (a++b)=Wo a+Wo b:=by
  intro a b
  induction a with
  |nil=>simp[Wo]
  |cons x r ih=>simp only[Bg9,UD,ih];omega
 intro n
 induction n with
 |zero=>rfl
 |succ n ih=>rw[Bp3,Br9,app,ih];simp[Lz,Wo]
def OA (P:Program)(t:TypeId){T:Type}(c:T->List PV)(W:T->Prop)(sz:T->Nat):Prop:= ∀(m:Nat) (pvs:List PV),JS P m t pvs->∃x:T,LeDs pvs (c x)/\W x/\sz x<=m
theorem T3 {k:IntKind}(ht:P.underlying t=some (.int k)):OA P t (cI k) (λn=>(Lit.int k n).wf=true) (λ_=>1):=by
 intro m pvs h;cases h with
 |bool ht'=>rw[ht]at ht';cases ht'
 |str ht'=>rw[ht]at ht';cases ht'
 |slice _ ht'=>rw[ht]at ht';cases ht'
 |arr ht'=>rw[ht]at ht';cases ht'
 |struct ht'=>rw[ht]at ht';cases ht'
 |int ht' hw hm=>rw[ht]at ht';cases ht';exact⟨_,LeDs.refl _,hw,hm⟩
theorem Aa4 (ht:P.underlying t=some .bool):OA P t cB (λ_=>True) (λ_=>1):=by
 intro m pvs h;cases h with
 |int ht'=>rw[ht]at ht';cases ht'
 |str ht'=>rw[ht]at ht';cases ht'
 |slice _ ht'=>rw[ht]at ht';cases ht'
 |arr ht'=>rw[ht]at ht';cases ht'
 |struct ht'=>rw[ht]at ht';cases ht'
 |bool ht' hm=>exact⟨_,LeDs.refl _,trivial,hm⟩
theorem Ak6 (ht:P.underlying t=some .string):OA P t cS (λ_=>True) (λl=>l.length+1):=by
 intro m pvs h;cases h with
 |int ht'=>rw[ht]at ht';cases ht'
 |bool ht'=>rw[ht]at ht';cases ht'
 |slice _ ht'=>rw[ht]at ht';cases ht'
 |arr ht'=>rw[ht]at ht';cases ht'
 |struct ht'=>rw[ht]at ht';cases ht'
 |str ht' hm=>exact⟨_,LeDs.refl _,trivial,hm⟩
theorem Dp {T:Type}[Inhabited T]{c:T->List PV}{W:T->Prop}{sz:T->Nat}{k:Nat}(ht:P.underlying t=some (.slice e))(hk:P.cellsOf e=k)(h:OA P e c W sz) :OA P t (cL k c) (λs=>∀i,i<s.n->W (s.g i)) (λs=>Lz (λi=>sz (s.g i)) s.n+1):=by
 intro m pvs hs;cases hs with
 |int ht'=>rw[ht]at ht';cases ht'
 |bool ht'=>rw[ht]at ht';cases ht'
 |str ht'=>rw[ht]at ht';cases ht'
 |arr ht'=>rw[ht]at ht';cases ht'
 |struct ht'=>rw[ht]at ht';cases ht'
 | @slice _ _ e' n f ms ht' hl hel hm=>
  rw[ht]at ht';cases ht';obtain⟨g,b⟩:=choose_lt (α:=T) (p:=λi x=>LeDs (f i) (c x)/\W x/\sz x<=ms i) λi a=>h _ _ (hel i a);refine⟨⟨n,g⟩,?_,λi a=>(b i a).2.1,?_⟩
  .subst hk;exact .cons (.sl λi a=>(b i a).1) .nil
  have h1:=UV (n:=n) λi a=>(b i a).2.2;rw[Rs]at hm;show Lz (λi=>sz (g i)) n+1<=m;omega
theorem Cv {fs:Array Field}(ht:P.underlying t=some (.struct fs))(h:JS P m t pvs):∃m',HS P m' (fs.toList.map (·.type)) pvs/\m' + 1<=m:=by
 cases h with
 |int ht'=>rw[ht]at ht';cases ht'
 |bool ht'=>rw[ht]at ht';cases ht'
 |str ht'=>rw[ht]at ht';cases ht'
 |slice _ ht'=>rw[ht]at ht';cases ht'
 |arr ht'=>rw[ht]at ht';cases ht'
 |struct ht' h hm=>rw[ht]at ht';cases ht';exact⟨_,h,hm⟩
theorem E7 {ts:List TypeId}(h:HS P m (t::ts) pvs):∃a b p q,pvs=p++q/\JS P a t p/\HS P b ts q/\a+b<=m:=by
 cases h with
 |cons h h' hm=>exact⟨_,_,_,_,rfl,h,h',hm⟩
theorem EF (h:HS P m [] pvs):pvs=[]:=by cases h;rfl
end
end Go.AM
namespace Go.AM
section
variable {S:V2}{P:Program}{sc:SC}{k:Env->C5->Prop}{pr:Prop}
end
end Go.AM
namespace Go.AM
section
variable {κ ν : Type}
def HJ (eq : κ -> κ -> Bool)(k : κ)(z : ν):List (κ × ν)->Nat × ν×List (κ × ν)
 |[]=>(0,z,[(k,z)])
 |(a,v)::es=>if eq k a then (0,v,(k,v)::es)else ((HJ eq k z es).1+1,(HJ eq k z es).2.1,(a,v)::(HJ eq k z es).2.2)
def AS7:List (κ × ν)->Nat -> ν -> List (κ × ν)
 |[],_,_=>[]
 |(a,_)::es,0,v=>(a,v)::es
 |p::es,n+1,v=>p::AS7 es n v
theorem ND {kP : κ -> PV}{vP : ν -> PV}{cmp:PV->PV->Option Bool}{eq : κ -> κ -> Bool}(hc:∀a b,cmp (kP a) (kP b)=some (eq a b))(k : κ)(z : ν):∀es:List (κ × ν),
 ∃q,Fz cmp (kP k) (Dd kP vP es)=some q/\ent (kP k) (vP z) (Dd kP vP es) q=((HJ eq k z es).1,vP (HJ eq k z es).2.1,Dd kP vP (HJ eq k z es).2.2)
 |[]=>⟨none,rfl,rfl⟩
 |(a,v)::es=>by
  have e0:Dd kP vP ((a,v)::es)=(kP a,vP v)::Dd kP vP es:=rfl;rw[e0];simp only[Fz,hc,HJ];cases h:eq k a
  .obtain⟨q,h1,c⟩:=ND (vP:=vP) hc k z es;refine⟨q.map (· + 1),by simp[h1],?_⟩;cases q with
   |none=>simp only[ent,Be9]at c;simp only[ent,Br7,Be7,Eu,Bh0,Be9];refine⟨by rw[c.1],c.2.1,?_⟩;rw[Bg9,c.2.2];rfl
   |some j=>simp only[ent,Be9]at c;simp only[ent,Bf2,Be7,Eu,Be9];refine⟨by rw[c.1],by simpa using c.2.1,?_⟩;rw[Bv9,Bw7,c.2.2];rfl
  exact⟨some 0,rfl,rfl⟩
theorem UW {eq : κ -> κ -> Bool}(c:∀a b,eq a b=true->a=b){k : κ}{z v : ν}:∀{es:List (κ × ν)},P5 eq k es=some v->(HJ eq k z es).2=(v,es)
 |[],h=>by cases h
 |(a,x)::es,h=>by
  simp only[P5]at h;simp only[HJ];split at h
  .rename_i hk;cases h;rw[Dq hk,c _ _ hk]
  rename_i hk;rw[Ej hk,UW c h]
theorem JW (eq : κ -> κ -> Bool)(k : κ)(z : ν):∀es:List (κ × ν),(HJ eq k z es).1<(HJ eq k z es).2.2.length
 |[]=>by simp[HJ]
 |(a,v)::es=>by
  have:=JW eq k z es
  simp only[HJ];split<;>simp<;>omega
theorem KK {kP : κ -> PV}{vP : ν -> PV}:∀(es:List (κ × ν)) (i:Nat) (v : ν),i<es.length->AJ0 (Dd kP vP es) i (vP v)=Dd kP vP (AS7 es i v)
 |[],i,v,h=>Er h (by simp)
 |(a,x)::es,0,v,h=>rfl
 |p::es,n+1,v,h=>by have ih:=KK (kP:=kP) (vP:=vP) es n v (by simpa using h);have e0:Dd kP vP (p::es)=(kP p.1,vP p.2)::Dd kP vP es:=rfl;have e1:Dd kP vP (AS7 (p::es) (n+1) v)=(kP p.1,vP p.2)::Dd kP vP (AS7 es n v):=rfl;rw[e0,e1,<- ih];simp only[AJ0,Bv9,Bw7]
theorem KL (eq : κ -> κ -> Bool)(k : κ)(z v : ν):∀es:List (κ × ν),AS7 (HJ eq k z es).2.2 (HJ eq k z es).1 v=Df eq k v es
 |[]=>rfl
 |(a,x)::es=>by
  have ih:=KL eq k z v es;simp only[HJ,Df];by_cases h:eq k a=true
  .simp only[h,Es];rfl
  simp only[h,Eu,Be7];show (a,x)::AS7 (HJ eq k z es).2.2 (HJ eq k z es).1 v=_;rw[ih]
end
section
variable {S:V2}{P:Program}{F:L7}{g:Cfg}{pr:Prop}
structure EntI where
 kt:TypeId
 key:PV
 z:PV
 es:List (PV×PV)
end
end Go.AM
namespace Go.AM
section
variable {S:V2}{P:Program}{F:L7}{g:Cfg}{pr:Prop}
end
end Go.AM
namespace Go.AM
section
variable {S:V2}{P:Program}{pr:Prop}{sc:SC}{k:Env->C5->Prop}
def Az2 (P:Program)(sc:SC):Option EntI:=match sc.cls,sc.rest with
 |cl::_,o::_=>match An sc.all sc.env o,o.op,Uz cl sc.env (o.dst.getD 0) o.op with
  |some true,.mapEntry t m k,true=>match aev sc.env k,aev sc.env m with
   |.p key,.mref j=>match A1 sc.regs j,tk P t with
    |some (.map es),some (.map kt e)=>match Hm P e with
     |some z=>if Gg P kt (nP key) then some ⟨kt,nP key,z,es⟩else none
     |none=>none
    |_,_=>none
   |_,_=>none
  |_,_,_=>none
 |_,_=>none
def UX (P:Program)(sc:SC):Option EntI:=match sc.cls,sc.rest with
 |.l js::_,o::_=>match An sc.all sc.env o,o.op with
  |some true,.mapEntry t m k=>match aev sc.env k,aev sc.env m with
   |.p key,.mref j=>if js.contains j then match A1 sc.regs j,tk P t with
    |some (.map es),some (.map kt e)=>match Hm P e with
     |some z=>if Gg P kt (nP key) then some ⟨kt,nP key,z,es⟩else none
     |none=>none
    |_,_=>none
    else none
   |_,_=>none
  |_,_=>none
 |_,_=>none
def Az3 (i:Nat)(y:PV)(es' : List (PV×PV))(sc:SC):SC:=match sc.rest with
 |o::rest=>match o.op with
  |.mapEntry _ m _=>match aev sc.env m with
   |.mref j=>Ax2 o.dst (.tup [.p y,.p (pI .i64 i)]) sc.env (ins j (.map es') sc.regs) λenv regs=>⟨sc.all,sc.cls.tail,rest,env,regs,sc.kn⟩
   |_=>sc
  |_=>sc
 |[]=>sc
theorem Ak7 (hc:pr){kt:TypeId}{key z y:PV}{es es' : List (PV×PV)}{i:Nat}(b:∃q,Fz (HF P kt) key es=some q/\ent key z es q=(i,y,es'))(d:C6 (Hl P kt))(hk:DG S P (Az3 i y es' (BA P sc)) k)
 (hp:pr=C6 (Ol P sc):=by kernel_rfl) (a:Az2 P (BA P sc)=some ⟨kt,key,z,es⟩:=by kernel_rfl):DG S P sc k:=by
 refine⟨Aj4 hc ?_ hp⟩;obtain⟨q,b,r⟩:=b;replace hk:=hk.out;generalize BA P sc=s at a hk;obtain⟨all,cls,rest,env,regs,kn⟩:=s;cases rest with
 |nil=>cases cls<;>simp[Az2]at a
 |cons o rest=>
  cases cls with
  |nil=>simp[Az2]at a
  |cons cl cls=>
   simp only[Az2]at a;split at a
   .rename_i t m kk u l f;split at a
    .rename_i kp j h1 n;split at a
     .rename_i es0 kt0 e0 w ht;split at a
      .rename_i z0 x;split at a
       .rename_i g;simp only[Be2,EntI.mk.injEq]at a;obtain⟨rfl,rfl,rfl,rfl⟩:=a;simp only[Az3,l,n,EU,Bl0]at hk;refine YC (c:=Hl P kt0) (v:=.tup [.p y,.p (pI .i64 i)]) (regs':=ins j (.map es') regs) u ?_ d f hk;rw[l];simp only[aop,ht,n,h1,w,x,g,b,r]
       cases a
      cases a
     cases a
    cases a
   cases a
theorem Az4 (hc:pr){kt:TypeId}{key z y:PV}{es:List (PV×PV)}{i:Nat}(g:∃q,Fz (HF P kt) key es=some q/\ent key z es q=(i,y,es))(n:C6 (Hl P kt))(hk:DG S P (Az3 i y es (BA P sc)) k)
 (hp:pr=C6 (Ol P sc):=by kernel_rfl) (a:UX P (BA P sc)=some ⟨kt,key,z,es⟩:=by kernel_rfl):DG S P sc k:=by
 refine⟨Aj4 hc ?_ hp⟩;obtain⟨q,g,x⟩:=g;replace hk:=hk.out;generalize BA P sc=s at a hk;obtain⟨all,cls,rest,env,regs,kn⟩:=s;cases rest with
 |nil=>cases cls<;>simp[UX]at a
 |cons o rest=>
  cases cls with
  |nil=>simp[UX]at a
  |cons cl cls=>
   cases cl with
   |l js=>
    simp only[UX]at a;split at a
    .rename_i t m kk hg u;split at a
     .rename_i kp j h1 v;split at a
      .rename_i c;split at a
       .rename_i es0 kt0 e0 f ht;split at a
        .rename_i z0 hz;split at a
         .rename_i r;simp only[Be2,EntI.mk.injEq]at a;obtain⟨rfl,rfl,rfl,rfl⟩:=a;simp only[Az3,u,v,EU,Bl0]at hk;have w:∀R2:C5,A1 R2 j=some (.map es0)->aop P env R2 (o.dst.getD 0) o.op=some ⟨Hl P kt0,.tup [.p y,.p (pI .i64 i)],ins j (.map es0) R2⟩:=by intro R2 b;rw[u];simp only[aop,ht,v,h1,b,hz,r,g,x]
          have d:∀R2:C5,A1 R2 j=some (.map es0)->∀q,A1 (ins j (.map es0) R2) q=A1 R2 q:=by
           intro R2 b q;rw[N8];split
           .rename_i e;subst e;exact b.symm
           rfl
          refine⟨true,hg,?_⟩;rw[Dq rfl];exact⟨_,_,.inl ⟨_,w regs f,n,trivial,d regs f,λR2 h=>⟨_,w R2 ((h j (by simpa using c)).trans f),d R2 ((h j (by simpa using c)).trans f)⟩⟩,hk⟩
         cases a
        cases a
       cases a
      cases a
     cases a
    cases a
   |_=>simp[UX]at a
def Az5 (sc:SC):Option (Int×PV×List (PV×PV)):=match sc.cls,sc.rest with
 |cl::_,o::_=>match An sc.all sc.env o,o.op,Uz cl sc.env (o.dst.getD 0) o.op with
  |some true,.entryStore _ m s x,true=>match aev sc.env m,asInt (aev sc.env s),Ef sc.regs (aev sc.env x)with
   |.mref j,some s,some (y,regs)=>match A1 regs j with
    |some (.map es)=>some (s,y,es)
    |_=>none
   |_,_,_=>none
  |_,_,_=>none
 |_,_=>none
def AY3 (es' : List (PV×PV))(sc:SC):SC:=match sc.rest with
 |o::rest=>match o.op with
  |.entryStore _ m s x=>match aev sc.env m,Ef sc.regs (aev sc.env x)with
   |.mref j,some (_,regs)=>Ax2 o.dst Km sc.env (ins j (.map es') regs) λenv regs=>⟨sc.all,sc.cls.tail,rest,env,regs,sc.kn⟩
   |_,_=>sc
  |_=>sc
 |[]=>sc
theorem SJ (hc:pr){i:Nat}{y:PV}{es es' : List (PV×PV)}(r:i<es.length)(g:AJ0 es i y=es')(hk:DG S P (AY3 es' (BA P sc)) k)
 (hp:pr=C6 (Ol P sc):=by kernel_rfl) (a:Az5 (BA P sc)=some ((i:Int),y,es):=by kernel_rfl):DG S P sc k:=by
 refine⟨Aj4 hc ?_ hp⟩;replace hk:=hk.out;generalize BA P sc=s at a hk;obtain⟨all,cls,rest,env,regs,kn⟩:=s;cases rest with
 |nil=>cases cls<;>simp[Az5]at a
 |cons o rest=>
  cases cls with
  |nil=>simp[Az5]at a
  |cons cl cls=>
   simp only[Az5]at a;split at a
   .rename_i t m s x l d b;split at a
    .rename_i j sv y0 regs1 h1 n f;split at a
     .rename_i es0 q;simp only[Be2,Be9]at a;obtain⟨rfl,rfl,rfl⟩:=a;subst g;simp only[AY3,d,h1,f,EU,Bl0]at hk;refine YC (c:=[0<=(i:Int)/\(i:Int)<(es0.length:Int)]) (v:=Km) (regs':=ins j (.map (AJ0 es0 i y0)) regs1) l ?_ (show 0<=(i:Int)/\(i:Int)<(es0.length:Int) by omega) b hk;rw[d];simp only[aop,h1,n,f,q];rfl
     cases a
    cases a
   cases a
end
end Go.AM
namespace Go.AM
section
variable {S:V2}{P:Program}{F:L7}{g:Cfg}{pr:Prop}
end
section
variable {S:V2}{P:Program}{pr:Prop}{sc:SC}{k:Env->C5->Prop}
end
end Go.AM
namespace Go.AM
section
variable {S:V2}{P:Program}{F:L7}{g:Cfg}{pr:Prop}
def bldK (P:Program):Cfg->Cfg
 |.ops all (o::rest) K st=>match bop P st.regs (o.dst.getD 0) o.op with
  |some out=>ZX o.dst out.val st.env out.regs λst=>.ops all rest K st
  |none=>.ops all (o::rest) K st
 |g=>g
def bldI (P:Program):Cfg->Bool
 |.ops all (o::rest) K st=>(match BC all st.env o with|some true=>true|_=>false)&&(bop P st.regs (o.dst.getD 0) o.op).isSome
 |_=>false
theorem K_bld (hS:G8 S P)(hc:pr)(d:Nat)(hk:KG S P F (bldK P (Hq P d g)))
 (hp:pr=C6 (AM5 P d g):=by kernel_rfl) (f:bldI P (Hq P d g)=true:=by kernel_rfl):KG S P F g:=by
 refine⟨(GG (u:=some d) (F:=F) hS 400 [] g (by subst hp;exact hc)).2 ?_⟩;have hk:=hk.out;show G S P F (Hq P d g);generalize Hq P d g=g1 at hk f;unfold bldI at f;split at f
 .rename_i all o rest K st;simp only[Be4]at f;obtain⟨j,hb⟩:=f;split at j
  .rename_i i;obtain⟨out,a⟩:=Bf6.1 hb;simp only[bldK,a,FQ]at hk;refine BD hS i ?_;have b:C6 out.cond:=by
    unfold bop at a;split at a
    .split at a
     .cases a;exact trivial
     cases a
    cases a
   unfold wOp;split
   .rename_i c;rw[c]at a;simp[bop]at a
   .rename_i c;rw[c]at a;simp[bop]at a
   .rename_i c;rw[c]at a;simp[bop]at a
   .rename_i c;rw[c]at a;simp[bop]at a
   exact .inr (.inr ⟨out,a,b,hk⟩)
  cases j
 cases f
structure NextI where
 cl:Nat
 last:Nat
 seen:List Nat
 es:List (PV×PV)
def AY4:Cfg->Option NextI
 |.ops all (o::rest) K st=>match BC all st.env o,o.op with
  |some true,.next x false=>match aev st.env x with
   |.reg j 0=>match A1 st.regs j with
    |some (.blk (1::cl::last::seen) jm)=>match A1 st.regs jm with
     |some (.map es)=>some ⟨cl,last,seen,es⟩
     |_=>none
    |_=>none
   |_=>none
  |_,_=>none
 |_=>none
def AY5:Cfg->Cfg
 |.ops all (o::rest) K st=>ZX o.dst (.tup [.p (.bb false)]) st.env st.regs λst=>.ops all rest K st
 |g=>g
def AY6 (i:Nat)(ky vl:PV):Cfg->Cfg
 |.ops all (o::rest) K st=>match o.op with
  |.next x _=>match aev st.env x with
   |.reg j _=>match A1 st.regs j with
    |some (.blk (_::cl::_::seen) jm)=>match A1 st.regs jm with
     |some (.map es)=>ZX o.dst (.tup [.p (.bb true),.p ky,.p vl]) st.env (ins j (.blk (1::cl::es.length::(i::seen)) jm) st.regs) λst=>.ops all rest K st
     |_=>.ops all (o::rest) K st
    |_=>.ops all (o::rest) K st
   |_=>.ops all (o::rest) K st
  |_=>.ops all (o::rest) K st
 |g=>g
theorem AY7 (hS:G8 S P)(hc:pr){cl last:Nat}{seen:List Nat}{es:List (PV×PV)}(h1:cl=es.length)(q:cl<=last){ky vl:Nat->PV}(f:∀i,i<es.length->es.getD i default=(ky i,vl i))
 (d:(∀i,i<es.length->i∈seen)->KG S P F (AY5 (stp P g))) (ht:∀i,i<es.length->i ∉ seen->KG S P F (AY6 i (ky i) (vl i) (stp P g)))
 (hp:pr=C6 (cnd P g):=by kernel_rfl) (c:AY4 (stp P g)=some ⟨cl,last,seen,es⟩:=by kernel_rfl):KG S P F g:=by
 refine⟨FB hS hc ?_ hp⟩;replace d:=λx=>(d x).out;replace ht:=λi a b=>(ht i a b).out;generalize stp P g=g1 at d ht c;unfold AY4 at c;split at c
 .rename_i all o rest K st;split at c
  .rename_i x r l;split at c
   .rename_i j hx;split at c
    .rename_i cl' last' seen' jm m;split at c
     .rename_i es' hm;cases c;simp only[AY5,AY6,l,hx,m,hm,FQ]at d ht;refine BD hS r ?_;unfold wOp;rw[l];exact⟨j,cl,last,seen,jm,es,hx,m,hm,h1,q,d,λi n hs=>by rw[f i n];exact ht i n hs⟩
     cases c
    cases c
   cases c
  cases c
 cases c
structure EntVI where
 last:Nat
 i:Nat
 es:List (PV×PV)
def AY8:Cfg->Option EntVI
 |.ops all (o::rest) K st=>match BC all st.env o,o.op with
  |some true,.entry x=>match aev st.env x with
   |.reg j 0=>match A1 st.regs j with
    |some (.blk (1::_::last::i::_) jm)=>match A1 st.regs jm with
     |some (.map es)=>some ⟨last,i,es⟩
     |_=>none
    |_=>none
   |_=>none
  |_,_=>none
 |_=>none
def AY9 (ky vl:PV):Cfg->Cfg
 |.ops all (o::rest) K st=>ZX o.dst (.tup [.p ky,.p vl]) st.env st.regs λst=>.ops all rest K st
 |g=>g
theorem AZ0 (hS:G8 S P)(hc:pr)(d:Nat){last i:Nat}{es:List (PV×PV)}(h1:last=es.length)(f:i<es.length)(ky vl:PV)(b:es.getD i default=(ky,vl))(hk:KG S P F (AY9 ky vl (Hq P d g)))
 (hp:pr=C6 (AM5 P d g):=by kernel_rfl) (a:AY8 (Hq P d g)=some ⟨last,i,es⟩:=by kernel_rfl):KG S P F g:=by
 refine⟨(GG (u:=some d) (F:=F) hS 400 [] g (by subst hp;exact hc)).2 ?_⟩;have hk:=hk.out;show G S P F (Hq P d g);generalize Hq P d g=g1 at hk a;unfold AY8 at a;split at a
 .rename_i all o rest K st;split at a
  .rename_i x l m;split at a
   .rename_i j hx;split at a
    .rename_i cl' last' i' seen' jm n;split at a
     .rename_i es' hm;cases a;simp only[AY9,FQ]at hk;refine BD hS l ?_;refine JQ (c:=[last=es.length/\i<es.length]) (v:=.tup [.p ky,.p vl]) (R':=st.regs) ?_ ⟨h1,f⟩ hk;rw[m];simp only[aop,hx,n,hm,b]
     cases a
    cases a
   cases a
  cases a
 cases a
theorem AZ1 (hS:G8 S P)(hc:pr)(n:Nat)(Pr:Nat->Prop)(s:List Nat->St){ids:List (Nat×Nat)}
 (f:∀(X:Type) (s' : X->St) (J:X->Prop) (m:X->Nat) (k:Nat) (seen:List Nat),(∀i∈seen,i<n/\Pr i) ->
  (∀(g' : Cfg) (ids:List (Nat×Nat)) (pr:Prop) (i:Nat),pr->i<n->i ∉ seen->Pr i->(hp:pr=C6 (cnd P g'):=by kernel_rfl)->(c:stp P g' = .pop .normal (.lp X s' J m k::(stp P g).k) (stp P g').st:=by kernel_rfl)->(hle:KLe ids (stp P g').st (s (i::seen)):=by exact kl)->KG S P F g') ->
  KG S P F (.code (PU (stp P g)) (.lp X s' J m k::(stp P g).k) (s seen)))
 (hp:pr=C6 (cnd P g):=by kernel_rfl) (hl:HV (stp P g)=true:=by kernel_rfl) (hle:KLe ids (stp P g).st (s []):=by exact kl):KG S P F g:=by
 refine⟨FB hS hc ?_ hp⟩;rw[Sy hl];refine Yg hS s (λseen=>∀i∈seen,i<n/\Pr i) (λseen=>((List.range n).filter λi=>!seen.contains i).length) [] ids hle.out (λi b=>by cases b) λseen d=>?_;refine (f (List Nat) s _ _ _ seen d λg' ids pr i hc b hs j hp c hle=>⟨FB hS hc ?_ hp⟩).out;rw[c];refine Wv hS (i::seen) ids hle.out (λq a=>?_) ?_
 .rcases Bf8.1 a with rfl|a
  .exact⟨b,j⟩
  exact d q a
 refine filter_lt (λq=>!seen.contains q) (λq=>!(i::seen).contains q) (λq a=>?_) i ?_ ?_ (List.range n) (Bk2.2 b)
 .simp only[Bg3,Bh4,decide_eq_false_iff_not,Bf8,not_or]at a⊢;exact a.2
 .simpa using hs
 simp
end
end Go.AM
namespace Go.AM
section
variable {S:V2}{P:Program}{pr:Prop}{sc:SC}{k:Env->C5->Prop}
def AO6:AV->Bool
 |.vec _ | .vecp _ _=>false
 |_=>true
theorem NE {R:C5}:∀{l:List AV},l.all AO6=true->HK R l=some (l,R)
 |[],_=>rfl
 |a::r,h=>by simp only[Bn1,Be4]at h;simp only[HK,NE h.2];cases a<;>first|rfl|exact Er h.1 (by simp[AO6])
theorem OB {ids:List Nat}{R R2:C5}:∀{l:List Nat},(∀j∈l,A1 R2 j=A1 R j)->M0 ids R2 l=M0 ids R l
 |[],_=>rfl
 |j::l,h=>by simp only[M0,h j (by simp),OB (l:=l) λq a=>h q (by simp[a])]
theorem Gp {q:Nat}:∀{ids:List Nat}{ks:List Bool}{R:C5},q ∉ ids->A1 (K6 ids ks R) q=A1 R q
 |[],ks,R,_=>by cases ks<;>rfl
 |j::ids,[],R,h=>by simp only[Bf8,not_or]at h;simp only[K6];rw[Gp h.2,N8,Ej (Bh8 h.1)]
 |j::ids,b::ks,R,h=>by
  simp only[Bf8,not_or]at h;simp only[K6];split
  .exact Gp h.2
  rw[Gp h.2,N8,Ej (Bh8 h.1)]
theorem GS {q:Nat}:∀{ids:List Nat}{ks:List Bool}{A B:C5},A1 A q=A1 B q->A1 (K6 ids ks A) q=A1 (K6 ids ks B) q
 |[],ks,A,B,h=>by cases ks<;>exact h
 |j::ids,[],A,B,h=>by simp only[K6];exact GS (by rw[N8,N8,h])
 |j::ids,b::ks,A,B,h=>by
  simp only[K6];split
  .exact GS h
  exact GS (by rw[N8,N8,h])
def SK (ids:List Nat)(ks:List Bool)(n:Nat)(sc:SC):Bool:=match sc.cls,sc.rest with
 |.a js::_,o::_=>match o.op with
  |.call c=>((c.args.toList.map (aev sc.env)).all AO6&&ids.all λq=>js.contains q)&&(((H5 (o.dst.getD 0) ids ks n).all λq=>js.contains q)&&((List.range n).all λp=>js.contains (nid (o.dst.getD 0) p))&&X2 sc.regs ids ks (o.dst.getD 0) n)
  |_=>false
 |_,_=>false
theorem OC (ids:List Nat)(hc:pr){fn:FuncId}{args:List AV}{objs objs' : List Obj}{r:AV}{ks:List Bool}(hF:FunO S fn args objs r objs' ks)(hk:DG S P (Ot ids ks r objs' (BA P sc)) k)
 (hp:pr=C6 (Ol P sc):=by kernel_rfl) (b:Oo ids (BA P sc)=some (fn,args,objs):=by kernel_rfl) (hn:SK ids ks objs'.length (BA P sc)=true:=by kernel_rfl):DG S P sc k:=by
 refine⟨Aj4 hc ?_ hp⟩;replace hk:=hk.out;generalize BA P sc=s at b hn hk;obtain⟨all,cls,rest,env,regs,kn⟩:=s;cases rest with
 |nil=>simp[Oo]at b
 |cons o rest=>
  simp only[Oo]at b;split at b
  .rename_i c hg t;split at b
   .rename_i f u;split at b
    .rename_i as regs1 ha;split at b
     .rename_i fn' as' hw;split at b
      .rename_i a0 ob0 hr v;split at b
       .rename_i i;cases b;simp only[Be4]at i;cases cls with
        |nil=>simp[SK]at hn
        |cons cl cls=>
         cases cl with
         |a js=>
          simp only[SK,t,Be4]at hn;obtain⟨⟨l,w⟩,⟨x,y⟩,m⟩:=hn;rw[NE l]at ha;cases ha;simp only[Ot,t,NE l,EU,Bl0]at hk;have d:∀q∈ids,q∈js:=λq g=>by simpa using Bf1.1 w q g
          have n:∀q,q ∉ js->q ∉ H5 (o.dst.getD 0) ids ks objs'.length:=λq g h=>g (by simpa using Bf1.1 x q h);refine⟨true,hg,?_⟩;rw[Dq rfl];refine⟨_,_,.inr (.inr (.inr (.inr ⟨js,rfl,λq g=>?_,λR2 z=>?_⟩))),hk⟩
          .rw[IN (n q g),Gp λh=>g (d q h)]
          refine⟨_,.inl ⟨c,f,_,R2,fn,as',args,objs,objs',ks,r,ids,t,u,NE l,hw,hr,(OB λj hj=>z j (d j hj)).trans v,hF,i.1,i.2,?_,rfl,rfl⟩,λq g=>Oq (GS (z q g)),λq g=>(IN (n q g)).trans (Gp λh=>g (d q h))⟩;unfold X2 at m⊢;rw[Bf1]at m⊢;intro p hp;have h1:=m p hp;have h3:nid (o.dst.getD 0) p∈js:=by simpa using Bf1.1 y p hp
          rw[z _ h3];exact h1
         |_=>simp[SK]at hn
       cases b
      cases b
     cases b
    cases b
   cases b
  cases b
end
end Go.AM
namespace Go.AM
section
variable {S:V2}{P:Program}{g:Cfg}{pr:Prop}
def Ak8 (outs:List Nat):List Nat->List Obj->C5
 |j::js,o::os=>ins j (unO outs o) (Ak8 outs js os)
 |_,_=>[]
def Ak9:List ResultVar->List AV->Env
 |.tmp t::rs,a::l=>ins t a (Ak9 rs l)
 |_,_=>[]
def Al0 (rs:List ResultVar)(outs:List Nat)(a:AV)(objs:List Obj):St:=
 ⟨match rs with
  |[r]=>Ak9 [r] [unA outs a]
  |rs=>match a with
   |.tup l=>Ak9 rs (unL outs l)
   |_=>[],Ak8 outs outs objs⟩
def AZ2 (R:C5)(outs:List Nat):List (Nat×Nat):=(outs.filter λj=>(A1 R j).isSome).map λj=>(j,j)
theorem kOi (hS:G8 S P)(hc:pr){n:Nat}{rs:List ResultVar}{Q:ARes->List Obj->List Bool->Prop}{a:AV}{objs:List Obj}(ids:List (Nat×Nat))(outs:List Nat)(b:Q (.ret a) objs (FE n outs):=by exact⟨rfl,rfl,rfl⟩)(hp:pr=C6 (cnd P g):=by kernel_rfl)
 (c:(Aw4 (stp P g)).isSome=true:=by kernel_rfl) (hle:KLe ids (stp P g).st (Al0 rs outs a objs):=by exact kl) (d:Sz P (Al0 rs outs a objs) rs outs=some (a,objs):=by kernel_rfl):KG S P (CH S P n rs Q) g:=
 J5 hS hc (Al0 rs outs a objs) outs b hp c hle d
theorem kO (hS:G8 S P)(hc:pr){n:Nat}{rs:List ResultVar}{Q:ARes->List Obj->List Bool->Prop}{a:AV}{objs:List Obj}(outs:List Nat)(b:Q (.ret a) objs (FE n outs):=by exact⟨rfl,rfl,rfl⟩)(hp:pr=C6 (cnd P g):=by kernel_rfl)
 (c:(Aw4 (stp P g)).isSome=true:=by kernel_rfl) (hle:KLe (AZ2 (stp P g).st.regs outs) (stp P g).st (Al0 rs outs a objs):=by exact kl) (d:Sz P (Al0 rs outs a objs) rs outs=some (a,objs):=by kernel_rfl):KG S P (CH S P n rs Q) g:=
 kOi hS hc _ outs b hp c hle d
end
section
variable {α : Type}
def Al1 (c : α -> List PV):Nat->List α -> List (Nat×List PV)
 |_,[]=>[]
 |k,a::l=>(k,c a)::Al1 c (k+1) l
theorem UY (c : α -> List PV)(z:List PV):∀(l:List α) (k i:Nat) (d : α),i<l.length->H9 z (Al1 c k l) (k+i)=c (l.getD i d)
 |[],k,i,d,h=>Er h (Bf5 i)
 |a::l,k,0,d,h=>by simp[Al1,H9]
 |a::l,k,i+1,d,h=>by
  have:=UY c z l (k+1) i d (Bu3 h)
  rw[show k+1+i=k+(i+1) by omega]at this;simp only[Al1,H9];rw[Ej (by omega),this];rfl
theorem Aa5 [Inhabited α](c : α -> List PV)(l:List α)(z:List PV):(Leaf.fn l.length (Sl.of l).n (H9 z (Al1 c 0 l)) (λi=>c ((Sl.of l).g i))).ok:=⟨rfl,λi a=>by
 have:=UY c z l 0 i default a
 rw[Bi7]at this;exact this⟩
theorem W6 (c : α -> List PV)(v:Sl α)(x : α)(z:List PV):(Leaf.fn (v.n+1) (v.push x).n (GB v.n (λi=>c (v.g i)) (H9 z [(0,c x)])) (λi=>c ((v.push x).g i))).ok:=⟨rfl,app1 same rfl rfl⟩
theorem appS (c : α -> List PV)(v w:Sl α):(Leaf.fn (v.n+w.n) (v.app w).n (GB v.n (λi=>c (v.g i)) (λi=>c (w.g i))) (λi=>c ((v.app w).g i))).ok:=⟨rfl,appL same rfl same rfl⟩
theorem Mq (n:Nat)(f:Nat->PV):(Leaf.fn n n (λi=>[(λi=>(Ed n f).getD i default) i]) (λi=>[f i])).ok:=⟨rfl,DC n f⟩
theorem Az6 (n:Nat)(z:PV):(Leaf.fn n n (λi=>[(λi=>(List.replicate n z).getD i default) i]) (λ_=>[z])).ok:=⟨rfl,Ox rfl⟩
theorem AH0 (c : α -> List PV)(v:Sl α)(z:List PV):(Leaf.fn (0+v.n) v.n (GB 0 (H9 z []) (λi=>c (v.g i))) (λi=>c (v.g i))).ok:=⟨Bi7 _,λi _=>by simp[GB]⟩
variable {ids:List (Nat×Nat)}{s t:St}{L M:Leaf}
theorem kl1 (i:Nat)(h:L.ok)(h1:(leK ids s t).map (Aw9 [i] Leaf.src)=(leK ids s t).map (Aw9 [i] Leaf.tgt):=by kernel_rfl)
 (a:(leK ids s t).map (λK=>[K[i]?])=some [some L]:=by kernel_rfl):KLe ids s t:=klR [(i,L)] (al1 h al0) h1 a
theorem kl2 (i j:Nat)(h:L.ok)(g:M.ok)(h1:(leK ids s t).map (Aw9 [i,j] Leaf.src)=(leK ids s t).map (Aw9 [i,j] Leaf.tgt):=by kernel_rfl)
 (a:(leK ids s t).map (λK=>[K[i]?,K[j]?])=some [some L,some M]:=by kernel_rfl):KLe ids s t:=klR [(i,L),(j,M)] (al1 h (al1 g al0)) h1 a
end
section
variable {S:V2}{P:Program}{F:L7}{g:Cfg}{pr:Prop}{sc:SC}{k:Env->C5->Prop}{κ ν : Type}
theorem lkC {kP : κ -> PV}{vP : ν -> PV}{cmp:PV->PV->Option Bool}{eq : κ -> κ -> Bool}(hc:∀a b,cmp (kP a) (kP b)=some (eq a b)){q : κ}{es:List (κ × ν)}{r:Option ν}(o:P5 eq q es=r):find cmp (kP q) (Dd kP vP es)=some (r.map vP):=by subst o;exact UG hc q es
theorem Xc (hS:G8 S P)(hc:pr)(kt e:TypeId)(kP : κ -> PV)(vP : ν -> PV)(eq : κ -> κ -> Bool){q : κ}{es:List (κ × ν)}{v : ν}(o:P5 eq q es=some v)(c:C6 (Hl P kt))(hk:KG S P F (Aj3 (vP v) true (stp P g)))
 (d:∀a b,HF P kt (kP a) (kP b)=some (eq a b):=by exact λ_ _=>by kernel_rfl) (hp:pr=C6 (cnd P g):=by kernel_rfl) (f:Aj2 P (stp P g)=some ⟨kt,e,kP q,Dd kP vP es⟩:=by kernel_rfl) (hx:UH P e (some (vP v))=some (vP v,true):=by kernel_rfl):KG S P F g:=
 YR hS hc (lkC d o) c hk hp f hx
theorem Xd (hS:G8 S P)(hc:pr)(kt e:TypeId)(kP : κ -> PV)(vP : ν -> PV)(eq : κ -> κ -> Bool){q : κ}{es:List (κ × ν)}(o:P5 eq q es=none)(x:PV)(c:C6 (Hl P kt))(hk:KG S P F (Aj3 x false (stp P g)))
 (d:∀a b,HF P kt (kP a) (kP b)=some (eq a b):=by exact λ_ _=>by kernel_rfl) (hp:pr=C6 (cnd P g):=by kernel_rfl) (f:Aj2 P (stp P g)=some ⟨kt,e,kP q,Dd kP vP es⟩:=by kernel_rfl) (hx:UH P e none=some (x,false):=by kernel_rfl):KG S P F g:=
 YR hS hc (lkC d o) c hk hp f hx
theorem Aa6 (hS:G8 S P)(hc:pr)(kt:TypeId)(kP : κ -> PV)(vP : ν -> PV)(eq : κ -> κ -> Bool)(q : κ)(y : ν)(es:List (κ × ν))(c:C6 (Hl P kt))(hk:KG S P F (Bd4 (Dd kP vP (Df eq q y es)) (stp P g)))
 (d:∀a b,HF P kt (kP a) (kP b)=some (eq a b):=by exact λ_ _=>by kernel_rfl) (hp:pr=C6 (cnd P g):=by kernel_rfl) (f:Bd3 P (stp P g)=some (kt,kP q,vP y,Dd kP vP es):=by kernel_rfl):KG S P F g:=
 Ax8 hS hc (Sw d q y es) c hk hp f
theorem Az7 (hc:pr)(kt e:TypeId)(kP : κ -> PV)(vP : ν -> PV)(eq : κ -> κ -> Bool){q : κ}{es:List (κ × ν)}{v : ν}(o:P5 eq q es=some v)(c:C6 (Hl P kt))(hk:DG S P (UJ (vP v) true (BA P sc)) k)
 (d:∀a b,HF P kt (kP a) (kP b)=some (eq a b):=by exact λ_ _=>by kernel_rfl) (hp:pr=C6 (Ol P sc):=by kernel_rfl) (f:Ou P (BA P sc)=some ⟨kt,e,kP q,Dd kP vP es⟩:=by kernel_rfl) (hx:UH P e (some (vP v))=some (vP v,true):=by kernel_rfl):DG S P sc k:=
 YS hc (lkC d o) c hk hp f hx
theorem AO7 (hc:pr)(kt e:TypeId)(kP : κ -> PV)(vP : ν -> PV)(eq : κ -> κ -> Bool){q : κ}{es:List (κ × ν)}(o:P5 eq q es=none)(x:PV)(c:C6 (Hl P kt))(hk:DG S P (UJ x false (BA P sc)) k)
 (d:∀a b,HF P kt (kP a) (kP b)=some (eq a b):=by exact λ_ _=>by kernel_rfl) (hp:pr=C6 (Ol P sc):=by kernel_rfl) (f:Ou P (BA P sc)=some ⟨kt,e,kP q,Dd kP vP es⟩:=by kernel_rfl) (hx:UH P e none=some (x,false):=by kernel_rfl):DG S P sc k:=
 YS hc (lkC d o) c hk hp f hx
theorem SL (hc:pr)(kt:TypeId)(kP : κ -> PV)(vP : ν -> PV)(eq : κ -> κ -> Bool)(q : κ)(y : ν)(es:List (κ × ν))(c:C6 (Hl P kt))(hk:DG S P (Ax6 (Dd kP vP (Df eq q y es)) (BA P sc)) k)
 (d:∀a b,HF P kt (kP a) (kP b)=some (eq a b):=by exact λ_ _=>by kernel_rfl) (hp:pr=C6 (Ol P sc):=by kernel_rfl) (f:UK P (BA P sc)=some (kt,kP q,vP y,Dd kP vP es):=by kernel_rfl):DG S P sc k:=
 Ax9 hc (Sw d q y es) c hk hp f
end
abbrev oV {α : Type}(t:TypeId)(k:Nat)(c : α -> List PV)(s:Sl α)(b:Bool):Obj:=.vec t k s.n (λi=>c (s.g i)) b
abbrev oM {κ ν : Type}(kP : κ -> PV)(vP : ν -> PV)(es:List (κ × ν)):Obj:=.map (Dd kP vP es)
end Go.AM
