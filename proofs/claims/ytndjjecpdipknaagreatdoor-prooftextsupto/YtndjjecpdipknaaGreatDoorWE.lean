/- Part 5. -/
import Derived.Test.YtndjjecpdipknaaGreatDoorWD
import Derived.KernelRfl
import Derived.Laws.IdiomRangeMap
set_option linter.defProp false
set_option linter.unusedSimpArgs false
set_option linter.unusedVariables false
set_option linter.unusedSectionVars false
namespace Go.AM
def Lg:=True.intro
def BF2:=@Nat.le_of_ble_eq_true
def BG0:=@List.tail_cons
def BH3:=@List.mem_singleton
def BH9:=@List.range_succ
def BK3:=@List.map_append
def BO8:=@List.isEmpty_iff
def BP1:=@Nat.lt_of_succ_lt_succ
def BQ6:=@List.getD_cons_succ
def BR4:=@List.set_cons_succ
section
variable (P:Program)
def stp (g:Cfg):Cfg:=(run P none 400 [] g).cfg
def cnd (g:Cfg):List Prop:=(run P none 400 [] g).conds
def HM (d:Nat)(g:Cfg):Cfg:=(run P (some d) 400 [] g).cfg
def Bg2 (d:Nat)(g:Cfg):List Prop:=(run P (some d) 400 [] g).conds
def Cfg.st:Cfg->St
 |.code _ _ s=>s
 |.ops _ _ _ s=>s
 |.pop _ _ s=>s
def Cfg.k:Cfg->List It
 |.code _ K _=>K
 |.ops _ _ K _=>K
 |.pop _ K _=>K
def mkO {R:Type _}(env:Env)(Qw:C5)(κ : Env->C5->R):R:=fE env λenv=>fR Qw λregs=>κ env Qw
def Gv {R:Type _}(env:Env)(Qw:C5)(κ : Env->C5->R):mkO env Qw κ = κ env Qw:=by simp only[mkO,fE_eq,Bd1]
def Ar4 {R:Type _}(d:Option Nat)(a:AV)(env:Env)(Qw:C5)(κ : St->R):R:=match d with
 |some d=>mkO (ins d a env) Qw λenv Qw=>κ ⟨env,Qw⟩
 |none=>mkO env Qw λenv Qw=>κ ⟨env,Qw⟩
def FQ {R:Type _}(d:Option Nat)(a:AV)(env:Env)(Qw:C5)(κ : St->R):Ar4 d a env Qw κ = κ (put ⟨env,Qw⟩ d a):=by cases d<;>simp only[Ar4,Gv,put]
def AR3:Cfg->Option Bool
 |.code (.cond c _ _) _ st=>match aev st.env c with
  |.p (.bb b)=>some b
  |_=>none
 |_=>none
def Bg3:Cfg->Cfg
 |.code (.cond _ t _) K st=>.code t K st
 |g=>g
def Bg4:Cfg->Cfg
 |.code (.cond _ _ e) K st=>.code e K st
 |g=>g
def Ak8:Cfg->Option Bool
 |.ops all (o::_) _ st=>match o.guard with
  |some (j,_)=>match Bn8 all j with
   |some d=>match get st.env d with
    |.p (.bb b)=>some b
    |_=>none
   |none=>none
  |none=>none
 |_=>none
def PN (b:Bool):Cfg->Cfg
 |.ops all (o::rest) K st=>match o.guard with
  |some (j,_)=>match Bn8 all j with
   |some d=>Ar4 (some d) (.p (.v (.bool b))) st.env st.Qw λst=>.ops all (o::rest) K st
   |none=>.ops all (o::rest) K st
  |none=>.ops all (o::rest) K st
 |g=>g
def Ar5 (ids:List Nat):Cfg->Option (FuncId×List AV×List Obj)
 |.ops all (o::_) _ st=>match Bn all st.env o,o.op with
  |some true,.call c=>match c.callee with
   |.value f=>match Im st.Qw (c.args.toList.map (aev st.env))with
    |some (as,Qw)=>match Ta st.env f as with
     |some (fn,as')=>match DP ids as',M0 ids Qw ids with
      |some a,some ob=>if H5 ids&&Fu ob then some (fn,a,ob)else none
      |_,_=>none
     |none=>none
    |none=>none
   |_=>none
  |_,_=>none
 |_=>none
def Ar6 (ids:List Nat)(ks:List Bool)(n:Nat):Cfg->Bool
 |.ops _ (o::_) _ st=>match o.op with
  |.call c=>match Im st.Qw (c.args.toList.map (aev st.env))with
   |some (_,Qw)=>X1 Qw ids ks (o.dst.getD 0) n
   |none=>false
  |_=>false
 |_=>false
def AR4 (ids:List Nat)(ks:List Bool)(r:AV)(objs' : List Obj):Cfg->Cfg
 |.ops all (o::rest) K st=>match o.op with
  |.call c=>match Im st.Qw (c.args.toList.map (aev st.env))with
   |some (_,Qw)=>Ar4 o.dst (unA (G7 (o.dst.getD 0) ids ks objs'.length) r) st.env
    (back (G7 (o.dst.getD 0) ids ks objs'.length) (G7 (o.dst.getD 0) ids ks objs'.length) objs' (J9 ids ks Qw)) λst=>.ops all rest K st
   |none=>.ops all (o::rest) K st
  |_=>.ops all (o::rest) K st
 |g=>g
structure LookI where
 kt:TypeId
 e:TypeId
 key:PV
 es:List (PV×PV)
def AD6:Cfg->Option LookI
 |.ops all (o::_) _ st=>match Bn all st.env o,o.op with
  |some true,.lookup t m k _=>match DO st.Qw (aev st.env k),aev st.env m with
   |some (key,Qw),.Se j=>match A1 Qw j,tk P t with
    |some (.map es),some (.map kt e)=>if Gn P kt key then some ⟨kt,e,key,es⟩else none
    |_,_=>none
   |_,_=>none
  |_,_=>none
 |_=>none
def Xs (e:TypeId):Option PV->Option (PV×Bool)
 |some x=>some (x,true)
 |none=>(HJ P e).map λz=>(z,false)
def AD7 (x:PV)(b:Bool):Cfg->Cfg
 |.ops all (o::rest) K st=>match o.op with
  |.lookup _ _ k ok=>match DO st.Qw (aev st.env k)with
   |some (_,Qw)=>Ar4 o.dst (if ok then .tup [.p x,.bool b]else .p x) st.env Qw λst=>.ops all rest K st
   |none=>.ops all (o::rest) K st
  |_=>.ops all (o::rest) K st
 |g=>g
def Bx4:Cfg->Option (TypeId×PV×PV×List (PV×PV))
 |.ops all (o::_) _ st=>match Bn all st.env o,o.op with
  |some true,.mapUpdate t m k x=>match aev st.env k,aev st.env m,DO st.Qw (aev st.env x)with
   |.p key,.Se j,some (y,Qw)=>match A1 Qw j,tk P t with
    |some (.map es),some (.map kt _)=>if Gn P kt (nP key) then some (kt,nP key,y,es)else none
    |_,_=>none
   |_,_,_=>none
  |_,_=>none
 |_=>none
def Bx5 (es' : List (PV×PV)):Cfg->Cfg
 |.ops all (o::rest) K st=>match o.op with
  |.mapUpdate _ m _ x=>match aev st.env m,DO st.Qw (aev st.env x)with
   |.Se j,some (_,Qw)=>Ar4 o.dst LC st.env (ins j (.map es') Qw) λst=>.ops all rest K st
   |_,_=>.ops all (o::rest) K st
  |_=>.ops all (o::rest) K st
 |g=>g
def HN:Cfg->Bool
 |.code (.loop _) _ _=>true
 |_=>false
def PO:Cfg->Code
 |.code (.loop b) _ _=>b
 |_=>.skip
def popSt:Cfg->Option St
 |.pop .normal _ st=>some st
 |_=>none
def Xt (M:It):Nat->List It->List It
 |0,K=>M::K
 |n+1,i::K=>i::Xt M n K
 |_+1,[]=>[M]
def Bq0 (n:Nat)(M:St->Prop):Cfg->Cfg
 |.code c K st=>.code c (Xt (.mid M) n K) st
 |.ops all rest K st=>.ops all rest (Xt (.mid M) n K) st
 |.pop e K st=>.pop e (Xt (.mid M) n K) st
def KZ:Cfg->Bool
 |.ops _ (_::_) _ _=>true
 |_=>false
def opsS (st:St):Cfg->Cfg
 |.ops all rest K _=>.ops all rest K st
 |g=>g
def AR5:Cfg->Option St
 |.pop .ret [] st=>some st
 |.pop .normal [] st=>some st
 |_=>none
inductive Sf where
 |eq (x y:PV)
 |fn (n m:Nat) (f g:Nat->List PV)
 |mp (x y:List (PV×PV))
 |yl (x y:List (List PV)) (b c:Bool)
 |nt (a b:Nat)
 |ob (n:Nat) (f g:Nat->Obj)
inductive LV where
 |eq (x:PV)
 |fn (n:Nat) (f:Nat->List PV)
 |mp (x:List (PV×PV))
 |yl (x:List (List PV)) (b:Bool)
 |nt (a:Nat)
 |ob (f:Nat->Obj)
def Sf.src:Sf->LV
 |.eq x _=>.eq x
 |.fn n _ f _=>.fn n f
 |.mp x _=>.mp x
 |.yl x _ b _=>.yl x b
 |.nt a _=>.nt a
 |.ob _ f _=>.ob f
def Sf.tgt:Sf->LV
 |.eq _ y=>.eq y
 |.fn _ m _ g=>.fn m g
 |.mp _ y=>.mp y
 |.yl _ y _ c=>.yl y c
 |.nt _ b=>.nt b
 |.ob _ _ g=>.ob g
def Sf.ok:Sf->Prop
 |.eq x y=>x=y
 |.fn n m f g=>n=m/\∀i,i<n->f i=g i
 |.mp x y=>x=y
 |.yl x y b c=>x=y/\b=c
 |.nt a b=>a=b
 |.ob n f g=>∀i,i<n->f i=g i
def Sf.ok_of {l:Sf}(h:l.src=l.tgt):l.ok:=by
 cases l with
 |eq x y=>simp only[Sf.src,Sf.tgt,LV.eq.injEq]at h;exact h
 |fn n m f g=>simp only[Sf.src,Sf.tgt,LV.fn.injEq]at h;obtain⟨rfl,rfl⟩:=h;exact⟨rfl,λ_ _=>rfl⟩
 |mp x y=>simp only[Sf.src,Sf.tgt,LV.mp.injEq]at h;exact h
 |yl x y b c=>simp only[Sf.src,Sf.tgt,LV.yl.injEq]at h;exact h
 |nt a b=>simp only[Sf.src,Sf.tgt,LV.nt.injEq]at h;exact h
 |ob n f g=>simp only[Sf.src,Sf.tgt,LV.ob.injEq]at h;subst h;exact λ_ _=>rfl
def Bg5:PV->PV->Sf
 |.v (.bool b),.bb c=>.eq (.bb b) (.bb c)
 |.v (.slice none 0 0),.sl false _ n f=>.fn 0 n f f
 |.sl nn k n f,.sl false l m g=>if k=l then .fn n m f g else .eq (.sl nn k n f) (.sl false l m g)
 |x,y=>.eq x y
mutual
def La (Qw:C5)(ids:List (Nat×Nat))(a b:AV):Option (List Sf):=
 match b with
 |.top=>some []
 |.p y=>match viewP Qw a with
  |some x=>some [Bg5 x y]
  |none=>none
 |.reg j off=>match a with | .reg i off'=>if lk ids j=some i/\off=off' then some []else none|_=>none
 |.vec j=>match a with
  |.vec i=>if lk ids j=some i then some []else none
  |.p (.v (.slice none 0 0))=>if lk ids j=none then some []else none
  |_=>none
 |.vecp j n=>match a with | .vecp i m=>if lk ids j=some i/\n=m then some []else none|_=>none
 |.elt j k n off=>match a with | .elt i k' n' off'=>if lk ids j=some i/\k=k' /\ n=n' /\ off=off' then some []else none|_=>none
 |.Se j=>match a with | .Se i=>if lk ids j=some i then some []else none|_=>none
 |.yf j=>match a with | .yf i=>if lk ids j=some i then some []else none|_=>none
 |.rsl j n=>match a with | .rsl i m=>if lk ids j=some i/\n=m then some []else none|_=>none
 |.clo f x y=>match a with
  |.clo f' x' y'=>match RQ Qw ids x' x,RQ Qw ids y' y with|some l,some m=>some (.nt f' f::l++m)|_,_=>none
  |_=>none
 |.tup l=>match a with | .tup l'=>RQ Qw ids l' l|_=>none
 |.agr l=>match a with | .agr l'=>RQ Qw ids l' l|_=>none
def RQ (Qw:C5)(ids:List (Nat×Nat))(a b:List AV):Option (List Sf):=
 match b with
 |[]=>match a with | []=>some [] | _=>none
 |y::s=>match a with
  |x::r=>match La Qw ids x y,RQ Qw ids r s with|some l,some m=>some (l++m)|_,_=>none
  |[]=>none
end
def AR6 (Qw:C5)(ids:List (Nat×Nat))(env:Env):Env->Option (List Sf)
 |[]=>some []
 |(t,b)::r=>match La Qw ids (get env t) b,AR6 Qw ids env r with|some l,some m=>some (l++m)|_,_=>none
def PP (Qw:C5)(ids:List (Nat×Nat))(o p:Obj):Option (List Sf):=
 match p with
 |.cells cs=>match o with | .cells cs'=>RQ Qw ids cs' cs|_=>none
 |.vec e k n f vw=>match o with
  |.vec e' k' m g vw'=>if e=e' /\ k=k' /\ (vw' = true->vw=true)then some [.fn m n g f]else none
  |_=>none
 |.map es=>match o with | .map es'=>some [.mp es' es] | _=>none
 |.arr n f=>match o with | .arr m g=>some [.fn m n (λi=>[g i]) (λi=>[f i])] | _=>none
 |.blk l jr=>match o with | .blk l' jr'=>if lk ids jr=some jr' then some [.ob 1 (λ_=>.blk l' 0) (λ_=>.blk l 0)]else none|_=>none
 |.ghost cs=>match o with | .ghost cs'=>RQ Qw ids cs' cs|_=>none
 |.yld r b=>match o with | .yld r' b'=>some [.yl r' r b' b] | _=>none
 |.fam e n jr x=>match o with
  |.fam e' m jr' x'=>if e=e' /\ lk ids jr=some jr' then (match x,x' with
   |none,none=>some [.nt m n]
   |some (i,a),some (i',a')=>match nov a' a,La Qw ids a' a with
    |true,some l=>some (.nt m n :: .nt i' i::l)
    |_,_=>none
   |_,_=>none)else none
  |_=>none
 |.rows n g=>match o with | .rows m g'=>some [.nt m n,.ob n g' g] | _=>none
 |.dead=>some []
def AR7 (Qw:C5)(ids:List (Nat×Nat)):C5->Option (List Sf)
 |[]=>some []
 |(j,p)::r=>match (match lk ids j with
  |some i=>match A1 Qw i with
   |some o=>PP Qw ids o p
   |none=>none
  |none=>match p with
   |.vec _ _ n f _=>some [.fn 0 n f f]
   |_=>none:Option (List Sf)),AR7 Qw ids r with
  |some l,some m=>some (l++m)
  |_,_=>none
def leK (ids:List (Nat×Nat))(s t:St):Option (List Sf):=
 if (wf t&&H5 (ids.map (·.2))&&Ao8 ids&&Tb ids t.Qw&&NG ids (seen s.env t.env++LG ids s.Qw t.Qw) t.Qw) then
  match AR6 s.Qw ids s.env t.env,AR7 s.Qw ids t.Qw with
  |some l,some m=>some (l++m)
  |_,_=>none
 else none
def AR8 {x y:PV}(h:(Bg5 x y).ok):leP x y:=by
 unfold Bg5 at h;split at h
 .simp only[Sf.ok,PV.bb.injEq]at h;subst h;exact .inr (.inr (.inr (.inl ⟨_,rfl,rfl⟩)))
 .obtain⟨rfl,_⟩:=h;exact .inr (.inr (.inl ⟨_,_,rfl,rfl⟩))
 .split at h
  .rename_i hk;subst hk;obtain⟨rfl,h⟩:=h;exact .inr (.inl ⟨_,_,_,_,_,rfl,rfl,h⟩)
  exact .inl h
 exact .inl h
def PQ {l m:List Sf}(h:∀x∈l++m,x.ok):(∀x∈l,x.ok)/\∀x∈m,x.ok:=
 ⟨λx hx=>h x (BB9 _ hx),λx hx=>h x (BA9 _ hx)⟩
mutual
def UT {Qw:C5}{ids:List (Nat×Nat)}{a:AV}(b:AV){L:List Sf}(h:La Qw ids a b=some L)(hL:∀x∈L,x.ok):leA Qw ids a b:=by
 cases b with
 |top=>unfold leA;trivial
 |p y=>
  unfold La at h;split at h
  .rename_i x hx;cases h;unfold leA;exact⟨x,hx,AR8 (hL _ (by simp))⟩
  cases h
 |reg j off=>
  unfold La at h;split at h
  .split at h
   .rename_i c;obtain⟨h1,rfl⟩:=c;exact Bo1 h1
   cases h
  cases h
 |vec j=>
  unfold La at h;split at h
  .split at h
   .rename_i h1;exact Bo0 h1
   cases h
  .split at h
   .rename_i h1;exact Bd6 h1
   cases h
  cases h
 |vecp j n=>
  unfold La at h;split at h
  .split at h
   .rename_i c;obtain⟨h1,rfl⟩:=c;unfold leA;exact⟨_,h1,rfl⟩
   cases h
  cases h
 |elt j k n off=>
  unfold La at h;split at h
  .split at h
   .rename_i c;obtain⟨h1,rfl,rfl,rfl⟩:=c;unfold leA;exact⟨_,h1,rfl⟩
   cases h
  cases h
 |Se j=>
  unfold La at h;split at h
  .split at h
   .rename_i h1;exact Bd7 h1
   cases h
  cases h
 |rsl j n=>
  unfold La at h;split at h
  .split at h
   .rename_i c;obtain⟨h1,rfl⟩:=c;unfold leA;exact⟨_,h1,rfl⟩
   cases h
  cases h
 |yf j=>
  unfold La at h;split at h
  .split at h
   .rename_i h1;exact le_yf h1
   cases h
  cases h
 |clo f x y=>
  unfold La at h;split at h
  .split at h
   .rename_i l m h1 g;cases h;have d:=hL _ (BH2 ..);simp only[Sf.ok]at d;subst d;obtain⟨i,o⟩:=PQ λx hx=>hL x (BB4 _ hx);exact Bo2 (Hc x h1 i) (Hc y g o)
   cases h
  cases h
 |tup l=>
  unfold La at h;split at h
  .exact Bp8 (Hc l h hL)
  cases h
 |agr l=>
  unfold La at h;split at h
  .exact Bp9 (Hc l h hL)
  cases h
def Hc {Qw:C5}{ids:List (Nat×Nat)}{a:List AV}(b:List AV){L:List Sf}(h:RQ Qw ids a b=some L)(hL:∀x∈L,x.ok):leL Qw ids a b:=by
 cases b with
 |nil=>
  unfold RQ at h;split at h
  .exact Bd8
  cases h
 |cons y s=>
  unfold RQ at h;split at h
  .split at h
   .rename_i l m h1 c;cases h;obtain⟨d,f⟩:=PQ hL;exact AN5 (UT y h1 d) (Hc s c f)
   cases h
  cases h
end
def Ak9 {Qw:C5}{ids:List (Nat×Nat)}{env:Env}:∀(t:Env) {L:List Sf},AR6 Qw ids env t=some L->(∀x∈L,x.ok)->Uu Qw ids env t
 |[],_,_,_=>trivial
 |(t,b)::r,L,h,hL=>by
  simp only[AR6]at h;split at h
  .rename_i l m h1 a;cases h;obtain⟨c,d⟩:=PQ hL;exact⟨UT b h1 c,Ak9 r a d⟩
  cases h
def AR9 {Qw:C5}{ids:List (Nat×Nat)}{o p:Obj}{L:List Sf}(h:PP Qw ids o p=some L)(hL:∀x∈L,x.ok):leO Qw ids o p:=by
 cases p with
 |cells cs=>
  simp only[PP]at h;split at h
  .exact AN6 (Hc cs h hL)
  cases h
 |vec e k n f vw=>
  simp only[PP]at h;split at h
  .split at h
   .rename_i c;obtain⟨rfl,rfl,j⟩:=c;cases h;obtain⟨rfl,h1⟩:=hL _ (BH3.2 rfl);exact⟨_,_,rfl,h1,j⟩
   cases h
  cases h
 |map es=>
  simp only[PP]at h;split at h
  .cases h
   have:=hL _ (BH3.2 rfl)
   simp only[Sf.ok]at this;subst this;rfl
  cases h
 |blk l jr=>
  simp only[PP]at h;split at h
  .split at h
   .rename_i c;cases h;have h1:=hL _ (BH3.2 rfl);have m:=h1 0 (BO7 0);cases m;exact⟨_,rfl,c⟩
   cases h
  cases h
 |arr n f=>
  simp only[PP]at h;split at h
  .cases h;obtain⟨rfl,h1⟩:=hL _ (BH3.2 rfl);exact⟨_,rfl,λi q=>by simpa using h1 i q⟩
  cases h
 |ghost cs=>
  simp only[PP]at h;split at h
  .exact⟨_,rfl,Hc cs h hL⟩
  cases h
 |yld r b=>
  simp only[PP]at h;split at h
  .cases h;obtain⟨rfl,rfl⟩:=hL _ (BH3.2 rfl);rfl
  cases h
 |fam e n jr x=>
  simp only[PP]at h;split at h
  .split at h
   .rename_i s;obtain⟨rfl,d⟩:=s;split at h
    .cases h;have a:=hL _ (BH2 ..);simp only[Sf.ok]at a;subst a;exact⟨_,_,rfl,d,rfl⟩
    .split at h
     .rename_i hn hl;cases h;have a:=hL _ (BH2 ..);have h1:=hL _ (BB4 _ (BH2 ..));simp only[Sf.ok]at a h1;subst a h1;exact⟨_,_,rfl,d,_,rfl,hn,UT _ hl λx hx=>hL x (by simp[hx])⟩
     cases h
    cases h
   cases h
  cases h
 |rows n g=>
  simp only[PP]at h;split at h
  .cases h;have a:=hL _ (BH2 ..);simp only[Sf.ok]at a;subst a;exact⟨_,rfl,hL (.ob _ _ _) (by simp)⟩
  cases h
 |dead=>trivial
def Al0 {Qw:C5}{ids:List (Nat×Nat)}:∀(t:C5) {L:List Sf},AR7 Qw ids t=some L->(∀x∈L,x.ok)->WI Qw ids t
 |[],_,_,_=>trivial
 |(j,p)::r,L,h,hL=>by
  simp only[AR7]at h;split at h
  .rename_i l m h1 c;cases h;obtain⟨b,d⟩:=PQ hL;refine⟨?_,Al0 r c d⟩;split at h1
   .rename_i i a;split at h1
    .rename_i o f;exact .inl ⟨i,o,a,f,AR9 h1 b⟩
    cases h1
   rename_i a;split at h1
   .cases h1;obtain⟨rfl,_⟩:=b _ (BH3.2 rfl);exact .inr ⟨a,_,_,_,_,rfl⟩
   cases h1
  cases h
def AZ5 {ids:List (Nat×Nat)}{s t:St}{L:List Sf}(h:leK ids s t=some L)(hL:∀x∈L,x.ok):Le ids s t:=by
 unfold leK at h;split at h
 .rename_i hw;split at h
  .rename_i l m h1 a;cases h;obtain⟨b,c⟩:=PQ hL;exact le_mk hw (Ak9 _ h1 b) (Al0 _ a c)
  cases h
 cases h
def kle {ids:List (Nat×Nat)}{s t:St}(h:(leK ids s t).map (·.map Sf.src)=(leK ids s t).map (·.map Sf.tgt):=by kernel_rfl)(h1:(leK ids s t).isSome=true:=by kernel_rfl):Le ids s t:=by
 obtain⟨L,hL⟩:=BA1.1 h1;rw[hL]at h;simp only[Bz7,By4]at h;refine AZ5 hL λx hx=>?_;obtain⟨i,a,rfl⟩:=BI6.1 hx
 have:=congrArg (·[i]?) h
 simp only[Bz1,By7 a,Bz7,By4]at this;exact Sf.ok_of this
def AS0 (is:List Nat)(f:Sf->LV)(L:List Sf):List (Option LV):=L.zipIdx.map λq=>if is.contains q.2 then none else some (f q.1)
def kleR {ids:List (Nat×Nat)}{s t:St}(rs:List (Nat×Sf))(d:∀q∈rs,q.2.ok)(h:(leK ids s t).map (AS0 (rs.map (·.1)) Sf.src)=(leK ids s t).map (AS0 (rs.map (·.1)) Sf.tgt):=by kernel_rfl)
 (a:(leK ids s t).map (λL=>rs.map λq=>L[q.1]?)=some (rs.map λq=>some q.2):=by kernel_rfl):Le ids s t:=by
 cases hL:leK ids s t with
 |none=>rw[hL]at a;cases a
 |some L=>
  rw[hL]at h a;simp only[Bz7,By4]at h a;refine AZ5 hL λx hx=>?_;obtain⟨i,b,rfl⟩:=BI6.1 hx;by_cases hm:(rs.map (·.1)).contains i=true
  .simp only[BC2,decide_eq_true_eq,BE0]at hm;obtain⟨q,c,rfl⟩:=hm;obtain⟨k,hk,rfl⟩:=BI6.1 c
   have:=congrArg (·[k]?) a
   simp only[Bz1,By7 hk,Bz7,By4,By7 b]at this;rw[this];exact d _ c
  have:=congrArg (·[i]?) h
  simp only[AS0,Bz1,List.getElem?_zipIdx,By7 b,Bz7,BE1,hm,By4]at this;exact Sf.ok_of (by simpa using this)
end
section
variable {P:Program}
variable {S:U8}{F:J3}{g:Cfg}{pr:Prop}
def Fv (hS:G0 S P)(hc:pr)(h:G S P F (stp P g))(hp:pr=C6 (cnd P g):=by kernel_rfl):G S P F g:=
 (GT (F:=F) hS 400 [] g (by subst hp;exact hc)).2 h
def Bq1 (hS:G0 S P)(hc:pr){b:Bool}(ht:b=true->G S P F (Bg3 (stp P g)))(a:b=false->G S P F (Bg4 (stp P g)))(hp:pr=C6 (cnd P g):=by kernel_rfl)(hb:AR3 (stp P g)=some b:=by kernel_rfl):G S P F g:=by
 refine Fv hS hc ?_ hp;generalize stp P g=g' at hb ht a;unfold AR3 at hb;split at hb
 .split at hb
  .rename_i hc;cases hb;exact Bn7 hc ht a
  cases hb
 cases hb
def Bg6 (hS:G0 S P)(hc:pr){b:Bool}(ht:b=true->G S P F (PN true (stp P g)))(a:b=false->G S P F (PN false (stp P g)))(hp:pr=C6 (cnd P g):=by kernel_rfl)(hb:Ak8 (stp P g)=some b:=by kernel_rfl):G S P F g:=by
 refine Fv hS hc ?_ hp;generalize stp P g=g' at hb ht a;unfold Ak8 at hb;split at hb
 .split at hb
  .rename_i d;split at hb
   .rename_i f;split at hb
    .rename_i c;cases hb;simp only[PN,d,f,FQ,put]at ht a;exact Bd3 hS d f c ht a
    cases hb
   cases hb
  cases hb
 cases hb
def Bq2 (hS:G0 S P)(ids:List Nat)(hc:pr){fn:FuncId}{args:List AV}{objs objs' : List Obj}{r:AV}{ks:List Bool}(i:Sb S fn args objs r objs' ks)
 (hk:G S P F (AR4 ids ks r objs' (stp P g))) (hp:pr=C6 (cnd P g):=by kernel_rfl) (a:Ar5 ids (stp P g)=some (fn,args,objs):=by kernel_rfl) (hn:Ar6 ids ks objs'.length (stp P g)=true:=by kernel_rfl):G S P F g:=by
 refine Fv hS hc ?_ hp;generalize stp P g=g' at a hn hk;unfold Ar5 at a;split at a
 .split at a
  .rename_i j f;split at a
   .rename_i c;split at a
    .rename_i ha;split at a
     .rename_i hw;split at a
      .rename_i l d;split at a
       .rename_i b;cases a;simp only[By5]at b;simp only[AR4,Ar6,f,ha,FQ]at hk hn;exact Bd4 hS ids j f c ha hw l d i b.1 b.2 hn hk
       cases a
      cases a
     cases a
    cases a
   cases a
  cases a
 cases a
def AS1 (hS:G0 S P)(hc:pr){kt e:TypeId}{key:PV}{es:List (PV×PV)}{x:PV}{b:Bool}{fd:Option PV}
 (j:find (Ic P kt) key es=some fd) (c:C6 (HI P kt))
 (hk:G S P F (AD7 x b (stp P g))) (hp:pr=C6 (cnd P g):=by kernel_rfl) (a:AD6 P (stp P g)=some ⟨kt,e,key,es⟩:=by kernel_rfl) (hx:Xs P e fd=some (x,b):=by kernel_rfl):G S P F g:=by
 refine Fv hS hc ?_ hp;generalize stp P g=g' at a hk;unfold AD6 at a;split at a
 .split at a
  .rename_i l f;split at a
   .rename_i i hm;split at a
    .rename_i m ht;split at a
     .rename_i d;simp only[By4,LookI.mk.injEq]at a;obtain⟨rfl,rfl,rfl,rfl⟩:=a;simp only[AD7,f,i,FQ]at hk;cases fd with
      |some y=>exact Ak6 (fd:=some y) hS l f i hm m ht d j hx c hk
      |none=>exact Ak6 (fd:=none) hS l f i hm m ht d j hx c hk
     cases a
    cases a
   cases a
  cases a
 cases a
def AS2 (hS:G0 S P)(hc:pr){kt:TypeId}{key y:PV}{es es' : List (PV×PV)}
 (j:upd (Ic P kt) key y es=some es') (b:C6 (HI P kt)) (hk:G S P F (Bx5 es' (stp P g))) (hp:pr=C6 (cnd P g):=by kernel_rfl) (a:Bx4 P (stp P g)=some (kt,key,y,es):=by kernel_rfl):G S P F g:=by
 refine Fv hS hc ?_ hp;generalize stp P g=g' at a hk;unfold Bx4 at a;split at a
 .split at a
  .rename_i l d;split at a
   .rename_i h1 f i;split at a
    .rename_i m ht;split at a
     .rename_i c;simp only[By4,Bz3]at a;obtain⟨rfl,rfl,rfl,rfl⟩:=a;simp only[Bx5,d,f,i,FQ]at hk;exact ZQ hS l d h1 i f m ht c j b hk
     cases a
    cases a
   cases a
  cases a
 cases a
def Bq3 (hS:G0 S P)(hc:pr)(st:St){ids:List (Nat×Nat)}(hk:G S P F (opsS st (stp P g)))(hp:pr=C6 (cnd P g):=by kernel_rfl)(a:KZ (stp P g)=true:=by kernel_rfl)(hle:Le ids (stp P g).st st:=by exact kle):G S P F g:=by
 refine Fv hS hc ?_ hp;generalize stp P g=g' at a hle hk;unfold KZ at a;split at a
 .exact AD5 hS st ids hle hk
 cases a
end
section
variable {S:U8}{P:Program}{F:J3}{g:Cfg}{pr:Prop}
def LX (hS:G0 S P){K1 K2:List It}(h:∀e s,kp S P K1 F e s->kp S P K2 F e s):∀(K:List It) (e:JN) (s:St),kp S P (K++K1) F e s->kp S P (K++K2) F e s
 |[],e,s,hk=>h e s hk
 |.code c::K,e,s,hk=>by simp only[BA0,kp]at hk⊢;exact UR hS (λt=>AL hS c (LX hS h K)) (LX hS h K) e s hk
 |.blk id::K,e,s,hk=>by
  simp only[BA0,kp]at hk⊢;cases e with
  |exit i=>
   simp only[blk]at hk⊢;split at hk
   .rename_i a;rw[Gy a];exact LX hS h K _ _ hk
   rename_i a;rw[Hj a];exact LX hS h K _ _ hk
  |_=>exact LX hS h K _ _ hk
 |.lp X s' J m n::K,e,s,hk=>by
  simp only[BA0,kp]at hk⊢;cases e with
  |normal=>exact hk
  |_=>exact LX hS h K _ _ hk
 |.mid M::K,e,s,hk=>by simp only[BA0,kp]at hk⊢;exact UR hS (λt h=>h) (LX hS h K) e s hk
 |.scp::K,e,s,hk=>by
  simp only[BA0,kp]at hk⊢;cases e with
  |goto l=>exact hk
  |_=>exact LX hS h K _ _ hk
def Al1 (M:It):∀(n:Nat) (K:List It),n<=K.length->Xt M n K=K.take n++M::K.drop n
 |0,K,_=>by simp[Xt]
 |n+1,i::K,h=>by simp only[Xt,BJ3,List.drop_succ_cons,BA0,Al1 M n K (by simpa using h)]
 |n+1,[],h=>by simp at h
def AZ6 (hS:G0 S P)(a:∀s,S.up s (F .normal)->F .normal s)(n:Nat)(hn:n<=g.k.length){M:St->Prop}(b:∀t,M t->G S P F (.pop .normal (g.k.drop n) t))(h:G S P F (Bq0 n M g)):G S P F g:=by
 have hk:∀e s,kp S P (Xt (.mid M) n g.k) F e s->kp S P g.k F e s:=by
  intro e s;rw[Al1 _ _ _ hn]
  conv=>rhs;rw[<- BK2 n g.k]
  exact LX hS (Bp6 hS a b) _ e s
 cases g with
 |code c K st=>exact AL hS c hk h
 |ops all rest K st=>exact Iy hS hk rest h
 |pop e K st=>exact hk e st h
def J_cut (hS:G0 S P)(hc:pr)(b:∀s,S.up s (F .normal)->F .normal s)(n:Nat)(s:St)
 (h1:∀(M:St->Prop),(∀(g' : Cfg) (ids:List (Nat×Nat)) (pr:Prop),pr->(hp:pr=C6 (cnd P g'):=by kernel_rfl)->(a:stp P g' = .pop .normal (.mid M::(stp P g).k.drop n) (stp P g').st:=by kernel_rfl)->(hle:Le ids (stp P g').st s:=by exact kle)->G S P F g')->G S P F (Bq0 n M (stp P g)))
 (c:G S P F (.pop .normal ((stp P g).k.drop n) s)) (hp:pr=C6 (cnd P g):=by kernel_rfl) (hn:Nat.ble n (stp P g).k.length=true:=by kernel_rfl):G S P F g:=by
 refine Fv hS hc ?_ hp;refine AZ6 hS b n (BF2 hn) (M:=λt=>t=s) (λt ht=>by subst ht;exact c) (h1 _ λg' ids pr hc hp a hle=>?_);refine Fv hS hc ?_ hp;rw[a];exact hS.le ids _ _ _ hle rfl
def J_lt (hS:G0 S P)(hc:pr)(c:∀s,S.up s (F .normal)->F .normal s){R A:Type}{f:(A->Option R)->Option R}{k0:A->Option R}{r:R}(h:lt k0 f=some r)(n:Nat)(s:A->St)
 (h1:∀(M:St->Prop) (k:A->Option R),(∀(g' : Cfg) (ids:List (Nat×Nat)) (pr:Prop) (a:A),pr->k a=some r->(hp:pr=C6 (cnd P g'):=by kernel_rfl)->(b:stp P g' = .pop .normal (.mid M::(stp P g).k.drop n) (stp P g').st:=by kernel_rfl)->(hle:Le ids (stp P g').st (s a):=by exact kle)->G S P F g')->f k=some r->G S P F (Bq0 n M (stp P g)))
 (d:∀a,k0 a=some r->G S P F (.pop .normal ((stp P g).k.drop n) (s a))) (hp:pr=C6 (cnd P g):=by kernel_rfl) (hn:Nat.ble n (stp P g).k.length=true:=by kernel_rfl):G S P F g:=by
 refine Fv hS hc ?_ hp;refine AZ6 hS c n (BF2 hn) (M:=λt=>∃a,t=s a/\k0 a=some r) (λt ⟨a,ht,hk⟩=>by subst ht;exact d a hk) (h1 _ k0 (λg' ids pr a hc hk hp b hle=>?_) h);refine Fv hS hc ?_ hp;rw[b];exact hS.le ids _ _ _ hle ⟨a,rfl,hk⟩
def UU {g:Cfg}(h:HN g=true):g=.code (.loop (PO g)) g.k g.st:=by
 unfold HN at h;split at h
 .rfl
 cases h
def Bq4 (hS:G0 S P)(hc:pr){R A:Type}{body:(A->Option R)->A->Option R}{N:Nat}{a0:A}{r:R}(h:R6 N body a0=some r)(s:A->St){ids:List (Nat×Nat)}
 (i:∀(X:Type) (s' : X->St) (J:X->Prop) (m:X->Nat) (n:Nat) (b:A->Option R) (a:A),
  (∀(g' : Cfg) (ids:List (Nat×Nat)) (pr:Prop) (a:A),pr->b a=some r->(hp:pr=C6 (cnd P g'):=by kernel_rfl)->(f:stp P g' = .pop .normal (.lp X s' J m n::(stp P g).k) (stp P g').st:=by kernel_rfl)->(hle:Le ids (stp P g').st (s a):=by exact kle)->G S P F g') ->
  body b a=some r->G S P F (.code (PO (stp P g)) (.lp X s' J m n::(stp P g).k) (s a))) (hp:pr=C6 (cnd P g):=by kernel_rfl) (hl:HN (stp P g)=true:=by kernel_rfl) (hle:Le ids (stp P g).st (s a0):=by exact kle):G S P F g:=by
 refine Fv hS hc ?_ hp;rw[UU hl];refine Bp7 hS h s ids hle λX s' J m n b a hb c=>i X s' J m n b a (λg' ids pr a hc d hp f hle=>?_) c;refine Fv hS hc ?_ hp;rw[f];exact hb _ _ _ hle d
def UV (P:Program)(st:St)(rs:List ResultVar)(outs:List Nat):Option (AV×List Obj):=match Iq P st rs with
 |some l=>match Ur outs (one l),M0 outs st.Qw outs with
  |some a,some o=>if H5 outs then some (a,o)else none
  |_,_=>none
 |none=>none
def J_ret (hS:G0 S P)(hc:pr){n:Nat}{rs:List ResultVar}{Q:ARes->List Obj->List Bool->Prop}{a:AV}{objs:List Obj}(outs:List Nat)(c:Q (.ret a) objs (Fy n outs))(hp:pr=C6 (cnd P g):=by kernel_rfl)(d:(AR5 (stp P g)).bind (λst=>UV P st rs outs)=some (a,objs):=by kernel_rfl) :G S P (Cm S P n rs Q) g:=by
 refine Fv hS hc ?_ hp;generalize stp P g=g' at d;obtain⟨st,h1,b⟩:=BJ4.1 d;unfold UV at b;split at b
 .rename_i l hl;split at b
  .rename_i f i;split at b
   .rename_i j;cases b;unfold AR5 at h1;split at h1
    .cases h1;exact hS.refl _ _ ⟨l,outs,a,objs,hl,j,f,i,c⟩
    .cases h1;exact hS.refl _ _ ⟨l,outs,a,objs,hl,j,f,i,c⟩
    cases h1
   cases b
  cases b
 cases b
def Bq5 (hS:G0 S P)(hc:pr){n:Nat}{rs:List ResultVar}{Q:ARes->List Obj->List Bool->Prop}{a:AV}{objs:List Obj}(st:St)(outs:List Nat){ids:List (Nat×Nat)}(f:Q (.ret a) objs (Fy n outs))(hp:pr=C6 (cnd P g):=by kernel_rfl)(c:(AR5 (stp P g)).isSome=true:=by kernel_rfl)(hle:Le ids (stp P g).st st:=by exact kle)(d:UV P st rs outs=some (a,objs):=by kernel_rfl) :G S P (Cm S P n rs Q) g:=by
 refine Fv hS hc ?_ hp;generalize stp P g=g' at c hle;have b:=d;unfold UV at b;split at b
 .rename_i l hl;split at b
  .rename_i d i;split at b
   .rename_i j;cases b;unfold AR5 at c;split at c
    .exact hS.le ids _ _ _ hle ⟨l,outs,a,objs,hl,j,d,i,f⟩
    .exact hS.le ids _ _ _ hle ⟨l,outs,a,objs,hl,j,d,i,f⟩
    cases c
   cases b
  cases b
 cases b
def Bg7 (hS:G0 S P){f:FuncId}{fn:Func}{args:List AV}{objs objs' : List Obj}{ks:List Bool}{r:AV}(d:P.funcs[f]? = some fn)
 (h:G S P (Cm S P objs.length fn.results.toList λres o k=>res=.ret r/\o=objs' /\ k=ks) (.code (fn.body.getD .skip) [] { env:=Ss args,Qw:=Sa objs }))
 (hc:fn.body.isSome=true:=by kernel_rfl) (hn:Nat.ble args.length fn.ntmps=true:=by kernel_rfl) (g:Nat.blt objs.length 1000=true:=by kernel_rfl)
 (b:Bm fn.ntmps (fn.body.getD .skip)=true:=by kernel_rfl) (c:(fn.name == "runtime.NumGoroutine")=false:=by kernel_rfl):Sb S f args objs r objs' ks:=by
 obtain⟨code,a⟩:=BA1.1 hc;rw[a,Bz4]at b h;exact Az9 hS d a (BF2 hn) (by simpa[BJ0]using g) rfl b c h
def al0:∀q∈([]:List (Nat×Sf)),q.2.ok:=λ_ h=>by cases h
def al1 {i:Nat}{l:Sf}{rs:List (Nat×Sf)}(h:l.ok)(t:∀q∈rs,q.2.ok):∀q∈(i,l)::rs,q.2.ok:=λq a=>by
 rcases BC1.1 a with rfl|a
 .exact h
 exact t q a
structure SC where
 all:List Oper
 cls:List Cls
 rest:List Oper
 env:Env
 Qw:C5
 kn:List Nat
def SG (S:U8)(P:Program)(sc:SC)(k:Env->C5->Prop):Prop:=LB S P sc.all sc.cls sc.rest sc.env sc.Qw k
def Bl (P:Program)(sc:SC):SC:=match RI P sc.kn sc.all sc.cls sc.rest [] sc.env sc.Qw with
 |⟨_,cls,rest,env,Qw⟩=>⟨sc.all,cls,rest,env,Qw,sc.kn⟩
def PR (P:Program)(sc:SC):List Prop:=(RI P sc.kn sc.all sc.cls sc.rest [] sc.env sc.Qw).conds
def CK:Cfg->Bool
 |.code (.region _ _ true) _ _=>true
 |_=>false
def Iz:Cfg->SC
 |.code (.region _ ops true) _ st=>⟨ops.toList,ops.toList.map λo=>Bx2 o.op,ops.toList,st.env,st.Qw,[]⟩
 |_=>⟨[],[],[],[],[],[]⟩
def Bg8 (hS:G0 S P)(hc:pr)
 (h:SG S P (Iz (stp P g)) λenv Qw=>G S P F (.pop .normal (stp P g).k ⟨env,Qw⟩)) (hp:pr=C6 (cnd P g):=by kernel_rfl) (c:CK (stp P g)=true:=by kernel_rfl) (a:P.follows .mixedOrders=true:=by kernel_rfl) (b:NM (Iz (stp P g)).all (Iz (stp P g)).cls=true:=by kernel_rfl):G S P F g:=by
 refine Fv hS hc ?_ hp;generalize stp P g=g' at c b h;unfold CK at c;split at c
 .exact AQ7 hS a rfl b h
 cases c
section
variable {sc:SC}{k:Env->C5->Prop}
def AD8 (hc:pr)(h:SG S P (Bl P sc) k)(hp:pr=C6 (PR P sc):=by kernel_rfl):SG S P sc k:=by subst hp;unfold Bl at h;unfold PR at hc;unfold SG at *;generalize a:RI P sc.kn sc.all sc.cls sc.rest [] sc.env sc.Qw=r at h hc;obtain⟨c,cls,rest,env,Qw⟩:=r;exact s_go a hc h
def C_end (hc:pr)(h:k (Bl P sc).env (Bl P sc).Qw)(hp:pr=C6 (PR P sc):=by kernel_rfl)(a:(Bl P sc).rest.isEmpty=true:=by kernel_rfl):SG S P sc k:=by
 refine AD8 hc ?_ hp;generalize Bl P sc=s at a h;obtain⟨all,cls,rest,env,Qw,kn⟩:=s;cases rest with
 |nil=>exact s_end h
 |cons=>simp at a
def AS3 {R:Type _}(d:Option Nat)(a:AV)(env:Env)(Qw:C5)(κ : Env->C5->R):R:=match d with
 |some d=>mkO (ins d a env) Qw κ
 |none=>mkO env Qw κ
def EQ {R:Type _}(d:Option Nat)(a:AV)(env:Env)(Qw:C5)(κ : Env->C5->R):AS3 d a env Qw κ = κ (Pa d a env) Qw:=by cases d<;>simp only[AS3,Gv,Pa]
def AZ7:∀{env:Env}{i d:Nat}{b:AV},AN0 ((i,b)::env)=true->get env d ≠ .top->d<i
 |[],_,_,_,_,h=>Ij rfl h
 |(j,c)::r,i,d,b,hd,h=>by
  simp only[AN0,By5,decide_eq_true_eq]at hd;by_cases e:j=d
  .subst e;exact hd.1
  simp only[get,e,Ld]at h;exact Nat.lt_trans (AZ7 hd.2 h) hd.1
def UW:∀{env:Env}{d:Nat}{a:AV},AN0 env=true->get env d=a->a ≠ .top->ins d a env=env
 |[],_,_,_,h,hn=>Ij h.symm hn
 |(i,b)::r,d,a,hd,h,hn=>by
  by_cases e:i=d
  .subst e;simp only[get,Lc]at h;subst h;simp[ins]
  simp only[get,e,Ld]at h;have c:=AZ7 hd (by rw[h];exact hn);have f:AN0 r=true:=by
   cases r with
   |nil=>rfl
   |cons p r=>simp only[AN0,By5]at hd;exact hd.2
  simp only[ins,show ¬i<d by omega,e,Ld,UW f h hn]
def UX (sc:SC):Option Bool:=match sc.rest with
 |o::_=>match o.guard with
  |some (j,_)=>match Bn8 sc.all j with
   |some d=>match get sc.env d with
    |.p (.bb b)=>if AN0 sc.env then some b else none
    |_=>none
   |none=>none
  |none=>none
 |[]=>none
def PS (v:Bool)(sc:SC):SC:=match sc.rest with
 |o::_=>match o.guard with
  |some (j,_)=>match Bn8 sc.all j with
   |some d=>mkO (ins d (.p (.bb v)) sc.env) sc.Qw λenv Qw=>⟨sc.all,sc.cls,sc.rest,env,Qw,j::sc.kn⟩
   |none=>sc
  |none=>sc
 |[]=>sc
def Bg9 (hc:pr){b:Bool}(ht:b=true->SG S P (PS true (Bl P sc)) k)(f:b=false->SG S P (PS false (Bl P sc)) k)(hp:pr=C6 (PR P sc))(hb:UX (Bl P sc)=some b):SG S P sc k:=by
 refine AD8 hc ?_ hp;generalize Bl P sc=s at hb ht f;obtain⟨all,cls,rest,env,Qw,kn⟩:=s;cases rest with
 |nil=>simp[UX]at hb
 |cons o rest=>
  simp only[UX]at hb;split at hb
  .rename_i j w g;split at hb
   .rename_i d i;split at hb
    .rename_i b' a;split at hb
     .rename_i c;simp only[By4]at hb;subst hb;simp only[PS,g,i,Gv]at ht f;cases b' with
      |true=>have:=ht rfl;rwa [UW c a (by simp)]at this
      |false=>have:=f rfl;rwa [UW c a (by simp)]at this
     cases hb
    cases hb
   cases hb
  cases hb
def PT (ids:List Nat)(sc:SC):Option (FuncId×List AV×List Obj):=match sc.rest with
 |o::_=>match Ai sc.all sc.env o,o.op with
  |some true,.call c=>match c.callee with
   |.value f=>match Im sc.Qw (c.args.toList.map (aev sc.env))with
    |some (as,Qw)=>match Ta sc.env f as with
     |some (fn,as')=>match DP ids as',M0 ids Qw ids with
      |some a,some ob=>if H5 ids&&Fu ob then some (fn,a,ob)else none
      |_,_=>none
     |none=>none
    |none=>none
   |_=>none
  |_,_=>none
 |[]=>none
def AS4 (js:List Nat):AV->Bool
 |.vec j=>js.contains j
 |.vecp j _=>js.contains j
 |_=>true
def Al2 {js:List Nat}{regs' : C5}:∀{l:List AV}{Qw:C5}{as:List AV},l.all (AS4 js)=true->Im Qw l=some (as,regs')->∀q,q ∉ js->A1 regs' q=A1 Qw q
 |[],Qw,as,_,h,q,_=>by simp only[Im,By4,Bz3]at h;rw[<- h.2]
 |a::r,Qw,as,hl,h,q,hq=>by
  simp only[BI3,By5]at hl;simp only[Im]at h;split at h
  .rename_i x R1 h1;split at h
   .rename_i l1 R2 c;simp only[By4,Bz3]at h;obtain⟨_,rfl⟩:=h;rw[Al2 hl.2 c q hq];cases a with
    |vec j=>
     simp only at h1;split at h1
     .rename_i x2 R3 b;cases h1;exact UQ (by simpa[inJ,AS4]using hl.1) b q hq
     cases h1
    |vecp j m=>
     simp only at h1;split at h1
     .rename_i x2 R3 b;cases h1;exact UQ (by simpa[inJ,AS4]using hl.1) b q hq
     cases h1
    |_=>cases h1;rfl
   cases h
  cases h
def Bq6 (R:C5)(a:AV):Option (AV×C5):=match a with | .vec _ | .vecp _ _=>(match DO R a with|some (x,Qw)=>some (AV.p x,Qw)|none=>none)|a=>some (a,R)
def AD9 (R:C5)(a:AV)(r:List AV):Im R (a::r)=match Bq6 R a with
 |some (a,Qw)=>match Im Qw r with
  |some (l,Qw)=>some (a::l,Qw)
  |none=>none
 |none=>none:=rfl
def AS5 {js:List Nat}{a x:AV}{R R2 R' : C5}(hl:inJ js a=true)(d:∀q∈js,A1 R2 q=A1 R q)(hx:Bq6 R a=some (x,R')):∃R3,Bq6 R2 a=some (x,R3)/\(∀q∈js,A1 R3 q=A1 R' q)/\∀q,q ∉ js->A1 R3 q=A1 R2 q:=by
 have up:∀(i:Nat) (o:Obj),i∈js->(∀q∈js,A1 (ins i o R2) q=A1 (ins i o R) q)/\∀q,q ∉ js->A1 (ins i o R2) q=A1 R2 q:=λi o g=>
  ⟨λq f=>by rw[O1,O1,d q f],λq f=>by rw[O1,Hj (by rintro rfl;exact f g)]⟩
 cases a with
 |p y=>cases hx;exact⟨R2,rfl,d,λ_ _=>rfl⟩
 |vec j=>
  have b:j∈js:=by simpa[inJ]using hl
  simp only[Bq6,DO,d j b]at hx⊢;cases c:A1 R j with
  |none=>simp[c]at hx
  |some ob=>cases ob<;>simp only[c]at hx⊢<;>first|(cases hx;exact⟨_,rfl,up _ _ b⟩)|cases hx
 |vecp j m=>
  have b:j∈js:=by simpa[inJ]using hl
  simp only[Bq6,DO,d j b]at hx⊢;cases c:A1 R j with
  |none=>simp[c]at hx
  |some ob=>cases ob<;>simp only[c]at hx⊢<;>first|(cases hx;exact⟨_,rfl,up _ _ b⟩)|cases hx
 |_=>cases hl
def UY {js:List Nat}:∀{l:List AV}{R R2 R1:C5}{as:List AV},l.all (inJ js)=true->(∀q∈js,A1 R2 q=A1 R q)->Im R l=some (as,R1) ->
 ∃R3,Im R2 l=some (as,R3)/\(∀q∈js,A1 R3 q=A1 R1 q)/\∀q,q ∉ js->A1 R3 q=A1 R2 q
 |[],R,R2,R1,as,_,h2,h=>by simp only[Im,By4,Bz3]at h;obtain⟨rfl,rfl⟩:=h;exact⟨R2,rfl,h2,λ_ _=>rfl⟩
 |a::r,R,R2,R1,as,hl,h2,h=>by
  simp only[BI3,By5]at hl;simp only[AD9]at h⊢;split at h
  .rename_i x R' hx;obtain⟨R3,e1,e2,e3⟩:=AS5 hl.1 h2 hx;split at h
   .rename_i l1 R'' c;simp only[By4,Bz3]at h;obtain⟨rfl,rfl⟩:=h;obtain⟨R4,f1,f2,f3⟩:=UY hl.2 e2 c;exact⟨R4,by simp only[e1,f1],f2,λq b=>(f3 q b).trans (e3 q b)⟩
   cases h
  cases h
def PU {m:List Nat}:∀{ids:List Nat}{objs:List Obj}{A B:C5}{q:Nat},A1 A q=A1 B q->A1 (back m ids objs A) q=A1 (back m ids objs B) q
 |[],_,_,_,_,h=>h
 |_::_,[],_,_,_,h=>h
 |j::ids,o::objs,A,B,q,h=>by simp only[back];exact PU (by rw[O1,O1,h])
def Bh0 {all:List Oper}{k:Env->C5->Prop}{js:List Nat}{cls:List Cls}{o:Oper}{rest:List Oper}{env:Env}{Qw regs1:C5}{c:Call}{f:Operand}{as:List AV}{fn:FuncId}{as' args:List AV}{objs' : List Obj}{ks:List Bool}{r:AV}
 (j:Ai all env o=some true) (l:o.op=.call c) (m:c.callee=.value f) (g:(c.args.toList.map (aev env)).all (inJ js)=true)
 (ha:Im Qw (c.args.toList.map (aev env))=some (as,regs1)) (hw:Ta env f as=some (fn,as')) (n:DP [] as' = some args) (s:Sb S fn args [] r objs' ks)
 (d:((G7 (o.dst.getD 0) [] ks objs'.length).all λq=>js.contains q)=true) (hn:X1 regs1 [] ks (o.dst.getD 0) objs'.length=true)
 (hk:LB S P all cls rest (Pa o.dst (unA (G7 (o.dst.getD 0) [] ks objs'.length) r) env) (back (G7 (o.dst.getD 0) [] ks objs'.length) (G7 (o.dst.getD 0) [] ks objs'.length) objs' (J9 [] ks regs1)) k) :
 LB S P all (.a js::cls) (o::rest) env Qw k:=by
 have i:∀q,q ∉ js->q ∉ G7 (o.dst.getD 0) [] ks objs'.length:=λq b h=>b (by simpa using Bz2.1 d q h);refine⟨true,j,?_⟩;rw[Gy rfl];refine⟨_,_,.inr (.inr (.inr (.inr ⟨js,rfl,λq b=>?_,λR2 t=>?_⟩))),hk⟩
 .rw[JC (i q b)];obtain⟨R3,e1,_,e3⟩:=UY (R2:=Qw) g (λ_ _=>rfl) ha;rw[ha]at e1;cases e1;exact e3 q b
 obtain⟨R3,e1,e2,e3⟩:=UY g t ha;refine⟨_,.inl ⟨c,f,as,R3,fn,as',args,[],objs',ks,r,[],l,m,e1,hw,n,rfl,s,rfl,rfl,?_,rfl,rfl⟩,λq b=>PU (e2 q b),λq b=>(JC (i q b)).trans (e3 q b)⟩;unfold X1 at hn⊢;rw[Bz2]at hn⊢;intro p hp;have h1:=hn p hp;have u:nid (o.dst.getD 0) p∈js:=by
  have:=Bz2.1 d (nid (o.dst.getD 0) p) (by unfold G7;exact BE0.2 ⟨p,hp,rfl⟩)
  simpa using this
 show (A1 R3 (nid (o.dst.getD 0) p)).isNone=true;rw[e2 _ u];exact h1
def PW (ids:List Nat)(ks:List Bool)(n:Nat)(sc:SC):Bool:=match sc.cls,sc.rest with
 |.w::_,o::_=>match o.op with
  |.call c=>match Im sc.Qw (c.args.toList.map (aev sc.env))with
   |some (_,Qw)=>X1 Qw ids ks (o.dst.getD 0) n
   |none=>false
  |_=>false
 |.b js::_,o::_=>match o.op with
  |.call c=>match Im sc.Qw (c.args.toList.map (aev sc.env))with
   |some (_,Qw)=>((c.args.toList.map (aev sc.env)).all (AS4 js)&&ids.isEmpty)&&(((G7 (o.dst.getD 0) ids ks n).all λq=>js.contains q)&&X1 Qw ids ks (o.dst.getD 0) n)
   |none=>false
  |_=>false
 |.a js::_,o::_=>match o.op with
  |.call c=>match Im sc.Qw (c.args.toList.map (aev sc.env))with
   |some (_,Qw)=>((c.args.toList.map (aev sc.env)).all (inJ js)&&ids.isEmpty)&&(((G7 (o.dst.getD 0) ids ks n).all λq=>js.contains q)&&X1 Qw ids ks (o.dst.getD 0) n)
   |none=>false
  |_=>false
 |_,_=>false
def PX (ids:List Nat)(ks:List Bool)(r:AV)(objs' : List Obj)(sc:SC):SC:=match sc.rest with
 |o::rest=>match o.op with
  |.call c=>match Im sc.Qw (c.args.toList.map (aev sc.env))with
   |some (_,Qw)=>AS3 o.dst (unA (G7 (o.dst.getD 0) ids ks objs'.length) r) sc.env
    (back (G7 (o.dst.getD 0) ids ks objs'.length) (G7 (o.dst.getD 0) ids ks objs'.length) objs' (J9 ids ks Qw)) λenv Qw=>⟨sc.all,sc.cls.tail,rest,env,Qw,sc.kn⟩
   |none=>sc
  |_=>sc
 |[]=>sc
def Bq7 (ids:List Nat)(hc:pr){fn:FuncId}{args:List AV}{objs objs' : List Obj}{r:AV}{ks:List Bool}(u:Sb S fn args objs r objs' ks)
 (hk:SG S P (PX ids ks r objs' (Bl P sc)) k) (hp:pr=C6 (PR P sc):=by kernel_rfl) (d:PT ids (Bl P sc)=some (fn,args,objs):=by kernel_rfl) (hn:PW ids ks objs'.length (Bl P sc)=true:=by kernel_rfl):SG S P sc k:=by
 refine AD8 hc ?_ hp;generalize Bl P sc=s at d hn hk;obtain⟨all,cls,rest,env,Qw,kn⟩:=s;cases rest with
 |nil=>simp[PT]at d
 |cons o rest=>
  simp only[PT]at d;split at d
  .rename_i c v g;split at d
   .rename_i i;split at d
    .rename_i ha;split at d
     .rename_i hw;split at d
      .rename_i x j;split at d
       .rename_i f;cases d;simp only[By5]at f;cases cls with
        |nil=>simp[PW]at hn
        |cons cl cls=>
         cases cl with
         |w=>simp only[PW,g,ha]at hn;simp only[PX,g,ha,EQ,BG0]at hk;exact AD2 ids (.inl rfl) v g i ha hw x j u f.1 f.2 hn hk
         |b js=>simp only[PW,g,ha,By5,BO8]at hn;obtain⟨⟨l,m⟩,n,t⟩:=hn;subst m;simp only[PX,g,ha,EQ,BG0]at hk;refine AD2 [] (.inr ⟨js,rfl,λq y=>?_⟩) v g i ha hw x j u f.1 f.2 t hk;rw[JC (λh=>y (by simpa using Bz2.1 n q h))];exact Al2 l ha q y
         |a js=>simp only[PW,g,ha,By5,BO8]at hn;obtain⟨⟨l,m⟩,n,t⟩:=hn;subst m;simp only[PX,g,ha,EQ,BG0]at hk;cases j;exact Bh0 v g i l ha hw x u n t hk
         |_=>simp[PW]at hn
       cases d
      cases d
     cases d
    cases d
   cases d
  cases d
def Al3 (sc:SC):Bool:=match sc.cls,sc.rest with
 |_::_,o::_=>match o.op with
  |.call c=>(c.args.toList.map (aev sc.env)).all AC7
  |_=>false
 |_,_=>false
def Al4 (sc:SC):Option (FuncId×List AV):=match sc.rest with
 |o::_=>match Ai sc.all sc.env o,o.op with
  |some true,.call c=>match c.callee with
   |.value f=>match Ta sc.env f (c.args.toList.map (aev sc.env))with
    |some (fn,as')=>match DP [] as' with
     |some a=>some (fn,a)
     |none=>none
    |none=>none
   |_=>none
  |_,_=>none
 |[]=>none
def AE0 (r:AV)(sc:SC):SC:=match sc.rest with
 |o::rest=>AS3 o.dst (unA [] r) sc.env sc.Qw λenv Qw=>⟨sc.all,sc.cls.tail,rest,env,Qw,sc.kn⟩
 |[]=>sc
def Bq8 (hc:pr){fn:FuncId}{args:List AV}{r:AV}(f:Sb S fn args [] r [] [])
 (hk:SG S P (AE0 r (Bl P sc)) k) (hp:pr=C6 (PR P sc):=by kernel_rfl) (a:Al4 (Bl P sc)=some (fn,args):=by kernel_rfl) (hn:Al3 (Bl P sc)=true:=by kernel_rfl):SG S P sc k:=by
 refine AD8 hc ?_ hp;generalize Bl P sc=s at a hn hk;obtain⟨all,cls,rest,env,Qw,kn⟩:=s;cases rest with
 |nil=>simp[Al4]at a
 |cons o rest=>
  cases cls with
  |nil=>simp[Al3]at hn
  |cons cl cls=>
   simp only[Al4]at a;split at a
   .rename_i c g d;split at a
    .rename_i b;split at a
     .rename_i hw;split at a
      .rename_i i;cases a;simp only[Al3,d]at hn;simp only[AE0,EQ,BG0]at hk;exact Bp3 g d b hn hw i f hk
      cases a
     cases a
    cases a
   cases a
def Hd (P:Program)(sc:SC):Option (List Prop×PV):=match sc.cls,sc.rest with
 |_::_,o::_=>match Ai sc.all sc.env o with
  |some true=>RK P sc.env o.op
  |_=>none
 |_,_=>none
def ZT (x:PV)(sc:SC):SC:=match sc.rest with
 |o::rest=>AS3 o.dst (.p x) sc.env sc.Qw λenv Qw=>⟨sc.all,sc.cls.tail,rest,env,Qw,sc.kn⟩
 |[]=>sc
def Bh1 (hc:pr){x:PV}(hk:SG S P (ZT x (Bl P sc)) k)(hp:pr=C6 (PR P sc):=by kernel_rfl)(a:(Hd P (Bl P sc)).map (·.2)=some x:=by kernel_rfl)(b:((Hd P (Bl P sc)).map λq=>C6 q.1)=some (true=true):=by kernel_rfl):SG S P sc k:=by
 refine AD8 hc ?_ hp;generalize Bl P sc=s at a b hk;obtain⟨all,cls,rest,env,Qw,kn⟩:=s;cases rest with
 |nil=>cases cls<;>simp[Hd]at a
 |cons o rest=>
  cases cls with
  |nil=>simp[Hd]at a
  |cons cl cls=>
   cases d:Ai all env o with
   |none=>simp[Hd,d]at a
   |some bb=>
    cases bb with
    |false=>simp[Hd,d]at a
    |true=>
     simp only[Hd,d]at a b;cases ha:RK P env o.op with
     |none=>rw[ha]at a;cases a
     |some q=>obtain⟨c,y⟩:=q;rw[ha]at a b;simp only[Bz7,By4]at a b;subst a;simp only[ZT,EQ,BG0]at hk;exact AQ6 d ha (by rw[b];trivial) hk
def PY (P:Program)(sc:SC):Option LookI:=match sc.cls,sc.rest with
 |cl::_,o::_=>match Ai sc.all sc.env o,o.op with
  |some true,.lookup t m q _=>match DO sc.Qw (aev sc.env q),aev sc.env m with
   |some (key,Qw),.Se j=>match A1 Qw j,tk P t with
    |some (.map es),some (.map kt e)=>if (Gn P kt key&&Xk cl sc.env (o.dst.getD 0) o.op) then some ⟨kt,e,key,es⟩else none
    |_,_=>none
   |_,_=>none
  |_,_=>none
 |_,_=>none
def Xu (x:PV)(b:Bool)(sc:SC):SC:=match sc.rest with
 |o::rest=>match o.op with
  |.lookup _ _ q ok=>match DO sc.Qw (aev sc.env q)with
   |some (_,Qw)=>AS3 o.dst (if ok then .tup [.p x,.bool b]else .p x) sc.env Qw λenv Qw=>⟨sc.all,sc.cls.tail,rest,env,Qw,sc.kn⟩
   |none=>sc
  |_=>sc
 |[]=>sc
def AS6 (hc:pr){kt e:TypeId}{key:PV}{es:List (PV×PV)}{x:PV}{b:Bool}{fd:Option PV}
 (j:find (Ic P kt) key es=some fd) (g:C6 (HI P kt)) (hk:SG S P (Xu x b (Bl P sc)) k) (hp:pr=C6 (PR P sc):=by kernel_rfl) (a:PY P (Bl P sc)=some ⟨kt,e,key,es⟩:=by kernel_rfl) (hx:Xs P e fd=some (x,b):=by kernel_rfl):SG S P sc k:=by
 refine AD8 hc ?_ hp;generalize Bl P sc=s at a hk;obtain⟨all,cls,rest,env,Qw,kn⟩:=s;cases rest with
 |nil=>cases cls<;>simp[PY]at a
 |cons o rest=>
  cases cls with
  |nil=>simp[PY]at a
  |cons cl cls=>
   simp only[PY]at a;split at a
   .rename_i l f;split at a
    .rename_i i hm;split at a
     .rename_i m ht;split at a
      .rename_i c;simp only[By4,LookI.mk.injEq]at a;obtain⟨rfl,rfl,rfl,rfl⟩:=a;simp only[By5]at c;simp only[Xu,f,i,EQ,BG0]at hk;have d:=c.2;simp only[f]at d;cases fd with
       |some y=>exact Ak7 (fd:=some y) l f i hm m ht c.1 j hx g (by rw[f];exact d) hk
       |none=>exact Ak7 (fd:=none) l f i hm m ht c.1 j hx g (by rw[f];exact d) hk
      cases a
     cases a
    cases a
   cases a
def Xv (P:Program)(sc:SC):Option (TypeId×PV×PV×List (PV×PV)):=match sc.cls,sc.rest with
 |.w::_,o::_=>match Ai sc.all sc.env o,o.op with
  |some true,.mapUpdate t m q x=>match aev sc.env q,aev sc.env m,DO sc.Qw (aev sc.env x)with
   |.p key,.Se j,some (y,Qw)=>match A1 Qw j,tk P t with
    |some (.map es),some (.map kt _)=>if Gn P kt (nP key) then some (kt,nP key,y,es)else none
    |_,_=>none
   |_,_,_=>none
  |_,_=>none
 |_,_=>none
def AS7 (es' : List (PV×PV))(sc:SC):SC:=match sc.rest with
 |o::rest=>match o.op with
  |.mapUpdate _ m _ x=>match aev sc.env m,DO sc.Qw (aev sc.env x)with
   |.Se j,some (_,Qw)=>AS3 o.dst LC sc.env (ins j (.map es') Qw) λenv Qw=>⟨sc.all,sc.cls.tail,rest,env,Qw,sc.kn⟩
   |_,_=>sc
  |_=>sc
 |[]=>sc
def AS8 (hc:pr){kt:TypeId}{key y:PV}{es es' : List (PV×PV)}
 (i:upd (Ic P kt) key y es=some es') (b:C6 (HI P kt)) (hk:SG S P (AS7 es' (Bl P sc)) k) (hp:pr=C6 (PR P sc):=by kernel_rfl) (a:Xv P (Bl P sc)=some (kt,key,y,es):=by kernel_rfl):SG S P sc k:=by
 refine AD8 hc ?_ hp;generalize Bl P sc=s at a hk;obtain⟨all,cls,rest,env,Qw,kn⟩:=s;cases rest with
 |nil=>cases cls with
  |nil=>simp[Xv]at a
  |cons cl cls=>cases cl<;>simp[Xv]at a
 |cons o rest=>
  cases cls with
  |nil=>simp[Xv]at a
  |cons cl cls=>
   cases cl with
   |w=>
    simp only[Xv]at a;split at a
    .rename_i j d;split at a
     .rename_i h1 f g;split at a
      .rename_i l ht;split at a
       .rename_i c;simp only[By4,Bz3]at a;obtain⟨rfl,rfl,rfl,rfl⟩:=a;simp only[AS7,d,f,g,EQ,BG0]at hk;exact ZS j d h1 g f l ht c i b hk
       cases a
      cases a
     cases a
    cases a
   |_=>simp[Xv]at a
end
end
structure KG (S:U8) (P:Program) (F:J3) (g:Cfg):Prop where
 out:G S P F g
structure DG (S:U8) (P:Program) (sc:SC) (k:Env->C5->Prop):Prop where
 out:SG S P sc k
structure KLe (ids:List (Nat×Nat)) (s t:St):Prop where
 out:Le ids s t
section
variable {S:U8}{P:Program}{F:J3}{g:Cfg}{pr:Prop}
def kl {ids:List (Nat×Nat)}{s t:St}(h:(leK ids s t).map (·.map Sf.src)=(leK ids s t).map (·.map Sf.tgt):=by kernel_rfl)(h1:(leK ids s t).isSome=true:=by kernel_rfl):KLe ids s t:=⟨kle h h1⟩
def klR {ids:List (Nat×Nat)}{s t:St}(rs:List (Nat×Sf))(a:∀q∈rs,q.2.ok)(h:(leK ids s t).map (AS0 (rs.map (·.1)) Sf.src)=(leK ids s t).map (AS0 (rs.map (·.1)) Sf.tgt):=by kernel_rfl)
 (b:(leK ids s t).map (λL=>rs.map λq=>L[q.1]?)=some (rs.map λq=>some q.2):=by kernel_rfl):KLe ids s t:=⟨kleR rs a h b⟩
def C7 (hS:G0 S P)(hc:pr){b:Bool}(ht:b=true->KG S P F (Bg3 (stp P g)))(a:b=false->KG S P F (Bg4 (stp P g)))(hp:pr=C6 (cnd P g):=by kernel_rfl)(hb:AR3 (stp P g)=some b:=by kernel_rfl):KG S P F g:=
 ⟨Bq1 hS hc (λh=>(ht h).out) (λh=>(a h).out) hp hb⟩
def ER (hS:G0 S P)(hc:pr){b:Bool}(ht:b=true->KG S P F (PN true (stp P g)))(a:b=false->KG S P F (PN false (stp P g)))(hp:pr=C6 (cnd P g):=by kernel_rfl)(hb:Ak8 (stp P g)=some b:=by kernel_rfl):KG S P F g:=
 ⟨Bg6 hS hc (λh=>(ht h).out) (λh=>(a h).out) hp hb⟩
def B0 (hS:G0 S P)(ids:List Nat)(hc:pr){fn:FuncId}{args:List AV}{objs objs' : List Obj}{r:AV}{ks:List Bool}(a:Sb S fn args objs r objs' ks)(hk:KG S P F (AR4 ids ks r objs' (stp P g)))
 (hp:pr=C6 (cnd P g):=by kernel_rfl) (b:Ar5 ids (stp P g)=some (fn,args,objs):=by kernel_rfl) (hn:Ar6 ids ks objs'.length (stp P g)=true:=by kernel_rfl):KG S P F g:=⟨Bq2 hS ids hc a hk.out hp b hn⟩
def Al5 (hS:G0 S P)(hc:pr){kt e:TypeId}{key:PV}{es:List (PV×PV)}{x:PV}{b:Bool}{fd:Option PV}(c:find (Ic P kt) key es=some fd)(a:C6 (HI P kt))(hk:KG S P F (AD7 x b (stp P g)))
 (hp:pr=C6 (cnd P g):=by kernel_rfl) (d:AD6 P (stp P g)=some ⟨kt,e,key,es⟩:=by kernel_rfl) (hx:Xs P e fd=some (x,b):=by kernel_rfl):KG S P F g:=⟨AS1 hS hc c a hk.out hp d hx⟩
def AS9 (hS:G0 S P)(hc:pr){kt:TypeId}{key y:PV}{es es' : List (PV×PV)}(b:upd (Ic P kt) key y es=some es')(a:C6 (HI P kt))(hk:KG S P F (Bx5 es' (stp P g)))
 (hp:pr=C6 (cnd P g):=by kernel_rfl) (c:Bx4 P (stp P g)=some (kt,key,y,es):=by kernel_rfl):KG S P F g:=⟨AS2 hS hc b a hk.out hp c⟩
def LY (hS:G0 S P)(hc:pr)(st:St){ids:List (Nat×Nat)}(hk:KG S P F (opsS st (stp P g)))(hp:pr=C6 (cnd P g):=by kernel_rfl)(a:KZ (stp P g)=true:=by kernel_rfl)(hle:KLe ids (stp P g).st st:=by exact kl):KG S P F g:=
 ⟨Bq3 hS hc st hk.out hp a hle.out⟩
def ZU (hS:G0 S P)(hc:pr)(b:∀s,S.up s (F .normal)->F .normal s)(n:Nat)(s:St)
 (h1:∀(M:St->Prop),(∀(g' : Cfg) (ids:List (Nat×Nat)) (pr:Prop),pr->(hp:pr=C6 (cnd P g'):=by kernel_rfl)->(a:stp P g' = .pop .normal (.mid M::(stp P g).k.drop n) (stp P g').st:=by kernel_rfl)->(hle:KLe ids (stp P g').st s:=by exact kl)->KG S P F g')->KG S P F (Bq0 n M (stp P g)))
 (c:KG S P F (.pop .normal ((stp P g).k.drop n) s)) (hp:pr=C6 (cnd P g):=by kernel_rfl) (hn:Nat.ble n (stp P g).k.length=true:=by kernel_rfl):KG S P F g:=
 ⟨J_cut hS hc b n s (λM hb=>(h1 M λg' ids pr hc hp a hle=>⟨hb g' ids pr hc hp a hle.out⟩).out) c.out hp hn⟩
def Ii (hS:G0 S P)(hc:pr)(c:∀s,S.up s (F .normal)->F .normal s){R A:Type}{f:(A->Option R)->Option R}{k0:A->Option R}{r:R}(h:lt k0 f=some r)(n:Nat)(s:A->St)
 (h1:∀(M:St->Prop) (k:A->Option R),(∀(g' : Cfg) (ids:List (Nat×Nat)) (pr:Prop) (a:A),pr->k a=some r->(hp:pr=C6 (cnd P g'):=by kernel_rfl)->(b:stp P g' = .pop .normal (.mid M::(stp P g).k.drop n) (stp P g').st:=by kernel_rfl)->(hle:KLe ids (stp P g').st (s a):=by exact kl)->KG S P F g')->f k=some r->KG S P F (Bq0 n M (stp P g)))
 (d:∀a,k0 a=some r->KG S P F (.pop .normal ((stp P g).k.drop n) (s a))) (hp:pr=C6 (cnd P g):=by kernel_rfl) (hn:Nat.ble n (stp P g).k.length=true:=by kernel_rfl):KG S P F g:=
 ⟨J_lt hS hc c h n s (λM k hb i=>(h1 M k (λg' ids pr a hc hk hp b hle=>⟨hb g' ids pr a hc hk hp b hle.out⟩) i).out) (λa hk=>(d a hk).out) hp hn⟩
def F1 (hS:G0 S P)(hc:pr){R A:Type}{body:(A->Option R)->A->Option R}{N:Nat}{a0:A}{r:R}(h:R6 N body a0=some r)(s:A->St){ids:List (Nat×Nat)}
 (i:∀(X:Type) (s' : X->St) (J:X->Prop) (m:X->Nat) (n:Nat) (b:A->Option R) (a:A),
  (∀(g' : Cfg) (ids:List (Nat×Nat)) (pr:Prop) (a:A),pr->b a=some r->(hp:pr=C6 (cnd P g'):=by kernel_rfl)->(f:stp P g' = .pop .normal (.lp X s' J m n::(stp P g).k) (stp P g').st:=by kernel_rfl)->(hle:KLe ids (stp P g').st (s a):=by exact kl)->KG S P F g') ->
  body b a=some r->KG S P F (.code (PO (stp P g)) (.lp X s' J m n::(stp P g).k) (s a))) (hp:pr=C6 (cnd P g):=by kernel_rfl) (hl:HN (stp P g)=true:=by kernel_rfl) (hle:KLe ids (stp P g).st (s a0):=by exact kl):KG S P F g:=
 ⟨Bq4 hS hc h s (λX s' J m n b a hb c=>(i X s' J m n b a (λg' ids pr a hc d hp f hle=>⟨hb g' ids pr a hc d hp f hle.out⟩) c).out) hp hl hle.out⟩
def H7 (hS:G0 S P)(hc:pr){R A B:Type}{body:(A->B->Option R)->A->B->Option R}{N:Nat}{a0:A}{b0:B}{r:R}(h:Co N body a0 b0=some r)(s:A->B->St){ids:List (Nat×Nat)}
 (d:∀(X:Type) (s' : X->St) (J:X->Prop) (m:X->Nat) (n:Nat) (c:A->B->Option R) (a:A) (b:B),
  (∀(g' : Cfg) (ids:List (Nat×Nat)) (pr:Prop) (a:A) (b:B),pr->c a b=some r->(hp:pr=C6 (cnd P g'):=by kernel_rfl)->(o:stp P g' = .pop .normal (.lp X s' J m n::(stp P g).k) (stp P g').st:=by kernel_rfl)->(hle:KLe ids (stp P g').st (s a b):=by exact kl)->KG S P F g') ->
  body c a b=some r->KG S P F (.code (PO (stp P g)) (.lp X s' J m n::(stp P g).k) (s a b))) (hp:pr=C6 (cnd P g):=by kernel_rfl) (hl:HN (stp P g)=true:=by kernel_rfl) (hle:KLe ids (stp P g).st (s a0 b0):=by exact kl):KG S P F g:=
 F1 hS hc h (λx=>s x.1 x.2) (λX s' J m n c a hb=>d X s' J m n (λa b=>c (a,b)) a.1 a.2 λg' ids pr a b h1 f i j l=>hb g' ids pr (a,b) h1 f i j l) hp hl hle
def Tz (hS:G0 S P)(hc:pr){R A B C:Type}{body:(A->B->C->Option R)->A->B->C->Option R}{N:Nat}{a0:A}{b0:B}{c0:C}{r:R}(h:AZ3 N body a0 b0 c0=some r)(s:A->B->C->St){ids:List (Nat×Nat)}
 (f:∀(X:Type) (s' : X->St) (J:X->Prop) (m:X->Nat) (n:Nat) (d:A->B->C->Option R) (a:A) (b:B) (c:C),
  (∀(g' : Cfg) (ids:List (Nat×Nat)) (pr:Prop) (a:A) (b:B) (c:C),pr->d a b c=some r->(hp:pr=C6 (cnd P g'):=by kernel_rfl)->(q:stp P g' = .pop .normal (.lp X s' J m n::(stp P g).k) (stp P g').st:=by kernel_rfl)->(hle:KLe ids (stp P g').st (s a b c):=by exact kl)->KG S P F g') ->
  body d a b c=some r->KG S P F (.code (PO (stp P g)) (.lp X s' J m n::(stp P g).k) (s a b c))) (hp:pr=C6 (cnd P g):=by kernel_rfl) (hl:HN (stp P g)=true:=by kernel_rfl) (hle:KLe ids (stp P g).st (s a0 b0 c0):=by exact kl):KG S P F g:=
 F1 hS hc h (λx=>s x.1 x.2.1 x.2.2) (λX s' J m n d a hb=>f X s' J m n (λa b c=>d (a,b,c)) a.1 a.2.1 a.2.2 λg' ids pr a b c h1 i j l o=>hb g' ids pr (a,b,c) h1 i j l o) hp hl hle
def Bq9 (hS:G0 S P)(hc:pr){R A B C D:Type}{body:(A->B->C->D->Option R)->A->B->C->D->Option R}{N:Nat}{a0:A}{b0:B}{c0:C}{d0:D}{r:R}(h:fix4 N body a0 b0 c0 d0=some r)(s:A->B->C->D->St){ids:List (Nat×Nat)}
 (i:∀(X:Type) (s' : X->St) (J:X->Prop) (m:X->Nat) (n:Nat) (f:A->B->C->D->Option R) (a:A) (b:B) (c:C) (d:D),
  (∀(g' : Cfg) (ids:List (Nat×Nat)) (pr:Prop) (a:A) (b:B) (c:C) (d:D),pr->f a b c d=some r->(hp:pr=C6 (cnd P g'):=by kernel_rfl)->(t:stp P g' = .pop .normal (.lp X s' J m n::(stp P g).k) (stp P g').st:=by kernel_rfl)->(hle:KLe ids (stp P g').st (s a b c d):=by exact kl)->KG S P F g') ->
  body f a b c d=some r->KG S P F (.code (PO (stp P g)) (.lp X s' J m n::(stp P g).k) (s a b c d))) (hp:pr=C6 (cnd P g):=by kernel_rfl) (hl:HN (stp P g)=true:=by kernel_rfl) (hle:KLe ids (stp P g).st (s a0 b0 c0 d0):=by exact kl):KG S P F g:=
 F1 hS hc h (λx=>s x.1 x.2.1 x.2.2.1 x.2.2.2) (λX s' J m n f a hb=>i X s' J m n (λa b c d=>f (a,b,c,d)) a.1 a.2.1 a.2.2.1 a.2.2.2 λg' ids pr a b c d h1 j l o q=>hb g' ids pr (a,b,c,d) h1 j l o q) hp hl hle
def Br0 (hS:G0 S P)(hc:pr){R A B C D E F' : Type}{body:(A->B->C->D->E->F' -> Option R)->A->B->C->D->E->F' -> Option R}{N:Nat}{a0:A}{b0:B}{c0:C}{d0:D}{e0:E}{f0:F'}{r:R}(h:fix6 N body a0 b0 c0 d0 e0 f0=some r)(s:A->B->C->D->E->F' -> St){ids:List (Nat×Nat)}
 (j:∀(X:Type) (s' : X->St) (J:X->Prop) (m:X->Nat) (n:Nat) (i:A->B->C->D->E->F' -> Option R) (a:A) (b:B) (c:C) (d:D) (e:E) (f:F'),
  (∀(g' : Cfg) (ids:List (Nat×Nat)) (pr:Prop) (a:A) (b:B) (c:C) (d:D) (e:E) (f:F'),pr->i a b c d e f=some r->(hp:pr=C6 (cnd P g'):=by kernel_rfl)->(u:stp P g' = .pop .normal (.lp X s' J m n::(stp P g).k) (stp P g').st:=by kernel_rfl)->(hle:KLe ids (stp P g').st (s a b c d e f):=by exact kl)->KG S P F g') ->
  body i a b c d e f=some r->KG S P F (.code (PO (stp P g)) (.lp X s' J m n::(stp P g).k) (s a b c d e f))) (hp:pr=C6 (cnd P g):=by kernel_rfl) (hl:HN (stp P g)=true:=by kernel_rfl) (hle:KLe ids (stp P g).st (s a0 b0 c0 d0 e0 f0):=by exact kl):KG S P F g:=
 F1 hS hc h (λx=>s x.1 x.2.1 x.2.2.1 x.2.2.2.1 x.2.2.2.2.1 x.2.2.2.2.2) (λX s' J m n i a hb=>j X s' J m n (λa b c d e f=>i (a,b,c,d,e,f)) a.1 a.2.1 a.2.2.1 a.2.2.2.1 a.2.2.2.2.1 a.2.2.2.2.2 λg' ids pr a b c d e f h1 l o q t=>hb g' ids pr (a,b,c,d,e,f) h1 l o q t) hp hl hle
def Xw (hS:G0 S P)(hc:pr){n:Nat}{rs:List ResultVar}{Q:ARes->List Obj->List Bool->Prop}{a:AV}{objs:List Obj}(outs:List Nat)(b:Q (.ret a) objs (Fy n outs))(hp:pr=C6 (cnd P g):=by kernel_rfl)
 (c:(AR5 (stp P g)).bind (λst=>UV P st rs outs)=some (a,objs):=by kernel_rfl):KG S P (Cm S P n rs Q) g:=⟨J_ret hS hc outs b hp c⟩
def M8 (hS:G0 S P)(hc:pr){n:Nat}{rs:List ResultVar}{Q:ARes->List Obj->List Bool->Prop}{a:AV}{objs:List Obj}(st:St)(outs:List Nat){ids:List (Nat×Nat)}(b:Q (.ret a) objs (Fy n outs))(hp:pr=C6 (cnd P g):=by kernel_rfl)
 (c:(AR5 (stp P g)).isSome=true:=by kernel_rfl) (hle:KLe ids (stp P g).st st:=by exact kl) (d:UV P st rs outs=some (a,objs):=by kernel_rfl):KG S P (Cm S P n rs Q) g:=⟨Bq5 hS hc st outs b hp c hle.out d⟩
def A2 (hS:G0 S P){f:FuncId}{fn:Func}{args:List AV}{objs objs' : List Obj}{ks:List Bool}{r:AV}(c:P.funcs[f]? = some fn)
 (h:KG S P (Cm S P objs.length fn.results.toList λres o k=>res=.ret r/\o=objs' /\ k=ks) (.code (fn.body.getD .skip) [] { env:=Ss args,Qw:=Sa objs }))
 (hc:fn.body.isSome=true:=by kernel_rfl) (hn:Nat.ble args.length fn.ntmps=true:=by kernel_rfl) (d:Nat.blt objs.length 1000=true:=by kernel_rfl)
 (a:Bm fn.ntmps (fn.body.getD .skip)=true:=by kernel_rfl) (b:(fn.name == "runtime.NumGoroutine")=false:=by kernel_rfl):Sb S f args objs r objs' ks:=Bg7 hS c h.out hc hn d a b
def ES (hS:G0 S P)(hc:pr)(h:DG S P (Iz (stp P g)) λenv Qw=>KG S P F (.pop .normal (stp P g).k ⟨env,Qw⟩))(hp:pr=C6 (cnd P g):=by kernel_rfl)(c:CK (stp P g)=true:=by kernel_rfl)(a:P.follows .mixedOrders=true:=by kernel_rfl)
 (b:NM (Iz (stp P g)).all (Iz (stp P g)).cls=true:=by kernel_rfl):KG S P F g:=by
 have e:(λenv Qw=>KG S P F (.pop .normal (stp P g).k ⟨env,Qw⟩))=λenv Qw=>G S P F (.pop .normal (stp P g).k ⟨env,Qw⟩):=by funext env Qw;exact propext ⟨λh=>h.out,λh=>⟨h⟩⟩
 rw[e]at h;exact⟨Bg8 hS hc h.out hp c a b⟩
section
variable {sc:SC}{k:Env->C5->Prop}
def C8 (hc:pr)(h:k (Bl P sc).env (Bl P sc).Qw)(hp:pr=C6 (PR P sc):=by kernel_rfl)(a:(Bl P sc).rest.isEmpty=true:=by kernel_rfl):DG S P sc k:=⟨C_end hc h hp a⟩
def T7 (hc:pr){b:Bool}(ht:b=true->DG S P (PS true (Bl P sc)) k)(a:b=false->DG S P (PS false (Bl P sc)) k)(hp:pr=C6 (PR P sc):=by kernel_rfl)(hb:UX (Bl P sc)=some b:=by kernel_rfl):DG S P sc k:=
 ⟨Bg9 hc (λh=>(ht h).out) (λh=>(a h).out) hp hb⟩
def LZ (ids:List Nat)(hc:pr){fn:FuncId}{args:List AV}{objs objs' : List Obj}{r:AV}{ks:List Bool}(a:Sb S fn args objs r objs' ks)(hk:DG S P (PX ids ks r objs' (Bl P sc)) k)
 (hp:pr=C6 (PR P sc):=by kernel_rfl) (b:PT ids (Bl P sc)=some (fn,args,objs):=by kernel_rfl) (hn:PW ids ks objs'.length (Bl P sc)=true:=by kernel_rfl):DG S P sc k:=⟨Bq7 ids hc a hk.out hp b hn⟩
def F9 (hc:pr){fn:FuncId}{args:List AV}{r:AV}(a:Sb S fn args [] r [] [])(hk:DG S P (AE0 r (Bl P sc)) k)(hp:pr=C6 (PR P sc):=by kernel_rfl)(b:Al4 (Bl P sc)=some (fn,args):=by kernel_rfl)(hn:Al3 (Bl P sc)=true:=by kernel_rfl):DG S P sc k:=
 ⟨Bq8 hc a hk.out hp b hn⟩
def O9 (hc:pr){x:PV}(hk:DG S P (ZT x (Bl P sc)) k)(hp:pr=C6 (PR P sc):=by kernel_rfl)(b:(Hd P (Bl P sc)).map (·.2)=some x:=by kernel_rfl)(a:((Hd P (Bl P sc)).map λq=>C6 q.1)=some (true=true):=by kernel_rfl):DG S P sc k:=⟨Bh1 hc hk.out hp b a⟩
def Al6 (hc:pr){kt e:TypeId}{key:PV}{es:List (PV×PV)}{x:PV}{b:Bool}{fd:Option PV}(c:find (Ic P kt) key es=some fd)(a:C6 (HI P kt))(hk:DG S P (Xu x b (Bl P sc)) k)
 (hp:pr=C6 (PR P sc):=by kernel_rfl) (d:PY P (Bl P sc)=some ⟨kt,e,key,es⟩:=by kernel_rfl) (hx:Xs P e fd=some (x,b):=by kernel_rfl):DG S P sc k:=⟨AS6 hc c a hk.out hp d hx⟩
def AT0 (hc:pr){kt:TypeId}{key y:PV}{es es' : List (PV×PV)}(b:upd (Ic P kt) key y es=some es')(a:C6 (HI P kt))(hk:DG S P (AS7 es' (Bl P sc)) k)
 (hp:pr=C6 (PR P sc):=by kernel_rfl) (c:Xv P (Bl P sc)=some (kt,key,y,es):=by kernel_rfl):DG S P sc k:=⟨AS8 hc b a hk.out hp c⟩
end
end
section
variable {S:U8}{P:Program}{F:J3}{g:Cfg}{pr:Prop}
def yldE:Cfg->Option (List PV×List (List PV))
 |.ops all (o::_) _ st=>match Bn all st.env o,o.op with
  |some true,.call c=>match c.callee with
   |.value f=>match aev st.env f,Gk st.Qw (c.args.toList.map (aev st.env))with
    |.yf j,some (xs,Qw)=>match A1 Qw j with
     |some (.yld (ys::rest) true)=>if FP j Qw=true/\xs.length=ys.length then some (xs,ys::rest)else none
     |_=>none
    |_,_=>none
   |_=>none
  |_,_=>none
 |_=>none
def Br1 (b:Bool)(rest:List (List PV)):Cfg->Cfg
 |.ops all (o::ops) K st=>match o.op with
  |.call c=>match c.callee with
   |.value f=>match aev st.env f,Gk st.Qw (c.args.toList.map (aev st.env))with
    |.yf j,some (_,Qw)=>Ar4 o.dst (.p (.bb b)) st.env (ins j (.yld rest b) Qw) λst=>.ops all ops K st
    |_,_=>.ops all (o::ops) K st
   |_=>.ops all (o::ops) K st
  |_=>.ops all (o::ops) K st
 |g=>g
def Xx:∀l:List PV,Bc8 l l
 |[]=>trivial
 |x::l=>⟨.inl rfl,Xx l⟩
def Bh2 (hS:G0 S P)(hc:pr){ys:List PV}{rest:List (List PV)}(ht:G S P F (Br1 true rest (stp P g)))(d:G S P F (Br1 false [] (stp P g)))(hp:pr=C6 (cnd P g))(a:yldE (stp P g)=some (ys,ys::rest)):G S P F g:=by
 refine Fv hS hc ?_ hp;generalize stp P g=g' at a ht d;unfold yldE at a;split at a
 .split at a
  .rename_i l i;split at a
   .rename_i c;split at a
    .rename_i hy j;split at a
     .rename_i m;split at a
      .rename_i f;simp only[By4,Bz3,BD6]at a;obtain⟨rfl,rfl,rfl⟩:=a;simp only[Br1,i,c,hy,j,FQ]at ht d;refine Bf8 hS l i c hy j m f.1 (Xx _) λb=>?_;cases b
       .exact d
       exact ht
      cases a
     cases a
    cases a
   cases a
  cases a
 cases a
def CL (hS:G0 S P)(hc:pr){ys:List PV}{rest:List (List PV)}(ht:KG S P F (Br1 true rest (stp P g)))(a:KG S P F (Br1 false [] (stp P g)))(hp:pr=C6 (cnd P g):=by kernel_rfl)(b:yldE (stp P g)=some (ys,ys::rest):=by kernel_rfl):KG S P F g:=
 ⟨Bh2 hS hc ht.out a.out hp b⟩
def JQ {T:Type}(x:T)(o:Option (List T)):Option (List T):=o.map (x :: ·)
def Ng {T:Type}{x:T}{o:Option (List T)}{L:List T}(h:JQ x o=some L):∃L',L=x::L' /\ o=some L':=by simp only[JQ,BB6]at h;obtain⟨l,h1,a⟩:=h;exact⟨l,a.symm,h1⟩
def CM (hS:G0 S P)(hc:pr){R A:Type}{body:(A->Option R)->A->Option R}{N:Nat}{a0:A}{r0:R}(h:R6 N body a0=some r0)(s:A->R->St){ids:List (Nat×Nat)}
 (f:∀(X:Type) (s' : X->St) (J:X->Prop) (m:X->Nat) (n:Nat) (b:A->Option R) (a:A) (r:R),
  (∀(g' : Cfg) (ids:List (Nat×Nat)) (pr:Prop) (a:A) (r:R),pr->b a=some r->(hp:pr=C6 (cnd P g'):=by kernel_rfl)->(d:stp P g' = .pop .normal (.lp X s' J m n::(stp P g).k) (stp P g').st:=by kernel_rfl)->(hle:KLe ids (stp P g').st (s a r):=by exact kl)->KG S P F g') ->
  body b a=some r->KG S P F (.code (PO (stp P g)) (.lp X s' J m n::(stp P g).k) (s a r))) (hp:pr=C6 (cnd P g):=by kernel_rfl) (hl:HN (stp P g)=true:=by kernel_rfl) (hle:KLe ids (stp P g).st (s a0 r0):=by exact kl):KG S P F g:=by
 refine⟨Fv hS hc ?_ hp⟩;rw[UU hl];refine Ai0 hS (X:=Nat×A×R) (λx=>s x.2.1 x.2.2) (λx=>R6 x.1 body x.2.1=some x.2.2) (λx=>x.1) (N,a0,r0) ids hle.out h ?_;rintro⟨n,a,r⟩ hx;cases n with
 |zero=>cases hx
 |succ n=>exact (f _ _ _ _ _ (R6 n body) a r (λg' ids pr a r hc c hp d hle=>⟨Fv hS hc (by rw[d];exact Zs hS (n,a,r) ids hle.out c (BO7 n)) hp⟩) hx).out
def UZ (hS:G0 S P)(hc:pr){R A B:Type}{body:(A->B->Option R)->A->B->Option R}{N:Nat}{a0:A}{b0:B}{r0:R}(h:Co N body a0 b0=some r0)(s:A->B->R->St){ids:List (Nat×Nat)}
 (d:∀(X:Type) (s' : X->St) (J:X->Prop) (m:X->Nat) (n:Nat) (c:A->B->Option R) (a:A) (b:B) (r:R),
  (∀(g' : Cfg) (ids:List (Nat×Nat)) (pr:Prop) (a:A) (b:B) (r:R),pr->c a b=some r->(hp:pr=C6 (cnd P g'):=by kernel_rfl)->(o:stp P g' = .pop .normal (.lp X s' J m n::(stp P g).k) (stp P g').st:=by kernel_rfl)->(hle:KLe ids (stp P g').st (s a b r):=by exact kl)->KG S P F g') ->
  body c a b=some r->KG S P F (.code (PO (stp P g)) (.lp X s' J m n::(stp P g).k) (s a b r))) (hp:pr=C6 (cnd P g):=by kernel_rfl) (hl:HN (stp P g)=true:=by kernel_rfl) (hle:KLe ids (stp P g).st (s a0 b0 r0):=by exact kl):KG S P F g:=
 CM hS hc h (λx r=>s x.1 x.2 r) (λX s' J m n c a r hb=>d X s' J m n (λa b=>c (a,b)) a.1 a.2 r λg' ids pr a b r h1 f i j l=>hb g' ids pr (a,b) r h1 f i j l) hp hl hle
def Ek (hS:G0 S P){f:FuncId}{fn:Func}{first caps:List AV}{objs:List Obj}{L:List (List PV)}(i:P.funcs[f]? = some fn)
 (h:KG S P (Cm S P (objs++[Obj.yld L true]).length fn.results.toList λr objs' ks=>∃b,objs'[objs.length]? = some (.yld [] b)/\ks[objs.length]? = some true/\∃a,r=.ret a) (.code (fn.body.getD .skip) [] { env:=Ss (first ++ .yf objs.length::caps),Qw:=Sa (objs++[Obj.yld L true]) }))
 (hc:fn.body.isSome=true:=by kernel_rfl) (hn:Nat.ble (first ++ .yf objs.length::caps).length fn.ntmps=true:=by kernel_rfl) (j:Nat.blt (objs++[Obj.yld L true]).length 1000=true:=by kernel_rfl)
 (d:Bm fn.ntmps (fn.body.getD .skip)=true:=by kernel_rfl) (g:(fn.name == "runtime.NumGoroutine")=false:=by kernel_rfl):EP S f first caps objs L:=by
 obtain⟨code,c⟩:=BA1.1 hc;rw[c,Bz4]at d h;exact Nd hS i c (BF2 hn) (by simpa[BJ0]using j) rfl d g h.out
def Xy (P:Program)(ids:List Nat):Cfg->Option (FuncId×List AV×List AV×List Obj)
 |.code (.rangeFunc op _ _ _) _ st=>match FN st.env op with
  |some (f,first,caps)=>match P.funcs[f]?,M0 ids st.Qw ids,DP ids first,DP ids caps with
   |some fn,some objs,some as,some bs=>if (fn.body.isSome && !(fn.name == "runtime.NumGoroutine")&&Fu objs&&H5 ids&&(objs.length==ids.length)&&Nat.blt ids.length 1000) then some (f,as,bs,objs)else none
   |_,_,_,_=>none
  |none=>none
 |_=>none
def Ke:Cfg->Array Tmp
 |.code (.rangeFunc _ ps _ _) _ _=>ps
 |_=>#[]
def Xz:Cfg->Code
 |.code (.rangeFunc _ _ a _) _ _=>a
 |_=>.skip
def XA:Cfg->Code
 |.code (.rangeFunc _ _ _ b) _ _=>b
 |_=>.skip
def XB (ids ts:List Nat)(g:Cfg):St:=⟨X7 ts (ts.map (get g.st.env)),J9 ids (ids.map λ_=>false) g.st.Qw⟩
def rst (gh:Nat)(t:St):St:=⟨[],ins gh (.ghost (t.env.map (·.2))) t.Qw⟩
def XC (gh:Nat)(ps:Array Tmp)(ys:List PV)(t:St):St:=⟨Oz ps.toList ys t.env,ins gh (.ghost (t.env.map (·.2))) t.Qw⟩
def exitE:Cfg->JN
 |.pop e _ _=>e
 |_=>.normal
def AZ8:Cfg->Bool
 |.pop .ret [] _=>true
 |.pop (.exit _) [] _=>true
 |_=>false
def AE1 (Qw:C5)(d:Nat)(x:Obj):A1 (ins d x Qw) d=some x:=by
 induction Qw with
 |nil=>simp[ins,A1]
 |cons p r ih=>
  obtain⟨i,b⟩:=p;simp only[ins];split
  .simp[A1]
  split
  .simp[A1]
  rename_i h1 a;simp only[A1,a,Ld,ih]
def IA (gh:Nat)(t:St):A1 (rst gh t).Qw gh=some (.ghost (t.env.map λp=>p.2)):=by unfold rst;exact AE1 _ _ _
def PZ (ids:List Nat):Cfg->Option (FuncId×List AV×List AV×List Obj)
 |.code (.rangeFunc op _ _ _) _ st=>match FN st.env op with
  |some (f,first,caps)=>match M0 ids st.Qw ids,DP ids first,DP ids caps with
   |some objs,some as,some bs=>if (Fu objs&&H5 ids&&(objs.length==ids.length)&&Nat.blt ids.length 1000) then some (f,as,bs,objs)else none
   |_,_,_=>none
  |none=>none
 |_=>none
def JE {ids:List Nat}{g:Cfg}{q:FuncId×List AV×List AV×List Obj}(h:Xy P ids g=some q):PZ ids g=some q/\∃fn,P.funcs[q.1]? = some fn/\fn.body.isSome=true/\(fn.name == "runtime.NumGoroutine")=false:=by
 unfold Xy at h;split at h
 .split at h
  .rename_i a;split at h
   .rename_i fn objs' as' bs' h1 c d f;split at h
    .rename_i b;cases h;simp only[By5,BA7,beq_iff_eq]at b;obtain⟨⟨⟨⟨⟨e1,e2⟩,e3⟩,e4⟩,e5⟩,e6⟩:=b;refine⟨?_,fn,h1,e1,by simpa using e2⟩;simp only[PZ,a,c,d,f,e3,e4,e5,e6,beq_self_eq_true,BL7,Lc]
    cases h
   cases h
  cases h
 cases h
def Pc (hS:G0 S P)(hc:pr){f:FuncId}{as bs:List AV}{objs:List Obj}{R T A:Type}{enc:T->List PV}{L:List T}{mb:(A->Option R)->T->A->Option R}{mk:A->Option R}{a0:A}{r:R}(o:∃fn,P.funcs[f]? = some fn/\fn.body.isSome=true/\(fn.name == "runtime.NumGoroutine")=false)
 (ids ts:List Nat) (gh:Nat) (s:A->St) {idl:List (Nat×Nat)}(h:Cp L mb mk a0=some r) (x:EP S f as bs objs (L.map enc))
 (i:∀t:T,AH (enc t)=some (Ke (stp P g)).size) (hk:∀a,(s a).env.map (·.1)=ts) (hn:∀a,A1 (s a).Qw gh=none) (m:∀a,(⟨X7 ts ((s a).env.map (·.2)),del gh (ins gh (.ghost ((s a).env.map (·.2))) (s a).Qw)⟩:St)=s a)
 (c:∀(t:T) (next:St->Prop) (d:A->Option R) (a:A),
  (∀(g' : Cfg) (ids:List (Nat×Nat)) (pr:Prop) (a:A),pr->d a=some r->(hp:pr=C6 (cnd P g'):=by kernel_rfl)->(b:stp P g' = .pop .normal [] (stp P g').st:=by kernel_rfl)->(hle:KLe ids (stp P g').st (rst gh (s a)):=by exact kl)->KG S P (GS S gh ts next (kp S P (stp P g).k F)) g') ->
  mb d t a=some r->KG S P (Cn S P (XA (stp P g)) gh ts next (kp S P (stp P g).k F)) (.code (Xz (stp P g)) [] (XC gh (Ke (stp P g)) (enc t) (s a))))
 (j:∀a,mk a=some r->KG S P F (.pop .normal (stp P g).k (s a)))
 (hp:pr=C6 (cnd P g):=by kernel_rfl) (b:PZ ids (stp P g)=some (f,as,bs,objs):=by kernel_rfl) (q:Nat.blt gh 1000=true:=by kernel_rfl) (n:A1 (stp P g).st.Qw gh=none:=by kernel_rfl) (u:H5 ts=true:=by kernel_rfl)
 (hle:KLe idl (XB ids ts (stp P g)) (s a0):=by exact kl):KG S P F g:=by
 refine⟨Fv hS hc ?_ hp⟩;generalize stp P g=g1 at i c j b n hle;unfold PZ at b;split at b
 .rename_i op ps asg body K st;split at b
  .rename_i f' first caps v
   split at b
   .rename_i objs' as' bs' y z h4;split at b
    .rename_i w;simp only[By4,Bz3]at b;obtain⟨rfl,rfl,rfl,rfl⟩:=b;simp only[By5,BA7,beq_iff_eq]at w;obtain⟨⟨⟨e3,e4⟩,e5⟩,e6⟩:=w;refine Bg1 hS ids ts gh s idl h x v o y e3 e4 z h4 e5 q n e6 u i hle.out hk hn (λt next d a hb hm=>?_) (λa hm=>(j a hm).out);refine (c t next d a (λg' ids' pr a hc l hp b hle=>⟨Fv hS hc ?_ hp⟩) hm).out;rw[b];have hl:((s a).env.map (·.2)).length=ts.length:=by rw[<- hk a];simp
     refine hb _ (rst gh (s a)) ((s a).env.map λp=>p.2) ids' a hle.out (IA gh (s a)) hl ?_ (m a) l
     have:=congrArg St.Qw (m a)
     simp only at this;show A1 (del gh (ins gh _ _)) gh=none;rw[this];exact hn a
    cases b
   cases b
  cases b
 cases b
def IB (hS:G0 S P)(hc:pr){f:FuncId}{as bs:List AV}{objs:List Obj}{R T A:Type}{enc:T->List PV}{L:List T}{mb:(A->Option R)->T->A->Option R}{mk:A->Option R}{a0:A}{r:R}
 (ids ts:List Nat) (gh:Nat) (s:A->St) {idl:List (Nat×Nat)}(h:Cp L mb mk a0=some r) (q:EP S f as bs objs (L.map enc))
 (d:∀t:T,AH (enc t)=some (Ke (stp P g)).size) (hk:∀a,(s a).env.map (·.1)=ts) (hn:∀a,A1 (s a).Qw gh=none) (j:∀a,(⟨X7 ts ((s a).env.map (·.2)),del gh (ins gh (.ghost ((s a).env.map (·.2))) (s a).Qw)⟩:St)=s a)
 (b:∀(t:T) (next:St->Prop) (c:A->Option R) (a:A),
  (∀(g' : Cfg) (ids:List (Nat×Nat)) (pr:Prop) (a:A),pr->c a=some r->(hp:pr=C6 (cnd P g'):=by kernel_rfl)->(l:stp P g' = .pop .normal [] (stp P g').st:=by kernel_rfl)->(hle:KLe ids (stp P g').st (rst gh (s a)):=by exact kl)->KG S P (GS S gh ts next (kp S P (stp P g).k F)) g') ->
  mb c t a=some r->KG S P (Cn S P (XA (stp P g)) gh ts next (kp S P (stp P g).k F)) (.code (Xz (stp P g)) [] (XC gh (Ke (stp P g)) (enc t) (s a))))
 (i:∀a,mk a=some r->KG S P F (.pop .normal (stp P g).k (s a)))
 (hp:pr=C6 (cnd P g):=by kernel_rfl) (l:Xy P ids (stp P g)=some (f,as,bs,objs):=by kernel_rfl) (m:Nat.blt gh 1000=true:=by kernel_rfl) (n:A1 (stp P g).st.Qw gh=none:=by kernel_rfl) (o:H5 ts=true:=by kernel_rfl)
 (hle:KLe idl (XB ids ts (stp P g)) (s a0):=by exact kl):KG S P F g:=
 Pc hS hc (JE l).2 ids ts gh s h q d hk hn j b i hp (JE l).1 m n o hle
def AE2 (hS:G0 S P)(hc:pr){f:FuncId}{as bs:List AV}{objs:List Obj}{R T A:Type}{enc:T->List PV}{L:List T}{mb:(A->Option R)->T->A->Option R}{mk:A->Option R}{a0:A}{r0:R}(o:∃fn,P.funcs[f]? = some fn/\fn.body.isSome=true/\(fn.name == "runtime.NumGoroutine")=false)
 (ids ts:List Nat) (gh:Nat) (s:A->R->St) {idl:List (Nat×Nat)}(h:Cp L mb mk a0=some r0) (x:EP S f as bs objs (L.map enc))
 (i:∀t:T,AH (enc t)=some (Ke (stp P g)).size) (hk:∀a r,(s a r).env.map (·.1)=ts) (hn:∀a r,A1 (s a r).Qw gh=none) (m:∀a r,(⟨X7 ts ((s a r).env.map (·.2)),del gh (ins gh (.ghost ((s a r).env.map (·.2))) (s a r).Qw)⟩:St)=s a r)
 (c:∀(t:T) (next:St->Prop) (d:A->Option R) (a:A) (r:R),
  (∀(g' : Cfg) (ids:List (Nat×Nat)) (pr:Prop) (a:A) (r:R),pr->d a=some r->(hp:pr=C6 (cnd P g'):=by kernel_rfl)->(b:stp P g' = .pop .normal [] (stp P g').st:=by kernel_rfl)->(hle:KLe ids (stp P g').st (rst gh (s a r)):=by exact kl)->KG S P (GS S gh ts next (kp S P (stp P g).k F)) g') ->
  mb d t a=some r->KG S P (Cn S P (XA (stp P g)) gh ts next (kp S P (stp P g).k F)) (.code (Xz (stp P g)) [] (XC gh (Ke (stp P g)) (enc t) (s a r))))
 (j:∀a r,mk a=some r->KG S P F (.pop .normal (stp P g).k (s a r)))
 (hp:pr=C6 (cnd P g):=by kernel_rfl) (b:PZ ids (stp P g)=some (f,as,bs,objs):=by kernel_rfl) (q:Nat.blt gh 1000=true:=by kernel_rfl) (n:A1 (stp P g).st.Qw gh=none:=by kernel_rfl) (u:H5 ts=true:=by kernel_rfl)
 (hle:KLe idl (XB ids ts (stp P g)) (s a0 r0):=by exact kl):KG S P F g:=by
 refine⟨Fv hS hc ?_ hp⟩;generalize stp P g=g1 at i c j b n hle;unfold PZ at b;split at b
 .rename_i op ps asg body K st;split at b
  .rename_i f' first caps v
   split at b
   .rename_i objs' as' bs' y z h4;split at b
    .rename_i w;simp only[By4,Bz3]at b;obtain⟨rfl,rfl,rfl,rfl⟩:=b;simp only[By5,BA7,beq_iff_eq]at w;obtain⟨⟨⟨e3,e4⟩,e5⟩,e6⟩:=w;refine AR2 hS ids ts gh s idl h x v o y e3 e4 z h4 e5 q n e6 u i hle.out hk hn (λt next d a r hb hm=>?_) (λa r hm=>(j a r hm).out);refine (c t next d a r (λg' ids' pr a r hc l hp b hle=>⟨Fv hS hc ?_ hp⟩) hm).out;rw[b];have hl:((s a r).env.map (·.2)).length=ts.length:=by rw[<- hk a r];simp
     refine hb _ (rst gh (s a r)) ((s a r).env.map λp=>p.2) ids' a r hle.out (IA gh (s a r)) hl ?_ (m a r) l
     have:=congrArg St.Qw (m a r)
     simp only at this;show A1 (del gh (ins gh _ _)) gh=none;rw[this];exact hn a r
    cases b
   cases b
  cases b
 cases b
def AT1 (hS:G0 S P)(hc:pr){f:FuncId}{as bs:List AV}{objs:List Obj}{R T A:Type}{enc:T->List PV}{L:List T}{mb:(A->Option R)->T->A->Option R}{mk:A->Option R}{a0:A}{r0:R}
 (ids ts:List Nat) (gh:Nat) (s:A->R->St) {idl:List (Nat×Nat)}(h:Cp L mb mk a0=some r0) (q:EP S f as bs objs (L.map enc))
 (d:∀t:T,AH (enc t)=some (Ke (stp P g)).size) (hk:∀a r,(s a r).env.map (·.1)=ts) (hn:∀a r,A1 (s a r).Qw gh=none) (j:∀a r,(⟨X7 ts ((s a r).env.map (·.2)),del gh (ins gh (.ghost ((s a r).env.map (·.2))) (s a r).Qw)⟩:St)=s a r)
 (b:∀(t:T) (next:St->Prop) (c:A->Option R) (a:A) (r:R),
  (∀(g' : Cfg) (ids:List (Nat×Nat)) (pr:Prop) (a:A) (r:R),pr->c a=some r->(hp:pr=C6 (cnd P g'):=by kernel_rfl)->(l:stp P g' = .pop .normal [] (stp P g').st:=by kernel_rfl)->(hle:KLe ids (stp P g').st (rst gh (s a r)):=by exact kl)->KG S P (GS S gh ts next (kp S P (stp P g).k F)) g') ->
  mb c t a=some r->KG S P (Cn S P (XA (stp P g)) gh ts next (kp S P (stp P g).k F)) (.code (Xz (stp P g)) [] (XC gh (Ke (stp P g)) (enc t) (s a r))))
 (i:∀a r,mk a=some r->KG S P F (.pop .normal (stp P g).k (s a r)))
 (hp:pr=C6 (cnd P g):=by kernel_rfl) (l:Xy P ids (stp P g)=some (f,as,bs,objs):=by kernel_rfl) (m:Nat.blt gh 1000=true:=by kernel_rfl) (n:A1 (stp P g).st.Qw gh=none:=by kernel_rfl) (o:H5 ts=true:=by kernel_rfl)
 (hle:KLe idl (XB ids ts (stp P g)) (s a0 r0):=by exact kl):KG S P F g:=
 AE2 hS hc (JE l).2 ids ts gh s h q d hk hn j b i hp (JE l).1 m n o hle
def Bx6 (t:Nat)(a:AV):Cfg->Cfg
 |.ops all rest K st=>mkO (ins t a st.env) st.Qw λenv Qw=>.ops all rest K ⟨env,Qw⟩
 |g=>g
def XD (hS:G0 S P)(hc:pr)(t:Nat){k n:Nat}{f:Nat->List PV}(b:n=0->KG S P F (Bx6 t (.p (.v (.slice none 0 0))) (stp P g)))(h1:KG S P F (Bx6 t (.p (.sl true k n f)) (stp P g)))
 (hp:pr=C6 (cnd P g):=by kernel_rfl) (a:KZ (stp P g)=true:=by kernel_rfl) (c:get (stp P g).st.env t=.p (.sl false k n f):=by kernel_rfl):KG S P F g:=by
 refine⟨Fv hS hc ?_ hp⟩;generalize stp P g=g1 at b h1 a c;unfold KZ at a;split at a
 .refine Bn9 hS t c (λh=>?_) ?_
  .have:=(b h).out
   simpa only[Bx6,Gv]using this
  have:=h1.out
  simpa only[Bx6,Gv]using this
 cases a
def frzC (j:Nat)(ps:List PV):Cfg->Cfg
 |.code c K st=>mkO (AM5 j ps st.env) (ins j .dead st.Qw) λenv Qw=>.code c K ⟨env,Qw⟩
 |g=>g
def XE (hS:G0 S P)(hc:pr)(j:Nat)(ps:List PV)(hk:KG S P F (frzC j ps (stp P g)))(hp:pr=C6 (cnd P g):=by kernel_rfl)(c:CK (stp P g)=true:=by kernel_rfl)(b:P.follows .mixedOrders=true:=by kernel_rfl)
 (a:Ip (Iz (stp P g)).all=true:=by kernel_rfl) (f:A1 (stp P g).st.Qw j=some (.cells (ps.map .p)):=by kernel_rfl):KG S P F g:=by
 refine⟨Fv hS hc ?_ hp⟩;generalize stp P g=g1 at hk c a f;unfold CK at c;split at c
 .rename_i id ops K st;have hk:=hk.out;simp only[frzC,Gv]at hk;show awp S P (.region id ops true) (kp S P K F) st;simp only[awp,Lc];have d : Zp S P ops.toList (kp S P K F) ⟨AM5 j ps st.env,ins j .dead st.Qw⟩:=by
   have:awp S P (.region id ops true) (kp S P K F) ⟨AM5 j ps st.env,ins j .dead st.Qw⟩:=hk
   simpa only[awp,Lc]using this
  exact Ak5 hS b a (hS.frz st j ps _ f d)
 cases c
def clsN (js:List Nat):Nat->List Oper->List Cls
 |_,[]=>[]
 |i,o::r=>(if js.contains i then .n else if js.contains (i+1000)then .w else Bx2 o.op)::clsN js (i+1) r
def Va (js:List Nat):Cfg->SC
 |.code (.region _ ops true) _ st=>⟨ops.toList,clsN js 0 ops.toList,ops.toList,st.env,st.Qw,[]⟩
 |_=>⟨[],[],[],[],[],[]⟩
def C4 (hS:G0 S P)(hc:pr)(js:List Nat)(h:DG S P (Va js (stp P g)) λenv Qw=>KG S P F (.pop .normal (stp P g).k ⟨env,Qw⟩))(hp:pr=C6 (cnd P g):=by kernel_rfl)(c:CK (stp P g)=true:=by kernel_rfl)(a:P.follows .mixedOrders=true:=by kernel_rfl)
 (b:NM (Va js (stp P g)).all (Va js (stp P g)).cls=true:=by kernel_rfl):KG S P F g:=by
 have e:(λenv Qw=>KG S P F (.pop .normal (stp P g).k ⟨env,Qw⟩))=λenv Qw=>G S P F (.pop .normal (stp P g).k ⟨env,Qw⟩):=by funext env Qw;exact propext ⟨λh=>h.out,λh=>⟨h⟩⟩
 rw[e]at h;refine⟨Fv hS hc ?_ hp⟩;have h:=h.out;generalize stp P g=g' at c b h;unfold CK at c;split at c
 .exact Aj9 hS _ a b h
 cases c
def Bx7 (ls:List (Nat×Cls)):Nat->List Oper->List Cls
 |_,[]=>[]
 |i,o::r=>(match ls.find? (λq=>q.1==i)with|some q=>q.2|none=>Bx2 o.op)::Bx7 ls (i+1) r
def Vb (ls:List (Nat×Cls)):Cfg->SC
 |.code (.region _ ops true) _ st=>⟨ops.toList,Bx7 ls 0 ops.toList,ops.toList,st.env,st.Qw,[]⟩
 |_=>⟨[],[],[],[],[],[]⟩
def G8 (hS:G0 S P)(hc:pr)(ls:List (Nat×Cls))(h:DG S P (Vb ls (stp P g)) λenv Qw=>KG S P F (.pop .normal (stp P g).k ⟨env,Qw⟩))(hp:pr=C6 (cnd P g):=by kernel_rfl)(c:CK (stp P g)=true:=by kernel_rfl)(a:P.follows .mixedOrders=true:=by kernel_rfl)
 (b:NM (Vb ls (stp P g)).all (Vb ls (stp P g)).cls=true:=by kernel_rfl):KG S P F g:=by
 have e:(λenv Qw=>KG S P F (.pop .normal (stp P g).k ⟨env,Qw⟩))=λenv Qw=>G S P F (.pop .normal (stp P g).k ⟨env,Qw⟩):=by funext env Qw;exact propext ⟨λh=>h.out,λh=>⟨h⟩⟩
 rw[e]at h;refine⟨Fv hS hc ?_ hp⟩;have h:=h.out;generalize stp P g=g' at c b h;unfold CK at c;split at c
 .exact Aj9 hS _ a b h
 cases c
def Ma (hS:G0 S P)(hc:pr){body:Code}{gh:Nat}{ts:List Nat}{next:St->Prop}{Q:J3}(h:KG S P (GS S gh ts next Q) (.code body [] (stp P g).st))(hp:pr=C6 (cnd P g):=by kernel_rfl)(a:stp P g=.pop .normal [] (stp P g).st:=by kernel_rfl):KG S P (Cn S P body gh ts next Q) g:=by refine⟨Fv hS hc ?_ hp⟩;rw[a];exact G_asg hS h.out
def Vc (hS:G0 S P)(hc:pr){K:List It}{gh:Nat}{ts:List Nat}{next:St->Prop}(t:St){ids:List (Nat×Nat)}(hk:KG S P F (.pop (exitE (stp P g)) K t))(hp:pr=C6 (cnd P g):=by kernel_rfl)(a:AZ8 (stp P g)=true:=by kernel_rfl)
 (hle:KLe ids (stp P g).st (rst gh t):=by exact kl) (h1:t.env.map (·.1)=ts:=by kernel_rfl) (d:A1 t.Qw gh=none:=by kernel_rfl) (b:(⟨X7 ts (t.env.map (·.2)),del gh (ins gh (.ghost (t.env.map (·.2))) t.Qw)⟩:St)=t:=by kernel_rfl):KG S P (GS S gh ts next (kp S P K F)) g:=by
 refine⟨Fv hS hc ?_ hp⟩;generalize stp P g=g1 at hk a hle;have hl:(t.env.map (·.2)).length=ts.length:=by rw[<- h1];simp
 have c:A1 (del gh (ins gh (.ghost (t.env.map (·.2))) t.Qw)) gh=none:=by
  have:=congrArg St.Qw b
  simp only at this;rw[this];exact d
 unfold AZ8 at a;split at a
 .exact Ak3 hS Lg (rst gh t) ids hle.out (IA gh t) hl c (by rw[show (⟨X7 ts (t.env.map (·.2)),del gh (rst gh t).Qw⟩:St)=t from b];exact hk.out)
 .exact Ak3 hS Lg (rst gh t) ids hle.out (IA gh t) hl c (by rw[show (⟨X7 ts (t.env.map (·.2)),del gh (rst gh t).Qw⟩:St)=t from b];exact hk.out)
 cases a
end
section
variable {S:U8}{P:Program}{F:J3}{g:Cfg}{pr:Prop}
def Br2 (j:Nat)(ps:List PV):Cfg->Cfg
 |.ops all rest K st=>mkO (AM5 j ps st.env) (ins j .dead st.Qw) λenv Qw=>.ops all rest K ⟨env,Qw⟩
 |g=>g
def AZ9 (ids:List Nat):Cfg->Option (FuncId×List AV×List Obj)
 |.ops all (o::_) _ st=>match Bn all st.env o,o.op with
  |some true,.call c=>match c.callee with
   |.value f=>match Ta st.env f (c.args.toList.map (aev st.env))with
    |some (fn,as')=>match DP ids as',M0 ids st.Qw ids with
     |some a,some ob=>if H5 ids&&Fu ob then some (fn,a,ob)else none
     |_,_=>none
    |none=>none
   |_=>none
  |_,_=>none
 |_=>none
def Ba0 (ids:List Nat)(ks:List Bool)(n:Nat):Cfg->Bool
 |.ops _ (o::_) _ st=>X1 st.Qw ids ks (o.dst.getD 0) n
 |_=>false
def Ba1 (ids:List Nat)(ks:List Bool)(r:AV)(objs' : List Obj):Cfg->Cfg
 |.ops all (o::rest) K st=>Ar4 o.dst (unA (G7 (o.dst.getD 0) ids ks objs'.length) r) st.env
  (back (G7 (o.dst.getD 0) ids ks objs'.length) (G7 (o.dst.getD 0) ids ks objs'.length) objs' (J9 ids ks st.Qw)) λst=>.ops all rest K st
 |g=>g
def Bh3 (hS:G0 S P)(ids:List Nat)(hc:pr){fn:FuncId}{args:List AV}{objs objs' : List Obj}{r:AV}{ks:List Bool}(f:Sb S fn args objs r objs' ks)(hk:KG S P F (Ba1 ids ks r objs' (stp P g)))
 (hp:pr=C6 (cnd P g):=by kernel_rfl) (a:AZ9 ids (stp P g)=some (fn,args,objs):=by kernel_rfl) (hn:Ba0 ids ks objs'.length (stp P g)=true:=by kernel_rfl):KG S P F g:=by
 refine⟨Fv hS hc ?_ hp⟩;have hk:=hk.out;generalize stp P g=g' at a hn hk;unfold AZ9 at a;split at a
 .split at a
  .rename_i i j;split at a
   .rename_i c;split at a
    .rename_i hw;split at a
     .rename_i l d;split at a
      .rename_i b;cases a;simp only[By5]at b;simp only[Ba1,Ba0,FQ]at hk hn;exact Bd5 hS ids i j c hw l d f b.1 b.2 hn hk
      cases a
     cases a
    cases a
   cases a
  cases a
 cases a
def unrT:List (St->Prop)->Nat->St->Prop
 |[],_,_=>False
 |a::_,0,t=>a t
 |_::l,i+1,t=>unrT l i t
def AT2 (hS:G0 S P)(hc:pr)(n:Nat)(T:Nat->St->Prop)(s0:St){ids:List (Nat×Nat)}(j:T 0 s0)
 (l:∀(X:Type) (s' : X->St) (J:X->Prop) (m:X->Nat) (i k:Nat) (t:St),i<=n->T i t ->
  (∀(g' : Cfg) (ids:List (Nat×Nat)) (pr:Prop) (t' : St),pr->Nat.ble (i+1) n=true->T (i+1) t' -> (hp:pr=C6 (cnd P g'):=by kernel_rfl)->(q:stp P g' = .pop .normal (.lp X s' J m k::(stp P g).k) (stp P g').st:=by kernel_rfl)->(hle:KLe ids (stp P g').st t':=by exact kl)->KG S P F g') ->
  KG S P F (.code (PO (stp P g)) (.lp X s' J m k::(stp P g).k) t)) (hp:pr=C6 (cnd P g):=by kernel_rfl) (hl:HN (stp P g)=true:=by kernel_rfl) (hle:KLe ids (stp P g).st s0:=by exact kl):KG S P F g:=by
 refine⟨Fv hS hc ?_ hp⟩;rw[UU hl];refine Ai0 hS (X:=Nat×St) (λx=>x.2) (λx=>x.1<=n/\T x.1 x.2) (λx=>n-x.1) (0,s0) ids hle.out ⟨BG6 _,j⟩ ?_;rintro⟨i,t⟩ ⟨o,ht⟩;refine (l (Nat×St) (λx=>x.2) (λx=>x.1<=n/\T x.1 x.2) (λx=>n-x.1) i (n-i) t o ht λg' ids' pr' t' b hn c d f a=>⟨Fv hS b ?_ d⟩).out;rw[f];have hn:i+1<=n:=BF2 hn;exact hS.le ids' _ _ _ a.out ⟨(i+1,t'),rfl,⟨hn,c⟩,by show n-(i+1)<n-i;omega⟩
end
section
variable {S:U8}{P:Program}{F:J3}{g:Cfg}{pr:Prop}
def N9 (hS:G0 S P)(hc:pr)(d:Nat)(st:St){ids:List (Nat×Nat)}(hk:KG S P F (opsS st (HM P d g)))(hp:pr=C6 (Bg2 P d g):=by kernel_rfl)(a:KZ (HM P d g)=true:=by kernel_rfl)(hle:KLe ids (HM P d g).st st:=by exact kl):KG S P F g:=by
 refine⟨(GT (u:=some d) (F:=F) hS 400 [] g (by subst hp;exact hc)).2 ?_⟩;have hk:=hk.out;have hle:=hle.out;show G S P F (HM P d g);generalize HM P d g=g' at a hle hk;unfold KZ at a;split at a
 .exact AD5 hS st ids hle hk
 cases a
end
section
variable {S:U8}{P:Program}{F:J3}{g:Cfg}{pr:Prop}
def Br3 (S:U8)(P:Program)(pv:PV)(m:String)(as:List AV)(r:AV):Prop:=∃t y fn,pv=.iface t y/\WG P t m=some fn/\WM S fn (.p (nP y)::as) r
def invE:Cfg->Option (PV×String×List AV)
 |.ops all (o::_) _ st=>match Bn all st.env o,o.op with
  |some true,.call c=>match c.callee with
   |.invoke rv m=>match Im st.Qw (c.args.toList.map (aev st.env)),aev st.env rv with
    |some (as,_),.p pv=>match DP [] as with
     |some as'=>some (pv,m,as')
     |none=>none
    |_,_=>none
   |_=>none
  |_,_=>none
 |_=>none
def invK (r:AV):Cfg->Cfg
 |.ops all (o::rest) K st=>match o.op with
  |.call c=>match Im st.Qw (c.args.toList.map (aev st.env))with
   |some (_,Qw)=>Ar4 o.dst (unA [] r) st.env Qw λst=>.ops all rest K st
   |none=>.ops all (o::rest) K st
  |_=>.ops all (o::rest) K st
 |g=>g
def Pd (hS:G0 S P)(hc:pr){pv:PV}{m:String}{as:List AV}{r:AV}(b:Br3 S P pv m as r)(hk:KG S P F (invK r (stp P g)))
 (hp:pr=C6 (cnd P g):=by kernel_rfl) (a:invE (stp P g)=some (pv,m,as):=by kernel_rfl):KG S P F g:=by
 obtain⟨t,y,fn,rfl,hm,b⟩:=b;refine⟨Fv hS hc ?_ hp⟩;have hk:=hk.out;generalize stp P g=g' at a hk;unfold invE at a;split at a
 .split at a
  .rename_i i f;split at a
   .rename_i c;split at a
    .rename_i ha d;split at a
     .rename_i j;cases a;simp only[invK,f,ha,FQ]at hk;refine AQ8 hS i f c ha d hm (args:=.p (nP y)::_) ?_ b hk;simp only[DP,Ur,j]
     cases a
    cases a
   cases a
  cases a
 cases a
def F0 (hS:G0 S P)(hc:pr)(d j:Nat)(ps:List PV)(hk:KG S P F (Br2 j ps (HM P d g)))(hp:pr=C6 (Bg2 P d g):=by kernel_rfl)(a:KZ (HM P d g)=true:=by kernel_rfl)
 (b:A1 (HM P d g).st.Qw j=some (.cells (ps.map .p)):=by kernel_rfl):KG S P F g:=by
 refine⟨(GT (u:=some d) (F:=F) hS 400 [] g (by subst hp;exact hc)).2 ?_⟩;have hk:=hk.out;show G S P F (HM P d g);generalize HM P d g=g' at a b hk;unfold KZ at a;split at a
 .simp only[Br2,Gv]at hk;exact Zr hS (hS.frz _ j ps _ b hk)
 cases a
def AT3 (j j' : Nat):AV->AV
 |.vecp i m=>if i=j then .vec j' else .vecp i m
 |a=>a
def AT4 (j j' : Nat):List AV->List AV
 |[]=>[]
 |a::r=>AT3 j j' a::AT4 j j' r
def AT5 (j j' : Nat):Env->Env
 |[]=>[]
 |(t,a)::r=>(t,AT3 j j' a)::AT5 j j' r
def Ar7 (j j' : Nat):C5->C5
 |[]=>[]
 |(t,.cells cs)::r=>(t,.cells (AT4 j j' cs))::Ar7 j j' r
 |(t,o)::r=>(t,o)::Ar7 j j' r
def msA (j:Nat)(r:List Nat):AV->List Nat
 |.vecp i m=>if i=j then m::r else r
 |_=>r
def msL (j:Nat):List AV->List Nat
 |[]=>[]
 |a::r=>msA j (msL j r) a
def msE (j:Nat):Env->List Nat
 |[]=>[]
 |(_,a)::r=>msA j (msE j r) a
def msR (j:Nat):C5->List Nat
 |[]=>[]
 |(_,.cells cs)::r=>msL j cs++msR j r
 |_::r=>msR j r
def AE3 {j:Nat}{r:List Nat}{a:AV}:∀x∈r,x∈msA j r a:=by
 intro x hx;unfold msA;split
 .split
  .exact BB4 _ hx
  exact hx
 exact hx
def Al7 {j n j' : Nat}{r:List Nat}{a:AV}(h:∀m∈msA j r a,m=n):AN1 j n j' a=AT3 j j' a:=by
 cases a with
 |vecp i m=>
  simp only[AN1,AT3];by_cases e:i=j
  .have:m=n:=h m (by simp[msA,e])
   simp[e,this]
  simp[e]
 |_=>rfl
def Al8 {j n j' : Nat}:∀{l:List AV},(∀m∈msL j l,m=n)->AY5 j n j' l=AT4 j j' l
 |[],_=>rfl
 |a::r,h=>by simp only[AY5,AT4,Al7 (r:=msL j r) h,Al8 λm hm=>h m (AE3 m hm)]
def Al9 {j n j' : Nat}:∀{l:Env},(∀m∈msE j l,m=n)->AY4 j n j' l=AT5 j j' l
 |[],_=>rfl
 |(t,a)::r,h=>by simp only[AY4,AT5,Al7 (r:=msE j r) h,Al9 λm hm=>h m (AE3 m hm)]
def Vd {j n j' : Nat}:∀{l:C5},(∀m∈msR j l,m=n)->Ah9 j n j' l=Ar7 j j' l
 |[],_=>rfl
 |(t,o)::r,h=>by
  cases o with
  |cells cs=>simp only[Ah9,Ar7,Bl7,Al8 λm hm=>h m (BB9 _ hm),Vd λm hm=>h m (BA9 _ hm)]
  |_=>simp only[Ah9,Ar7,Bl7,Vd (l:=r) h]
def truC (j j' : Nat)(e:TypeId)(k n:Nat)(f:Nat->List PV):Cfg->Cfg
 |.ops all rest K st=>mkO (AT5 j j' st.env) (ins j' (.vec e k n f false) (ins j .dead (Ar7 j j' st.Qw))) λenv Qw=>.ops all rest K ⟨env,Qw⟩
 |g=>g
def Br4 (hS:G0 S P)(hc:pr)(d j n j' : Nat){e:TypeId}{k N:Nat}{f:Nat->List PV}(hn:n<=N)(hk:KG S P F (truC j j' e k n f (HM P d g)))(hp:pr=C6 (Bg2 P d g):=by kernel_rfl)(b:KZ (HM P d g)=true:=by kernel_rfl)
 (c:A1 (HM P d g).st.Qw j=some (.vec e k N f false):=by kernel_rfl) (i:A1 (HM P d g).st.Qw j' = none:=by kernel_rfl) (h1:Nat.ble 1000 j' = true:=by kernel_rfl)
 (hm:(msE j (HM P d g).st.env++msR j (HM P d g).st.Qw)=List.replicate (msE j (HM P d g).st.env++msR j (HM P d g).st.Qw).length n:=by kernel_rfl):KG S P F g:=by
 refine⟨(GT (u:=some d) (F:=F) hS 400 [] g (by subst hp;exact hc)).2 ?_⟩;have hk:=hk.out;show G S P F (HM P d g);generalize HM P d g=g' at b c i hk hm;unfold KZ at b;split at b
 .rename_i st;have a:∀m∈msE j st.env++msR j st.Qw,m=n:=λm h=>by rw[show msE j st.env++msR j st.Qw=_ from hm]at h;exact (List.mem_replicate.1 h).2
  simp only[truC,Gv]at hk;refine Zr hS (hS.trunc _ j j' n N k e f _ c hn i (BF2 h1) ?_);rw[Al9 λm h=>a m (BB9 _ h),Vd λm h=>a m (BA9 _ h)];exact hk
 cases b
end
abbrev cA {α : Type}(n:Nat)(c : α -> PV)(f:Nat -> α):List PV:=DL n (λi=>c (f i))
def G1 (n:Nat)(f:Nat->PV):(DL n f).length=n:=by simp[DL]
def Dg (n:Nat)(f:Nat->PV):∀i,i<n->[(DL n f).getD i default]=[f i]:=by intro i a;simp[DL,By3,a]
def Qa {n:Nat}{z:PV}{ps:List PV}(h:ps=List.replicate n z):∀i,i<n->[ps.getD i default]=[z]:=by intro i a;subst h;simp[By3,a]
def Ar8 {n:Nat}{f g:Nat->PV}(h:∀i,i<n->[f i]=[g i]):DL n f=DL n g:=by unfold DL;exact BB8 λi a=>by have:=h i (BC0.1 a);injection this
abbrev WA {α : Type}(f:Nat -> α)(k:Nat)(x : α):Nat -> α:=λi=>if i=k then x else f i
def Bh4 {α : Type}{c : α -> PV}{n k:Nat}{v:Nat -> α}{f:Nat->PV}{e:PV}{x : α}(h:∀i,i<n->[f i]=[c (v i)])(hx:e=c x):∀i,i<n->[if i=k then e else f i]=[c (if i=k then x else v i)]:=by
 intro i a;by_cases h1:i=k
 .rw[Gy h1,Gy h1,hx]
 rw[Hj h1,Hj h1];exact h i a
def app1H {α : Type}{c : α -> List PV}{n:Nat}{v:Sl α}{f g:Nat->List PV}{z : α}(h:∀i,i<n->f i=c (v.g i))(hn:n=v.n):∀i,i<n+1->i≠v.n->Ey n f g i=c ((v.push z).g i):=by
 subst hn;intro i b a;have hl:i<v.n:=by omega
 show (if i<v.n then f i else g (i-v.n))=c (if i<v.n then v.g i else z);rw[Gy hl,Gy hl];exact h i hl
def setH {α : Type}{c : α -> List PV}{n k:Nat}{v:Sl α}{f e:Nat->List PV}{x : α}(h:∀i,i<n->i≠k->f i=c (v.g i))(hx:k<n->e k=c x):∀i,i<n->(λl=>if l=k then e l else f l) i=c ((v.upd k x).g i):=by
 intro i a;show (if i=k then e i else f i)=c (if i=k then x else v.g i);split
 .subst_vars;exact hx a
 exact h i a ‹_›
section
variable {S:U8}{P:Program}{F:J3}{g:Cfg}{R X:Type}{A B:Option R}{r:R}{b:Bool}
def kI (hS:G0 S P)(h:(if b then A else B)=some r)(ht:A=some r->KG S P F (Bg3 (stp P g)))(a:B=some r->KG S P F (Bg4 (stp P g)))
 (hp:True=C6 (cnd P g):=by kernel_rfl) (hb:AR3 (stp P g)=some b:=by kernel_rfl):KG S P F g:=
 C7 hS Lg (λc=>ht (itT c h)) (λc=>a (itF c h)) hp hb
def kG (hS:G0 S P)(h:(if b then A else B)=some r)(ht:A=some r->KG S P F (PN true (stp P g)))(a:B=some r->KG S P F (PN false (stp P g)))
 (hp:True=C6 (cnd P g):=by kernel_rfl) (hb:Ak8 (stp P g)=some b:=by kernel_rfl):KG S P F g:=
 ER hS Lg (λc=>ht (itT c h)) (λc=>a (itF c h)) hp hb
def kR (hS:G0 S P){n:Nat}{rs:List ResultVar}{Q:ARes->List Obj->List Bool->Prop}{a:AV}{objs:List Obj}(b:Q (.ret a) objs (Fy n []):=by exact⟨rfl,rfl,rfl⟩)
 (hp:True=C6 (cnd P g):=by kernel_rfl) (c:(AR5 (stp P g)).bind (λst=>UV P st rs [])=some (a,objs):=by kernel_rfl):KG S P (Cm S P n rs Q) g:=
 Xw hS Lg [] b hp c
theorem Su (hS:G0 S P)(h:(if b then A else B)=some r)(a:B=some r->KG S P F (Bg4 (stp P g)))(ht:A=some r->KG S P F (Bg3 (stp P g)):=by intro h;cases h;exact kR (by assumption))
 (hp:True=C6 (cnd P g):=by kernel_rfl)(hb:AR3 (stp P g)=some b:=by kernel_rfl):KG S P F g:=kI hS h ht a hp hb
def kC (hS:G0 S P){x:Option X}{f:X->Option R}(h:x.bind f=some r){fn:FuncId}{args:List AV}{objs:List Obj}{objs' : X->List Obj}{rr:X->AV}{ks:List Bool}
 (a:∀{y},x=some y->Sb S fn args objs (rr y) (objs' y) ks) (hk:∀y,f y=some r->KG S P F (AR4 [] ks (rr y) (objs' y) (stp P g)))
 (hp:True=C6 (cnd P g):=by kernel_rfl) (b:Ar5 [] (stp P g)=some (fn,args,objs):=by kernel_rfl) (hn:∀y,Ar6 [] ks (objs' y).length (stp P g)=true:=by intro y;kernel_rfl):KG S P F g:=by
 obtain⟨y,e,h⟩:=A9 h;exact B0 hS [] Lg (a e) (hk y h) hp b (hn y)
end
inductive BT where
 |l (b:Bool)
 |n (b:Bool) (t f:BT)
def BT.ev:BT->Bool
 |.l b=>b
 |.n b t f=>if b then t.ev else f.ev
inductive BE where
 |a (b:Bool)
 |n (x y:BE)
 |o (x y:BE)
def BE.den:BE->Bool
 |.a b=>b
 |.n x y=>x.den&&y.den
 |.o x y=>x.den||y.den
def BE.tr:BE->BT->BT->BT
 |.a b,t,f=>.n b t f
 |.n x y,t,f=>x.tr (y.tr t f) f
 |.o x y,t,f=>x.tr t (y.tr t f)
def BE.top:BE->BT
 |.a b=>.l b
 |.n x y=>x.tr y.top (.l false)
 |.o x y=>x.tr (.l true) y.top
def BE.tr_ev:∀(e:BE) (t f:BT),(e.tr t f).ev=if e.den then t.ev else f.ev
 |.a b,t,f=>rfl
 |.n x y,t,f=>by simp only[tr,den,x.tr_ev,y.tr_ev];by_cases h:x.den=true<;>simp[h]
 |.o x y,t,f=>by simp only[tr,den,x.tr_ev,y.tr_ev];by_cases h:x.den=true<;>simp[h]
def BE.top_ev:∀e:BE,e.top.ev=e.den
 |.a b=>rfl
 |.n x y=>by simp only[top,den,x.tr_ev,y.top_ev,BT.ev];by_cases h:x.den=true<;>simp[h]
 |.o x y=>by simp only[top,den,x.tr_ev,y.top_ev,BT.ev];by_cases h:x.den=true<;>simp[h]
def keeps:Op->Bool
 |.move _ | .assign _ | .pick .. | .load .. | .nilCheck _ | .binOp .. | .unOp .. | .convert .. | .fieldAddr .. | .field .. | .indexAddr .. | .index .. | .extract ..=>true
 |.call { callee:=.builtin .len,.. } | .call { callee:=.builtin .min,.. } | .call { callee:=.builtin .max,.. }=>true
 |_=>false
def Ar9 {P:Program}{env:Env}{Qw:C5}{d:Nat}{o:Op}{out:Out}(hk:keeps o=true)(h:aop P env Qw d o=some out):out.Qw=Qw:=by unfold keeps at hk;split at hk<;>first|(cases hk;done)|(simp only[aop]at h;(repeat' split at h)<;>first|(cases h;rfl)|cases h)
def TA {o:Op}(hk:keeps o=true):AN3 o=true:=by unfold keeps at hk;split at hk<;>first|cases hk;done|rfl
def AT6:List Prop->List Prop
 |[]=>[]
 |c=>[C6 c]
def bgo (P:Program)(Qw:C5)(o:Oper)(last:Bool)(rec:List Prop->Env->Option (BT×List Prop))(c:List Prop)(env:Env)(runs:Bool):Option (BT×List Prop):=match runs with
 |true=>match keeps o.op,o.dst with
  |true,some d=>match aop P env Qw d o.op with
   |some ⟨p,v,_⟩=>match last with
    |true=>match Pl v with
     |some b=>some (.l b,AT6 (p++c))
     |none=>none
    |false=>fA v λv=>Az7 d v env λenv=>rec (p++c) env
   |none=>none
  |_,_=>none
 |false=>match last,o.dst with
  |false,some d=>Az7 d Cl env λenv=>rec c env
  |_,_=>none
def bev (P:Program)(all:List Oper)(Qw:C5):List Oper->List Prop->Env->Option (BT×List Prop)
 |[],_,_=>none
 |o::rest,c,env=>
  match o.guard with
  |none=>bgo P Qw o rest.isEmpty (λc env=>bev P all Qw rest c env) c env true
  |some (j,want)=>match get env (FO all j)with
   |.p (.v (.bool b))=>bgo P Qw o rest.isEmpty (λc env=>bev P all Qw rest c env) c env (b==want)
   |.p (.v (.tuple _))=>bgo P Qw o rest.isEmpty (λc env=>bev P all Qw rest c env) c env false
   |.p (.bb b)=>match Az7 (FO all j) (.p (.v (.bool true))) env λenv=>bgo P Qw o rest.isEmpty (λc env=>bev P all Qw rest c env) [] env want,
    Az7 (FO all j) (.p (.v (.bool false))) env λenv=>bgo P Qw o rest.isEmpty (λc env=>bev P all Qw rest c env) [] env !want with
    |some (t,ct),some (f,cf)=>some (.n b t f,AT6 c++(ct.map (λp=>b=true->p)++cf.map (λp=>b=false->p)))
    |_,_=>none
   |_=>none
def Ay2 (l:List Oper):List Nat:=l.filterMap (·.dst)
def Bh5 (ks:List Nat)(env:Env):Env:=env.filter λq=>!ks.contains q.1
def Am0 (ks:List Nat)(env:Env)(x:Nat):get (Bh5 ks env) x=if x∈ks then .top else get env x:=by
 induction env with
 |nil=>simp[Bh5,get]
 |cons q r ih=>
  obtain⟨i,a⟩:=q;simp only[Bh5,List.filter_cons];by_cases b:i∈ks
  .rw[Hj (by simpa using b)]
   have:=ih
   simp only[Bh5]at this;rw[this];by_cases hx:x∈ks
   .simp[hx]
   have:i≠x:=λe=>hx (e ▸ b)
   simp[hx,get,this]
  rw[Gy (by simpa using b)];simp only[get]
  have:=ih
  simp only[Bh5]at this;rw[this];by_cases hx:i=x
  .subst hx;simp[b]
  simp[hx]
def ZV:List Oper->Option Nat
 |[]=>none
 |[o]=>o.dst
 |_::r=>ZV r
section
variable {S:U8}{P:Program}
def TB {c:List Prop}(h:∀p∈AT6 c,p):C6 c:=by
 cases c with
 |nil=>trivial
 |cons p r=>exact h _ (by simp[AT6])
def Br5 (hS:G0 S P){all:List Oper}{Qw:C5}{Q:J3}{post:List Oper}{envF:Env}{V:Bool}{d:Nat}(hQ:∀s,S.up s (JO S P all post Q)->JO S P all post Q s)(hV:get envF d=.p (.bb V))
 (hw:JO S P all post Q ⟨envF,Qw⟩) :
 ∀(L:List Oper) (c:List Prop) (env:Env) (T:BT) (C:List Prop),bev P all Qw L c env=some (T,C)->(∀p∈C,p)->T.ev=V->ZV L=some d ->
  (∀x,x≠d->Uw (get envF x) (get env x) \/ (x∈Ay2 L/\get envF x=.top))->(∀x∈Ay2 L,x≠d->get envF x=.top)->C6 c/\JO S P all (L++post) Q ⟨env,Qw⟩:=by
 intro L
 induction L with
 |nil=>intro c env T C h;cases h
 |cons o rest ih=>
  intro c env T C h w i hd hl ht;simp only[bev,KP]at h;have key:∀(c:List Prop) (env:Env) (runs:Bool) (T:BT) (C:List Prop),bgo P Qw o rest.isEmpty (λc env=>bev P all Qw rest c env) c env runs=some (T,C)->(∀p∈C,p)->T.ev=V ->
   (∀x,x≠d->Uw (get envF x) (get env x) \/ (x∈Ay2 (o::rest)/\get envF x=.top)) ->
   C6 c/\(if runs then wOp S P o (JO S P all (rest++post) Q) Q ⟨env,Qw⟩else JO S P all (rest++post) Q (put ⟨env,Qw⟩ o.dst Cl)):=by
   intro c env runs T C h w i hl;have l:rest.isEmpty=false->ZV rest=some d:=by
    intro hr;cases rest with
    |nil=>cases hr
    |cons a r=>simpa[ZV]using hd
   have a0:∀{d'},o.dst=some d' -> Ay2 (o::rest)=d' :: Ay2 rest:=λg=>by simp[Ay2,g]
   have m:∀d' (v:AV),o.dst=some d' -> ∀x,x≠d->Uw (get envF x) (get (ins d' v env) x) \/ (x∈Ay2 rest/\get envF x=.top):=by
    intro d' v g x hx;rw[Ej];by_cases n:d' = x
    .subst n;exact .inl (.inl (ht _ (by rw[a0 g];exact BH2 ..) hx))
    rw[Hj n];rcases hl x hx with h|⟨h1,h2⟩
    .exact .inl h
    exact .inl (.inl h2)
   cases runs with
   |true=>
    simp only[bgo,Ao9,KP,Lc]at h⊢;split at h
    .rename_i d' hk g;split at h
     .rename_i p v regs' ha;have hr:regs' = Qw:=Ar9 hk ha;subst hr;have ha' : aop P env regs' (o.dst.getD 0) o.op=some ⟨p,v,regs'⟩:=by rw[g];exact ha
      split at h
      .rename_i u;split at h
       .rename_i b hb;cases h;have a1:=TB w;obtain⟨hc,hp⟩:=(CE _ _).1 a1;refine⟨hc,OX (TA hk) ha' hp ?_⟩;obtain rfl:rest=[]:=BO8.1 u;simp only[ZV]at hd;have e:d' = d:=by rw[g]at hd;exact BE7 hd
        subst e;refine hQ _ (hS.less _ ⟨envF,regs'⟩ _ (λx=>?_) (λ_=>by rw[g];rfl) (by simpa using hw));rw[g];show Uw (get envF x) (get (ins d' v env) x);rw[Ej];by_cases hx:d' = x
        .subst hx;rw[Gy rfl,hV];have i:b=V:=i;subst i;unfold Pl at hb;split at hb
         .cases hb;exact .inr (.inr ⟨_,rfl,rfl⟩)
         .cases hb;exact .inr (.inl rfl)
         cases hb
        rw[Hj hx];rcases hl x (λe=>hx e.symm)with h|⟨_,h⟩
        .exact h
        exact .inl h
       cases h
      rename_i u;have hn:∀x,x≠d->Uw (get envF x) (get (ins d' v env) x) \/ (x∈Ay2 rest/\get envF x=.top):=m d' v g;obtain⟨a1,a2⟩:=ih _ _ _ _ h w i (l (by simpa using u)) hn (λx hx=>ht x (by rw[a0 g];exact BB4 _ hx));obtain⟨hc,hp⟩:=(CE _ _).1 a1;exact⟨hc,OX (TA hk) ha' hp (by rw[g];exact a2)⟩
     cases h
    cases h
   |false=>
    simp only[bgo,KP,By9,Ld]at h⊢;split at h
    .rename_i d' u g;have hn:∀x,x≠d->Uw (get envF x) (get (ins d' Cl env) x) \/ (x∈Ay2 rest/\get envF x=.top):=m d' _ g;obtain⟨hc,a2⟩:=ih _ _ _ _ h w i (l (by simpa using u)) hn (λx hx=>ht x (by rw[a0 g];exact BB4 _ hx));exact⟨hc,by rw[g];exact a2⟩
    cases h
  simp only[BA0,JO];cases hg:o.guard with
  |none=>simp only[hg]at h;obtain⟨hc,hk⟩:=key _ _ _ _ _ h w i hl;exact⟨hc,hS.refl _ _ (by simpa[hg]using hk)⟩
  |some q=>
   obtain⟨j,want⟩:=q;simp only[hg]at h;split at h
   .rename_i b hb;obtain⟨hc,hk⟩:=key _ _ _ _ _ h w i hl;refine⟨hc,hS.refl _ _ ⟨some b,by rw[hb];rfl,?_⟩⟩;have e:(some b=some want)↔(b==want)=true:=by simp
    by_cases z:(b==want)=true
    .rw[Gy (e.2 z)];simpa[z]using hk
    rw[Hj (λx=>z (e.1 x))];simpa[z]using hk
   .rename_i tt hb;obtain⟨hc,hk⟩:=key _ _ _ _ _ h w i hl;refine⟨hc,hS.refl _ _ ⟨none,by rw[hb];rfl,?_⟩⟩;rw[Hj (by simp)];simpa using hk
   .rename_i b hb;split at h
    .rename_i t ct f cf h1 h2;cases h;have hc:C6 c:=TB λp hp=>w p (BB9 _ hp);refine⟨hc,hS.bool _ _ b _ hb ?_⟩;have hl2:∀x,x≠d->Uw (get envF x) (get (ins (FO all j) (.p (.v (.bool b))) env) x) \/ (x∈Ay2 (o::rest)/\get envF x=.top):=by
      intro x hx;rw[Ej];by_cases n:FO all j=x
      .subst n;rw[Gy rfl];rcases hl _ hx with h|h
       .rw[hb]at h;rcases h with h|h|⟨y,h1,h2⟩
        .exact .inl (.inl h)
        .exact .inl (.inr (.inr ⟨b,h,rfl⟩))
        cases h2
       exact .inr h
      rw[Hj n];exact hl x hx
     cases b with
     |true=>
      obtain⟨_,hk⟩:=key _ _ _ _ _ h1 (λp hp=>w (true=true->p) (BA9 _ (BB9 _ (BE0.2 ⟨p,hp,rfl⟩))) rfl) i hl2;refine⟨some true,by show yv (get (ins _ _ _) _)=_;rw[Ej,Gy rfl];rfl,?_⟩;cases want with
      |true=>simpa using hk
      |false=>simpa using hk
     |false=>
      obtain⟨_,hk⟩:=key _ _ _ _ _ h2 (λp hp=>w (false=false->p) (BA9 _ (BA9 _ (BE0.2 ⟨p,hp,rfl⟩))) rfl) i hl2;refine⟨some false,by show yv (get (ins _ _ _) _)=_;rw[Ej,Gy rfl];rfl,?_⟩;cases want with
      |true=>simpa using hk
      |false=>simpa using hk
    cases h
   cases h
end
def Bh6 (P:Program)(m:Nat):Cfg->Option (BT×List Prop)
 |.ops all rest K st=>bev P all st.Qw (rest.take m) [] st.env
 |_=>none
def Br6 (m:Nat)(b:Bool):Cfg->Cfg
 |.ops all rest K st=>match ZV (rest.take m)with
  |some d=>mkO (ins d (.p (.bb b)) (Bh5 (Ay2 (rest.take m)) st.env)) st.Qw λenv Qw=>.ops all (rest.drop m) K ⟨env,Qw⟩
  |none=>.ops all rest K st
 |g=>g
def Br7 (m:Nat):Cfg->Bool
 |.ops all rest K st=>(ZV (rest.take m)).isSome
 |_=>false
def Br8:List Prop->Prop
 |[]=>True
 |p::r=>r.foldl And p
def AT7 {l:List Prop}(h:Br8 l):∀p∈l,p:=by
 have:∀(r:List Prop) (p:Prop),r.foldl And p->p/\∀q∈r,q:=by
  intro r
  induction r with
  |nil=>intro p h;exact⟨h,λq b=>by cases b⟩
  |cons a r ih=>intro p h;obtain⟨⟨h1,c⟩,d⟩:=ih _ h;exact⟨h1,λq b=>by rcases BC1.1 b with rfl|b;exact c;exact d q b⟩
 cases l with
 |nil=>intro p hp;cases hp
 |cons a r=>obtain⟨h1,c⟩:=this _ _ h;exact λq b=>by rcases BC1.1 b with rfl|b;exact h1;exact c q b
section
variable {S:U8}{P:Program}{F:J3}{g:Cfg}{pr pc:Prop}
def kB (hS:G0 S P)(n:∀s,S.up s (F .normal)->F .normal s)(hc:pr)(c:pc)(m:Nat)(E:BE)(hk:KG S P F (Br6 m E.den (stp P g)))
 (hp:pr=C6 (cnd P g):=by kernel_rfl) (a:(Bh6 P m (stp P g)).map (·.1)=some E.top:=by kernel_rfl) (b:(Bh6 P m (stp P g)).map (λx=>Br8 x.2)=some pc:=by kernel_rfl) (f:Br7 m (stp P g)=true:=by kernel_rfl):KG S P F g:=by
 refine⟨Fv hS hc ?_ hp⟩;have hk:=hk.out;generalize stp P g=g' at hk a b f;unfold Bh6 at a b;split at a
 .rename_i all rest K st;simp only[Br7,BA1]at f;obtain⟨d,j⟩:=f;simp only[Br6,j,Gv]at hk;cases hb:bev P all st.Qw (rest.take m) [] st.env with
  |none=>rw[hb]at a;cases a
  |some q=>
   obtain⟨T,C⟩:=q;simp only[hb]at a b;simp only[Bz7,By4]at a b;subst a
   have:=(Br5 hS (Q:=kp S P K F) (post:=rest.drop m) (envF:=ins d (.p (.bb E.den)) (Bh5 (Ay2 (rest.take m)) st.env)) (V:=E.den) (d:=d) ?_ (by rw[Ej,Gy rfl]) hk (rest.take m) [] st.env E.top C hb
    (AT7 (b ▸ c)) E.top_ev j (λx hx=>?_) (λx hx i=>?_)).2
   .rwa [BK2]at this
   .intro s h;cases l:rest.drop m with
    |nil=>rw[l]at h;exact AR1 hS n K s h
    |cons o r=>rw[l]at h;exact hS.trans _ _ h
   .rw[Ej,Hj (λe=>hx e.symm),Am0];split
    .exact .inl (.inl rfl)
    exact .inl (.inr (.inl rfl))
   rw[Ej,Hj (λe=>i e.symm),Am0,Gy hx]
 cases a
end
def famC (op:Uv):Cfg->List Prop
 |.ops _ _ _ st=>match W0 op st with
  |some (c,_)=>c
  |none=>[False]
 |_=>[False]
def famG (op:Uv):Cfg->Cfg
 |.ops all rest K st=>match W0 op st with
  |some (_,st)=>mkO st.env st.Qw λenv Qw=>.ops all rest K ⟨env,Qw⟩
  |none=>.ops all rest K st
 |g=>g
section
variable {S:U8}{P:Program}{F:J3}{g:Cfg}{pr pc:Prop}
def Cd (hS:G0 S P)(hc:pr)(d:Nat)(op:Uv)(b:pc)(hk:KG S P F (famG op (HM P d g)))(hp:pr=C6 (Bg2 P d g):=by kernel_rfl)(f:KZ (HM P d g)=true:=by kernel_rfl)
 (a:pc=C6 (famC op (HM P d g)):=by kernel_rfl):KG S P F g:=by
 refine⟨(GT (u:=some d) (F:=F) hS 400 [] g (by subst hp;exact hc)).2 ?_⟩;have hk:=hk.out;show G S P F (HM P d g);generalize HM P d g=g' at f a hk;unfold KZ at f;split at f
 .rename_i all o rest K st;simp only[famC]at a;simp only[famG]at hk;cases i:W0 op st with
  |none=>rw[i]at a;subst a;exact b.elim
  |some q=>obtain⟨c,st'⟩:=q;simp only[i,Gv]at hk a;subst a;exact Zr hS (hS.fam op _ _ c _ i b hk)
 cases f
end
def Br9 (j k n:Nat)(e:TypeId)(g:Nat->List PV)(vw:Bool):Cfg->Cfg
 |.ops all rest K st=>mkO st.env (ins j (.vec e k n g vw) st.Qw) λenv Qw=>.ops all rest K ⟨env,Qw⟩
 |g=>g
def AE4 {S:U8}{P:Program}{F:J3}{g:Cfg}{pr:Prop}(hS:G0 S P)(hc:pr)(d j:Nat){k n:Nat}{e:TypeId}{vw:Bool}(f q:Nat->List PV)(c:∀i,i<n->leC (f i) (q i))(hk:KG S P F (Br9 j k n e q vw (HM P d g)))
 (hp:pr=C6 (Bg2 P d g):=by kernel_rfl) (a:KZ (HM P d g)=true:=by kernel_rfl) (b:A1 (HM P d g).st.Qw j=some (.vec e k n f vw):=by kernel_rfl):KG S P F g:=by
 refine⟨(GT (u:=some d) (F:=F) hS 400 [] g (by subst hp;exact hc)).2 ?_⟩;have hk:=hk.out;show G S P F (HM P d g);generalize HM P d g=g1 at hk a b;unfold KZ at a;split at a
 .simp only[Br9,Gv]at hk;exact Zr hS (hS.vecq _ j n k e f q vw _ b c hk)
 cases a
def leCn {k:Nat}{g:Nat->List PV}:leC [.v (.slice none 0 0)] [.sl false k 0 g]:=Ie Bw9 leC0
def leCr (l:List PV):leC l l:=⟨rfl,λ_=>.p (.inl rfl)⟩
def Bs0 (op:Uv):Cfg->List Prop
 |.code _ _ st=>match W0 op st with
  |some (c,_)=>c
  |none=>[False]
 |_=>[False]
def Bs1 (op:Uv):Cfg->Cfg
 |.code c K st=>match W0 op st with
  |some (_,st)=>mkO st.env st.Qw λenv Qw=>.code c K ⟨env,Qw⟩
  |none=>.code c K st
 |g=>g
def Am1 {S:U8}{P:Program}{F:J3}{g:Cfg}{pr pc:Prop}(hS:G0 S P)(hc:pr)(op:Uv)(d:pc)(hk:KG S P F (Bs1 op (stp P g)))(hp:pr=C6 (cnd P g):=by kernel_rfl)(i:CK (stp P g)=true:=by kernel_rfl)(f:P.follows .mixedOrders=true:=by kernel_rfl)
 (b:Ip (Iz (stp P g)).all=true:=by kernel_rfl) (a:pc=C6 (Bs0 op (stp P g)):=by kernel_rfl):KG S P F g:=by
 refine⟨Fv hS hc ?_ hp⟩;generalize stp P g=g1 at hk i b a;unfold CK at i;split at i
 .rename_i id ops K st;have hk:=hk.out;simp only[Bs1]at hk;simp only[Bs0]at a;cases j:W0 op st with
  |none=>rw[j]at a;subst a;exact d.elim
  |some q=>
   obtain⟨c,st'⟩:=q;simp only[j,Gv]at hk a;subst a;show awp S P (.region id ops true) (kp S P K F) st;simp only[awp,Lc];have l : Zp S P ops.toList (kp S P K F) st':=by
    have:awp S P (.region id ops true) (kp S P K F) st':=hk
    simpa only[awp,Lc]using this
   exact Ak5 hS f b (hS.fam op _ _ c _ j d l)
 cases i
def XF {P:Program}{f:FuncId}{vw:Bool}{args:List PV}{e:TypeId}{k n:Nat}{g:Nat->List PV}(t:∀as w,(callFunc f as).run P w=.ok (.enter f as) w)(hk:∀i,i<n->(g i).length=k)
 (h:∀(w:World) (Pi:Nat->Nat->Prop) (vs:Array Value),(∀b off,Pi b off->b<w.heap.size)->vs.size=args.length->(∀i,i<args.length->Sd w Pi (vs.getD i undef) (args.getD i default)) ->
  Calls P f vs w λx w'=>∃v,x=.returned v/\RowKit.Below w.heap.size w w' /\ ((v=.slice none 0 0/\n=0) \/ ∃b cap c,v=.slice (some ⟨b,0,none⟩) n cap/\w.heap.size<=b/\w'.heap[b]? = some (.cells c e (0,0))/\n<=cap/\c.size=cap*k/\cap<=maxLen /\
   ∀i j,i<n->j<k->Sd w Pi (c.getD (i*k+j) undef) ((g i).getD j default)/\(c.getD (i*k+j) undef).oneCell' = true)):Sb (Gj P) f (args.map .p) [] (.vec 0) [.vec e k n g vw] []:=by
 intro 𝒢 C w vs rho hG hs hsz;have y:∀j,A1 (Sa []) j=none:=λj=>by simp[Sa,Sa.go,A1]
 have h0:=h w (Prv C.X (A1 (Sa [])) rho) vs (λb off hp=>by
  rcases hp with hp|⟨j,o,a,_⟩
  .exact hs.hp.bound b off hp
  .simp[y]at a) (by simpa using hsz) (λi s=>by
  have:=hs.env i
  rw[AJ]at this;have e:(args.map AV.p).getD i .top=.p (args.getD i default):=by simp[s]
  rw[e]at this;exact this.toP)
 refine⟨_,_,t _ _,callsIn_wide.2 (h0.mono ?_)⟩;rintro x w' ⟨v,rfl,hb,hv⟩;have hR:∀j o,A1 (Sa [Obj.vec e k n g vw]) j=some o->j=0/\o=.vec e k n g vw:=λj o a=>by
  simp only[Sa,Sa.go,A1]at a;split at a
  .rename_i hj0;cases a;exact⟨hj0.symm,rfl⟩
  cases a
 have z:A1 (Sa [Obj.vec e k n g vw]) 0=some (.vec e k n g vw):=rfl
 let rho' : Nat->Value:=λj=>if j=0 then v else rho j
 have hr0:rho' 0=v:=rfl;have l:∀b,E5 v (.vec e k n g vw) b->w.heap.size<=b/\b<w'.heap.size:=by
  intro b a0;rcases hv with⟨rfl,_⟩ | ⟨b',cap,c,rfl,h1,h2,_⟩
  .cases a0
  cases a0;exact⟨h1,(Bz0.1 h2).1⟩
 have a1:∀b o,Prv C.X (A1 (Sa [Obj.vec e k n g vw])) rho' b o->C.X b o \/ w.heap.size<=b:=by
  rintro b o (hX|⟨j,o',a,d,_⟩)
  .exact .inl hX
  obtain⟨rfl,rfl⟩:=hR j o' a;exact .inr (l b d).1
 have m:Sc w (Prv C.X (A1 (Sa [])) rho) w' (Prv C.X (A1 (Sa [Obj.vec e k n g vw])) rho'):=λb o u hp hc=>by
  have q:=BF4 w ⟨b,o,none⟩ hc;refine⟨by rw[<- hc];exact BC8 (hb.block b q),λhpp=>?_⟩;rcases a1 b o hpp with hX|hge
  .exact hp (.inl hX)
  have:b<w.heap.size:=q
  omega
 refine⟨C,.ret (.vec 0),[.vec e k n g vw],[],rho',hG,⟨rfl,rfl,rfl⟩,?_,⟨v,rfl,?_⟩,λi s=>by simp at s⟩
 .refine⟨⟨λj o a=>?_,λi j oi oj b s a _ _=>by rw[(hR i oi s).1,(hR j oj a).1],λj o b off a d hX=>?_,λb off hp=>BB0 (hs.hp.bound b off hp) hb.size⟩,hs.ext.trans ⟨hb.os,hb.output⟩,BD9 hs.size hb.size,λb q hE=>?_,hs.keep.trans m,λb d=>?_,λj r b a=>by cases (hR j _ a).2⟩
  .obtain⟨rfl,rfl⟩:=hR j o a;rw[hr0];rcases hv with hn|⟨b,cap,c,rfl,h1,h2,h3,h4,h5,h6⟩
   .exact .inl hn
   exact .inr ⟨b,cap,c,rfl,h2,h3,h4,h5,hk,λi j s a=>⟨(h6 i j s a).1.keeps m,(h6 i j s a).2⟩⟩
  .obtain⟨rfl,rfl⟩:=hR j o a;have h1:=(l b d).1;have h2:=hs.hp.bound b off hX;omega
  .rw[hb.block b (BB0 q hs.size)];exact hs.same b q hE
  obtain⟨j,o,a,d⟩:=d;obtain⟨rfl,rfl⟩:=hR j o a;exact .inr (BD9 hs.size (l b d).1)
 rcases hv with⟨rfl,_⟩ | ⟨b,cap,c,rfl,_⟩
 .exact .vec 0 none 0 0 (by simp[Lv,z]) rfl
 exact .vec 0 _ n cap (by simp[Lv,z]) rfl
open Go.RowKit Go.ChangeShapes
section
variable {S:U8}{P:Program}{F:J3}{K:List It}{st:St}{g:Cfg}{pr:Prop}
def Bh7 (p:Option PV)(r:ARes):Prop:=match p with
 |none=>∃a,r=.ret a
 |some x=>r=.panic x
def Qb (S:U8)(f:FuncId)(first caps:List AV)(objs:List Obj)(L:List (List PV))(p:Option PV):Prop:= S.F f (first ++ .yf objs.length::caps) (objs++[.yld L true]) λr objs' ks=>∃b,objs'[objs.length]? = some (.yld [] b)/\ks[objs.length]? = some true/\(b=true->Bh7 p r)/\(b=false->∃a,r=.ret a)
def endP:Option PV->JN
 |none=>.normal
 |some x=>.panic x
def AT8 (hS:G0 S P){g:Operand}{ps:Array Tmp}{asg body:Code}{f:FuncId}{first caps as bs:List AV}{objs:List Obj}(ids ts:List Nat)(gh:Nat)(L:List (List PV)){p:Option PV}{X:Type}(s:X->St)(J:List (List PV)->X->Prop)(x0:X)(idl:List (Nat×Nat))
 (hp:FN st.env g=some (f,first,caps)) (n:∃fn,P.funcs[f]? = some fn/\fn.body.isSome=true/\(fn.name == "runtime.NumGoroutine")=false) (q:M0 ids st.Qw ids=some objs) (t:Fu objs=true) (hd:H5 ids=true) (u:DP ids first=some as) (v:DP ids caps=some bs) (w:objs.length=ids.length)
 (z:gh<1000) (a0:A1 st.Qw gh=none) (a1:ids.length<1000) (a2:H5 ts=true) (d:∀ys∈L,AH ys=some ps.size)
 (hF:Qb S f as bs objs L p) (hle:Le idl ⟨X7 ts (ts.map (get st.env)),J9 ids (ids.map λ_=>false) st.Qw⟩ (s x0)) (h0:J L x0) (hk:∀x,(s x).env.map (·.1)=ts) (hn:∀x,A1 (s x).Qw gh=none)
 (c:∀ys rest x,J (ys::rest) x->G S P (Cn S P body gh ts (AQ9 s J rest) (kp S P K F)) (.code asg [] ⟨Oz ps.toList ys (s x).env,ins gh (.ghost ((s x).env.map (·.2))) (s x).Qw⟩))
 (i:∀x,J [] x->G S P F (.pop (endP p) K (s x))):G S P F (.code (.rangeFunc g ps asg body) K st):=by
 have j:∀{l:List Nat},H5 l=true->l.Nodup:=by
  intro l
  induction l with
  |nil=>intro _;exact BG8
  |cons a r ih=>intro h;simp only[H5,By5,BA7,BC2,decide_eq_false_iff_not]at h;exact BE5.2 ⟨h.1,ih h.2⟩
 refine⟨f,first,caps,as,bs,objs,ids,ts,gh,none,L,AQ9 s J,λb r=>b=true->Bh7 p r,hp,n,t,hd,u,v,q,z,a0,a1,j a2,d,hS.le idl _ _ _ hle ⟨hk x0,hn x0,x0,rfl,h0⟩,?_,?_,?_⟩
 .rintro ys rest _ _ _ ⟨x,rfl,hJ⟩;have h:=c ys rest x hJ;have e:Cn S P body gh ts (AQ9 s J rest) (kp S P K F)=λe s'=>match e with
   |.normal=>S.up s' λs'=>awp S P body (GS S gh ts (AQ9 s J rest) (kp S P K F)) s'
   |_=>False:=by funext e s';cases e<;>rfl
  rw[e]at h;exact h
 .rintro _ r _ _ ⟨x,rfl,hJ⟩ hf;have h1:=hf rfl;have m:=i x hJ;cases p with
  |none=>obtain⟨a,rfl⟩:=h1;exact m
  |some y=>cases h1;exact m
 rw[<- w];refine hS.monoF _ _ _ _ _ ?_ hF;rintro r o ks ⟨b,h1,m,h3,h4⟩;exact⟨b,h1,m,h3,h4⟩
def AT9 (hS:G0 S P){g:Operand}{ps:Array Tmp}{asg body:Code}{f:FuncId}{first caps as bs:List AV}{objs:List Obj}{R T A:Type}{enc:T->List PV}{L:List T}{p:Option PV}{mb:(A->Option R)->T->A->Option R}{mk:A->Option R}{a0:A}{r:R}
 (ids ts:List Nat) (gh:Nat) (s:A->St) (idl:List (Nat×Nat)) (h:Cp L mb mk a0=some r) (y:Qb S f as bs objs (L.map enc) p)
 (hp:FN st.env g=some (f,first,caps)) (j:∃fn,P.funcs[f]? = some fn/\fn.body.isSome=true/\(fn.name == "runtime.NumGoroutine")=false) (l:M0 ids st.Qw ids=some objs) (m:Fu objs=true) (z:H5 ids=true) (n:DP ids first=some as) (o:DP ids caps=some bs) (q:objs.length=ids.length)
 (u:Nat.blt gh 1000=true) (v:A1 st.Qw gh=none) (w:Nat.blt ids.length 1000=true) (x:H5 ts=true) (d:∀t:T,AH (enc t)=some ps.size)
 (hle:Le idl ⟨X7 ts (ts.map (get st.env)),J9 ids (ids.map λ_=>false) st.Qw⟩ (s a0)) (hk:∀a,(s a).env.map (·.1)=ts) (hn:∀a,A1 (s a).Qw gh=none)
 (b:∀(t:T) (next:St->Prop) (c:A->Option R) (a:A),(∀(st st1:St) (cs:List AV) (idl:List (Nat×Nat)) (a:A),Le idl st st1->A1 st1.Qw gh=some (.ghost cs)->cs.length=ts.length->A1 (del gh st1.Qw) gh=none->(⟨X7 ts cs,del gh st1.Qw⟩:St)=s a->c a=some r->G S P (GS S gh ts next (kp S P K F)) (.pop .normal [] st)) ->
  mb c t a=some r->G S P (Cn S P body gh ts next (kp S P K F)) (.code asg [] ⟨Oz ps.toList (enc t) (s a).env,ins gh (.ghost ((s a).env.map (·.2))) (s a).Qw⟩))
 (i:∀a,mk a=some r->G S P F (.pop (endP p) K (s a))):G S P F (.code (.rangeFunc g ps asg body) K st):=by
 refine AT8 hS ids ts gh (L.map enc) s (λrest a=>∃L',rest=L'.map enc/\Cp L' mb mk a=some r) a0 idl hp j l m z n o q (by simpa[BJ0]using u) v (by simpa[BJ0]using w) x (λys hy=>?_) y hle ⟨L,rfl,h⟩ hk hn ?_ ?_
 .obtain⟨t,_,rfl⟩:=BE0.1 hy;exact d t
 .rintro ys rest a ⟨L',hL,hx⟩;cases L' with
  |nil=>cases hL
  |cons t L'=>simp only[BA3,BD6]at hL;obtain⟨rfl,rfl⟩:=hL;refine b t _ (Cp L' mb mk) a (λst st1 cs idl a hle h1 h2 h3 h4 h5=>?_) hx;exact ZN hS st1 a idl hle h1 h2 h3 h4 ⟨L',rfl,h5⟩
 rintro a ⟨L',hL,hx⟩;cases L' with
 |nil=>exact i a hx
 |cons t L'=>cases hL
def Am2 (hS:G0 S P)(hc:pr){f:FuncId}{as bs:List AV}{objs:List Obj}{R T A:Type}{enc:T->List PV}{L:List T}{p:Option PV}{mb:(A->Option R)->T->A->Option R}{mk:A->Option R}{a0:A}{r:R}
 (ids ts:List Nat) (gh:Nat) (s:A->St) {idl:List (Nat×Nat)}(h:Cp L mb mk a0=some r) (x:Qb S f as bs objs (L.map enc) p)
 (i:∀t:T,AH (enc t)=some (Ke (stp P g)).size) (hk:∀a,(s a).env.map (·.1)=ts) (hn:∀a,A1 (s a).Qw gh=none) (m:∀a,(⟨X7 ts ((s a).env.map (·.2)),del gh (ins gh (.ghost ((s a).env.map (·.2))) (s a).Qw)⟩:St)=s a)
 (c:∀(t:T) (next:St->Prop) (d:A->Option R) (a:A),
  (∀(g' : Cfg) (ids:List (Nat×Nat)) (pr:Prop) (a:A),pr->d a=some r->(hp:pr=C6 (cnd P g'):=by kernel_rfl)->(b:stp P g' = .pop .normal [] (stp P g').st:=by kernel_rfl)->(hle:KLe ids (stp P g').st (rst gh (s a)):=by exact kl)->KG S P (GS S gh ts next (kp S P (stp P g).k F)) g') ->
  mb d t a=some r->KG S P (Cn S P (XA (stp P g)) gh ts next (kp S P (stp P g).k F)) (.code (Xz (stp P g)) [] (XC gh (Ke (stp P g)) (enc t) (s a))))
 (j:∀a,mk a=some r->KG S P F (.pop (endP p) (stp P g).k (s a)))
 (hp:pr=C6 (cnd P g):=by kernel_rfl) (b:Xy P ids (stp P g)=some (f,as,bs,objs):=by kernel_rfl) (o:Nat.blt gh 1000=true:=by kernel_rfl) (n:A1 (stp P g).st.Qw gh=none:=by kernel_rfl) (q:H5 ts=true:=by kernel_rfl)
 (hle:KLe idl (XB ids ts (stp P g)) (s a0):=by exact kl):KG S P F g:=by
 refine⟨Fv hS hc ?_ hp⟩;have u:=(JE b).2;replace b:=(JE b).1;generalize stp P g=g1 at i c j b n hle;unfold PZ at b;split at b
 .rename_i op ps asg body K st;split at b
  .rename_i f' first caps v
   split at b
   .rename_i objs' as' bs' y z h4;split at b
    .rename_i w;simp only[By4,Bz3]at b;obtain⟨rfl,rfl,rfl,rfl⟩:=b;simp only[By5,BA7,beq_iff_eq]at w;obtain⟨⟨⟨e3,e4⟩,e5⟩,e6⟩:=w;refine AT9 hS ids ts gh s idl h x v u y e3 e4 z h4 e5 o n e6 q i hle.out hk hn (λt next d a hb hm=>?_) (λa hm=>(j a hm).out);refine (c t next d a (λg' ids' pr a hc l hp b hle=>⟨Fv hS hc ?_ hp⟩) hm).out;rw[b];have hl:((s a).env.map (·.2)).length=ts.length:=by rw[<- hk a];simp
     refine hb _ (rst gh (s a)) ((s a).env.map λp=>p.2) ids' a hle.out (IA gh (s a)) hl ?_ (m a) l
     have:=congrArg St.Qw (m a)
     simp only at this;show A1 (del gh (ins gh _ _)) gh=none;rw[this];exact hn a
    cases b
   cases b
  cases b
 cases b
def AE5 (hS:G0 S P){f:FuncId}{fn:Func}{first caps:List AV}{objs:List Obj}{L:List (List PV)}{p:Option PV}(i:P.funcs[f]? = some fn)
 (h:KG S P (Cm S P (objs++[Obj.yld L true]).length fn.results.toList λr objs' ks=>∃b,objs'[objs.length]? = some (.yld [] b)/\ks[objs.length]? = some true/\(b=true->Bh7 p r)/\(b=false->∃a,r=.ret a)) (.code (fn.body.getD .skip) [] { env:=Ss (first ++ .yf objs.length::caps),Qw:=Sa (objs++[Obj.yld L true]) }))
 (hc:fn.body.isSome=true:=by kernel_rfl) (hn:Nat.ble (first ++ .yf objs.length::caps).length fn.ntmps=true:=by kernel_rfl) (j:Nat.blt (objs++[Obj.yld L true]).length 1000=true:=by kernel_rfl)
 (d:Bm fn.ntmps (fn.body.getD .skip)=true:=by kernel_rfl) (g:(fn.name == "runtime.NumGoroutine")=false:=by kernel_rfl):Qb S f first caps objs L p:=by
 obtain⟨code,c⟩:=BA1.1 hc;rw[c,Bz4]at d h;exact Nd hS i c (BF2 hn) (by simpa[BJ0]using j) rfl d g h.out
def AU0 (hS:G0 S P){f:FuncId}{fn:Func}{args:List AV}{objs:List Obj}{Q:ARes->List Obj->List Bool->Prop}(d:P.funcs[f]? = some fn)
 (h:KG S P (Cm S P objs.length fn.results.toList Q) (.code (fn.body.getD .skip) [] { env:=Ss args,Qw:=Sa objs }))
 (hc:fn.body.isSome=true:=by kernel_rfl) (hn:Nat.ble args.length fn.ntmps=true:=by kernel_rfl) (g:Nat.blt objs.length 1000=true:=by kernel_rfl)
 (b:Bm fn.ntmps (fn.body.getD .skip)=true:=by kernel_rfl) (c:(fn.name == "runtime.NumGoroutine")=false:=by kernel_rfl):S.F f args objs Q:=by
 obtain⟨code,a⟩:=BA1.1 hc;rw[a,Bz4]at b h;exact Nd hS d a (BF2 hn) (by simpa[BJ0]using g) rfl b c h.out
def panE:Cfg->Option PV
 |.ops all (o::_) _ st=>match Bn all st.env o,o.op with
  |some true,.panic x=>match aev st.env x with
   |.p (.iface t y)=>some (.iface t y)
   |_=>none
  |_,_=>none
 |_=>none
def panC (x:PV):Cfg->Cfg
 |.ops _ _ K st=>.pop (.panic x) K st
 |g=>g
def Bh8 (hS:G0 S P)(hc:pr){x:PV}(hk:KG S P F (panC x (stp P g)))(hp:pr=C6 (cnd P g):=by kernel_rfl)(a:panE (stp P g)=some x:=by kernel_rfl):KG S P F g:=by
 refine⟨Fv hS hc ?_ hp⟩;have hk:=hk.out;generalize stp P g=g1 at hk a;unfold panE at a;split at a
 .rename_i all o rest K st;split at a
  .rename_i y b c;split at a
   .rename_i t z hx;cases a;exact Bf9 hS b c hx hk
   cases a
  cases a
 cases a
def AU1:Cfg->Option PV
 |.pop (.panic x) [] _=>some x
 |_=>none
def Ba2 (hS:G0 S P)(hc:pr){n:Nat}{rs:List ResultVar}{Q:ARes->List Obj->List Bool->Prop}{x:PV}{objs:List Obj}(outs:List Nat)(c:Q (.panic x) objs (Fy n outs))(hp:pr=C6 (cnd P g):=by kernel_rfl)
 (a:AU1 (stp P g)=some x:=by kernel_rfl) (d:H5 outs=true:=by kernel_rfl) (b:M0 outs (stp P g).st.Qw outs=some objs:=by kernel_rfl):KG S P (Cm S P n rs Q) g:=by
 refine⟨Fv hS hc ?_ hp⟩;generalize stp P g=g1 at a b;unfold AU1 at a;split at a
 .cases a;exact⟨outs,objs,d,b,c⟩
 cases a
def Bh9 (hS:G0 S P){all rest:List Oper}{o:Oper}{c:Call}{f:Operand}{as:List AV}{Qw:C5}{fn:FuncId}{as' args:List AV}{objs objs' : List Obj}{ks:List Bool}{x:PV}(ids:List Nat)
 (d:Bn all st.env o=some true) (g:o.op=.call c) (b:c.callee=.value f) (ha:Im st.Qw (c.args.toList.map (aev st.env))=some (as,Qw))
 (hw:Ta st.env f as=some (fn,as')) (i:DP ids as' = some args) (a:M0 ids Qw ids=some objs) (j:S.F fn args objs λres o k=>res=.panic x/\o=objs' /\ k=ks)
 (l:H5 ids=true) (hy:Fu objs=true) (hn:X1 Qw ids ks (o.dst.getD 0) objs'.length=true)
 (hk:G S P F (.pop (.panic x) K { env:=st.env,Qw:=back (G7 (o.dst.getD 0) ids ks objs'.length) (G7 (o.dst.getD 0) ids ks objs'.length) objs' (J9 ids ks Qw) })) :
 G S P F (.ops all (o::rest) K st):=by
 refine Bo hS d ?_;unfold wOp;obtain⟨callee,cargs,types⟩:=c;simp only at b ha;subst b;rw[g];refine .inl ⟨as,Qw,_,_,.inl ha,hw,ids,args,objs,l,i,a,hy,hS.monoF _ _ _ _ _ ?_ j⟩;rintro _ _ _ ⟨rfl,rfl,rfl⟩;exact⟨hn,hk⟩
def Ba3 (ids:List Nat)(ks:List Bool)(x:PV)(objs' : List Obj):Cfg->Cfg
 |.ops all (o::rest) K st=>match o.op with
  |.call c=>match Im st.Qw (c.args.toList.map (aev st.env))with
   |some (_,Qw)=>mkO st.env (back (G7 (o.dst.getD 0) ids ks objs'.length) (G7 (o.dst.getD 0) ids ks objs'.length) objs' (J9 ids ks Qw)) λenv Qw=>.pop (.panic x) K ⟨env,Qw⟩
   |none=>.ops all (o::rest) K st
  |_=>.ops all (o::rest) K st
 |g=>g
def Bi0 (hS:G0 S P)(ids:List Nat)(hc:pr){fn:FuncId}{args:List AV}{objs objs' : List Obj}{x:PV}{ks:List Bool}(i:S.F fn args objs λres o k=>res=.panic x/\o=objs' /\ k=ks)
 (hk:KG S P F (Ba3 ids ks x objs' (stp P g))) (hp:pr=C6 (cnd P g):=by kernel_rfl) (a:Ar5 ids (stp P g)=some (fn,args,objs):=by kernel_rfl) (hn:Ar6 ids ks objs'.length (stp P g)=true:=by kernel_rfl):KG S P F g:=by
 refine⟨Fv hS hc ?_ hp⟩;replace hk:=hk.out;generalize stp P g=g' at a hn hk;unfold Ar5 at a;split at a
 .split at a
  .rename_i j f;split at a
   .rename_i c;split at a
    .rename_i ha;split at a
     .rename_i hw;split at a
      .rename_i l d;split at a
       .rename_i b;cases a;simp only[By5]at b;simp only[Ba3,Ar6,f,ha,Gv]at hk hn;exact Bh9 hS ids j f c ha hw l d i b.1 b.2 hn hk
       cases a
      cases a
     cases a
    cases a
   cases a
  cases a
 cases a
def TC (S:U8)(R:St->Prop)(X:PV->St->Prop):J3
 |.normal,st=>S.up st R
 |.panic x,st=>X x st
 |_,_=>False
def K_upN (hS:G0 S P)(hc:pr){R:St->Prop}{X:PV->St->Prop}(st:St){ids:List (Nat×Nat)}(hR:R st)(hp:pr=C6 (cnd P g):=by kernel_rfl)(a:stp P g=.pop .normal [] (stp P g).st:=by kernel_rfl)
 (hle:KLe ids (stp P g).st st:=by exact kl):KG S P (TC S R X) g:=by
 refine⟨Fv hS hc ?_ hp⟩;rw[a];exact hS.le ids _ _ R hle.out hR
def K_upP (hS:G0 S P)(hc:pr){R:St->Prop}{X:PV->St->Prop}{x:PV}(b:X x (stp P g).st)(hp:pr=C6 (cnd P g):=by kernel_rfl)(a:AU1 (stp P g)=some x:=by kernel_rfl):KG S P (TC S R X) g:=by
 refine⟨Fv hS hc ?_ hp⟩;generalize stp P g=g1 at a b;unfold AU1 at a;split at a
 .cases a;exact b
 cases a
end
section
variable {S:U8}{P:Program}{F:J3}{K:List It}{g:Cfg}{pr:Prop}
def ZW (hS:G0 S P){all:List Oper}{o:Oper}{k k' : St->Prop}{Q Q' : J3}(hk:∀s,k s->k' s)(hq:∀x s,Q (.panic x) s->Q' (.panic x) s){st:St}(h:Id S P all o k Q st):Id S P all o k' Q' st:=by
 have e:∀st,wOp S P o k Q st->wOp S P o k' Q' st:=by
  intro st h;have u:∀d ids f args st,Zn S d ids f args st (Io o.dst k Q)->Zn S d ids f args st (Io o.dst k' Q'):=by
   rintro d ids f args st ⟨a,ob,h1,l,q,v,w⟩;refine⟨a,ob,h1,l,q,v,hS.monoF _ _ _ _ _ (λr o ks ⟨z,h7⟩=>⟨z,?_⟩) w⟩;cases r with
   |ret a=>exact hk _ h7
   |panic x=>exact hq _ _ h7
  unfold wOp at h⊢;split at h
  .rcases h with⟨as,Qw,f',as',h1,l,ids,q⟩ | ⟨j,xs,Qw,ys,rest,h1,l,q,v,w,z⟩ | ⟨f',as',c,xs,h1,l,q,v⟩ | ⟨j,jw,e,m,n,g,rest,h1,l,q,v⟩
   .exact .inl ⟨as,Qw,f',as',h1,l,ids,u _ _ _ _ _ q⟩
   .exact .inr (.inl ⟨j,xs,Qw,ys,rest,h1,l,q,v,w,λb=>hk _ (z b)⟩)
   .exact .inr (.inr (.inl ⟨f',as',c,xs,h1,l,q,hS.monoF _ _ _ _ _ (λr o ks e=>e.imp (fun⟨a,e1,e2,e3⟩=>⟨a,e1,e2,hk _ e3⟩) fun⟨e0,m,n,g,e1,e2,e3,e4,e5⟩=>⟨e0,m,n,g,e1,e2,e3,e4,hk _ e5⟩) v⟩))
   exact .inr (.inr (.inr ⟨j,jw,e,m,n,g,rest,h1,l,q,λb=>hk _ (v b)⟩))
  .obtain⟨as,Qw,t,y,f',h1,l,q,ids,v⟩:=h;exact⟨as,Qw,t,y,f',h1,l,q,ids,u _ _ _ _ _ v⟩
  .obtain⟨t,y,h1,l⟩:=h;exact⟨t,y,h1,hq _ _ l⟩
  .obtain⟨j,cl,last,seen,jm,es,h1,l,q,v,w,z,h7⟩:=h;exact⟨j,cl,last,seen,jm,es,h1,l,q,v,w,λg=>hk _ (z g),λi hi hs=>hk _ (h7 i hi hs)⟩
  rcases h with⟨out,h1,l,q⟩ | ⟨c,x,h1,l,q⟩ | ⟨out,h1,l,q⟩
  .exact .inl ⟨out,h1,l,hk _ q⟩
  .exact .inr (.inl ⟨c,x,h1,l,hk _ q⟩)
  exact .inr (.inr ⟨out,h1,l,hk _ q⟩)
 unfold Id at h⊢;refine hS.mono _ _ _ (λt h=>?_) h;split at h
 .exact e _ h
 obtain⟨b,h1,l⟩:=h;refine⟨b,h1,?_⟩;split
 .rename_i hb;rw[Gy hb]at l;exact e _ l
 rename_i hb;rw[Hj hb]at l;exact hk _ l
def Bi1 (all:List Oper)(n:Nat):Bool:= Nat.blt n all.length&&(List.range all.length).all λi=>Nat.blt i n||(List.range i).all λj=>((Bp1 all).getD i []).contains j
def ZX (all:List Oper)(n:Nat):Bool:=(all.take n).all λo=>match o.guard with
 |some (j,_)=>Nat.blt j n
 |none=>true
def As0 (all:List Oper){n:Nat}(b:ZX all n=true){o:Oper}(c:o∈all.take n){k:St->Prop}{Q:J3}{s:St}(h:Id S P (all.take n) o k Q s):Id S P all o k Q s:=by
 have h1:=Bz2.1 b o c;unfold Id at h⊢;cases a:o.guard with
 |none=>simpa only[a]using h
 |some q=>
  obtain⟨j,want⟩:=q;simp only[a,BJ0]at h1 h⊢;have e:FO (all.take n) j=FO all j:=by unfold FO;rw[BH1,Gy h1]
  rw[e]at h;exact h
def XG (hS:G0 S P){all:List Oper}{n:Nat}{Q:J3}{st:St}(r:Ip all=true)(y:Bi1 all n=true)(hg:ZX all n=true)
 (h:Zp S P (all.take n) (λe s=>match e with | .normal=>JO S P all (all.drop n) Q s | .panic x=>Q (.panic x) s|_=>False) st):Zp S P all Q st:=by
 obtain⟨z,hdp,Inv,h0,u,a0⟩:=h;simp only[Bi1,By5,BJ0,Bz2,BC0,BA4,BC2,decide_eq_true_eq]at y;obtain⟨hn,y⟩:=y
 let down:(Nat->Bool)->Prop:=λD=>∀i o,D i=true->all[i]? = some o->∀e∈o.after.toList,EH e=true->D e.on=true
 let Inv' : (Nat->Bool)->St->Prop:=λD s=>down D/\(((∀i,n<=i->D i=false)/\Inv D s) \/ ∃j,n<=j/\j<=all.length/\(∀i,i<all.length->(D i=true↔i<j))/\JO S P all (all.drop j) Q s)
 refine⟨z,r,Inv',⟨λi o hi=>(by cases hi),.inl ⟨λ_ _=>rfl,h0⟩⟩,?_,?_⟩
 .intro D i s o ⟨hD,hc⟩ ho hDi b;have g:i<all.length:=(Bz8.1 ho).1;have t:=Nc r hD i o ho b;have l:down λj=>if j=i then true else D j:=by
   intro j oj m v e he hbe;show (if e.on=i then true else D e.on)=true;by_cases e1:j=i
   .subst e1;rw[ho]at v;cases v;split
    .rfl
    exact b e he hbe
   have m:(if j=i then true else D j)=true:=m;rw[Hj e1]at m;split
   .rfl
   exact hD j oj m v e he hbe
  have d:(∀j,j<i->D j=true)->(∀j,i<j->j<all.length->D j=false)->n<=i->S.up s (JO S P all (all.drop i) Q)->Id S P all o (Inv' λj=>if j=i then true else D j) Q s:=by
   intro c hhi hni h2;have hd:all.drop i=o::all.drop (i+1):=by rw[BI5 g];congr 1;exact (Bz8.1 ho).2
   rw[hd]at h2;have h3:Id S P all o (JO S P all (all.drop (i+1)) Q) Q s:=hS.trans _ _ h2;refine Nf hS (λs' w=>?_) (λe s h=>h) h3;refine⟨l,.inr ⟨i+1,by omega,g,λi' hi'=>?_,w⟩⟩;by_cases e:i' = i
   .simp[e]
   simp only[e,Ld];constructor
   .intro q;by_cases h5:i<i'
    .rw[hhi i' h5 hi']at q;cases q
    omega
   intro q;exact c i' (by omega)
  rcases hc with⟨c,hI⟩ | ⟨j,hj1,hj2,f,hw⟩
  .by_cases hi:i<n
   .have ho' : (all.take n)[i]? = some o:=by rw[BH1,Gy hi];exact ho
    have h1:=As0 all hg (BB3 ho') (u D i s o hI ho' hDi b);refine ZW hS (λs' w=>?_) (λx s' h=>h) h1;refine⟨l,.inl ⟨λi' h'=>?_,w⟩⟩
    have:i' ≠ i:=by omega
    show (if i' = i then true else D i')=false;rw[Hj this];exact c i' h'
   have a:∀j,j<i->D j=true:=λj m=>t j ((y i g).resolve_left hi j m);have e:i=n:=by
    by_cases q:n<i
    .have:=a n q;rw[c n (Bz5 _)]at this;cases this
    omega
   subst e;refine d a (λj m _=>c j (by omega)) (Bz5 _) ?_;exact a0 D s hI λj m=>a j (by simp at m;omega)
  have e:i=j:=by
   by_cases q:i<j
   .have:=(f i g).2 q;rw[hDi]at this;cases this
   by_cases h5:j<i
   .have a:D j=true:=t j ((y i g).resolve_left (by omega) j h5)
    have:=(f j (by omega)).1 a;omega
   omega
  subst e;refine d (λj m=>(f j (by omega)).2 m) (λj h1 h2=>?_) hj1 (hS.refl _ _ hw);cases hh:D j with
  |false=>rfl
  |true=>have:=(f j h2).1 hh;omega
 rintro D s ⟨hD,hc⟩ a;rcases hc with⟨c,hI⟩ | ⟨j,hj1,hj2,f,hw⟩
 .have:=a n hn;rw[c n (Bz5 _)]at this;cases this
 have e:j=all.length:=by
  by_cases q:j<all.length
  .have:=(f j q).1 (a j q);omega
  omega
 subst e;rw[List.drop_length]at hw;exact hS.refl _ _ hw
def Pe (n:Nat)(ls:List (Nat×Cls)):Cfg->SC
 |.code (.region _ ops true) _ st=>⟨ops.toList.take n,Bx7 ls 0 (ops.toList.take n),ops.toList.take n,st.env,st.Qw,[]⟩
 |_=>⟨[],[],[],[],[],[]⟩
def AE6 (n:Nat)(env:Env)(Qw:C5):Cfg->Cfg
 |.code (.region _ ops true) K _=>.ops ops.toList (ops.toList.drop n) K ⟨env,Qw⟩
 |g=>g
def AE7 (n:Nat):Cfg->Bool
 |.code (.region _ ops true) _ _=>Ip ops.toList&&Bi1 ops.toList n&&ZX ops.toList n
 |_=>false
def AU2 (hS:G0 S P)(hc:pr)(n:Nat)(ls:List (Nat×Cls))(h:DG S P (Pe n ls (stp P g)) λenv Qw=>KG S P F (AE6 n env Qw (stp P g)))(hp:pr=C6 (cnd P g):=by kernel_rfl)(c:CK (stp P g)=true:=by kernel_rfl)(a:P.follows .mixedOrders=true:=by kernel_rfl)
 (b:NM (Pe n ls (stp P g)).all (Pe n ls (stp P g)).cls=true:=by kernel_rfl) (hb:AE7 n (stp P g)=true:=by kernel_rfl):KG S P F g:=by
 have e:(λenv Qw=>KG S P F (AE6 n env Qw (stp P g)))=λenv Qw=>G S P F (AE6 n env Qw (stp P g)):=by funext env Qw;exact propext ⟨λh=>h.out,λh=>⟨h⟩⟩
 rw[e]at h;refine⟨Fv hS hc ?_ hp⟩;have h:=h.out;generalize stp P g=g' at c b h hb;unfold CK at c;split at c
 .rename_i id ops K st;simp only[AE7,By5]at hb;show awp S P (.region id ops true) (kp S P K F) st;simp only[awp,Lc];refine XG hS hb.1.1 hb.1.2 hb.2 ?_;have d:(ops.toList.take n).toArray.toList=ops.toList.take n:=rfl
  have:=Aj9 hS (F:=λe s=>match e with | .normal=>JO S P ops.toList (ops.toList.drop n) (kp S P K F) s | .panic x=>kp S P K F (.panic x) s|_=>False) (K:=[]) (id:=id) (ops:=(ops.toList.take n).toArray) (Bx7 ls 0 (ops.toList.take n)) a b h
  simpa only[G,awp,Lc,kp,Pe]using this
 cases c
end
open Go.RowKit Go.ChangeShapes Go.Deep
mutual
inductive LeD:PV->PV->Prop
 |refl (x:PV):LeD x x
 |sl {k n:Nat}{f g:Nat->List PV}(h:∀i,i<n->LeDs (f i) (g i)):LeD (.sl false k n f) (.sl false k n g)
inductive LeDs:List PV->List PV->Prop
 |nil:LeDs [] []
 |cons {x y:PV}{l r:List PV}(h:LeD x y) (h' : LeDs l r):LeDs (x::l) (y::r)
end
def LeDs.refl:∀l:List PV,LeDs l l
 |[]=>.nil
 |x::l=>.cons (.refl x) (LeDs.refl l)
def LeDs.length {l r:List PV}(h:LeDs l r):l.length=r.length:=by
 induction l generalizing r with
 |nil=>cases h;rfl
 |cons x l ih=>cases h with|cons _ h'=>simp[ih h']
def LeDs.get {l r:List PV}(h:LeDs l r):∀i,LeD (l.getD i default) (r.getD i default):=by
 induction l generalizing r with
 |nil=>cases h;exact λi=>.refl _
 |cons x l ih=>
  cases h with
  |cons h h'=>
   intro i;cases i with
   |zero=>exact h
   |succ i=>simpa using ih h' i
def LeDs.append {a b c d:List PV}(h:LeDs a b)(h' : LeDs c d):LeDs (a++c) (b++d):=by
 induction a generalizing b with
 |nil=>cases h;exact h'
 |cons x l ih=>cases h with|cons h1 h2=>exact .cons h1 (ih h2)
def Sd.leD {w:World}{Pi:Nat->Nat->Prop}{v:Value}{x:PV}(h:Sd w Pi v x):∀{y:PV},LeD x y->Sd w Pi v y:=by
 induction h with
 |slnil k f=>intro y hy;cases hy with
  |refl=>exact .slnil _ _
  |sl h=>exact .slnil _ _
 |sl nn b off cap k n f c hn hk hc h sp hsp ih=>
  intro y hy;cases hy with
  |refl=>exact .sl nn b off cap k n f c hn hk hc h sp hsp
  |sl h'=>exact .sl false b off cap k n _ c hn (λi d=>by rw[<- (h' i d).length];exact hk i d) hc (λi j d g=>ih i j d g ((h' i d).get j)) sp hsp
 |v x=>intro y hy;cases hy;exact .v x
 |bb b=>intro y hy;cases hy;exact .bb b
 |str l=>intro y hy;cases hy;exact .str l
 |agg vs cs hs h1 h ih=>intro y hy;cases hy;exact .agg vs cs hs h1 h
 |ptr b off cs c hc h ih=>intro y hy;cases hy;exact .ptr b off cs c hc h
 |iface t x a h ih=>intro y hy;cases hy;exact .iface t x a h
 |fn f x y a b hx hy ha hb iha ihb=>intro y hy;cases hy;exact .fn f x _ a b hx ‹_› ha hb
def CRep.leD {W:World}{cs:List Value}{p q:List PV}(h:CRep W cs p)(hl:LeDs p q):CRep W cs q:=
 ⟨by rw[h.1,hl.length],λi a=>⟨(h.2 i (by rw[hl.length];exact a)).1.leD (hl.get i),(h.2 i (by rw[hl.length];exact a)).2⟩⟩
section
variable {P:Program}{t e:TypeId}{m:Nat}{pvs:List PV}
def Dt (f:Nat->Nat):Nat->Nat
 |0=>0
 |k+1=>Dt f k+f k
def Bi2 (f:Nat->Nat){k n:Nat}(h:k<=n):Dt f k<=Dt f n:=by
 induction h with
 |refl=>exact Bz5 _
 |step _ ih=>simp only[Dt];omega
def IC (f:Nat->Nat){k n:Nat}(h:k<n):f k<=Dt f n:=by
 have:=Bi2 f (show k+1<=n from h)
 simp only[Dt]at this;omega
def XH {f g:Nat->Nat}:∀{n:Nat},(∀i,i<n->f i<=g i)->Dt f n<=Dt g n
 |0,_=>Bz5 _
 |n+1,h=>by have h1:=XH (n:=n) λi a=>h i (by omega);have b:=h n (by omega);simp only[Dt];omega
def TD (f:Nat->Nat):∀n,Zi ((List.range n).map f)=Dt f n:=by
 have app:∀a b:List Nat,Zi (a++b)=Zi a+Zi b:=by
  intro a b
  induction a with
  |nil=>simp[Zi]
  |cons x r ih=>simp only[BA0,Xn,ih];omega
 intro n
 induction n with
 |zero=>rfl
 |succ n ih=>rw[BH9,BK3,app,ih];simp[Dt,Zi]
def He (P:Program)(t:TypeId){T:Type}(c:T->List PV)(W:T->Prop)(sz:T->Nat):Prop:= ∀(m:Nat) (pvs:List PV),KY P m t pvs->∃x:T,LeDs pvs (c x)/\W x/\sz x<=m
def I3 {k:IntKind}(ht:P.underlying t=some (.int k)):He P t (cI k) (λn=>(Lit.int k n).wf=true) (λ_=>1):=by
 intro m pvs h;cases h with
 |bool ht'=>rw[ht]at ht';cases ht'
 |str ht'=>rw[ht]at ht';cases ht'
 |slice _ ht'=>rw[ht]at ht';cases ht'
 |arr ht'=>rw[ht]at ht';cases ht'
 |struct ht'=>rw[ht]at ht';cases ht'
 |int ht' hw hm=>rw[ht]at ht';cases ht';exact⟨_,LeDs.refl _,hw,hm⟩
def TE (ht:P.underlying t=some .bool):He P t cB (λ_=>True) (λ_=>1):=by
 intro m pvs h;cases h with
 |int ht'=>rw[ht]at ht';cases ht'
 |str ht'=>rw[ht]at ht';cases ht'
 |slice _ ht'=>rw[ht]at ht';cases ht'
 |arr ht'=>rw[ht]at ht';cases ht'
 |struct ht'=>rw[ht]at ht';cases ht'
 |bool ht' hm=>exact⟨_,LeDs.refl _,trivial,hm⟩
def Gw (ht:P.underlying t=some .string):He P t cS (λ_=>True) (λl=>l.length+1):=by
 intro m pvs h;cases h with
 |int ht'=>rw[ht]at ht';cases ht'
 |bool ht'=>rw[ht]at ht';cases ht'
 |slice _ ht'=>rw[ht]at ht';cases ht'
 |arr ht'=>rw[ht]at ht';cases ht'
 |struct ht'=>rw[ht]at ht';cases ht'
 |str ht' hm=>exact⟨_,LeDs.refl _,trivial,hm⟩
def K0 {T:Type}[Inhabited T]{c:T->List PV}{W:T->Prop}{sz:T->Nat}{k:Nat}(ht:P.underlying t=some (.slice e))(hk:P.cellsOf e=k)(h:He P e c W sz) :He P t (cL k c) (λs=>∀i,i<s.n->W (s.g i)) (λs=>Dt (λi=>sz (s.g i)) s.n+1):=by
 intro m pvs hs;cases hs with
 |int ht'=>rw[ht]at ht';cases ht'
 |bool ht'=>rw[ht]at ht';cases ht'
 |str ht'=>rw[ht]at ht';cases ht'
 |arr ht'=>rw[ht]at ht';cases ht'
 |struct ht'=>rw[ht]at ht';cases ht'
 | @slice _ _ e' n f ms ht' hl hel hm=>
  rw[ht]at ht';cases ht';obtain⟨g,b⟩:=choose_lt (α:=T) (p:=λi x=>LeDs (f i) (c x)/\W x/\sz x<=ms i) λi a=>h _ _ (hel i a);refine⟨⟨n,g⟩,?_,λi a=>(b i a).2.1,?_⟩
  .subst hk;exact .cons (.sl λi a=>(b i a).1) .nil
  have h1:=XH (n:=n) λi a=>(b i a).2.2;rw[TD]at hm;show Dt (λi=>sz (g i)) n+1<=m;omega
def J5 {fs:Array Field}(ht:P.underlying t=some (.struct fs))(h:KY P m t pvs):∃m',Ix P m' (fs.toList.map (·.type)) pvs/\m' + 1<=m:=by
 cases h with
 |int ht'=>rw[ht]at ht';cases ht'
 |bool ht'=>rw[ht]at ht';cases ht'
 |str ht'=>rw[ht]at ht';cases ht'
 |slice _ ht'=>rw[ht]at ht';cases ht'
 |arr ht'=>rw[ht]at ht';cases ht'
 |struct ht' h hm=>rw[ht]at ht';cases ht';exact⟨_,h,hm⟩
def B2 {ts:List TypeId}(h:Ix P m (t::ts) pvs):∃a b p q,pvs=p++q/\KY P a t p/\Ix P b ts q/\a+b<=m:=by
 cases h with
 |cons h h' hm=>exact⟨_,_,_,_,rfl,h,h',hm⟩
def P8 (h:Ix P m [] pvs):pvs=[]:=by cases h;rfl
end
section
variable {S:U8}{P:Program}{sc:SC}{k:Env->C5->Prop}{pr:Prop}
end
section
variable {κ ν : Type}
def Ik (eq : κ -> κ -> Bool)(k : κ)(z : ν):List (κ × ν)->Nat × ν×List (κ × ν)
 |[]=>(0,z,[(k,z)])
 |(a,v)::es=>if eq k a then (0,v,(k,v)::es)else ((Ik eq k z es).1+1,(Ik eq k z es).2.1,(a,v)::(Ik eq k z es).2.2)
def Bm3:List (κ × ν)->Nat -> ν -> List (κ × ν)
 |[],_,_=>[]
 |(a,_)::es,0,v=>(a,v)::es
 |p::es,n+1,v=>p::Bm3 es n v
def Pf {kP : κ -> PV}{vP : ν -> PV}{cmp:PV->PV->Option Bool}{eq : κ -> κ -> Bool}(hc:∀a b,cmp (kP a) (kP b)=some (eq a b))(k : κ)(z : ν):∀es:List (κ × ν),
 ∃q,Ft cmp (kP k) (CC kP vP es)=some q/\ent (kP k) (vP z) (CC kP vP es) q=((Ik eq k z es).1,vP (Ik eq k z es).2.1,CC kP vP (Ik eq k z es).2.2)
 |[]=>⟨none,rfl,rfl⟩
 |(a,v)::es=>by
  have e0:CC kP vP ((a,v)::es)=(kP a,vP v)::CC kP vP es:=rfl;rw[e0];simp only[Ft,hc,Ik];cases h:eq k a
  .obtain⟨q,h1,c⟩:=Pf (vP:=vP) hc k z es;refine⟨q.map (· + 1),by simp[h1],?_⟩;cases q with
   |none=>simp only[ent,Bz3]at c;simp only[ent,BL5,By9,Ld,BA2,Bz3];refine⟨by rw[c.1],c.2.1,?_⟩;rw[BA0,c.2.2];rfl
   |some j=>simp only[ent,Bz3]at c;simp only[ent,Bz7,By9,Ld,Bz3];refine⟨by rw[c.1],by simpa using c.2.1,?_⟩;rw[BQ6,BR4,c.2.2];rfl
  exact⟨some 0,rfl,rfl⟩
def XJ {eq : κ -> κ -> Bool}(c:∀a b,eq a b=true->a=b){k : κ}{z v : ν}:∀{es:List (κ × ν)},K6 eq k es=some v->(Ik eq k z es).2=(v,es)
 |[],h=>by cases h
 |(a,x)::es,h=>by
  simp only[K6]at h;simp only[Ik];split at h
  .rename_i hk;cases h;rw[Gy hk,c _ _ hk]
  rename_i hk;rw[Hj hk,XJ c h]
def Lb (eq : κ -> κ -> Bool)(k : κ)(z : ν):∀es:List (κ × ν),(Ik eq k z es).1<(Ik eq k z es).2.2.length
 |[]=>by simp[Ik]
 |(a,v)::es=>by
  have:=Lb eq k z es
  simp only[Ik];split<;>simp<;>omega
def Mb {kP : κ -> PV}{vP : ν -> PV}:∀(es:List (κ × ν)) (i:Nat) (v : ν),i<es.length->Bc7 (CC kP vP es) i (vP v)=CC kP vP (Bm3 es i v)
 |[],i,v,h=>Ij h (by simp)
 |(a,x)::es,0,v,h=>rfl
 |p::es,n+1,v,h=>by have ih:=Mb (kP:=kP) (vP:=vP) es n v (by simpa using h);have e0:CC kP vP (p::es)=(kP p.1,vP p.2)::CC kP vP es:=rfl;have e1:CC kP vP (Bm3 (p::es) (n+1) v)=(kP p.1,vP p.2)::CC kP vP (Bm3 es n v):=rfl;rw[e0,e1,<- ih];simp only[Bc7,BQ6,BR4]
def Mc (eq : κ -> κ -> Bool)(k : κ)(z v : ν):∀es:List (κ × ν),Bm3 (Ik eq k z es).2.2 (Ik eq k z es).1 v=Fz eq k v es
 |[]=>rfl
 |(a,x)::es=>by
  have ih:=Mc eq k z v es;simp only[Ik,Fz];by_cases h:eq k a=true
  .simp only[h,Lc];rfl
  simp only[h,Ld,By9];show (a,x)::Bm3 (Ik eq k z es).2.2 (Ik eq k z es).1 v=_;rw[ih]
end
section
variable {S:U8}{P:Program}{F:J3}{g:Cfg}{pr:Prop}
structure EntI where
 kt:TypeId
 key:PV
 z:PV
 es:List (PV×PV)
end
section
variable {S:U8}{P:Program}{F:J3}{g:Cfg}{pr:Prop}
end
section
variable {S:U8}{P:Program}{pr:Prop}{sc:SC}{k:Env->C5->Prop}
def AU3 (P:Program)(sc:SC):Option EntI:=match sc.cls,sc.rest with
 |cl::_,o::_=>match Ai sc.all sc.env o,o.op,Xk cl sc.env (o.dst.getD 0) o.op with
  |some true,.mapEntry t m k,true=>match aev sc.env k,aev sc.env m with
   |.p key,.Se j=>match A1 sc.Qw j,tk P t with
    |some (.map es),some (.map kt e)=>match HJ P e with
     |some z=>if Gn P kt (nP key) then some ⟨kt,nP key,z,es⟩else none
     |none=>none
    |_,_=>none
   |_,_=>none
  |_,_,_=>none
 |_,_=>none
def XK (P:Program)(sc:SC):Option EntI:=match sc.cls,sc.rest with
 |.l js::_,o::_=>match Ai sc.all sc.env o,o.op with
  |some true,.mapEntry t m k=>match aev sc.env k,aev sc.env m with
   |.p key,.Se j=>if js.contains j then match A1 sc.Qw j,tk P t with
    |some (.map es),some (.map kt e)=>match HJ P e with
     |some z=>if Gn P kt (nP key) then some ⟨kt,nP key,z,es⟩else none
     |none=>none
    |_,_=>none
    else none
   |_,_=>none
  |_,_=>none
 |_,_=>none
def AU4 (i:Nat)(y:PV)(es' : List (PV×PV))(sc:SC):SC:=match sc.rest with
 |o::rest=>match o.op with
  |.mapEntry _ m _=>match aev sc.env m with
   |.Se j=>AS3 o.dst (.tup [.p y,.p (pI .i64 i)]) sc.env (ins j (.map es') sc.Qw) λenv Qw=>⟨sc.all,sc.cls.tail,rest,env,Qw,sc.kn⟩
   |_=>sc
  |_=>sc
 |[]=>sc
def AE8 (hc:pr){kt:TypeId}{key z y:PV}{es es' : List (PV×PV)}{i:Nat}(b:∃q,Ft (Ic P kt) key es=some q/\ent key z es q=(i,y,es'))(d:C6 (HI P kt))(hk:DG S P (AU4 i y es' (Bl P sc)) k)
 (hp:pr=C6 (PR P sc):=by kernel_rfl) (a:AU3 P (Bl P sc)=some ⟨kt,key,z,es⟩:=by kernel_rfl):DG S P sc k:=by
 refine⟨AD8 hc ?_ hp⟩;obtain⟨q,b,r⟩:=b;replace hk:=hk.out;generalize Bl P sc=s at a hk;obtain⟨all,cls,rest,env,Qw,kn⟩:=s;cases rest with
 |nil=>cases cls<;>simp[AU3]at a
 |cons o rest=>
  cases cls with
  |nil=>simp[AU3]at a
  |cons cl cls=>
   simp only[AU3]at a;split at a
   .rename_i t m kk u l f;split at a
    .rename_i kp j h1 n;split at a
     .rename_i es0 kt0 e0 w ht;split at a
      .rename_i z0 x;split at a
       .rename_i g;simp only[By4,EntI.mk.injEq]at a;obtain⟨rfl,rfl,rfl,rfl⟩:=a;simp only[AU4,l,n,EQ,BG0]at hk;refine Ak2 (c:=HI P kt0) (v:=.tup [.p y,.p (pI .i64 i)]) (regs':=ins j (.map es') Qw) u ?_ d f hk;rw[l];simp only[aop,ht,n,h1,w,x,g,b,r]
       cases a
      cases a
     cases a
    cases a
   cases a
def AU5 (hc:pr){kt:TypeId}{key z y:PV}{es:List (PV×PV)}{i:Nat}(g:∃q,Ft (Ic P kt) key es=some q/\ent key z es q=(i,y,es))(n:C6 (HI P kt))(hk:DG S P (AU4 i y es (Bl P sc)) k)
 (hp:pr=C6 (PR P sc):=by kernel_rfl) (a:XK P (Bl P sc)=some ⟨kt,key,z,es⟩:=by kernel_rfl):DG S P sc k:=by
 refine⟨AD8 hc ?_ hp⟩;obtain⟨q,g,x⟩:=g;replace hk:=hk.out;generalize Bl P sc=s at a hk;obtain⟨all,cls,rest,env,Qw,kn⟩:=s;cases rest with
 |nil=>cases cls<;>simp[XK]at a
 |cons o rest=>
  cases cls with
  |nil=>simp[XK]at a
  |cons cl cls=>
   cases cl with
   |l js=>
    simp only[XK]at a;split at a
    .rename_i t m kk hg u;split at a
     .rename_i kp j h1 v;split at a
      .rename_i c;split at a
       .rename_i es0 kt0 e0 f ht;split at a
        .rename_i z0 hz;split at a
         .rename_i r;simp only[By4,EntI.mk.injEq]at a;obtain⟨rfl,rfl,rfl,rfl⟩:=a;simp only[AU4,u,v,EQ,BG0]at hk;have w:∀R2:C5,A1 R2 j=some (.map es0)->aop P env R2 (o.dst.getD 0) o.op=some ⟨HI P kt0,.tup [.p y,.p (pI .i64 i)],ins j (.map es0) R2⟩:=by intro R2 b;rw[u];simp only[aop,ht,v,h1,b,hz,r,g,x]
          have d:∀R2:C5,A1 R2 j=some (.map es0)->∀q,A1 (ins j (.map es0) R2) q=A1 R2 q:=by
           intro R2 b q;rw[O1];split
           .rename_i e;subst e;exact b.symm
           rfl
          refine⟨true,hg,?_⟩;rw[Gy rfl];exact⟨_,_,.inl ⟨_,w Qw f,n,trivial,d Qw f,λR2 h=>⟨_,w R2 ((h j (by simpa using c)).trans f),d R2 ((h j (by simpa using c)).trans f)⟩⟩,hk⟩
         cases a
        cases a
       cases a
      cases a
     cases a
    cases a
   |_=>simp[XK]at a
def AU6 (sc:SC):Option (Int×PV×List (PV×PV)):=match sc.cls,sc.rest with
 |cl::_,o::_=>match Ai sc.all sc.env o,o.op,Xk cl sc.env (o.dst.getD 0) o.op with
  |some true,.entryStore _ m s x,true=>match aev sc.env m,asInt (aev sc.env s),DO sc.Qw (aev sc.env x)with
   |.Se j,some s,some (y,Qw)=>match A1 Qw j with
    |some (.map es)=>some (s,y,es)
    |_=>none
   |_,_,_=>none
  |_,_,_=>none
 |_,_=>none
def Bs2 (es' : List (PV×PV))(sc:SC):SC:=match sc.rest with
 |o::rest=>match o.op with
  |.entryStore _ m s x=>match aev sc.env m,DO sc.Qw (aev sc.env x)with
   |.Se j,some (_,Qw)=>AS3 o.dst LC sc.env (ins j (.map es') Qw) λenv Qw=>⟨sc.all,sc.cls.tail,rest,env,Qw,sc.kn⟩
   |_,_=>sc
  |_=>sc
 |[]=>sc
def Ve (hc:pr){i:Nat}{y:PV}{es es' : List (PV×PV)}(r:i<es.length)(g:Bc7 es i y=es')(hk:DG S P (Bs2 es' (Bl P sc)) k)
 (hp:pr=C6 (PR P sc):=by kernel_rfl) (a:AU6 (Bl P sc)=some ((i:Int),y,es):=by kernel_rfl):DG S P sc k:=by
 refine⟨AD8 hc ?_ hp⟩;replace hk:=hk.out;generalize Bl P sc=s at a hk;obtain⟨all,cls,rest,env,Qw,kn⟩:=s;cases rest with
 |nil=>cases cls<;>simp[AU6]at a
 |cons o rest=>
  cases cls with
  |nil=>simp[AU6]at a
  |cons cl cls=>
   simp only[AU6]at a;split at a
   .rename_i t m s x l d b;split at a
    .rename_i j sv y0 regs1 h1 n f;split at a
     .rename_i es0 q;simp only[By4,Bz3]at a;obtain⟨rfl,rfl,rfl⟩:=a;subst g;simp only[Bs2,d,h1,f,EQ,BG0]at hk;refine Ak2 (c:=[0<=(i:Int)/\(i:Int)<(es0.length:Int)]) (v:=LC) (regs':=ins j (.map (Bc7 es0 i y0)) regs1) l ?_ (show 0<=(i:Int)/\(i:Int)<(es0.length:Int) by omega) b hk;rw[d];simp only[aop,h1,n,f,q];rfl
     cases a
    cases a
   cases a
end
section
variable {S:U8}{P:Program}{F:J3}{g:Cfg}{pr:Prop}
end
section
variable {S:U8}{P:Program}{pr:Prop}{sc:SC}{k:Env->C5->Prop}
end
section
variable {S:U8}{P:Program}{F:J3}{g:Cfg}{pr:Prop}
def bldK (P:Program):Cfg->Cfg
 |.ops all (o::rest) K st=>match bop P st.Qw (o.dst.getD 0) o.op with
  |some out=>Ar4 o.dst out.val st.env out.Qw λst=>.ops all rest K st
  |none=>.ops all (o::rest) K st
 |g=>g
def bldI (P:Program):Cfg->Bool
 |.ops all (o::rest) K st=>(match Bn all st.env o with|some true=>true|_=>false)&&(bop P st.Qw (o.dst.getD 0) o.op).isSome
 |_=>false
def K_bld (hS:G0 S P)(hc:pr)(d:Nat)(hk:KG S P F (bldK P (HM P d g)))
 (hp:pr=C6 (Bg2 P d g):=by kernel_rfl) (f:bldI P (HM P d g)=true:=by kernel_rfl):KG S P F g:=by
 refine⟨(GT (u:=some d) (F:=F) hS 400 [] g (by subst hp;exact hc)).2 ?_⟩;have hk:=hk.out;show G S P F (HM P d g);generalize HM P d g=g1 at hk f;unfold bldI at f;split at f
 .rename_i all o rest K st;simp only[By5]at f;obtain⟨j,hb⟩:=f;split at j
  .rename_i i;obtain⟨out,a⟩:=BA1.1 hb;simp only[bldK,a,FQ]at hk;refine Bo hS i ?_;have b:C6 out.cond:=by
    unfold bop at a;split at a
    .split at a
     .cases a;exact trivial
     cases a
    cases a
   unfold wOp;split
   .rename_i c;rw[c]at a;simp[bop]at a
   .rename_i c;rw[c]at a;simp[bop]at a
   .rename_i c;rw[c]at a;simp[bop]at a
   .rename_i c;rw[c]at a;simp[bop]at a
   exact .inr (.inr ⟨out,a,b,hk⟩)
  cases j
 cases f
structure NextI where
 cl:Nat
 last:Nat
 seen:List Nat
 es:List (PV×PV)
def Bs3:Cfg->Option NextI
 |.ops all (o::rest) K st=>match Bn all st.env o,o.op with
  |some true,.next x false=>match aev st.env x with
   |.reg j 0=>match A1 st.Qw j with
    |some (.blk (1::cl::last::seen) jm)=>match A1 st.Qw jm with
     |some (.map es)=>some ⟨cl,last,seen,es⟩
     |_=>none
    |_=>none
   |_=>none
  |_,_=>none
 |_=>none
def Bs4:Cfg->Cfg
 |.ops all (o::rest) K st=>Ar4 o.dst (.tup [.p (.bb false)]) st.env st.Qw λst=>.ops all rest K st
 |g=>g
def Bs5 (i:Nat)(ky vl:PV):Cfg->Cfg
 |.ops all (o::rest) K st=>match o.op with
  |.next x _=>match aev st.env x with
   |.reg j _=>match A1 st.Qw j with
    |some (.blk (_::cl::_::seen) jm)=>match A1 st.Qw jm with
     |some (.map es)=>Ar4 o.dst (.tup [.p (.bb true),.p ky,.p vl]) st.env (ins j (.blk (1::cl::es.length::(i::seen)) jm) st.Qw) λst=>.ops all rest K st
     |_=>.ops all (o::rest) K st
    |_=>.ops all (o::rest) K st
   |_=>.ops all (o::rest) K st
  |_=>.ops all (o::rest) K st
 |g=>g
def Bs6 (hS:G0 S P)(hc:pr){cl last:Nat}{seen:List Nat}{es:List (PV×PV)}(h1:cl=es.length)(q:cl<=last){ky vl:Nat->PV}(f:∀i,i<es.length->es.getD i default=(ky i,vl i))
 (d:(∀i,i<es.length->i∈seen)->KG S P F (Bs4 (stp P g))) (ht:∀i,i<es.length->i ∉ seen->KG S P F (Bs5 i (ky i) (vl i) (stp P g)))
 (hp:pr=C6 (cnd P g):=by kernel_rfl) (c:Bs3 (stp P g)=some ⟨cl,last,seen,es⟩:=by kernel_rfl):KG S P F g:=by
 refine⟨Fv hS hc ?_ hp⟩;replace d:=λx=>(d x).out;replace ht:=λi a b=>(ht i a b).out;generalize stp P g=g1 at d ht c;unfold Bs3 at c;split at c
 .rename_i all o rest K st;split at c
  .rename_i x r l;split at c
   .rename_i j hx;split at c
    .rename_i cl' last' seen' jm m;split at c
     .rename_i es' hm;cases c;simp only[Bs4,Bs5,l,hx,m,hm,FQ]at d ht;refine Bo hS r ?_;unfold wOp;rw[l];exact⟨j,cl,last,seen,jm,es,hx,m,hm,h1,q,d,λi n hs=>by rw[f i n];exact ht i n hs⟩
     cases c
    cases c
   cases c
  cases c
 cases c
structure EntVI where
 last:Nat
 i:Nat
 es:List (PV×PV)
def Bs7:Cfg->Option EntVI
 |.ops all (o::rest) K st=>match Bn all st.env o,o.op with
  |some true,.entry x=>match aev st.env x with
   |.reg j 0=>match A1 st.Qw j with
    |some (.blk (1::_::last::i::_) jm)=>match A1 st.Qw jm with
     |some (.map es)=>some ⟨last,i,es⟩
     |_=>none
    |_=>none
   |_=>none
  |_,_=>none
 |_=>none
def Bs8 (ky vl:PV):Cfg->Cfg
 |.ops all (o::rest) K st=>Ar4 o.dst (.tup [.p ky,.p vl]) st.env st.Qw λst=>.ops all rest K st
 |g=>g
def Bs9 (hS:G0 S P)(hc:pr)(d:Nat){last i:Nat}{es:List (PV×PV)}(h1:last=es.length)(f:i<es.length)(ky vl:PV)(b:es.getD i default=(ky,vl))(hk:KG S P F (Bs8 ky vl (HM P d g)))
 (hp:pr=C6 (Bg2 P d g):=by kernel_rfl) (a:Bs7 (HM P d g)=some ⟨last,i,es⟩:=by kernel_rfl):KG S P F g:=by
 refine⟨(GT (u:=some d) (F:=F) hS 400 [] g (by subst hp;exact hc)).2 ?_⟩;have hk:=hk.out;show G S P F (HM P d g);generalize HM P d g=g1 at hk a;unfold Bs7 at a;split at a
 .rename_i all o rest K st;split at a
  .rename_i x l m;split at a
   .rename_i j hx;split at a
    .rename_i cl' last' i' seen' jm n;split at a
     .rename_i es' hm;cases a;simp only[Bs8,FQ]at hk;refine Bo hS l ?_;refine KX (c:=[last=es.length/\i<es.length]) (v:=.tup [.p ky,.p vl]) (R':=st.Qw) ?_ ⟨h1,f⟩ hk;rw[m];simp only[aop,hx,n,hm,b]
     cases a
    cases a
   cases a
  cases a
 cases a
def Bt0 (hS:G0 S P)(hc:pr)(n:Nat)(Pr:Nat->Prop)(s:List Nat->St){ids:List (Nat×Nat)}
 (f:∀(X:Type) (s' : X->St) (J:X->Prop) (m:X->Nat) (k:Nat) (seen:List Nat),(∀i∈seen,i<n/\Pr i) ->
  (∀(g' : Cfg) (ids:List (Nat×Nat)) (pr:Prop) (i:Nat),pr->i<n->i ∉ seen->Pr i->(hp:pr=C6 (cnd P g'):=by kernel_rfl)->(c:stp P g' = .pop .normal (.lp X s' J m k::(stp P g).k) (stp P g').st:=by kernel_rfl)->(hle:KLe ids (stp P g').st (s (i::seen)):=by exact kl)->KG S P F g') ->
  KG S P F (.code (PO (stp P g)) (.lp X s' J m k::(stp P g).k) (s seen)))
 (hp:pr=C6 (cnd P g):=by kernel_rfl) (hl:HN (stp P g)=true:=by kernel_rfl) (hle:KLe ids (stp P g).st (s []):=by exact kl):KG S P F g:=by
 refine⟨Fv hS hc ?_ hp⟩;rw[UU hl];refine Ai0 hS s (λseen=>∀i∈seen,i<n/\Pr i) (λseen=>((List.range n).filter λi=>!seen.contains i).length) [] ids hle.out (λi b=>by cases b) λseen d=>?_;refine (f (List Nat) s _ _ _ seen d λg' ids pr i hc b hs j hp c hle=>⟨Fv hS hc ?_ hp⟩).out;rw[c];refine Zs hS (i::seen) ids hle.out (λq a=>?_) ?_
 .rcases BC1.1 a with rfl|a
  .exact⟨b,j⟩
  exact d q a
 refine filter_lt (λq=>!seen.contains q) (λq=>!(i::seen).contains q) (λq a=>?_) i ?_ ?_ (List.range n) (BC0.2 b)
 .simp only[BA7,BC2,decide_eq_false_iff_not,BC1,not_or]at a⊢;exact a.2
 .simpa using hs
 simp
end
section
variable {S:U8}{P:Program}{pr:Prop}{sc:SC}{k:Env->C5->Prop}
def Bi3:AV->Bool
 |.vec _ | .vecp _ _=>false
 |_=>true
def Pg {R:C5}:∀{l:List AV},l.all Bi3=true->Im R l=some (l,R)
 |[],_=>rfl
 |a::r,h=>by simp only[BI3,By5]at h;simp only[Im,Pg h.2];cases a<;>first|rfl|exact Ij h.1 (by simp[Bi3])
def Qc {ids:List Nat}{R R2:C5}:∀{l:List Nat},(∀j∈l,A1 R2 j=A1 R j)->M0 ids R2 l=M0 ids R l
 |[],_=>rfl
 |j::l,h=>by simp only[M0,h j (by simp),Qc (l:=l) λq a=>h q (by simp[a])]
def Gx {q:Nat}:∀{ids:List Nat}{ks:List Bool}{R:C5},q ∉ ids->A1 (J9 ids ks R) q=A1 R q
 |[],ks,R,_=>by cases ks<;>rfl
 |j::ids,[],R,h=>by simp only[BC1,not_or]at h;simp only[J9];rw[Gx h.2,O1,Hj (BC5 h.1)]
 |j::ids,b::ks,R,h=>by
  simp only[BC1,not_or]at h;simp only[J9];split
  .exact Gx h.2
  rw[Gx h.2,O1,Hj (BC5 h.1)]
def Hf {q:Nat}:∀{ids:List Nat}{ks:List Bool}{A B:C5},A1 A q=A1 B q->A1 (J9 ids ks A) q=A1 (J9 ids ks B) q
 |[],ks,A,B,h=>by cases ks<;>exact h
 |j::ids,[],A,B,h=>by simp only[J9];exact Hf (by rw[O1,O1,h])
 |j::ids,b::ks,A,B,h=>by
  simp only[J9];split
  .exact Hf h
  exact Hf (by rw[O1,O1,h])
def Vf (ids:List Nat)(ks:List Bool)(n:Nat)(sc:SC):Bool:=match sc.cls,sc.rest with
 |.a js::_,o::_=>match o.op with
  |.call c=>((c.args.toList.map (aev sc.env)).all Bi3&&ids.all λq=>js.contains q)&&(((G7 (o.dst.getD 0) ids ks n).all λq=>js.contains q)&&((List.range n).all λp=>js.contains (nid (o.dst.getD 0) p))&&X1 sc.Qw ids ks (o.dst.getD 0) n)
  |_=>false
 |_,_=>false
def Vg (ids:List Nat)(hc:pr){fn:FuncId}{args:List AV}{objs objs' : List Obj}{r:AV}{ks:List Bool}(hF:Sb S fn args objs r objs' ks)(hk:DG S P (PX ids ks r objs' (Bl P sc)) k)
 (hp:pr=C6 (PR P sc):=by kernel_rfl) (b:PT ids (Bl P sc)=some (fn,args,objs):=by kernel_rfl) (hn:Vf ids ks objs'.length (Bl P sc)=true:=by kernel_rfl):DG S P sc k:=by
 refine⟨AD8 hc ?_ hp⟩;replace hk:=hk.out;generalize Bl P sc=s at b hn hk;obtain⟨all,cls,rest,env,Qw,kn⟩:=s;cases rest with
 |nil=>simp[PT]at b
 |cons o rest=>
  simp only[PT]at b;split at b
  .rename_i c hg t;split at b
   .rename_i f u;split at b
    .rename_i as regs1 ha;split at b
     .rename_i fn' as' hw;split at b
      .rename_i a0 ob0 hr v;split at b
       .rename_i i;cases b;simp only[By5]at i;cases cls with
        |nil=>simp[Vf]at hn
        |cons cl cls=>
         cases cl with
         |a js=>
          simp only[Vf,t,By5]at hn;obtain⟨⟨l,w⟩,⟨x,y⟩,m⟩:=hn;rw[Pg l]at ha;cases ha;simp only[PX,t,Pg l,EQ,BG0]at hk;have d:∀q∈ids,q∈js:=λq g=>by simpa using Bz2.1 w q g
          have n:∀q,q ∉ js->q ∉ G7 (o.dst.getD 0) ids ks objs'.length:=λq g h=>g (by simpa using Bz2.1 x q h);refine⟨true,hg,?_⟩;rw[Gy rfl];refine⟨_,_,.inr (.inr (.inr (.inr ⟨js,rfl,λq g=>?_,λR2 z=>?_⟩))),hk⟩
          .rw[JC (n q g),Gx λh=>g (d q h)]
          refine⟨_,.inl ⟨c,f,_,R2,fn,as',args,objs,objs',ks,r,ids,t,u,Pg l,hw,hr,(Qc λj hj=>z j (d j hj)).trans v,hF,i.1,i.2,?_,rfl,rfl⟩,λq g=>PU (Hf (z q g)),λq g=>(JC (n q g)).trans (Gx λh=>g (d q h))⟩;unfold X1 at m⊢;rw[Bz2]at m⊢;intro p hp;have h1:=m p hp;have h3:nid (o.dst.getD 0) p∈js:=by simpa using Bz2.1 y p hp
          rw[z _ h3];exact h1
         |_=>simp[Vf]at hn
       cases b
      cases b
     cases b
    cases b
   cases b
  cases b
end
section
variable {S:U8}{P:Program}{g:Cfg}{pr:Prop}
def AE9 (outs:List Nat):List Nat->List Obj->C5
 |j::js,o::os=>ins j (unO outs o) (AE9 outs js os)
 |_,_=>[]
def AF0:List ResultVar->List AV->Env
 |.tmp t::rs,a::l=>ins t a (AF0 rs l)
 |_,_=>[]
def AF1 (rs:List ResultVar)(outs:List Nat)(a:AV)(objs:List Obj):St:=
 ⟨match rs with
  |[r]=>AF0 [r] [unA outs a]
  |rs=>match a with
   |.tup l=>AF0 rs (unL outs l)
   |_=>[],AE9 outs outs objs⟩
def Bt1 (R:C5)(outs:List Nat):List (Nat×Nat):=(outs.filter λj=>(A1 R j).isSome).map λj=>(j,j)
def kOi (hS:G0 S P)(hc:pr){n:Nat}{rs:List ResultVar}{Q:ARes->List Obj->List Bool->Prop}{a:AV}{objs:List Obj}(ids:List (Nat×Nat))(outs:List Nat)(b:Q (.ret a) objs (Fy n outs):=by exact⟨rfl,rfl,rfl⟩)(hp:pr=C6 (cnd P g):=by kernel_rfl)
 (c:(AR5 (stp P g)).isSome=true:=by kernel_rfl) (hle:KLe ids (stp P g).st (AF1 rs outs a objs):=by exact kl) (d:UV P (AF1 rs outs a objs) rs outs=some (a,objs):=by kernel_rfl):KG S P (Cm S P n rs Q) g:=
 M8 hS hc (AF1 rs outs a objs) outs b hp c hle d
def kO (hS:G0 S P)(hc:pr){n:Nat}{rs:List ResultVar}{Q:ARes->List Obj->List Bool->Prop}{a:AV}{objs:List Obj}(outs:List Nat)(b:Q (.ret a) objs (Fy n outs):=by exact⟨rfl,rfl,rfl⟩)(hp:pr=C6 (cnd P g):=by kernel_rfl)
 (c:(AR5 (stp P g)).isSome=true:=by kernel_rfl) (hle:KLe (Bt1 (stp P g).st.Qw outs) (stp P g).st (AF1 rs outs a objs):=by exact kl) (d:UV P (AF1 rs outs a objs) rs outs=some (a,objs):=by kernel_rfl):KG S P (Cm S P n rs Q) g:=
 kOi hS hc _ outs b hp c hle d
end
section
variable {α : Type}
def AF2 (c : α -> List PV):Nat->List α -> List (Nat×List PV)
 |_,[]=>[]
 |k,a::l=>(k,c a)::AF2 c (k+1) l
def XL (c : α -> List PV)(z:List PV):∀(l:List α) (k i:Nat) (d : α),i<l.length->H0 z (AF2 c k l) (k+i)=c (l.getD i d)
 |[],k,i,d,h=>Ij h (BB5 i)
 |a::l,k,0,d,h=>by simp[AF2,H0]
 |a::l,k,i+1,d,h=>by
  have:=XL c z l (k+1) i d (BP1 h)
  rw[show k+1+i=k+(i+1) by omega]at this;simp only[AF2,H0];rw[Hj (by omega),this];rfl
def Ay3 [Inhabited α](c : α -> List PV)(l:List α)(z:List PV):(Sf.fn l.length (Sl.of l).n (H0 z (AF2 c 0 l)) (λi=>c ((Sl.of l).g i))).ok:=⟨rfl,λi a=>by
 have:=XL c z l 0 i default a
 rw[BE1]at this;exact this⟩
def Ci (c : α -> List PV)(v:Sl α)(x : α)(z:List PV):(Sf.fn (v.n+1) (v.push x).n (Ey v.n (λi=>c (v.g i)) (H0 z [(0,c x)])) (λi=>c ((v.push x).g i))).ok:=⟨rfl,app1 same rfl rfl⟩
def Bx8 (c : α -> List PV)(v w:Sl α):(Sf.fn (v.n+w.n) (v.app w).n (Ey v.n (λi=>c (v.g i)) (λi=>c (w.g i))) (λi=>c ((v.app w).g i))).ok:=⟨rfl,Bm2 same rfl same rfl⟩
def NP (n:Nat)(f:Nat->PV):(Sf.fn n n (λi=>[(λi=>(DL n f).getD i default) i]) (λi=>[f i])).ok:=⟨rfl,Dg n f⟩
def AU7 (n:Nat)(z:PV):(Sf.fn n n (λi=>[(λi=>(List.replicate n z).getD i default) i]) (λ_=>[z])).ok:=⟨rfl,Qa rfl⟩
def AM7 (c : α -> List PV)(v:Sl α)(z:List PV):(Sf.fn (0+v.n) v.n (Ey 0 (H0 z []) (λi=>c (v.g i))) (λi=>c (v.g i))).ok:=⟨BE1 _,λi _=>by simp[Ey]⟩
variable {ids:List (Nat×Nat)}{s t:St}{L M:Sf}
def kl1 (i:Nat)(h:L.ok)(h1:(leK ids s t).map (AS0 [i] Sf.src)=(leK ids s t).map (AS0 [i] Sf.tgt):=by kernel_rfl)
 (a:(leK ids s t).map (λK=>[K[i]?])=some [some L]:=by kernel_rfl):KLe ids s t:=klR [(i,L)] (al1 h al0) h1 a
def kl2 (i j:Nat)(h:L.ok)(g:M.ok)(h1:(leK ids s t).map (AS0 [i,j] Sf.src)=(leK ids s t).map (AS0 [i,j] Sf.tgt):=by kernel_rfl)
 (a:(leK ids s t).map (λK=>[K[i]?,K[j]?])=some [some L,some M]:=by kernel_rfl):KLe ids s t:=klR [(i,L),(j,M)] (al1 h (al1 g al0)) h1 a
end
section
variable {S:U8}{P:Program}{F:J3}{g:Cfg}{pr:Prop}{sc:SC}{k:Env->C5->Prop}{κ ν : Type}
def lkC {kP : κ -> PV}{vP : ν -> PV}{cmp:PV->PV->Option Bool}{eq : κ -> κ -> Bool}(hc:∀a b,cmp (kP a) (kP b)=some (eq a b)){q : κ}{es:List (κ × ν)}{r:Option ν}(o:K6 eq q es=r):find cmp (kP q) (CC kP vP es)=some (r.map vP):=by subst o;exact Xq hc q es
def ZY (hS:G0 S P)(hc:pr)(kt e:TypeId)(kP : κ -> PV)(vP : ν -> PV)(eq : κ -> κ -> Bool){q : κ}{es:List (κ × ν)}{v : ν}(o:K6 eq q es=some v)(c:C6 (HI P kt))(hk:KG S P F (AD7 (vP v) true (stp P g)))
 (d:∀a b,Ic P kt (kP a) (kP b)=some (eq a b):=by exact λ_ _=>by kernel_rfl) (hp:pr=C6 (cnd P g):=by kernel_rfl) (f:AD6 P (stp P g)=some ⟨kt,e,kP q,CC kP vP es⟩:=by kernel_rfl) (hx:Xs P e (some (vP v))=some (vP v,true):=by kernel_rfl):KG S P F g:=
 Al5 hS hc (lkC d o) c hk hp f hx
def ZZ (hS:G0 S P)(hc:pr)(kt e:TypeId)(kP : κ -> PV)(vP : ν -> PV)(eq : κ -> κ -> Bool){q : κ}{es:List (κ × ν)}(o:K6 eq q es=none)(x:PV)(c:C6 (HI P kt))(hk:KG S P F (AD7 x false (stp P g)))
 (d:∀a b,Ic P kt (kP a) (kP b)=some (eq a b):=by exact λ_ _=>by kernel_rfl) (hp:pr=C6 (cnd P g):=by kernel_rfl) (f:AD6 P (stp P g)=some ⟨kt,e,kP q,CC kP vP es⟩:=by kernel_rfl) (hx:Xs P e none=some (x,false):=by kernel_rfl):KG S P F g:=
 Al5 hS hc (lkC d o) c hk hp f hx
def As1 (hS:G0 S P)(hc:pr)(kt:TypeId)(kP : κ -> PV)(vP : ν -> PV)(eq : κ -> κ -> Bool)(q : κ)(y : ν)(es:List (κ × ν))(c:C6 (HI P kt))(hk:KG S P F (Bx5 (CC kP vP (Fz eq q y es)) (stp P g)))
 (d:∀a b,Ic P kt (kP a) (kP b)=some (eq a b):=by exact λ_ _=>by kernel_rfl) (hp:pr=C6 (cnd P g):=by kernel_rfl) (f:Bx4 P (stp P g)=some (kt,kP q,vP y,CC kP vP es):=by kernel_rfl):KG S P F g:=
 AS9 hS hc (US d q y es) c hk hp f
def AU8 (hc:pr)(kt e:TypeId)(kP : κ -> PV)(vP : ν -> PV)(eq : κ -> κ -> Bool){q : κ}{es:List (κ × ν)}{v : ν}(o:K6 eq q es=some v)(c:C6 (HI P kt))(hk:DG S P (Xu (vP v) true (Bl P sc)) k)
 (d:∀a b,Ic P kt (kP a) (kP b)=some (eq a b):=by exact λ_ _=>by kernel_rfl) (hp:pr=C6 (PR P sc):=by kernel_rfl) (f:PY P (Bl P sc)=some ⟨kt,e,kP q,CC kP vP es⟩:=by kernel_rfl) (hx:Xs P e (some (vP v))=some (vP v,true):=by kernel_rfl):DG S P sc k:=
 Al6 hc (lkC d o) c hk hp f hx
def Bi4 (hc:pr)(kt e:TypeId)(kP : κ -> PV)(vP : ν -> PV)(eq : κ -> κ -> Bool){q : κ}{es:List (κ × ν)}(o:K6 eq q es=none)(x:PV)(c:C6 (HI P kt))(hk:DG S P (Xu x false (Bl P sc)) k)
 (d:∀a b,Ic P kt (kP a) (kP b)=some (eq a b):=by exact λ_ _=>by kernel_rfl) (hp:pr=C6 (PR P sc):=by kernel_rfl) (f:PY P (Bl P sc)=some ⟨kt,e,kP q,CC kP vP es⟩:=by kernel_rfl) (hx:Xs P e none=some (x,false):=by kernel_rfl):DG S P sc k:=
 Al6 hc (lkC d o) c hk hp f hx
def Vh (hc:pr)(kt:TypeId)(kP : κ -> PV)(vP : ν -> PV)(eq : κ -> κ -> Bool)(q : κ)(y : ν)(es:List (κ × ν))(c:C6 (HI P kt))(hk:DG S P (AS7 (CC kP vP (Fz eq q y es)) (Bl P sc)) k)
 (d:∀a b,Ic P kt (kP a) (kP b)=some (eq a b):=by exact λ_ _=>by kernel_rfl) (hp:pr=C6 (PR P sc):=by kernel_rfl) (f:Xv P (Bl P sc)=some (kt,kP q,vP y,CC kP vP es):=by kernel_rfl):DG S P sc k:=
 AT0 hc (US d q y es) c hk hp f
end
abbrev oV {α : Type}(t:TypeId)(k:Nat)(c : α -> List PV)(s:Sl α)(b:Bool):Obj:=.vec t k s.n (λi=>c (s.g i)) b
abbrev oM {κ ν : Type}(kP : κ -> PV)(vP : ν -> PV)(es:List (κ × ν)):Obj:=.map (CC kP vP es)
end Go.AM
