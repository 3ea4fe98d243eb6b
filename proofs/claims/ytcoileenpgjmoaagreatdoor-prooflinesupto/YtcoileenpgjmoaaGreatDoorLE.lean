/- Part 5. -/
import Derived.Test.YtcoileenpgjmoaaGreatDoorLD
import Derived.KernelRfl
import Derived.Laws.IdiomRangeMap
set_option linter.defProp false
set_option linter.unusedSimpArgs false
set_option linter.unusedVariables false
set_option linter.unusedSectionVars false
namespace Go.AM
def Fc:=True.intro
def Bm6:=@List.mem_singleton
def Bo1:=@Nat.le_of_ble_eq_true
def Bp1:=@List.tail_cons
def Br9:=@List.map_append
def Bt6:=@List.range_succ
def By2:=@List.isEmpty_iff
def By4:=@Nat.lt_of_succ_lt_succ
def BA0:=@List.getD_cons_succ
def BA8:=@List.set_cons_succ
section
variable (P:Program)
def stp (g:Cfg):Cfg:=(run P none 400 [] g).cfg
def cnd (g:Cfg):List Prop:=(run P none 400 [] g).conds
def Hs (d:Nat)(g:Cfg):Cfg:=(run P (some d) 400 [] g).cfg
def AP5 (d:Nat)(g:Cfg):List Prop:=(run P (some d) 400 [] g).conds
def Cfg.st:Cfg->St
 |.code _ _ s=>s
 |.ops _ _ _ s=>s
 |.pop _ _ s=>s
def Cfg.k:Cfg->List It
 |.code _ K _=>K
 |.ops _ _ K _=>K
 |.pop _ K _=>K
def mkO {R:Type _}(env:Env)(Ls:C4)(κ : Env->C4->R):R:=fE env λenv=>fR Ls λregs=>κ env Ls
def Gr {R:Type _}(env:Env)(Ls:C4)(κ : Env->C4->R):mkO env Ls κ = κ env Ls:=by simp only[mkO,fE_eq,AM4]
def Ab9 {R:Type _}(d:Option Nat)(a:AV)(env:Env)(Ls:C4)(κ : St->R):R:=match d with
 |some d=>mkO (ins d a env) Ls λenv Ls=>κ ⟨env,Ls⟩
 |none=>mkO env Ls λenv Ls=>κ ⟨env,Ls⟩
def FT {R:Type _}(d:Option Nat)(a:AV)(env:Env)(Ls:C4)(κ : St->R):Ab9 d a env Ls κ = κ (put ⟨env,Ls⟩ d a):=by cases d<;>simp only[Ab9,Gr,put]
def Az1:Cfg->Option Bool
 |.code (.cond c _ _) _ st=>match aev st.env c with
  |.p (.bb b)=>some b
  |_=>none
 |_=>none
def AP6:Cfg->Cfg
 |.code (.cond _ t _) K st=>.code t K st
 |g=>g
def AP7:Cfg->Cfg
 |.code (.cond _ _ e) K st=>.code e K st
 |g=>g
def YX:Cfg->Option Bool
 |.ops all (o::_) _ st=>match o.guard with
  |some (j,_)=>match AX5 all j with
   |some d=>match get st.env d with
    |.p (.bb b)=>some b
    |_=>none
   |none=>none
  |none=>none
 |_=>none
def Or (b:Bool):Cfg->Cfg
 |.ops all (o::rest) K st=>match o.guard with
  |some (j,_)=>match AX5 all j with
   |some d=>Ab9 (some d) (.p (.v (.bool b))) st.env st.Ls λst=>.ops all (o::rest) K st
   |none=>.ops all (o::rest) K st
  |none=>.ops all (o::rest) K st
 |g=>g
def Ac0 (ids:List Nat):Cfg->Option (FuncId×List AV×List Obj)
 |.ops all (o::_) _ st=>match BA all st.env o,o.op with
  |some true,.call c=>match c.callee with
   |.value f=>match HN st.Ls (c.args.toList.map (aev st.env))with
    |some (as,Ls)=>match QZ st.env f as with
     |some (fn,as')=>match Ef ids as',M9 ids Ls ids with
      |some a,some ob=>if I1 ids&&Fz ob then some (fn,a,ob)else none
      |_,_=>none
     |none=>none
    |none=>none
   |_=>none
  |_,_=>none
 |_=>none
def Ac1 (ids:List Nat)(ks:List Bool)(n:Nat):Cfg->Bool
 |.ops _ (o::_) _ st=>match o.op with
  |.call c=>match HN st.Ls (c.args.toList.map (aev st.env))with
   |some (_,Ls)=>X3 Ls ids ks (o.dst.getD 0) n
   |none=>false
  |_=>false
 |_=>false
def Az2 (ids:List Nat)(ks:List Bool)(r:AV)(objs' : List Obj):Cfg->Cfg
 |.ops all (o::rest) K st=>match o.op with
  |.call c=>match HN st.Ls (c.args.toList.map (aev st.env))with
   |some (_,Ls)=>Ab9 o.dst (unA (H4 (o.dst.getD 0) ids ks objs'.length) r) st.env
    (back (H4 (o.dst.getD 0) ids ks objs'.length) (H4 (o.dst.getD 0) ids ks objs'.length) objs' (K8 ids ks Ls)) λst=>.ops all rest K st
   |none=>.ops all (o::rest) K st
  |_=>.ops all (o::rest) K st
 |g=>g
structure LookI where
 kt:TypeId
 e:TypeId
 key:PV
 es:List (PV×PV)
def Al5:Cfg->Option LookI
 |.ops all (o::_) _ st=>match BA all st.env o,o.op with
  |some true,.lookup t m k _=>match Ee st.Ls (aev st.env k),aev st.env m with
   |some (key,Ls),.Ni j=>match A1 Ls j,tk P t with
    |some (.map es),some (.map kt e)=>if Gj P kt key then some ⟨kt,e,key,es⟩else none
    |_,_=>none
   |_,_=>none
  |_,_=>none
 |_=>none
def UV (e:TypeId):Option PV->Option (PV×Bool)
 |some x=>some (x,true)
 |none=>(Ho P e).map λz=>(z,false)
def Al6 (x:PV)(b:Bool):Cfg->Cfg
 |.ops all (o::rest) K st=>match o.op with
  |.lookup _ _ k ok=>match Ee st.Ls (aev st.env k)with
   |some (_,Ls)=>Ab9 o.dst (if ok then .tup [.p x,.bool b]else .p x) st.env Ls λst=>.ops all rest K st
   |none=>.ops all (o::rest) K st
  |_=>.ops all (o::rest) K st
 |g=>g
def Bh1:Cfg->Option (TypeId×PV×PV×List (PV×PV))
 |.ops all (o::_) _ st=>match BA all st.env o,o.op with
  |some true,.mapUpdate t m k x=>match aev st.env k,aev st.env m,Ee st.Ls (aev st.env x)with
   |.p key,.Ni j,some (y,Ls)=>match A1 Ls j,tk P t with
    |some (.map es),some (.map kt _)=>if Gj P kt (nP key) then some (kt,nP key,y,es)else none
    |_,_=>none
   |_,_,_=>none
  |_,_=>none
 |_=>none
def Bh2 (es' : List (PV×PV)):Cfg->Cfg
 |.ops all (o::rest) K st=>match o.op with
  |.mapUpdate _ m _ x=>match aev st.env m,Ee st.Ls (aev st.env x)with
   |.Ni j,some (_,Ls)=>Ab9 o.dst Kx st.env (ins j (.map es') Ls) λst=>.ops all rest K st
   |_,_=>.ops all (o::rest) K st
  |_=>.ops all (o::rest) K st
 |g=>g
def HY:Cfg->Bool
 |.code (.loop _) _ _=>true
 |_=>false
def Qe:Cfg->Code
 |.code (.loop b) _ _=>b
 |_=>.skip
def popSt:Cfg->Option St
 |.pop .normal _ st=>some st
 |_=>none
def UW (M:It):Nat->List It->List It
 |0,K=>M::K
 |n+1,i::K=>i::UW M n K
 |_+1,[]=>[M]
def AZ6 (n:Nat)(M:St->Prop):Cfg->Cfg
 |.code c K st=>.code c (UW (.mid M) n K) st
 |.ops all rest K st=>.ops all rest (UW (.mid M) n K) st
 |.pop e K st=>.pop e (UW (.mid M) n K) st
def Kc:Cfg->Bool
 |.ops _ (_::_) _ _=>true
 |_=>false
def opsS (st:St):Cfg->Cfg
 |.ops all rest K _=>.ops all rest K st
 |g=>g
def Az3:Cfg->Option St
 |.pop .ret [] st=>some st
 |.pop .normal [] st=>some st
 |_=>none
inductive Nj where
 |eq (x y:PV)
 |fn (n m:Nat) (f g:Nat->List PV)
 |mp (x y:List (PV×PV))
 |yl (x y:List (List PV)) (b c:Bool)
 |nt (a b:Nat)
 |ob (n:Nat) (f g:Nat->Obj)
inductive LV where
 |eq (x:PV)
 |fn (n:Nat) (f:Nat->List PV)
 |mp (x:List (PV×PV))
 |yl (x:List (List PV)) (b:Bool)
 |nt (a:Nat)
 |ob (f:Nat->Obj)
def Nj.src:Nj->LV
 |.eq x _=>.eq x
 |.fn n _ f _=>.fn n f
 |.mp x _=>.mp x
 |.yl x _ b _=>.yl x b
 |.nt a _=>.nt a
 |.ob _ f _=>.ob f
def Nj.tgt:Nj->LV
 |.eq _ y=>.eq y
 |.fn _ m _ g=>.fn m g
 |.mp _ y=>.mp y
 |.yl _ y _ c=>.yl y c
 |.nt _ b=>.nt b
 |.ob _ _ g=>.ob g
def Nj.ok:Nj->Prop
 |.eq x y=>x=y
 |.fn n m f g=>n=m/\∀i,i<n->f i=g i
 |.mp x y=>x=y
 |.yl x y b c=>x=y/\b=c
 |.nt a b=>a=b
 |.ob n f g=>∀i,i<n->f i=g i
def Nj.ok_of {l:Nj}(h:l.src=l.tgt):l.ok:=by
 cases l with
 |eq x y=>simp only[Nj.src,Nj.tgt,LV.eq.injEq]at h;exact h
 |fn n m f g=>simp only[Nj.src,Nj.tgt,LV.fn.injEq]at h;obtain⟨rfl,rfl⟩:=h;exact⟨rfl,λ_ _=>rfl⟩
 |mp x y=>simp only[Nj.src,Nj.tgt,LV.mp.injEq]at h;exact h
 |yl x y b c=>simp only[Nj.src,Nj.tgt,LV.yl.injEq]at h;exact h
 |nt a b=>simp only[Nj.src,Nj.tgt,LV.nt.injEq]at h;exact h
 |ob n f g=>simp only[Nj.src,Nj.tgt,LV.ob.injEq]at h;subst h;exact λ_ _=>rfl
def AP8:PV->PV->Nj
 |.v (.bool b),.bb c=>.eq (.bb b) (.bb c)
 |.v (.slice none 0 0),.sl false _ n f=>.fn 0 n f f
 |.sl nn k n f,.sl false l m g=>if k=l then .fn n m f g else .eq (.sl nn k n f) (.sl false l m g)
 |x,y=>.eq x y
mutual
def Kd (Ls:C4)(ids:List (Nat×Nat))(a b:AV):Option (List Nj):=
 match b with
 |.top=>some []
 |.p y=>match viewP Ls a with
  |some x=>some [AP8 x y]
  |none=>none
 |.reg j off=>match a with | .reg i off'=>if lk ids j=some i/\off=off' then some []else none|_=>none
 |.vec j=>match a with
  |.vec i=>if lk ids j=some i then some []else none
  |.p (.v (.slice none 0 0))=>if lk ids j=none then some []else none
  |_=>none
 |.vecp j n=>match a with | .vecp i m=>if lk ids j=some i/\n=m then some []else none|_=>none
 |.elt j k n off=>match a with | .elt i k' n' off'=>if lk ids j=some i/\k=k' /\ n=n' /\ off=off' then some []else none|_=>none
 |.Ni j=>match a with | .Ni i=>if lk ids j=some i then some []else none|_=>none
 |.yf j=>match a with | .yf i=>if lk ids j=some i then some []else none|_=>none
 |.rsl j n=>match a with | .rsl i m=>if lk ids j=some i/\n=m then some []else none|_=>none
 |.clo f x y=>match a with
  |.clo f' x' y'=>match Qf Ls ids x' x,Qf Ls ids y' y with|some l,some m=>some (.nt f' f::l++m)|_,_=>none
  |_=>none
 |.tup l=>match a with | .tup l'=>Qf Ls ids l' l|_=>none
 |.agr l=>match a with | .agr l'=>Qf Ls ids l' l|_=>none
def Qf (Ls:C4)(ids:List (Nat×Nat))(a b:List AV):Option (List Nj):=
 match b with
 |[]=>match a with | []=>some [] | _=>none
 |y::s=>match a with
  |x::r=>match Kd Ls ids x y,Qf Ls ids r s with|some l,some m=>some (l++m)|_,_=>none
  |[]=>none
end
def Az4 (Ls:C4)(ids:List (Nat×Nat))(env:Env):Env->Option (List Nj)
 |[]=>some []
 |(t,b)::r=>match Kd Ls ids (get env t) b,Az4 Ls ids env r with|some l,some m=>some (l++m)|_,_=>none
def Ot (Ls:C4)(ids:List (Nat×Nat))(o p:Obj):Option (List Nj):=
 match p with
 |.cells cs=>match o with | .cells cs'=>Qf Ls ids cs' cs|_=>none
 |.vec e k n f vw=>match o with
  |.vec e' k' m g vw'=>if e=e' /\ k=k' /\ (vw' = true->vw=true)then some [.fn m n g f]else none
  |_=>none
 |.map es=>match o with | .map es'=>some [.mp es' es] | _=>none
 |.arr n f=>match o with | .arr m g=>some [.fn m n (λi=>[g i]) (λi=>[f i])] | _=>none
 |.blk l jr=>match o with | .blk l' jr'=>if lk ids jr=some jr' then some [.ob 1 (λ_=>.blk l' 0) (λ_=>.blk l 0)]else none|_=>none
 |.ghost cs=>match o with | .ghost cs'=>Qf Ls ids cs' cs|_=>none
 |.yld r b=>match o with | .yld r' b'=>some [.yl r' r b' b] | _=>none
 |.fam e n jr x=>match o with
  |.fam e' m jr' x'=>if e=e' /\ lk ids jr=some jr' then (match x,x' with
   |none,none=>some [.nt m n]
   |some (i,a),some (i',a')=>match nov a' a,Kd Ls ids a' a with
    |true,some l=>some (.nt m n :: .nt i' i::l)
    |_,_=>none
   |_,_=>none)else none
  |_=>none
 |.rows n g=>match o with | .rows m g'=>some [.nt m n,.ob n g' g] | _=>none
 |.dead=>some []
def Az5 (Ls:C4)(ids:List (Nat×Nat)):C4->Option (List Nj)
 |[]=>some []
 |(j,p)::r=>match (match lk ids j with
  |some i=>match A1 Ls i with
   |some o=>Ot Ls ids o p
   |none=>none
  |none=>match p with
   |.vec _ _ n f _=>some [.fn 0 n f f]
   |_=>none:Option (List Nj)),Az5 Ls ids r with
  |some l,some m=>some (l++m)
  |_,_=>none
def leK (ids:List (Nat×Nat))(s t:St):Option (List Nj):=
 if (wf t&&I1 (ids.map (·.2))&&ZR ids&&Rb ids t.Ls&&Mp ids (seen s.env t.env++KB ids s.Ls t.Ls) t.Ls) then
  match Az4 s.Ls ids s.env t.env,Az5 s.Ls ids t.Ls with
  |some l,some m=>some (l++m)
  |_,_=>none
 else none
def Az6 {x y:PV}(h:(AP8 x y).ok):leP x y:=by
 unfold AP8 at h;split at h
 .simp only[Nj.ok,PV.bb.injEq]at h;subst h;exact .inr (.inr (.inr (.inl ⟨_,rfl,rfl⟩)))
 .obtain⟨rfl,_⟩:=h;exact .inr (.inr (.inl ⟨_,_,rfl,rfl⟩))
 .split at h
  .rename_i hk;subst hk;obtain⟨rfl,h⟩:=h;exact .inr (.inl ⟨_,_,_,_,_,rfl,rfl,h⟩)
  exact .inl h
 exact .inl h
def Ou {l m:List Nj}(h:∀x∈l++m,x.ok):(∀x∈l,x.ok)/\∀x∈m,x.ok:=
 ⟨λx hx=>h x (Bl0 _ hx),λx hx=>h x (Bk2 _ hx)⟩
mutual
def SK {Ls:C4}{ids:List (Nat×Nat)}{a:AV}(b:AV){L:List Nj}(h:Kd Ls ids a b=some L)(hL:∀x∈L,x.ok):leA Ls ids a b:=by
 cases b with
 |top=>unfold leA;trivial
 |p y=>
  unfold Kd at h;split at h
  .rename_i x hx;cases h;unfold leA;exact⟨x,hx,Az6 (hL _ (by simp))⟩
  cases h
 |reg j off=>
  unfold Kd at h;split at h
  .split at h
   .rename_i c;obtain⟨h1,rfl⟩:=c;exact AX8 h1
   cases h
  cases h
 |vec j=>
  unfold Kd at h;split at h
  .split at h
   .rename_i h1;exact AX7 h1
   cases h
  .split at h
   .rename_i h1;exact AM9 h1
   cases h
  cases h
 |vecp j n=>
  unfold Kd at h;split at h
  .split at h
   .rename_i c;obtain⟨h1,rfl⟩:=c;unfold leA;exact⟨_,h1,rfl⟩
   cases h
  cases h
 |elt j k n off=>
  unfold Kd at h;split at h
  .split at h
   .rename_i c;obtain⟨h1,rfl,rfl,rfl⟩:=c;unfold leA;exact⟨_,h1,rfl⟩
   cases h
  cases h
 |Ni j=>
  unfold Kd at h;split at h
  .split at h
   .rename_i h1;exact AN0 h1
   cases h
  cases h
 |rsl j n=>
  unfold Kd at h;split at h
  .split at h
   .rename_i c;obtain⟨h1,rfl⟩:=c;unfold leA;exact⟨_,h1,rfl⟩
   cases h
  cases h
 |yf j=>
  unfold Kd at h;split at h
  .split at h
   .rename_i h1;exact le_yf h1
   cases h
  cases h
 |clo f x y=>
  unfold Kd at h;split at h
  .split at h
   .rename_i l m h1 g;cases h;have d:=hL _ (Bq1 ..);simp only[Nj.ok]at d;subst d;obtain⟨i,o⟩:=Ou λx hx=>hL x (Bj4 _ hx);exact AX9 (GP x h1 i) (GP y g o)
   cases h
  cases h
 |tup l=>
  unfold Kd at h;split at h
  .exact AZ4 (GP l h hL)
  cases h
 |agr l=>
  unfold Kd at h;split at h
  .exact AZ5 (GP l h hL)
  cases h
def GP {Ls:C4}{ids:List (Nat×Nat)}{a:List AV}(b:List AV){L:List Nj}(h:Qf Ls ids a b=some L)(hL:∀x∈L,x.ok):leL Ls ids a b:=by
 cases b with
 |nil=>
  unfold Qf at h;split at h
  .exact AN1
  cases h
 |cons y s=>
  unfold Qf at h;split at h
  .split at h
   .rename_i l m h1 c;cases h;obtain⟨d,f⟩:=Ou hL;exact Av1 (SK y h1 d) (GP s c f)
   cases h
  cases h
end
def YY {Ls:C4}{ids:List (Nat×Nat)}{env:Env}:∀(t:Env) {L:List Nj},Az4 Ls ids env t=some L->(∀x∈L,x.ok)->Sf Ls ids env t
 |[],_,_,_=>trivial
 |(t,b)::r,L,h,hL=>by
  simp only[Az4]at h;split at h
  .rename_i l m h1 a;cases h;obtain⟨c,d⟩:=Ou hL;exact⟨SK b h1 c,YY r a d⟩
  cases h
def Az7 {Ls:C4}{ids:List (Nat×Nat)}{o p:Obj}{L:List Nj}(h:Ot Ls ids o p=some L)(hL:∀x∈L,x.ok):leO Ls ids o p:=by
 cases p with
 |cells cs=>
  simp only[Ot]at h;split at h
  .exact Av2 (GP cs h hL)
  cases h
 |vec e k n f vw=>
  simp only[Ot]at h;split at h
  .split at h
   .rename_i c;obtain⟨rfl,rfl,j⟩:=c;cases h;obtain⟨rfl,h1⟩:=hL _ (Bm6.2 rfl);exact⟨_,_,rfl,h1,j⟩
   cases h
  cases h
 |map es=>
  simp only[Ot]at h;split at h
  .cases h
   have:=hL _ (Bm6.2 rfl)
   simp only[Nj.ok]at this;subst this;rfl
  cases h
 |blk l jr=>
  simp only[Ot]at h;split at h
  .split at h
   .rename_i c;cases h;have h1:=hL _ (Bm6.2 rfl);have m:=h1 0 (By1 0);cases m;exact⟨_,rfl,c⟩
   cases h
  cases h
 |arr n f=>
  simp only[Ot]at h;split at h
  .cases h;obtain⟨rfl,h1⟩:=hL _ (Bm6.2 rfl);exact⟨_,rfl,λi q=>by simpa using h1 i q⟩
  cases h
 |ghost cs=>
  simp only[Ot]at h;split at h
  .exact⟨_,rfl,GP cs h hL⟩
  cases h
 |yld r b=>
  simp only[Ot]at h;split at h
  .cases h;obtain⟨rfl,rfl⟩:=hL _ (Bm6.2 rfl);rfl
  cases h
 |fam e n jr x=>
  simp only[Ot]at h;split at h
  .split at h
   .rename_i s;obtain⟨rfl,d⟩:=s;split at h
    .cases h;have a:=hL _ (Bq1 ..);simp only[Nj.ok]at a;subst a;exact⟨_,_,rfl,d,rfl⟩
    .split at h
     .rename_i hn hl;cases h;have a:=hL _ (Bq1 ..);have h1:=hL _ (Bj4 _ (Bq1 ..));simp only[Nj.ok]at a h1;subst a h1;exact⟨_,_,rfl,d,_,rfl,hn,SK _ hl λx hx=>hL x (by simp[hx])⟩
     cases h
    cases h
   cases h
  cases h
 |rows n g=>
  simp only[Ot]at h;split at h
  .cases h;have a:=hL _ (Bq1 ..);simp only[Nj.ok]at a;subst a;exact⟨_,rfl,hL (.ob _ _ _) (by simp)⟩
  cases h
 |dead=>trivial
def YZ {Ls:C4}{ids:List (Nat×Nat)}:∀(t:C4) {L:List Nj},Az5 Ls ids t=some L->(∀x∈L,x.ok)->Um Ls ids t
 |[],_,_,_=>trivial
 |(j,p)::r,L,h,hL=>by
  simp only[Az5]at h;split at h
  .rename_i l m h1 c;cases h;obtain⟨b,d⟩:=Ou hL;refine⟨?_,YZ r c d⟩;split at h1
   .rename_i i a;split at h1
    .rename_i o f;exact .inl ⟨i,o,a,f,Az7 h1 b⟩
    cases h1
   rename_i a;split at h1
   .cases h1;obtain⟨rfl,_⟩:=b _ (Bm6.2 rfl);exact .inr ⟨a,_,_,_,_,rfl⟩
   cases h1
  cases h
def AJ0 {ids:List (Nat×Nat)}{s t:St}{L:List Nj}(h:leK ids s t=some L)(hL:∀x∈L,x.ok):Le ids s t:=by
 unfold leK at h;split at h
 .rename_i hw;split at h
  .rename_i l m h1 a;cases h;obtain⟨b,c⟩:=Ou hL;exact le_mk hw (YY _ h1 b) (YZ _ a c)
  cases h
 cases h
def kle {ids:List (Nat×Nat)}{s t:St}(h:(leK ids s t).map (·.map Nj.src)=(leK ids s t).map (·.map Nj.tgt):=by kernel_rfl)(h1:(leK ids s t).isSome=true:=by kernel_rfl):Le ids s t:=by
 obtain⟨L,hL⟩:=Bj3.1 h1;rw[hL]at h;simp only[Bj0,Bh9]at h;refine AJ0 hL λx hx=>?_;obtain⟨i,a,rfl⟩:=Br6.1 hx
 have:=congrArg (·[i]?) h
 simp only[Bi4,Bi0 a,Bj0,Bh9]at this;exact Nj.ok_of this
def Az8 (is:List Nat)(f:Nj->LV)(L:List Nj):List (Option LV):=L.zipIdx.map λq=>if is.contains q.2 then none else some (f q.1)
def kleR {ids:List (Nat×Nat)}{s t:St}(rs:List (Nat×Nj))(d:∀q∈rs,q.2.ok)(h:(leK ids s t).map (Az8 (rs.map (·.1)) Nj.src)=(leK ids s t).map (Az8 (rs.map (·.1)) Nj.tgt):=by kernel_rfl)
 (a:(leK ids s t).map (λL=>rs.map λq=>L[q.1]?)=some (rs.map λq=>some q.2):=by kernel_rfl):Le ids s t:=by
 cases hL:leK ids s t with
 |none=>rw[hL]at a;cases a
 |some L=>
  rw[hL]at h a;simp only[Bj0,Bh9]at h a;refine AJ0 hL λx hx=>?_;obtain⟨i,b,rfl⟩:=Br6.1 hx;by_cases hm:(rs.map (·.1)).contains i=true
  .simp only[Bl4,decide_eq_true_eq,Bl2]at hm;obtain⟨q,c,rfl⟩:=hm;obtain⟨k,hk,rfl⟩:=Br6.1 c
   have:=congrArg (·[k]?) a
   simp only[Bi4,Bi0 hk,Bj0,Bh9,Bi0 b]at this;rw[this];exact d _ c
  have:=congrArg (·[i]?) h
  simp only[Az8,Bi4,List.getElem?_zipIdx,Bi0 b,Bj0,Bm8,hm,Bh9]at this;exact Nj.ok_of (by simpa using this)
end
section
variable {P:Program}
variable {S:U6}{F:M8}{g:Cfg}{pr:Prop}
def FA (hS:G6 S P)(hc:pr)(h:G S P F (stp P g))(hp:pr=C5 (cnd P g):=by kernel_rfl):G S P F g:=
 (GI (F:=F) hS 400 [] g (by subst hp;exact hc)).2 h
def AZ7 (hS:G6 S P)(hc:pr){b:Bool}(ht:b=true->G S P F (AP6 (stp P g)))(a:b=false->G S P F (AP7 (stp P g)))(hp:pr=C5 (cnd P g):=by kernel_rfl)(hb:Az1 (stp P g)=some b:=by kernel_rfl):G S P F g:=by
 refine FA hS hc ?_ hp;generalize stp P g=g' at hb ht a;unfold Az1 at hb;split at hb
 .split at hb
  .rename_i hc;cases hb;exact AX4 hc ht a
  cases hb
 cases hb
def AP9 (hS:G6 S P)(hc:pr){b:Bool}(ht:b=true->G S P F (Or true (stp P g)))(a:b=false->G S P F (Or false (stp P g)))(hp:pr=C5 (cnd P g):=by kernel_rfl)(hb:YX (stp P g)=some b:=by kernel_rfl):G S P F g:=by
 refine FA hS hc ?_ hp;generalize stp P g=g' at hb ht a;unfold YX at hb;split at hb
 .split at hb
  .rename_i d;split at hb
   .rename_i f;split at hb
    .rename_i c;cases hb;simp only[Or,d,f,FT,put]at ht a;exact AM6 hS d f c ht a
    cases hb
   cases hb
  cases hb
 cases hb
def AZ8 (hS:G6 S P)(ids:List Nat)(hc:pr){fn:FuncId}{args:List AV}{objs objs' : List Obj}{r:AV}{ks:List Bool}(i:Mb S fn args objs r objs' ks)
 (hk:G S P F (Az2 ids ks r objs' (stp P g))) (hp:pr=C5 (cnd P g):=by kernel_rfl) (a:Ac0 ids (stp P g)=some (fn,args,objs):=by kernel_rfl) (hn:Ac1 ids ks objs'.length (stp P g)=true:=by kernel_rfl):G S P F g:=by
 refine FA hS hc ?_ hp;generalize stp P g=g' at a hn hk;unfold Ac0 at a;split at a
 .split at a
  .rename_i j f;split at a
   .rename_i c;split at a
    .rename_i ha;split at a
     .rename_i hw;split at a
      .rename_i l d;split at a
       .rename_i b;cases a;simp only[Bi1]at b;simp only[Az2,Ac1,f,ha,FT]at hk hn;exact AM7 hS ids j f c ha hw l d i b.1 b.2 hn hk
       cases a
      cases a
     cases a
    cases a
   cases a
  cases a
 cases a
def Az9 (hS:G6 S P)(hc:pr){kt e:TypeId}{key:PV}{es:List (PV×PV)}{x:PV}{b:Bool}{fd:Option PV}
 (j:find (HH P kt) key es=some fd) (c:C5 (Hn P kt))
 (hk:G S P F (Al6 x b (stp P g))) (hp:pr=C5 (cnd P g):=by kernel_rfl) (a:Al5 P (stp P g)=some ⟨kt,e,key,es⟩:=by kernel_rfl) (hx:UV P e fd=some (x,b):=by kernel_rfl):G S P F g:=by
 refine FA hS hc ?_ hp;generalize stp P g=g' at a hk;unfold Al5 at a;split at a
 .split at a
  .rename_i l f;split at a
   .rename_i i hm;split at a
    .rename_i m ht;split at a
     .rename_i d;simp only[Bh9,LookI.mk.injEq]at a;obtain⟨rfl,rfl,rfl,rfl⟩:=a;simp only[Al6,f,i,FT]at hk;cases fd with
      |some y=>exact YU (fd:=some y) hS l f i hm m ht d j hx c hk
      |none=>exact YU (fd:=none) hS l f i hm m ht d j hx c hk
     cases a
    cases a
   cases a
  cases a
 cases a
def AA0 (hS:G6 S P)(hc:pr){kt:TypeId}{key y:PV}{es es' : List (PV×PV)}
 (j:upd (HH P kt) key y es=some es') (b:C5 (Hn P kt)) (hk:G S P F (Bh2 es' (stp P g))) (hp:pr=C5 (cnd P g):=by kernel_rfl) (a:Bh1 P (stp P g)=some (kt,key,y,es):=by kernel_rfl):G S P F g:=by
 refine FA hS hc ?_ hp;generalize stp P g=g' at a hk;unfold Bh1 at a;split at a
 .split at a
  .rename_i l d;split at a
   .rename_i h1 f i;split at a
    .rename_i m ht;split at a
     .rename_i c;simp only[Bh9,Bi6]at a;obtain⟨rfl,rfl,rfl,rfl⟩:=a;simp only[Bh2,d,f,i,FT]at hk;exact Xj hS l d h1 i f m ht c j b hk
     cases a
    cases a
   cases a
  cases a
 cases a
def AZ9 (hS:G6 S P)(hc:pr)(st:St){ids:List (Nat×Nat)}(hk:G S P F (opsS st (stp P g)))(hp:pr=C5 (cnd P g):=by kernel_rfl)(a:Kc (stp P g)=true:=by kernel_rfl)(hle:Le ids (stp P g).st st:=by exact kle):G S P F g:=by
 refine FA hS hc ?_ hp;generalize stp P g=g' at a hle hk;unfold Kc at a;split at a
 .exact Al4 hS st ids hle hk
 cases a
end
section
variable {S:U6}{P:Program}{F:M8}{g:Cfg}{pr:Prop}
def KR (hS:G6 S P){K1 K2:List It}(h:∀e s,kp S P K1 F e s->kp S P K2 F e s):∀(K:List It) (e:Jb) (s:St),kp S P (K++K1) F e s->kp S P (K++K2) F e s
 |[],e,s,hk=>h e s hk
 |.code c::K,e,s,hk=>by simp only[Bk9,kp]at hk⊢;exact SI hS (λt=>AN hS c (KR hS h K)) (KR hS h K) e s hk
 |.blk id::K,e,s,hk=>by
  simp only[Bk9,kp]at hk⊢;cases e with
  |exit i=>
   simp only[blk]at hk⊢;split at hk
   .rename_i a;rw[Ej a];exact KR hS h K _ _ hk
   rename_i a;rw[Er a];exact KR hS h K _ _ hk
  |_=>exact KR hS h K _ _ hk
 |.lp X s' J m n::K,e,s,hk=>by
  simp only[Bk9,kp]at hk⊢;cases e with
  |normal=>exact hk
  |_=>exact KR hS h K _ _ hk
 |.mid M::K,e,s,hk=>by simp only[Bk9,kp]at hk⊢;exact SI hS (λt h=>h) (KR hS h K) e s hk
 |.scp::K,e,s,hk=>by
  simp only[Bk9,kp]at hk⊢;cases e with
  |goto l=>exact hk
  |_=>exact KR hS h K _ _ hk
def Za (M:It):∀(n:Nat) (K:List It),n<=K.length->UW M n K=K.take n++M::K.drop n
 |0,K,_=>by simp[UW]
 |n+1,i::K,h=>by simp only[UW,Bs3,List.drop_succ_cons,Bk9,Za M n K (by simpa using h)]
 |n+1,[],h=>by simp at h
def AJ1 (hS:G6 S P)(a:∀s,S.up s (F .normal)->F .normal s)(n:Nat)(hn:n<=g.k.length){M:St->Prop}(b:∀t,M t->G S P F (.pop .normal (g.k.drop n) t))(h:G S P F (AZ6 n M g)):G S P F g:=by
 have hk:∀e s,kp S P (UW (.mid M) n g.k) F e s->kp S P g.k F e s:=by
  intro e s;rw[Za _ _ _ hn]
  conv=>rhs;rw[<- Bt5 n g.k]
  exact KR hS (AZ2 hS a b) _ e s
 cases g with
 |code c K st=>exact AN hS c hk h
 |ops all rest K st=>exact HW hS hk rest h
 |pop e K st=>exact hk e st h
def J_cut (hS:G6 S P)(hc:pr)(b:∀s,S.up s (F .normal)->F .normal s)(n:Nat)(s:St)
 (h1:∀(M:St->Prop),(∀(g' : Cfg) (ids:List (Nat×Nat)) (pr:Prop),pr->(hp:pr=C5 (cnd P g'):=by kernel_rfl)->(a:stp P g' = .pop .normal (.mid M::(stp P g).k.drop n) (stp P g').st:=by kernel_rfl)->(hle:Le ids (stp P g').st s:=by exact kle)->G S P F g')->G S P F (AZ6 n M (stp P g)))
 (c:G S P F (.pop .normal ((stp P g).k.drop n) s)) (hp:pr=C5 (cnd P g):=by kernel_rfl) (hn:Nat.ble n (stp P g).k.length=true:=by kernel_rfl):G S P F g:=by
 refine FA hS hc ?_ hp;refine AJ1 hS b n (Bo1 hn) (M:=λt=>t=s) (λt ht=>by subst ht;exact c) (h1 _ λg' ids pr hc hp a hle=>?_);refine FA hS hc ?_ hp;rw[a];exact hS.le ids _ _ _ hle rfl
def J_lt (hS:G6 S P)(hc:pr)(c:∀s,S.up s (F .normal)->F .normal s){R A:Type}{f:(A->Option R)->Option R}{k0:A->Option R}{r:R}(h:lt k0 f=some r)(n:Nat)(s:A->St)
 (h1:∀(M:St->Prop) (k:A->Option R),(∀(g' : Cfg) (ids:List (Nat×Nat)) (pr:Prop) (a:A),pr->k a=some r->(hp:pr=C5 (cnd P g'):=by kernel_rfl)->(b:stp P g' = .pop .normal (.mid M::(stp P g).k.drop n) (stp P g').st:=by kernel_rfl)->(hle:Le ids (stp P g').st (s a):=by exact kle)->G S P F g')->f k=some r->G S P F (AZ6 n M (stp P g)))
 (d:∀a,k0 a=some r->G S P F (.pop .normal ((stp P g).k.drop n) (s a))) (hp:pr=C5 (cnd P g):=by kernel_rfl) (hn:Nat.ble n (stp P g).k.length=true:=by kernel_rfl):G S P F g:=by
 refine FA hS hc ?_ hp;refine AJ1 hS c n (Bo1 hn) (M:=λt=>∃a,t=s a/\k0 a=some r) (λt ⟨a,ht,hk⟩=>by subst ht;exact d a hk) (h1 _ k0 (λg' ids pr a hc hk hp b hle=>?_) h);refine FA hS hc ?_ hp;rw[b];exact hS.le ids _ _ _ hle ⟨a,rfl,hk⟩
def SL {g:Cfg}(h:HY g=true):g=.code (.loop (Qe g)) g.k g.st:=by
 unfold HY at h;split at h
 .rfl
 cases h
def Ba0 (hS:G6 S P)(hc:pr){R A:Type}{body:(A->Option R)->A->Option R}{N:Nat}{a0:A}{r:R}(h:W8 N body a0=some r)(s:A->St){ids:List (Nat×Nat)}
 (i:∀(X:Type) (s' : X->St) (J:X->Prop) (m:X->Nat) (n:Nat) (b:A->Option R) (a:A),
  (∀(g' : Cfg) (ids:List (Nat×Nat)) (pr:Prop) (a:A),pr->b a=some r->(hp:pr=C5 (cnd P g'):=by kernel_rfl)->(f:stp P g' = .pop .normal (.lp X s' J m n::(stp P g).k) (stp P g').st:=by kernel_rfl)->(hle:Le ids (stp P g').st (s a):=by exact kle)->G S P F g') ->
  body b a=some r->G S P F (.code (Qe (stp P g)) (.lp X s' J m n::(stp P g).k) (s a))) (hp:pr=C5 (cnd P g):=by kernel_rfl) (hl:HY (stp P g)=true:=by kernel_rfl) (hle:Le ids (stp P g).st (s a0):=by exact kle):G S P F g:=by
 refine FA hS hc ?_ hp;rw[SL hl];refine AZ3 hS h s ids hle λX s' J m n b a hb c=>i X s' J m n b a (λg' ids pr a hc d hp f hle=>?_) c;refine FA hS hc ?_ hp;rw[f];exact hb _ _ _ hle d
def SM (P:Program)(st:St)(rs:List ResultVar)(outs:List Nat):Option (AV×List Obj):=match HQ P st rs with
 |some l=>match Sc outs (one l),M9 outs st.Ls outs with
  |some a,some o=>if I1 outs then some (a,o)else none
  |_,_=>none
 |none=>none
def J_ret (hS:G6 S P)(hc:pr){n:Nat}{rs:List ResultVar}{Q:ARes->List Obj->List Bool->Prop}{a:AV}{objs:List Obj}(outs:List Nat)(c:Q (.ret a) objs (FF n outs))(hp:pr=C5 (cnd P g):=by kernel_rfl)(d:(Az3 (stp P g)).bind (λst=>SM P st rs outs)=some (a,objs):=by kernel_rfl) :G S P (CJ S P n rs Q) g:=by
 refine FA hS hc ?_ hp;generalize stp P g=g' at d;obtain⟨st,h1,b⟩:=Bs4.1 d;unfold SM at b;split at b
 .rename_i l hl;split at b
  .rename_i f i;split at b
   .rename_i j;cases b;unfold Az3 at h1;split at h1
    .cases h1;exact hS.refl _ _ ⟨l,outs,a,objs,hl,j,f,i,c⟩
    .cases h1;exact hS.refl _ _ ⟨l,outs,a,objs,hl,j,f,i,c⟩
    cases h1
   cases b
  cases b
 cases b
def Ba1 (hS:G6 S P)(hc:pr){n:Nat}{rs:List ResultVar}{Q:ARes->List Obj->List Bool->Prop}{a:AV}{objs:List Obj}(st:St)(outs:List Nat){ids:List (Nat×Nat)}(f:Q (.ret a) objs (FF n outs))(hp:pr=C5 (cnd P g):=by kernel_rfl)(c:(Az3 (stp P g)).isSome=true:=by kernel_rfl)(hle:Le ids (stp P g).st st:=by exact kle)(d:SM P st rs outs=some (a,objs):=by kernel_rfl) :G S P (CJ S P n rs Q) g:=by
 refine FA hS hc ?_ hp;generalize stp P g=g' at c hle;have b:=d;unfold SM at b;split at b
 .rename_i l hl;split at b
  .rename_i d i;split at b
   .rename_i j;cases b;unfold Az3 at c;split at c
    .exact hS.le ids _ _ _ hle ⟨l,outs,a,objs,hl,j,d,i,f⟩
    .exact hS.le ids _ _ _ hle ⟨l,outs,a,objs,hl,j,d,i,f⟩
    cases c
   cases b
  cases b
 cases b
def AQ0 (hS:G6 S P){f:FuncId}{fn:Func}{args:List AV}{objs objs' : List Obj}{ks:List Bool}{r:AV}(d:P.funcs[f]? = some fn)
 (h:G S P (CJ S P objs.length fn.results.toList λres o k=>res=.ret r/\o=objs' /\ k=ks) (.code (fn.body.getD .skip) [] { env:=Pg args,Ls:=Ma objs }))
 (hc:fn.body.isSome=true:=by kernel_rfl) (hn:Nat.ble args.length fn.ntmps=true:=by kernel_rfl) (g:Nat.blt objs.length 1000=true:=by kernel_rfl)
 (b:Bz fn.ntmps (fn.body.getD .skip)=true:=by kernel_rfl) (c:(fn.name == "runtime.NumGoroutine")=false:=by kernel_rfl):Mb S f args objs r objs' ks:=by
 obtain⟨code,a⟩:=Bj3.1 hc;rw[a,Bi7]at b h;exact Ah8 hS d a (Bo1 hn) (by simpa[Br8]using g) rfl b c h
def al0:∀q∈([]:List (Nat×Nj)),q.2.ok:=λ_ h=>by cases h
def al1 {i:Nat}{l:Nj}{rs:List (Nat×Nj)}(h:l.ok)(t:∀q∈rs,q.2.ok):∀q∈(i,l)::rs,q.2.ok:=λq a=>by
 rcases Bj7.1 a with rfl|a
 .exact h
 exact t q a
structure SC where
 all:List Oper
 cls:List Cls
 rest:List Oper
 env:Env
 Ls:C4
 kn:List Nat
def SG (S:U6)(P:Program)(sc:SC)(k:Env->C4->Prop):Prop:=Kw S P sc.all sc.cls sc.rest sc.env sc.Ls k
def By (P:Program)(sc:SC):SC:=match PW P sc.kn sc.all sc.cls sc.rest [] sc.env sc.Ls with
 |⟨_,cls,rest,env,Ls⟩=>⟨sc.all,cls,rest,env,Ls,sc.kn⟩
def Ov (P:Program)(sc:SC):List Prop:=(PW P sc.kn sc.all sc.cls sc.rest [] sc.env sc.Ls).conds
def Dj:Cfg->Bool
 |.code (.region _ _ true) _ _=>true
 |_=>false
def HZ:Cfg->SC
 |.code (.region _ ops true) _ st=>⟨ops.toList,ops.toList.map λo=>Bg9 o.op,ops.toList,st.env,st.Ls,[]⟩
 |_=>⟨[],[],[],[],[],[]⟩
def AQ1 (hS:G6 S P)(hc:pr)
 (h:SG S P (HZ (stp P g)) λenv Ls=>G S P F (.pop .normal (stp P g).k ⟨env,Ls⟩)) (hp:pr=C5 (cnd P g):=by kernel_rfl) (c:Dj (stp P g)=true:=by kernel_rfl) (a:P.follows .mixedOrders=true:=by kernel_rfl) (b:Mv (HZ (stp P g)).all (HZ (stp P g)).cls=true:=by kernel_rfl):G S P F g:=by
 refine FA hS hc ?_ hp;generalize stp P g=g' at c b h;unfold Dj at c;split at c
 .exact Ay3 hS a rfl b h
 cases c
section
variable {sc:SC}{k:Env->C4->Prop}
def Al7 (hc:pr)(h:SG S P (By P sc) k)(hp:pr=C5 (Ov P sc):=by kernel_rfl):SG S P sc k:=by subst hp;unfold By at h;unfold Ov at hc;unfold SG at *;generalize a:PW P sc.kn sc.all sc.cls sc.rest [] sc.env sc.Ls=r at h hc;obtain⟨c,cls,rest,env,Ls⟩:=r;exact s_go a hc h
def C_end (hc:pr)(h:k (By P sc).env (By P sc).Ls)(hp:pr=C5 (Ov P sc):=by kernel_rfl)(a:(By P sc).rest.isEmpty=true:=by kernel_rfl):SG S P sc k:=by
 refine Al7 hc ?_ hp;generalize By P sc=s at a h;obtain⟨all,cls,rest,env,Ls,kn⟩:=s;cases rest with
 |nil=>exact s_end h
 |cons=>simp at a
def AA1 {R:Type _}(d:Option Nat)(a:AV)(env:Env)(Ls:C4)(κ : Env->C4->R):R:=match d with
 |some d=>mkO (ins d a env) Ls κ
 |none=>mkO env Ls κ
def EV {R:Type _}(d:Option Nat)(a:AV)(env:Env)(Ls:C4)(κ : Env->C4->R):AA1 d a env Ls κ = κ (NE d a env) Ls:=by cases d<;>simp only[AA1,Gr,NE]
def AJ2:∀{env:Env}{i d:Nat}{b:AV},Au6 ((i,b)::env)=true->get env d ≠ .top->d<i
 |[],_,_,_,_,h=>Es rfl h
 |(j,c)::r,i,d,b,hd,h=>by
  simp only[Au6,Bi1,decide_eq_true_eq]at hd;by_cases e:j=d
  .subst e;exact hd.1
  simp only[get,e,Ev]at h;exact Nat.lt_trans (AJ2 hd.2 h) hd.1
def SN:∀{env:Env}{d:Nat}{a:AV},Au6 env=true->get env d=a->a ≠ .top->ins d a env=env
 |[],_,_,_,h,hn=>Es h.symm hn
 |(i,b)::r,d,a,hd,h,hn=>by
  by_cases e:i=d
  .subst e;simp only[get,Eu]at h;subst h;simp[ins]
  simp only[get,e,Ev]at h;have c:=AJ2 hd (by rw[h];exact hn);have f:Au6 r=true:=by
   cases r with
   |nil=>rfl
   |cons p r=>simp only[Au6,Bi1]at hd;exact hd.2
  simp only[ins,show ¬i<d by omega,e,Ev,SN f h hn]
def SO (sc:SC):Option Bool:=match sc.rest with
 |o::_=>match o.guard with
  |some (j,_)=>match AX5 sc.all j with
   |some d=>match get sc.env d with
    |.p (.bb b)=>if Au6 sc.env then some b else none
    |_=>none
   |none=>none
  |none=>none
 |[]=>none
def Ow (v:Bool)(sc:SC):SC:=match sc.rest with
 |o::_=>match o.guard with
  |some (j,_)=>match AX5 sc.all j with
   |some d=>mkO (ins d (.p (.bb v)) sc.env) sc.Ls λenv Ls=>⟨sc.all,sc.cls,sc.rest,env,Ls,j::sc.kn⟩
   |none=>sc
  |none=>sc
 |[]=>sc
def AQ2 (hc:pr){b:Bool}(ht:b=true->SG S P (Ow true (By P sc)) k)(f:b=false->SG S P (Ow false (By P sc)) k)(hp:pr=C5 (Ov P sc))(hb:SO (By P sc)=some b):SG S P sc k:=by
 refine Al7 hc ?_ hp;generalize By P sc=s at hb ht f;obtain⟨all,cls,rest,env,Ls,kn⟩:=s;cases rest with
 |nil=>simp[SO]at hb
 |cons o rest=>
  simp only[SO]at hb;split at hb
  .rename_i j w g;split at hb
   .rename_i d i;split at hb
    .rename_i b' a;split at hb
     .rename_i c;simp only[Bh9]at hb;subst hb;simp only[Ow,g,i,Gr]at ht f;cases b' with
      |true=>have:=ht rfl;rwa [SN c a (by simp)]at this
      |false=>have:=f rfl;rwa [SN c a (by simp)]at this
     cases hb
    cases hb
   cases hb
  cases hb
def Ox (ids:List Nat)(sc:SC):Option (FuncId×List AV×List Obj):=match sc.rest with
 |o::_=>match An sc.all sc.env o,o.op with
  |some true,.call c=>match c.callee with
   |.value f=>match HN sc.Ls (c.args.toList.map (aev sc.env))with
    |some (as,Ls)=>match QZ sc.env f as with
     |some (fn,as')=>match Ef ids as',M9 ids Ls ids with
      |some a,some ob=>if I1 ids&&Fz ob then some (fn,a,ob)else none
      |_,_=>none
     |none=>none
    |none=>none
   |_=>none
  |_,_=>none
 |[]=>none
def AA2 (js:List Nat):AV->Bool
 |.vec j=>js.contains j
 |.vecp j _=>js.contains j
 |_=>true
def Zb {js:List Nat}{regs' : C4}:∀{l:List AV}{Ls:C4}{as:List AV},l.all (AA2 js)=true->HN Ls l=some (as,regs')->∀q,q ∉ js->A1 regs' q=A1 Ls q
 |[],Ls,as,_,h,q,_=>by simp only[HN,Bh9,Bi6]at h;rw[<- h.2]
 |a::r,Ls,as,hl,h,q,hq=>by
  simp only[Br2,Bi1]at hl;simp only[HN]at h;split at h
  .rename_i x R1 h1;split at h
   .rename_i l1 R2 c;simp only[Bh9,Bi6]at h;obtain⟨_,rfl⟩:=h;rw[Zb hl.2 c q hq];cases a with
    |vec j=>
     simp only at h1;split at h1
     .rename_i x2 R3 b;cases h1;exact SE (by simpa[inJ,AA2]using hl.1) b q hq
     cases h1
    |vecp j m=>
     simp only at h1;split at h1
     .rename_i x2 R3 b;cases h1;exact SE (by simpa[inJ,AA2]using hl.1) b q hq
     cases h1
    |_=>cases h1;rfl
   cases h
  cases h
def Ba2 (R:C4)(a:AV):Option (AV×C4):=match a with | .vec _ | .vecp _ _=>(match Ee R a with|some (x,Ls)=>some (AV.p x,Ls)|none=>none)|a=>some (a,R)
def Al8 (R:C4)(a:AV)(r:List AV):HN R (a::r)=match Ba2 R a with
 |some (a,Ls)=>match HN Ls r with
  |some (l,Ls)=>some (a::l,Ls)
  |none=>none
 |none=>none:=rfl
def AA3 {js:List Nat}{a x:AV}{R R2 R' : C4}(hl:inJ js a=true)(d:∀q∈js,A1 R2 q=A1 R q)(hx:Ba2 R a=some (x,R')):∃R3,Ba2 R2 a=some (x,R3)/\(∀q∈js,A1 R3 q=A1 R' q)/\∀q,q ∉ js->A1 R3 q=A1 R2 q:=by
 have up:∀(i:Nat) (o:Obj),i∈js->(∀q∈js,A1 (ins i o R2) q=A1 (ins i o R) q)/\∀q,q ∉ js->A1 (ins i o R2) q=A1 R2 q:=λi o g=>
  ⟨λq f=>by rw[O1,O1,d q f],λq f=>by rw[O1,Er (by rintro rfl;exact f g)]⟩
 cases a with
 |p y=>cases hx;exact⟨R2,rfl,d,λ_ _=>rfl⟩
 |vec j=>
  have b:j∈js:=by simpa[inJ]using hl
  simp only[Ba2,Ee,d j b]at hx⊢;cases c:A1 R j with
  |none=>simp[c]at hx
  |some ob=>cases ob<;>simp only[c]at hx⊢<;>first|(cases hx;exact⟨_,rfl,up _ _ b⟩)|cases hx
 |vecp j m=>
  have b:j∈js:=by simpa[inJ]using hl
  simp only[Ba2,Ee,d j b]at hx⊢;cases c:A1 R j with
  |none=>simp[c]at hx
  |some ob=>cases ob<;>simp only[c]at hx⊢<;>first|(cases hx;exact⟨_,rfl,up _ _ b⟩)|cases hx
 |_=>cases hl
def SP {js:List Nat}:∀{l:List AV}{R R2 R1:C4}{as:List AV},l.all (inJ js)=true->(∀q∈js,A1 R2 q=A1 R q)->HN R l=some (as,R1) ->
 ∃R3,HN R2 l=some (as,R3)/\(∀q∈js,A1 R3 q=A1 R1 q)/\∀q,q ∉ js->A1 R3 q=A1 R2 q
 |[],R,R2,R1,as,_,h2,h=>by simp only[HN,Bh9,Bi6]at h;obtain⟨rfl,rfl⟩:=h;exact⟨R2,rfl,h2,λ_ _=>rfl⟩
 |a::r,R,R2,R1,as,hl,h2,h=>by
  simp only[Br2,Bi1]at hl;simp only[Al8]at h⊢;split at h
  .rename_i x R' hx;obtain⟨R3,e1,e2,e3⟩:=AA3 hl.1 h2 hx;split at h
   .rename_i l1 R'' c;simp only[Bh9,Bi6]at h;obtain⟨rfl,rfl⟩:=h;obtain⟨R4,f1,f2,f3⟩:=SP hl.2 e2 c;exact⟨R4,by simp only[e1,f1],f2,λq b=>(f3 q b).trans (e3 q b)⟩
   cases h
  cases h
def Oy {m:List Nat}:∀{ids:List Nat}{objs:List Obj}{A B:C4}{q:Nat},A1 A q=A1 B q->A1 (back m ids objs A) q=A1 (back m ids objs B) q
 |[],_,_,_,_,h=>h
 |_::_,[],_,_,_,h=>h
 |j::ids,o::objs,A,B,q,h=>by simp only[back];exact Oy (by rw[O1,O1,h])
def AQ3 {all:List Oper}{k:Env->C4->Prop}{js:List Nat}{cls:List Cls}{o:Oper}{rest:List Oper}{env:Env}{Ls regs1:C4}{c:Call}{f:Operand}{as:List AV}{fn:FuncId}{as' args:List AV}{objs' : List Obj}{ks:List Bool}{r:AV}
 (j:An all env o=some true) (l:o.op=.call c) (m:c.callee=.value f) (g:(c.args.toList.map (aev env)).all (inJ js)=true)
 (ha:HN Ls (c.args.toList.map (aev env))=some (as,regs1)) (hw:QZ env f as=some (fn,as')) (n:Ef [] as' = some args) (s:Mb S fn args [] r objs' ks)
 (d:((H4 (o.dst.getD 0) [] ks objs'.length).all λq=>js.contains q)=true) (hn:X3 regs1 [] ks (o.dst.getD 0) objs'.length=true)
 (hk:Kw S P all cls rest (NE o.dst (unA (H4 (o.dst.getD 0) [] ks objs'.length) r) env) (back (H4 (o.dst.getD 0) [] ks objs'.length) (H4 (o.dst.getD 0) [] ks objs'.length) objs' (K8 [] ks regs1)) k) :
 Kw S P all (.a js::cls) (o::rest) env Ls k:=by
 have i:∀q,q ∉ js->q ∉ H4 (o.dst.getD 0) [] ks objs'.length:=λq b h=>b (by simpa using Bi8.1 d q h);refine⟨true,j,?_⟩;rw[Ej rfl];refine⟨_,_,.inr (.inr (.inr (.inr ⟨js,rfl,λq b=>?_,λR2 t=>?_⟩))),hk⟩
 .rw[IV (i q b)];obtain⟨R3,e1,_,e3⟩:=SP (R2:=Ls) g (λ_ _=>rfl) ha;rw[ha]at e1;cases e1;exact e3 q b
 obtain⟨R3,e1,e2,e3⟩:=SP g t ha;refine⟨_,.inl ⟨c,f,as,R3,fn,as',args,[],objs',ks,r,[],l,m,e1,hw,n,rfl,s,rfl,rfl,?_,rfl,rfl⟩,λq b=>Oy (e2 q b),λq b=>(IV (i q b)).trans (e3 q b)⟩;unfold X3 at hn⊢;rw[Bi8]at hn⊢;intro p hp;have h1:=hn p hp;have u:nid (o.dst.getD 0) p∈js:=by
  have:=Bi8.1 d (nid (o.dst.getD 0) p) (by unfold H4;exact Bl2.2 ⟨p,hp,rfl⟩)
  simpa using this
 show (A1 R3 (nid (o.dst.getD 0) p)).isNone=true;rw[e2 _ u];exact h1
def Oz (ids:List Nat)(ks:List Bool)(n:Nat)(sc:SC):Bool:=match sc.cls,sc.rest with
 |.w::_,o::_=>match o.op with
  |.call c=>match HN sc.Ls (c.args.toList.map (aev sc.env))with
   |some (_,Ls)=>X3 Ls ids ks (o.dst.getD 0) n
   |none=>false
  |_=>false
 |.b js::_,o::_=>match o.op with
  |.call c=>match HN sc.Ls (c.args.toList.map (aev sc.env))with
   |some (_,Ls)=>((c.args.toList.map (aev sc.env)).all (AA2 js)&&ids.isEmpty)&&(((H4 (o.dst.getD 0) ids ks n).all λq=>js.contains q)&&X3 Ls ids ks (o.dst.getD 0) n)
   |none=>false
  |_=>false
 |.a js::_,o::_=>match o.op with
  |.call c=>match HN sc.Ls (c.args.toList.map (aev sc.env))with
   |some (_,Ls)=>((c.args.toList.map (aev sc.env)).all (inJ js)&&ids.isEmpty)&&(((H4 (o.dst.getD 0) ids ks n).all λq=>js.contains q)&&X3 Ls ids ks (o.dst.getD 0) n)
   |none=>false
  |_=>false
 |_,_=>false
def OA (ids:List Nat)(ks:List Bool)(r:AV)(objs' : List Obj)(sc:SC):SC:=match sc.rest with
 |o::rest=>match o.op with
  |.call c=>match HN sc.Ls (c.args.toList.map (aev sc.env))with
   |some (_,Ls)=>AA1 o.dst (unA (H4 (o.dst.getD 0) ids ks objs'.length) r) sc.env
    (back (H4 (o.dst.getD 0) ids ks objs'.length) (H4 (o.dst.getD 0) ids ks objs'.length) objs' (K8 ids ks Ls)) λenv Ls=>⟨sc.all,sc.cls.tail,rest,env,Ls,sc.kn⟩
   |none=>sc
  |_=>sc
 |[]=>sc
def Ba3 (ids:List Nat)(hc:pr){fn:FuncId}{args:List AV}{objs objs' : List Obj}{r:AV}{ks:List Bool}(u:Mb S fn args objs r objs' ks)
 (hk:SG S P (OA ids ks r objs' (By P sc)) k) (hp:pr=C5 (Ov P sc):=by kernel_rfl) (d:Ox ids (By P sc)=some (fn,args,objs):=by kernel_rfl) (hn:Oz ids ks objs'.length (By P sc)=true:=by kernel_rfl):SG S P sc k:=by
 refine Al7 hc ?_ hp;generalize By P sc=s at d hn hk;obtain⟨all,cls,rest,env,Ls,kn⟩:=s;cases rest with
 |nil=>simp[Ox]at d
 |cons o rest=>
  simp only[Ox]at d;split at d
  .rename_i c v g;split at d
   .rename_i i;split at d
    .rename_i ha;split at d
     .rename_i hw;split at d
      .rename_i x j;split at d
       .rename_i f;cases d;simp only[Bi1]at f;cases cls with
        |nil=>simp[Oz]at hn
        |cons cl cls=>
         cases cl with
         |w=>simp only[Oz,g,ha]at hn;simp only[OA,g,ha,EV,Bp1]at hk;exact Al1 ids (.inl rfl) v g i ha hw x j u f.1 f.2 hn hk
         |b js=>simp only[Oz,g,ha,Bi1,By2]at hn;obtain⟨⟨l,m⟩,n,t⟩:=hn;subst m;simp only[OA,g,ha,EV,Bp1]at hk;refine Al1 [] (.inr ⟨js,rfl,λq y=>?_⟩) v g i ha hw x j u f.1 f.2 t hk;rw[IV (λh=>y (by simpa using Bi8.1 n q h))];exact Zb l ha q y
         |a js=>simp only[Oz,g,ha,Bi1,By2]at hn;obtain⟨⟨l,m⟩,n,t⟩:=hn;subst m;simp only[OA,g,ha,EV,Bp1]at hk;cases j;exact AQ3 v g i l ha hw x u n t hk
         |_=>simp[Oz]at hn
       cases d
      cases d
     cases d
    cases d
   cases d
  cases d
def Zc (sc:SC):Bool:=match sc.cls,sc.rest with
 |_::_,o::_=>match o.op with
  |.call c=>(c.args.toList.map (aev sc.env)).all Ak6
  |_=>false
 |_,_=>false
def Zd (sc:SC):Option (FuncId×List AV):=match sc.rest with
 |o::_=>match An sc.all sc.env o,o.op with
  |some true,.call c=>match c.callee with
   |.value f=>match QZ sc.env f (c.args.toList.map (aev sc.env))with
    |some (fn,as')=>match Ef [] as' with
     |some a=>some (fn,a)
     |none=>none
    |none=>none
   |_=>none
  |_,_=>none
 |[]=>none
def Al9 (r:AV)(sc:SC):SC:=match sc.rest with
 |o::rest=>AA1 o.dst (unA [] r) sc.env sc.Ls λenv Ls=>⟨sc.all,sc.cls.tail,rest,env,Ls,sc.kn⟩
 |[]=>sc
def Ba4 (hc:pr){fn:FuncId}{args:List AV}{r:AV}(f:Mb S fn args [] r [] [])
 (hk:SG S P (Al9 r (By P sc)) k) (hp:pr=C5 (Ov P sc):=by kernel_rfl) (a:Zd (By P sc)=some (fn,args):=by kernel_rfl) (hn:Zc (By P sc)=true:=by kernel_rfl):SG S P sc k:=by
 refine Al7 hc ?_ hp;generalize By P sc=s at a hn hk;obtain⟨all,cls,rest,env,Ls,kn⟩:=s;cases rest with
 |nil=>simp[Zd]at a
 |cons o rest=>
  cases cls with
  |nil=>simp[Zc]at hn
  |cons cl cls=>
   simp only[Zd]at a;split at a
   .rename_i c g d;split at a
    .rename_i b;split at a
     .rename_i hw;split at a
      .rename_i i;cases a;simp only[Zc,d]at hn;simp only[Al9,EV,Bp1]at hk;exact AZ0 g d b hn hw i f hk
      cases a
     cases a
    cases a
   cases a
def GQ (P:Program)(sc:SC):Option (List Prop×PV):=match sc.cls,sc.rest with
 |_::_,o::_=>match An sc.all sc.env o with
  |some true=>PZ P sc.env o.op
  |_=>none
 |_,_=>none
def Xm (x:PV)(sc:SC):SC:=match sc.rest with
 |o::rest=>AA1 o.dst (.p x) sc.env sc.Ls λenv Ls=>⟨sc.all,sc.cls.tail,rest,env,Ls,sc.kn⟩
 |[]=>sc
def AQ4 (hc:pr){x:PV}(hk:SG S P (Xm x (By P sc)) k)(hp:pr=C5 (Ov P sc):=by kernel_rfl)(a:(GQ P (By P sc)).map (·.2)=some x:=by kernel_rfl)(b:((GQ P (By P sc)).map λq=>C5 q.1)=some (true=true):=by kernel_rfl):SG S P sc k:=by
 refine Al7 hc ?_ hp;generalize By P sc=s at a b hk;obtain⟨all,cls,rest,env,Ls,kn⟩:=s;cases rest with
 |nil=>cases cls<;>simp[GQ]at a
 |cons o rest=>
  cases cls with
  |nil=>simp[GQ]at a
  |cons cl cls=>
   cases d:An all env o with
   |none=>simp[GQ,d]at a
   |some bb=>
    cases bb with
    |false=>simp[GQ,d]at a
    |true=>
     simp only[GQ,d]at a b;cases ha:PZ P env o.op with
     |none=>rw[ha]at a;cases a
     |some q=>obtain⟨c,y⟩:=q;rw[ha]at a b;simp only[Bj0,Bh9]at a b;subst a;simp only[Xm,EV,Bp1]at hk;exact Ay2 d ha (by rw[b];trivial) hk
def OB (P:Program)(sc:SC):Option LookI:=match sc.cls,sc.rest with
 |cl::_,o::_=>match An sc.all sc.env o,o.op with
  |some true,.lookup t m q _=>match Ee sc.Ls (aev sc.env q),aev sc.env m with
   |some (key,Ls),.Ni j=>match A1 Ls j,tk P t with
    |some (.map es),some (.map kt e)=>if (Gj P kt key&&UO cl sc.env (o.dst.getD 0) o.op) then some ⟨kt,e,key,es⟩else none
    |_,_=>none
   |_,_=>none
  |_,_=>none
 |_,_=>none
def UX (x:PV)(b:Bool)(sc:SC):SC:=match sc.rest with
 |o::rest=>match o.op with
  |.lookup _ _ q ok=>match Ee sc.Ls (aev sc.env q)with
   |some (_,Ls)=>AA1 o.dst (if ok then .tup [.p x,.bool b]else .p x) sc.env Ls λenv Ls=>⟨sc.all,sc.cls.tail,rest,env,Ls,sc.kn⟩
   |none=>sc
  |_=>sc
 |[]=>sc
def AA4 (hc:pr){kt e:TypeId}{key:PV}{es:List (PV×PV)}{x:PV}{b:Bool}{fd:Option PV}
 (j:find (HH P kt) key es=some fd) (g:C5 (Hn P kt)) (hk:SG S P (UX x b (By P sc)) k) (hp:pr=C5 (Ov P sc):=by kernel_rfl) (a:OB P (By P sc)=some ⟨kt,e,key,es⟩:=by kernel_rfl) (hx:UV P e fd=some (x,b):=by kernel_rfl):SG S P sc k:=by
 refine Al7 hc ?_ hp;generalize By P sc=s at a hk;obtain⟨all,cls,rest,env,Ls,kn⟩:=s;cases rest with
 |nil=>cases cls<;>simp[OB]at a
 |cons o rest=>
  cases cls with
  |nil=>simp[OB]at a
  |cons cl cls=>
   simp only[OB]at a;split at a
   .rename_i l f;split at a
    .rename_i i hm;split at a
     .rename_i m ht;split at a
      .rename_i c;simp only[Bh9,LookI.mk.injEq]at a;obtain⟨rfl,rfl,rfl,rfl⟩:=a;simp only[Bi1]at c;simp only[UX,f,i,EV,Bp1]at hk;have d:=c.2;simp only[f]at d;cases fd with
       |some y=>exact YW (fd:=some y) l f i hm m ht c.1 j hx g (by rw[f];exact d) hk
       |none=>exact YW (fd:=none) l f i hm m ht c.1 j hx g (by rw[f];exact d) hk
      cases a
     cases a
    cases a
   cases a
def UY (P:Program)(sc:SC):Option (TypeId×PV×PV×List (PV×PV)):=match sc.cls,sc.rest with
 |.w::_,o::_=>match An sc.all sc.env o,o.op with
  |some true,.mapUpdate t m q x=>match aev sc.env q,aev sc.env m,Ee sc.Ls (aev sc.env x)with
   |.p key,.Ni j,some (y,Ls)=>match A1 Ls j,tk P t with
    |some (.map es),some (.map kt _)=>if Gj P kt (nP key) then some (kt,nP key,y,es)else none
    |_,_=>none
   |_,_,_=>none
  |_,_=>none
 |_,_=>none
def AA5 (es' : List (PV×PV))(sc:SC):SC:=match sc.rest with
 |o::rest=>match o.op with
  |.mapUpdate _ m _ x=>match aev sc.env m,Ee sc.Ls (aev sc.env x)with
   |.Ni j,some (_,Ls)=>AA1 o.dst Kx sc.env (ins j (.map es') Ls) λenv Ls=>⟨sc.all,sc.cls.tail,rest,env,Ls,sc.kn⟩
   |_,_=>sc
  |_=>sc
 |[]=>sc
def AA6 (hc:pr){kt:TypeId}{key y:PV}{es es' : List (PV×PV)}
 (i:upd (HH P kt) key y es=some es') (b:C5 (Hn P kt)) (hk:SG S P (AA5 es' (By P sc)) k) (hp:pr=C5 (Ov P sc):=by kernel_rfl) (a:UY P (By P sc)=some (kt,key,y,es):=by kernel_rfl):SG S P sc k:=by
 refine Al7 hc ?_ hp;generalize By P sc=s at a hk;obtain⟨all,cls,rest,env,Ls,kn⟩:=s;cases rest with
 |nil=>cases cls with
  |nil=>simp[UY]at a
  |cons cl cls=>cases cl<;>simp[UY]at a
 |cons o rest=>
  cases cls with
  |nil=>simp[UY]at a
  |cons cl cls=>
   cases cl with
   |w=>
    simp only[UY]at a;split at a
    .rename_i j d;split at a
     .rename_i h1 f g;split at a
      .rename_i l ht;split at a
       .rename_i c;simp only[Bh9,Bi6]at a;obtain⟨rfl,rfl,rfl,rfl⟩:=a;simp only[AA5,d,f,g,EV,Bp1]at hk;exact Xl j d h1 g f l ht c i b hk
       cases a
      cases a
     cases a
    cases a
   |_=>simp[UY]at a
end
end
structure KG (S:U6) (P:Program) (F:M8) (g:Cfg):Prop where
 out:G S P F g
structure DG (S:U6) (P:Program) (sc:SC) (k:Env->C4->Prop):Prop where
 out:SG S P sc k
structure KLe (ids:List (Nat×Nat)) (s t:St):Prop where
 out:Le ids s t
section
variable {S:U6}{P:Program}{F:M8}{g:Cfg}{pr:Prop}
def kl {ids:List (Nat×Nat)}{s t:St}(h:(leK ids s t).map (·.map Nj.src)=(leK ids s t).map (·.map Nj.tgt):=by kernel_rfl)(h1:(leK ids s t).isSome=true:=by kernel_rfl):KLe ids s t:=⟨kle h h1⟩
def klR {ids:List (Nat×Nat)}{s t:St}(rs:List (Nat×Nj))(a:∀q∈rs,q.2.ok)(h:(leK ids s t).map (Az8 (rs.map (·.1)) Nj.src)=(leK ids s t).map (Az8 (rs.map (·.1)) Nj.tgt):=by kernel_rfl)
 (b:(leK ids s t).map (λL=>rs.map λq=>L[q.1]?)=some (rs.map λq=>some q.2):=by kernel_rfl):KLe ids s t:=⟨kleR rs a h b⟩
def D0 (hS:G6 S P)(hc:pr){b:Bool}(ht:b=true->KG S P F (AP6 (stp P g)))(a:b=false->KG S P F (AP7 (stp P g)))(hp:pr=C5 (cnd P g):=by kernel_rfl)(hb:Az1 (stp P g)=some b:=by kernel_rfl):KG S P F g:=
 ⟨AZ7 hS hc (λh=>(ht h).out) (λh=>(a h).out) hp hb⟩
def GR (hS:G6 S P)(hc:pr){b:Bool}(ht:b=true->KG S P F (Or true (stp P g)))(a:b=false->KG S P F (Or false (stp P g)))(hp:pr=C5 (cnd P g):=by kernel_rfl)(hb:YX (stp P g)=some b:=by kernel_rfl):KG S P F g:=
 ⟨AP9 hS hc (λh=>(ht h).out) (λh=>(a h).out) hp hb⟩
def B3 (hS:G6 S P)(ids:List Nat)(hc:pr){fn:FuncId}{args:List AV}{objs objs' : List Obj}{r:AV}{ks:List Bool}(a:Mb S fn args objs r objs' ks)(hk:KG S P F (Az2 ids ks r objs' (stp P g)))
 (hp:pr=C5 (cnd P g):=by kernel_rfl) (b:Ac0 ids (stp P g)=some (fn,args,objs):=by kernel_rfl) (hn:Ac1 ids ks objs'.length (stp P g)=true:=by kernel_rfl):KG S P F g:=⟨AZ8 hS ids hc a hk.out hp b hn⟩
def Ze (hS:G6 S P)(hc:pr){kt e:TypeId}{key:PV}{es:List (PV×PV)}{x:PV}{b:Bool}{fd:Option PV}(c:find (HH P kt) key es=some fd)(a:C5 (Hn P kt))(hk:KG S P F (Al6 x b (stp P g)))
 (hp:pr=C5 (cnd P g):=by kernel_rfl) (d:Al5 P (stp P g)=some ⟨kt,e,key,es⟩:=by kernel_rfl) (hx:UV P e fd=some (x,b):=by kernel_rfl):KG S P F g:=⟨Az9 hS hc c a hk.out hp d hx⟩
def AA7 (hS:G6 S P)(hc:pr){kt:TypeId}{key y:PV}{es es' : List (PV×PV)}(b:upd (HH P kt) key y es=some es')(a:C5 (Hn P kt))(hk:KG S P F (Bh2 es' (stp P g)))
 (hp:pr=C5 (cnd P g):=by kernel_rfl) (c:Bh1 P (stp P g)=some (kt,key,y,es):=by kernel_rfl):KG S P F g:=⟨AA0 hS hc b a hk.out hp c⟩
def KS (hS:G6 S P)(hc:pr)(st:St){ids:List (Nat×Nat)}(hk:KG S P F (opsS st (stp P g)))(hp:pr=C5 (cnd P g):=by kernel_rfl)(a:Kc (stp P g)=true:=by kernel_rfl)(hle:KLe ids (stp P g).st st:=by exact kl):KG S P F g:=
 ⟨AZ9 hS hc st hk.out hp a hle.out⟩
def Xn (hS:G6 S P)(hc:pr)(b:∀s,S.up s (F .normal)->F .normal s)(n:Nat)(s:St)
 (h1:∀(M:St->Prop),(∀(g' : Cfg) (ids:List (Nat×Nat)) (pr:Prop),pr->(hp:pr=C5 (cnd P g'):=by kernel_rfl)->(a:stp P g' = .pop .normal (.mid M::(stp P g).k.drop n) (stp P g').st:=by kernel_rfl)->(hle:KLe ids (stp P g').st s:=by exact kl)->KG S P F g')->KG S P F (AZ6 n M (stp P g)))
 (c:KG S P F (.pop .normal ((stp P g).k.drop n) s)) (hp:pr=C5 (cnd P g):=by kernel_rfl) (hn:Nat.ble n (stp P g).k.length=true:=by kernel_rfl):KG S P F g:=
 ⟨J_cut hS hc b n s (λM hb=>(h1 M λg' ids pr hc hp a hle=>⟨hb g' ids pr hc hp a hle.out⟩).out) c.out hp hn⟩
def Mz (hS:G6 S P)(hc:pr)(c:∀s,S.up s (F .normal)->F .normal s){R A:Type}{f:(A->Option R)->Option R}{k0:A->Option R}{r:R}(h:lt k0 f=some r)(n:Nat)(s:A->St)
 (h1:∀(M:St->Prop) (k:A->Option R),(∀(g' : Cfg) (ids:List (Nat×Nat)) (pr:Prop) (a:A),pr->k a=some r->(hp:pr=C5 (cnd P g'):=by kernel_rfl)->(b:stp P g' = .pop .normal (.mid M::(stp P g).k.drop n) (stp P g').st:=by kernel_rfl)->(hle:KLe ids (stp P g').st (s a):=by exact kl)->KG S P F g')->f k=some r->KG S P F (AZ6 n M (stp P g)))
 (d:∀a,k0 a=some r->KG S P F (.pop .normal ((stp P g).k.drop n) (s a))) (hp:pr=C5 (cnd P g):=by kernel_rfl) (hn:Nat.ble n (stp P g).k.length=true:=by kernel_rfl):KG S P F g:=
 ⟨J_lt hS hc c h n s (λM k hb i=>(h1 M k (λg' ids pr a hc hk hp b hle=>⟨hb g' ids pr a hc hk hp b hle.out⟩) i).out) (λa hk=>(d a hk).out) hp hn⟩
def P9 (hS:G6 S P)(hc:pr){R A:Type}{body:(A->Option R)->A->Option R}{N:Nat}{a0:A}{r:R}(h:W8 N body a0=some r)(s:A->St){ids:List (Nat×Nat)}
 (i:∀(X:Type) (s' : X->St) (J:X->Prop) (m:X->Nat) (n:Nat) (b:A->Option R) (a:A),
  (∀(g' : Cfg) (ids:List (Nat×Nat)) (pr:Prop) (a:A),pr->b a=some r->(hp:pr=C5 (cnd P g'):=by kernel_rfl)->(f:stp P g' = .pop .normal (.lp X s' J m n::(stp P g).k) (stp P g').st:=by kernel_rfl)->(hle:KLe ids (stp P g').st (s a):=by exact kl)->KG S P F g') ->
  body b a=some r->KG S P F (.code (Qe (stp P g)) (.lp X s' J m n::(stp P g).k) (s a))) (hp:pr=C5 (cnd P g):=by kernel_rfl) (hl:HY (stp P g)=true:=by kernel_rfl) (hle:KLe ids (stp P g).st (s a0):=by exact kl):KG S P F g:=
 ⟨Ba0 hS hc h s (λX s' J m n b a hb c=>(i X s' J m n b a (λg' ids pr a hc d hp f hle=>⟨hb g' ids pr a hc d hp f hle.out⟩) c).out) hp hl hle.out⟩
def I4 (hS:G6 S P)(hc:pr){R A B:Type}{body:(A->B->Option R)->A->B->Option R}{N:Nat}{a0:A}{b0:B}{r:R}(h:Bx N body a0 b0=some r)(s:A->B->St){ids:List (Nat×Nat)}
 (d:∀(X:Type) (s' : X->St) (J:X->Prop) (m:X->Nat) (n:Nat) (c:A->B->Option R) (a:A) (b:B),
  (∀(g' : Cfg) (ids:List (Nat×Nat)) (pr:Prop) (a:A) (b:B),pr->c a b=some r->(hp:pr=C5 (cnd P g'):=by kernel_rfl)->(o:stp P g' = .pop .normal (.lp X s' J m n::(stp P g).k) (stp P g').st:=by kernel_rfl)->(hle:KLe ids (stp P g').st (s a b):=by exact kl)->KG S P F g') ->
  body c a b=some r->KG S P F (.code (Qe (stp P g)) (.lp X s' J m n::(stp P g).k) (s a b))) (hp:pr=C5 (cnd P g):=by kernel_rfl) (hl:HY (stp P g)=true:=by kernel_rfl) (hle:KLe ids (stp P g).st (s a0 b0):=by exact kl):KG S P F g:=
 P9 hS hc h (λx=>s x.1 x.2) (λX s' J m n c a hb=>d X s' J m n (λa b=>c (a,b)) a.1 a.2 λg' ids pr a b h1 f i j l=>hb g' ids pr (a,b) h1 f i j l) hp hl hle
def OC (hS:G6 S P)(hc:pr){R A B C:Type}{body:(A->B->C->Option R)->A->B->C->Option R}{N:Nat}{a0:A}{b0:B}{c0:C}{r:R}(h:Ay9 N body a0 b0 c0=some r)(s:A->B->C->St){ids:List (Nat×Nat)}
 (f:∀(X:Type) (s' : X->St) (J:X->Prop) (m:X->Nat) (n:Nat) (d:A->B->C->Option R) (a:A) (b:B) (c:C),
  (∀(g' : Cfg) (ids:List (Nat×Nat)) (pr:Prop) (a:A) (b:B) (c:C),pr->d a b c=some r->(hp:pr=C5 (cnd P g'):=by kernel_rfl)->(q:stp P g' = .pop .normal (.lp X s' J m n::(stp P g).k) (stp P g').st:=by kernel_rfl)->(hle:KLe ids (stp P g').st (s a b c):=by exact kl)->KG S P F g') ->
  body d a b c=some r->KG S P F (.code (Qe (stp P g)) (.lp X s' J m n::(stp P g).k) (s a b c))) (hp:pr=C5 (cnd P g):=by kernel_rfl) (hl:HY (stp P g)=true:=by kernel_rfl) (hle:KLe ids (stp P g).st (s a0 b0 c0):=by exact kl):KG S P F g:=
 P9 hS hc h (λx=>s x.1 x.2.1 x.2.2) (λX s' J m n d a hb=>f X s' J m n (λa b c=>d (a,b,c)) a.1 a.2.1 a.2.2 λg' ids pr a b c h1 i j l o=>hb g' ids pr (a,b,c) h1 i j l o) hp hl hle
def Ba5 (hS:G6 S P)(hc:pr){R A B C D E F' : Type}{body:(A->B->C->D->E->F' -> Option R)->A->B->C->D->E->F' -> Option R}{N:Nat}{a0:A}{b0:B}{c0:C}{d0:D}{e0:E}{f0:F'}{r:R}(h:fix6 N body a0 b0 c0 d0 e0 f0=some r)(s:A->B->C->D->E->F' -> St){ids:List (Nat×Nat)}
 (j:∀(X:Type) (s' : X->St) (J:X->Prop) (m:X->Nat) (n:Nat) (i:A->B->C->D->E->F' -> Option R) (a:A) (b:B) (c:C) (d:D) (e:E) (f:F'),
  (∀(g' : Cfg) (ids:List (Nat×Nat)) (pr:Prop) (a:A) (b:B) (c:C) (d:D) (e:E) (f:F'),pr->i a b c d e f=some r->(hp:pr=C5 (cnd P g'):=by kernel_rfl)->(u:stp P g' = .pop .normal (.lp X s' J m n::(stp P g).k) (stp P g').st:=by kernel_rfl)->(hle:KLe ids (stp P g').st (s a b c d e f):=by exact kl)->KG S P F g') ->
  body i a b c d e f=some r->KG S P F (.code (Qe (stp P g)) (.lp X s' J m n::(stp P g).k) (s a b c d e f))) (hp:pr=C5 (cnd P g):=by kernel_rfl) (hl:HY (stp P g)=true:=by kernel_rfl) (hle:KLe ids (stp P g).st (s a0 b0 c0 d0 e0 f0):=by exact kl):KG S P F g:=
 P9 hS hc h (λx=>s x.1 x.2.1 x.2.2.1 x.2.2.2.1 x.2.2.2.2.1 x.2.2.2.2.2) (λX s' J m n i a hb=>j X s' J m n (λa b c d e f=>i (a,b,c,d,e,f)) a.1 a.2.1 a.2.2.1 a.2.2.2.1 a.2.2.2.2.1 a.2.2.2.2.2 λg' ids pr a b c d e f h1 l o q t=>hb g' ids pr (a,b,c,d,e,f) h1 l o q t) hp hl hle
def Am0 (hS:G6 S P)(hc:pr){n:Nat}{rs:List ResultVar}{Q:ARes->List Obj->List Bool->Prop}{a:AV}{objs:List Obj}(outs:List Nat)(b:Q (.ret a) objs (FF n outs))(hp:pr=C5 (cnd P g):=by kernel_rfl)
 (c:(Az3 (stp P g)).bind (λst=>SM P st rs outs)=some (a,objs):=by kernel_rfl):KG S P (CJ S P n rs Q) g:=⟨J_ret hS hc outs b hp c⟩
def J7 (hS:G6 S P)(hc:pr){n:Nat}{rs:List ResultVar}{Q:ARes->List Obj->List Bool->Prop}{a:AV}{objs:List Obj}(st:St)(outs:List Nat){ids:List (Nat×Nat)}(b:Q (.ret a) objs (FF n outs))(hp:pr=C5 (cnd P g):=by kernel_rfl)
 (c:(Az3 (stp P g)).isSome=true:=by kernel_rfl) (hle:KLe ids (stp P g).st st:=by exact kl) (d:SM P st rs outs=some (a,objs):=by kernel_rfl):KG S P (CJ S P n rs Q) g:=⟨Ba1 hS hc st outs b hp c hle.out d⟩
def A2 (hS:G6 S P){f:FuncId}{fn:Func}{args:List AV}{objs objs' : List Obj}{ks:List Bool}{r:AV}(c:P.funcs[f]? = some fn)
 (h:KG S P (CJ S P objs.length fn.results.toList λres o k=>res=.ret r/\o=objs' /\ k=ks) (.code (fn.body.getD .skip) [] { env:=Pg args,Ls:=Ma objs }))
 (hc:fn.body.isSome=true:=by kernel_rfl) (hn:Nat.ble args.length fn.ntmps=true:=by kernel_rfl) (d:Nat.blt objs.length 1000=true:=by kernel_rfl)
 (a:Bz fn.ntmps (fn.body.getD .skip)=true:=by kernel_rfl) (b:(fn.name == "runtime.NumGoroutine")=false:=by kernel_rfl):Mb S f args objs r objs' ks:=AQ0 hS c h.out hc hn d a b
def EW (hS:G6 S P)(hc:pr)(h:DG S P (HZ (stp P g)) λenv Ls=>KG S P F (.pop .normal (stp P g).k ⟨env,Ls⟩))(hp:pr=C5 (cnd P g):=by kernel_rfl)(c:Dj (stp P g)=true:=by kernel_rfl)(a:P.follows .mixedOrders=true:=by kernel_rfl)
 (b:Mv (HZ (stp P g)).all (HZ (stp P g)).cls=true:=by kernel_rfl):KG S P F g:=by
 have e:(λenv Ls=>KG S P F (.pop .normal (stp P g).k ⟨env,Ls⟩))=λenv Ls=>G S P F (.pop .normal (stp P g).k ⟨env,Ls⟩):=by funext env Ls;exact propext ⟨λh=>h.out,λh=>⟨h⟩⟩
 rw[e]at h;exact⟨AQ1 hS hc h.out hp c a b⟩
section
variable {sc:SC}{k:Env->C4->Prop}
def C7 (hc:pr)(h:k (By P sc).env (By P sc).Ls)(hp:pr=C5 (Ov P sc):=by kernel_rfl)(a:(By P sc).rest.isEmpty=true:=by kernel_rfl):DG S P sc k:=⟨C_end hc h hp a⟩
def J2 (hc:pr){b:Bool}(ht:b=true->DG S P (Ow true (By P sc)) k)(a:b=false->DG S P (Ow false (By P sc)) k)(hp:pr=C5 (Ov P sc):=by kernel_rfl)(hb:SO (By P sc)=some b:=by kernel_rfl):DG S P sc k:=
 ⟨AQ2 hc (λh=>(ht h).out) (λh=>(a h).out) hp hb⟩
def OD (ids:List Nat)(hc:pr){fn:FuncId}{args:List AV}{objs objs' : List Obj}{r:AV}{ks:List Bool}(a:Mb S fn args objs r objs' ks)(hk:DG S P (OA ids ks r objs' (By P sc)) k)
 (hp:pr=C5 (Ov P sc):=by kernel_rfl) (b:Ox ids (By P sc)=some (fn,args,objs):=by kernel_rfl) (hn:Oz ids ks objs'.length (By P sc)=true:=by kernel_rfl):DG S P sc k:=⟨Ba3 ids hc a hk.out hp b hn⟩
def G3 (hc:pr){fn:FuncId}{args:List AV}{r:AV}(a:Mb S fn args [] r [] [])(hk:DG S P (Al9 r (By P sc)) k)(hp:pr=C5 (Ov P sc):=by kernel_rfl)(b:Zd (By P sc)=some (fn,args):=by kernel_rfl)(hn:Zc (By P sc)=true:=by kernel_rfl):DG S P sc k:=
 ⟨Ba4 hc a hk.out hp b hn⟩
def N3 (hc:pr){x:PV}(hk:DG S P (Xm x (By P sc)) k)(hp:pr=C5 (Ov P sc):=by kernel_rfl)(b:(GQ P (By P sc)).map (·.2)=some x:=by kernel_rfl)(a:((GQ P (By P sc)).map λq=>C5 q.1)=some (true=true):=by kernel_rfl):DG S P sc k:=⟨AQ4 hc hk.out hp b a⟩
def Zf (hc:pr){kt e:TypeId}{key:PV}{es:List (PV×PV)}{x:PV}{b:Bool}{fd:Option PV}(c:find (HH P kt) key es=some fd)(a:C5 (Hn P kt))(hk:DG S P (UX x b (By P sc)) k)
 (hp:pr=C5 (Ov P sc):=by kernel_rfl) (d:OB P (By P sc)=some ⟨kt,e,key,es⟩:=by kernel_rfl) (hx:UV P e fd=some (x,b):=by kernel_rfl):DG S P sc k:=⟨AA4 hc c a hk.out hp d hx⟩
def AA8 (hc:pr){kt:TypeId}{key y:PV}{es es' : List (PV×PV)}(b:upd (HH P kt) key y es=some es')(a:C5 (Hn P kt))(hk:DG S P (AA5 es' (By P sc)) k)
 (hp:pr=C5 (Ov P sc):=by kernel_rfl) (c:UY P (By P sc)=some (kt,key,y,es):=by kernel_rfl):DG S P sc k:=⟨AA6 hc b a hk.out hp c⟩
end
end
end Go.AM
namespace Go.AM
section
variable {S:U6}{P:Program}{F:M8}{g:Cfg}{pr:Prop}
def yldE:Cfg->Option (List PV×List (List PV))
 |.ops all (o::_) _ st=>match BA all st.env o,o.op with
  |some true,.call c=>match c.callee with
   |.value f=>match aev st.env f,Gg st.Ls (c.args.toList.map (aev st.env))with
    |.yf j,some (xs,Ls)=>match A1 Ls j with
     |some (.yld (ys::rest) true)=>if FS j Ls=true/\xs.length=ys.length then some (xs,ys::rest)else none
     |_=>none
    |_,_=>none
   |_=>none
  |_,_=>none
 |_=>none
def Ba6 (b:Bool)(rest:List (List PV)):Cfg->Cfg
 |.ops all (o::ops) K st=>match o.op with
  |.call c=>match c.callee with
   |.value f=>match aev st.env f,Gg st.Ls (c.args.toList.map (aev st.env))with
    |.yf j,some (_,Ls)=>Ab9 o.dst (.p (.bb b)) st.env (ins j (.yld rest b) Ls) λst=>.ops all ops K st
    |_,_=>.ops all (o::ops) K st
   |_=>.ops all (o::ops) K st
  |_=>.ops all (o::ops) K st
 |g=>g
def UZ:∀l:List PV,AM1 l l
 |[]=>trivial
 |x::l=>⟨.inl rfl,UZ l⟩
def AQ5 (hS:G6 S P)(hc:pr){ys:List PV}{rest:List (List PV)}(ht:G S P F (Ba6 true rest (stp P g)))(d:G S P F (Ba6 false [] (stp P g)))(hp:pr=C5 (cnd P g))(a:yldE (stp P g)=some (ys,ys::rest)):G S P F g:=by
 refine FA hS hc ?_ hp;generalize stp P g=g' at a ht d;unfold yldE at a;split at a
 .split at a
  .rename_i l i;split at a
   .rename_i c;split at a
    .rename_i hy j;split at a
     .rename_i m;split at a
      .rename_i f;simp only[Bh9,Bi6,Bn1]at a;obtain⟨rfl,rfl,rfl⟩:=a;simp only[Ba6,i,c,hy,j,FT]at ht d;refine AP1 hS l i c hy j m f.1 (UZ _) λb=>?_;cases b
       .exact d
       exact ht
      cases a
     cases a
    cases a
   cases a
  cases a
 cases a
def Dk (hS:G6 S P)(hc:pr){ys:List PV}{rest:List (List PV)}(ht:KG S P F (Ba6 true rest (stp P g)))(a:KG S P F (Ba6 false [] (stp P g)))(hp:pr=C5 (cnd P g):=by kernel_rfl)(b:yldE (stp P g)=some (ys,ys::rest):=by kernel_rfl):KG S P F g:=
 ⟨AQ5 hS hc ht.out a.out hp b⟩
def Ag {T:Type}(x:T)(o:Option (List T)):Option (List T):=o.map (x :: ·)
def LY {T:Type}{x:T}{o:Option (List T)}{L:List T}(h:Ag x o=some L):∃L',L=x::L' /\ o=some L':=by simp only[Ag,Bk8]at h;obtain⟨l,h1,a⟩:=h;exact⟨l,a.symm,h1⟩
def Dl (hS:G6 S P)(hc:pr){R A:Type}{body:(A->Option R)->A->Option R}{N:Nat}{a0:A}{r0:R}(h:W8 N body a0=some r0)(s:A->R->St){ids:List (Nat×Nat)}
 (f:∀(X:Type) (s' : X->St) (J:X->Prop) (m:X->Nat) (n:Nat) (b:A->Option R) (a:A) (r:R),
  (∀(g' : Cfg) (ids:List (Nat×Nat)) (pr:Prop) (a:A) (r:R),pr->b a=some r->(hp:pr=C5 (cnd P g'):=by kernel_rfl)->(d:stp P g' = .pop .normal (.lp X s' J m n::(stp P g).k) (stp P g').st:=by kernel_rfl)->(hle:KLe ids (stp P g').st (s a r):=by exact kl)->KG S P F g') ->
  body b a=some r->KG S P F (.code (Qe (stp P g)) (.lp X s' J m n::(stp P g).k) (s a r))) (hp:pr=C5 (cnd P g):=by kernel_rfl) (hl:HY (stp P g)=true:=by kernel_rfl) (hle:KLe ids (stp P g).st (s a0 r0):=by exact kl):KG S P F g:=by
 refine⟨FA hS hc ?_ hp⟩;rw[SL hl];refine Yt hS (X:=Nat×A×R) (λx=>s x.2.1 x.2.2) (λx=>W8 x.1 body x.2.1=some x.2.2) (λx=>x.1) (N,a0,r0) ids hle.out h ?_;rintro⟨n,a,r⟩ hx;cases n with
 |zero=>cases hx
 |succ n=>exact (f _ _ _ _ _ (W8 n body) a r (λg' ids pr a r hc c hp d hle=>⟨FA hS hc (by rw[d];exact WK hS (n,a,r) ids hle.out c (By1 n)) hp⟩) hx).out
def SQ (hS:G6 S P)(hc:pr){R A B:Type}{body:(A->B->Option R)->A->B->Option R}{N:Nat}{a0:A}{b0:B}{r0:R}(h:Bx N body a0 b0=some r0)(s:A->B->R->St){ids:List (Nat×Nat)}
 (d:∀(X:Type) (s' : X->St) (J:X->Prop) (m:X->Nat) (n:Nat) (c:A->B->Option R) (a:A) (b:B) (r:R),
  (∀(g' : Cfg) (ids:List (Nat×Nat)) (pr:Prop) (a:A) (b:B) (r:R),pr->c a b=some r->(hp:pr=C5 (cnd P g'):=by kernel_rfl)->(o:stp P g' = .pop .normal (.lp X s' J m n::(stp P g).k) (stp P g').st:=by kernel_rfl)->(hle:KLe ids (stp P g').st (s a b r):=by exact kl)->KG S P F g') ->
  body c a b=some r->KG S P F (.code (Qe (stp P g)) (.lp X s' J m n::(stp P g).k) (s a b r))) (hp:pr=C5 (cnd P g):=by kernel_rfl) (hl:HY (stp P g)=true:=by kernel_rfl) (hle:KLe ids (stp P g).st (s a0 b0 r0):=by exact kl):KG S P F g:=
 Dl hS hc h (λx r=>s x.1 x.2 r) (λX s' J m n c a r hb=>d X s' J m n (λa b=>c (a,b)) a.1 a.2 r λg' ids pr a b r h1 f i j l=>hb g' ids pr (a,b) r h1 f i j l) hp hl hle
def EB (hS:G6 S P){f:FuncId}{fn:Func}{first caps:List AV}{objs:List Obj}{L:List (List PV)}(i:P.funcs[f]? = some fn)
 (h:KG S P (CJ S P (objs++[Obj.yld L true]).length fn.results.toList λr objs' ks=>∃b,objs'[objs.length]? = some (.yld [] b)/\ks[objs.length]? = some true/\∃a,r=.ret a) (.code (fn.body.getD .skip) [] { env:=Pg (first ++ .yf objs.length::caps),Ls:=Ma (objs++[Obj.yld L true]) }))
 (hc:fn.body.isSome=true:=by kernel_rfl) (hn:Nat.ble (first ++ .yf objs.length::caps).length fn.ntmps=true:=by kernel_rfl) (j:Nat.blt (objs++[Obj.yld L true]).length 1000=true:=by kernel_rfl)
 (d:Bz fn.ntmps (fn.body.getD .skip)=true:=by kernel_rfl) (g:(fn.name == "runtime.NumGoroutine")=false:=by kernel_rfl):ET S f first caps objs L:=by
 obtain⟨code,c⟩:=Bj3.1 hc;rw[c,Bi7]at d h;exact LW hS i c (Bo1 hn) (by simpa[Br8]using j) rfl d g h.out
def Va (P:Program)(ids:List Nat):Cfg->Option (FuncId×List AV×List AV×List Obj)
 |.code (.rangeFunc op _ _ _) _ st=>match FQ st.env op with
  |some (f,first,caps)=>match P.funcs[f]?,M9 ids st.Ls ids,Ef ids first,Ef ids caps with
   |some fn,some objs,some as,some bs=>if (fn.body.isSome && !(fn.name == "runtime.NumGoroutine")&&Fz objs&&I1 ids&&(objs.length==ids.length)&&Nat.blt ids.length 1000) then some (f,as,bs,objs)else none
   |_,_,_,_=>none
  |none=>none
 |_=>none
def Jo:Cfg->Array Tmp
 |.code (.rangeFunc _ ps _ _) _ _=>ps
 |_=>#[]
def Vb:Cfg->Code
 |.code (.rangeFunc _ _ a _) _ _=>a
 |_=>.skip
def Vc:Cfg->Code
 |.code (.rangeFunc _ _ _ b) _ _=>b
 |_=>.skip
def Vd (ids ts:List Nat)(g:Cfg):St:=⟨Y3 ts (ts.map (get g.st.env)),K8 ids (ids.map λ_=>false) g.st.Ls⟩
def rst (gh:Nat)(t:St):St:=⟨[],ins gh (.ghost (t.env.map (·.2))) t.Ls⟩
def Ve (gh:Nat)(ps:Array Tmp)(ys:List PV)(t:St):St:=⟨Nf ps.toList ys t.env,ins gh (.ghost (t.env.map (·.2))) t.Ls⟩
def exitE:Cfg->Jb
 |.pop e _ _=>e
 |_=>.normal
def AJ3:Cfg->Bool
 |.pop .ret [] _=>true
 |.pop (.exit _) [] _=>true
 |_=>false
def Am1 (Ls:C4)(d:Nat)(x:Obj):A1 (ins d x Ls) d=some x:=by
 induction Ls with
 |nil=>simp[ins,A1]
 |cons p r ih=>
  obtain⟨i,b⟩:=p;simp only[ins];split
  .simp[A1]
  split
  .simp[A1]
  rename_i h1 a;simp only[A1,a,Ev,ih]
def Ia (gh:Nat)(t:St):A1 (rst gh t).Ls gh=some (.ghost (t.env.map λp=>p.2)):=by unfold rst;exact Am1 _ _ _
def OE (ids:List Nat):Cfg->Option (FuncId×List AV×List AV×List Obj)
 |.code (.rangeFunc op _ _ _) _ st=>match FQ st.env op with
  |some (f,first,caps)=>match M9 ids st.Ls ids,Ef ids first,Ef ids caps with
   |some objs,some as,some bs=>if (Fz objs&&I1 ids&&(objs.length==ids.length)&&Nat.blt ids.length 1000) then some (f,as,bs,objs)else none
   |_,_,_=>none
  |none=>none
 |_=>none
def IW {ids:List Nat}{g:Cfg}{q:FuncId×List AV×List AV×List Obj}(h:Va P ids g=some q):OE ids g=some q/\∃fn,P.funcs[q.1]? = some fn/\fn.body.isSome=true/\(fn.name == "runtime.NumGoroutine")=false:=by
 unfold Va at h;split at h
 .split at h
  .rename_i a;split at h
   .rename_i fn objs' as' bs' h1 c d f;split at h
    .rename_i b;cases h;simp only[Bi1,Bk1,beq_iff_eq]at b;obtain⟨⟨⟨⟨⟨e1,e2⟩,e3⟩,e4⟩,e5⟩,e6⟩:=b;refine⟨?_,fn,h1,e1,by simpa using e2⟩;simp only[OE,a,c,d,f,e3,e4,e5,e6,beq_self_eq_true,Bx4,Eu]
    cases h
   cases h
  cases h
 cases h
def NG (hS:G6 S P)(hc:pr){f:FuncId}{as bs:List AV}{objs:List Obj}{R T A:Type}{enc:T->List PV}{L:List T}{mb:(A->Option R)->T->A->Option R}{mk:A->Option R}{a0:A}{r:R}(o:∃fn,P.funcs[f]? = some fn/\fn.body.isSome=true/\(fn.name == "runtime.NumGoroutine")=false)
 (ids ts:List Nat) (gh:Nat) (s:A->St) {idl:List (Nat×Nat)}(h:T4 L mb mk a0=some r) (x:ET S f as bs objs (L.map enc))
 (i:∀t:T,AI (enc t)=some (Jo (stp P g)).size) (hk:∀a,(s a).env.map (·.1)=ts) (hn:∀a,A1 (s a).Ls gh=none) (m:∀a,(⟨Y3 ts ((s a).env.map (·.2)),del gh (ins gh (.ghost ((s a).env.map (·.2))) (s a).Ls)⟩:St)=s a)
 (c:∀(t:T) (next:St->Prop) (d:A->Option R) (a:A),
  (∀(g' : Cfg) (ids:List (Nat×Nat)) (pr:Prop) (a:A),pr->d a=some r->(hp:pr=C5 (cnd P g'):=by kernel_rfl)->(b:stp P g' = .pop .normal [] (stp P g').st:=by kernel_rfl)->(hle:KLe ids (stp P g').st (rst gh (s a)):=by exact kl)->KG S P (GH S gh ts next (kp S P (stp P g).k F)) g') ->
  mb d t a=some r->KG S P (CK S P (Vc (stp P g)) gh ts next (kp S P (stp P g).k F)) (.code (Vb (stp P g)) [] (Ve gh (Jo (stp P g)) (enc t) (s a))))
 (j:∀a,mk a=some r->KG S P F (.pop .normal (stp P g).k (s a)))
 (hp:pr=C5 (cnd P g):=by kernel_rfl) (b:OE ids (stp P g)=some (f,as,bs,objs):=by kernel_rfl) (q:Nat.blt gh 1000=true:=by kernel_rfl) (n:A1 (stp P g).st.Ls gh=none:=by kernel_rfl) (u:I1 ts=true:=by kernel_rfl)
 (hle:KLe idl (Vd ids ts (stp P g)) (s a0):=by exact kl):KG S P F g:=by
 refine⟨FA hS hc ?_ hp⟩;generalize stp P g=g1 at i c j b n hle;unfold OE at b;split at b
 .rename_i op ps asg body K st;split at b
  .rename_i f' first caps v
   split at b
   .rename_i objs' as' bs' y z h4;split at b
    .rename_i w;simp only[Bh9,Bi6]at b;obtain⟨rfl,rfl,rfl,rfl⟩:=b;simp only[Bi1,Bk1,beq_iff_eq]at w;obtain⟨⟨⟨e3,e4⟩,e5⟩,e6⟩:=w;refine AP4 hS ids ts gh s idl h x v o y e3 e4 z h4 e5 q n e6 u i hle.out hk hn (λt next d a hb hm=>?_) (λa hm=>(j a hm).out);refine (c t next d a (λg' ids' pr a hc l hp b hle=>⟨FA hS hc ?_ hp⟩) hm).out;rw[b];have hl:((s a).env.map (·.2)).length=ts.length:=by rw[<- hk a];simp
     refine hb _ (rst gh (s a)) ((s a).env.map λp=>p.2) ids' a hle.out (Ia gh (s a)) hl ?_ (m a) l
     have:=congrArg St.Ls (m a)
     simp only at this;show A1 (del gh (ins gh _ _)) gh=none;rw[this];exact hn a
    cases b
   cases b
  cases b
 cases b
def GS (hS:G6 S P)(hc:pr){f:FuncId}{as bs:List AV}{objs:List Obj}{R T A:Type}{enc:T->List PV}{L:List T}{mb:(A->Option R)->T->A->Option R}{mk:A->Option R}{a0:A}{r:R}
 (ids ts:List Nat) (gh:Nat) (s:A->St) {idl:List (Nat×Nat)}(h:T4 L mb mk a0=some r) (q:ET S f as bs objs (L.map enc))
 (d:∀t:T,AI (enc t)=some (Jo (stp P g)).size) (hk:∀a,(s a).env.map (·.1)=ts) (hn:∀a,A1 (s a).Ls gh=none) (j:∀a,(⟨Y3 ts ((s a).env.map (·.2)),del gh (ins gh (.ghost ((s a).env.map (·.2))) (s a).Ls)⟩:St)=s a)
 (b:∀(t:T) (next:St->Prop) (c:A->Option R) (a:A),
  (∀(g' : Cfg) (ids:List (Nat×Nat)) (pr:Prop) (a:A),pr->c a=some r->(hp:pr=C5 (cnd P g'):=by kernel_rfl)->(l:stp P g' = .pop .normal [] (stp P g').st:=by kernel_rfl)->(hle:KLe ids (stp P g').st (rst gh (s a)):=by exact kl)->KG S P (GH S gh ts next (kp S P (stp P g).k F)) g') ->
  mb c t a=some r->KG S P (CK S P (Vc (stp P g)) gh ts next (kp S P (stp P g).k F)) (.code (Vb (stp P g)) [] (Ve gh (Jo (stp P g)) (enc t) (s a))))
 (i:∀a,mk a=some r->KG S P F (.pop .normal (stp P g).k (s a)))
 (hp:pr=C5 (cnd P g):=by kernel_rfl) (l:Va P ids (stp P g)=some (f,as,bs,objs):=by kernel_rfl) (m:Nat.blt gh 1000=true:=by kernel_rfl) (n:A1 (stp P g).st.Ls gh=none:=by kernel_rfl) (o:I1 ts=true:=by kernel_rfl)
 (hle:KLe idl (Vd ids ts (stp P g)) (s a0):=by exact kl):KG S P F g:=
 NG hS hc (IW l).2 ids ts gh s h q d hk hn j b i hp (IW l).1 m n o hle
def Am2 (hS:G6 S P)(hc:pr){f:FuncId}{as bs:List AV}{objs:List Obj}{R T A:Type}{enc:T->List PV}{L:List T}{mb:(A->Option R)->T->A->Option R}{mk:A->Option R}{a0:A}{r0:R}(o:∃fn,P.funcs[f]? = some fn/\fn.body.isSome=true/\(fn.name == "runtime.NumGoroutine")=false)
 (ids ts:List Nat) (gh:Nat) (s:A->R->St) {idl:List (Nat×Nat)}(h:T4 L mb mk a0=some r0) (x:ET S f as bs objs (L.map enc))
 (i:∀t:T,AI (enc t)=some (Jo (stp P g)).size) (hk:∀a r,(s a r).env.map (·.1)=ts) (hn:∀a r,A1 (s a r).Ls gh=none) (m:∀a r,(⟨Y3 ts ((s a r).env.map (·.2)),del gh (ins gh (.ghost ((s a r).env.map (·.2))) (s a r).Ls)⟩:St)=s a r)
 (c:∀(t:T) (next:St->Prop) (d:A->Option R) (a:A) (r:R),
  (∀(g' : Cfg) (ids:List (Nat×Nat)) (pr:Prop) (a:A) (r:R),pr->d a=some r->(hp:pr=C5 (cnd P g'):=by kernel_rfl)->(b:stp P g' = .pop .normal [] (stp P g').st:=by kernel_rfl)->(hle:KLe ids (stp P g').st (rst gh (s a r)):=by exact kl)->KG S P (GH S gh ts next (kp S P (stp P g).k F)) g') ->
  mb d t a=some r->KG S P (CK S P (Vc (stp P g)) gh ts next (kp S P (stp P g).k F)) (.code (Vb (stp P g)) [] (Ve gh (Jo (stp P g)) (enc t) (s a r))))
 (j:∀a r,mk a=some r->KG S P F (.pop .normal (stp P g).k (s a r)))
 (hp:pr=C5 (cnd P g):=by kernel_rfl) (b:OE ids (stp P g)=some (f,as,bs,objs):=by kernel_rfl) (q:Nat.blt gh 1000=true:=by kernel_rfl) (n:A1 (stp P g).st.Ls gh=none:=by kernel_rfl) (u:I1 ts=true:=by kernel_rfl)
 (hle:KLe idl (Vd ids ts (stp P g)) (s a0 r0):=by exact kl):KG S P F g:=by
 refine⟨FA hS hc ?_ hp⟩;generalize stp P g=g1 at i c j b n hle;unfold OE at b;split at b
 .rename_i op ps asg body K st;split at b
  .rename_i f' first caps v
   split at b
   .rename_i objs' as' bs' y z h4;split at b
    .rename_i w;simp only[Bh9,Bi6]at b;obtain⟨rfl,rfl,rfl,rfl⟩:=b;simp only[Bi1,Bk1,beq_iff_eq]at w;obtain⟨⟨⟨e3,e4⟩,e5⟩,e6⟩:=w;refine Az0 hS ids ts gh s idl h x v o y e3 e4 z h4 e5 q n e6 u i hle.out hk hn (λt next d a r hb hm=>?_) (λa r hm=>(j a r hm).out);refine (c t next d a r (λg' ids' pr a r hc l hp b hle=>⟨FA hS hc ?_ hp⟩) hm).out;rw[b];have hl:((s a r).env.map (·.2)).length=ts.length:=by rw[<- hk a r];simp
     refine hb _ (rst gh (s a r)) ((s a r).env.map λp=>p.2) ids' a r hle.out (Ia gh (s a r)) hl ?_ (m a r) l
     have:=congrArg St.Ls (m a r)
     simp only at this;show A1 (del gh (ins gh _ _)) gh=none;rw[this];exact hn a r
    cases b
   cases b
  cases b
 cases b
def AA9 (hS:G6 S P)(hc:pr){f:FuncId}{as bs:List AV}{objs:List Obj}{R T A:Type}{enc:T->List PV}{L:List T}{mb:(A->Option R)->T->A->Option R}{mk:A->Option R}{a0:A}{r0:R}
 (ids ts:List Nat) (gh:Nat) (s:A->R->St) {idl:List (Nat×Nat)}(h:T4 L mb mk a0=some r0) (q:ET S f as bs objs (L.map enc))
 (d:∀t:T,AI (enc t)=some (Jo (stp P g)).size) (hk:∀a r,(s a r).env.map (·.1)=ts) (hn:∀a r,A1 (s a r).Ls gh=none) (j:∀a r,(⟨Y3 ts ((s a r).env.map (·.2)),del gh (ins gh (.ghost ((s a r).env.map (·.2))) (s a r).Ls)⟩:St)=s a r)
 (b:∀(t:T) (next:St->Prop) (c:A->Option R) (a:A) (r:R),
  (∀(g' : Cfg) (ids:List (Nat×Nat)) (pr:Prop) (a:A) (r:R),pr->c a=some r->(hp:pr=C5 (cnd P g'):=by kernel_rfl)->(l:stp P g' = .pop .normal [] (stp P g').st:=by kernel_rfl)->(hle:KLe ids (stp P g').st (rst gh (s a r)):=by exact kl)->KG S P (GH S gh ts next (kp S P (stp P g).k F)) g') ->
  mb c t a=some r->KG S P (CK S P (Vc (stp P g)) gh ts next (kp S P (stp P g).k F)) (.code (Vb (stp P g)) [] (Ve gh (Jo (stp P g)) (enc t) (s a r))))
 (i:∀a r,mk a=some r->KG S P F (.pop .normal (stp P g).k (s a r)))
 (hp:pr=C5 (cnd P g):=by kernel_rfl) (l:Va P ids (stp P g)=some (f,as,bs,objs):=by kernel_rfl) (m:Nat.blt gh 1000=true:=by kernel_rfl) (n:A1 (stp P g).st.Ls gh=none:=by kernel_rfl) (o:I1 ts=true:=by kernel_rfl)
 (hle:KLe idl (Vd ids ts (stp P g)) (s a0 r0):=by exact kl):KG S P F g:=
 Am2 hS hc (IW l).2 ids ts gh s h q d hk hn j b i hp (IW l).1 m n o hle
def Bh3 (t:Nat)(a:AV):Cfg->Cfg
 |.ops all rest K st=>mkO (ins t a st.env) st.Ls λenv Ls=>.ops all rest K ⟨env,Ls⟩
 |g=>g
def Vf (hS:G6 S P)(hc:pr)(t:Nat){k n:Nat}{f:Nat->List PV}(b:n=0->KG S P F (Bh3 t (.p (.v (.slice none 0 0))) (stp P g)))(h1:KG S P F (Bh3 t (.p (.sl true k n f)) (stp P g)))
 (hp:pr=C5 (cnd P g):=by kernel_rfl) (a:Kc (stp P g)=true:=by kernel_rfl) (c:get (stp P g).st.env t=.p (.sl false k n f):=by kernel_rfl):KG S P F g:=by
 refine⟨FA hS hc ?_ hp⟩;generalize stp P g=g1 at b h1 a c;unfold Kc at a;split at a
 .refine AX6 hS t c (λh=>?_) ?_
  .have:=(b h).out
   simpa only[Bh3,Gr]using this
  have:=h1.out
  simpa only[Bh3,Gr]using this
 cases a
def frzC (j:Nat)(ps:List PV):Cfg->Cfg
 |.code c K st=>mkO (Au1 j ps st.env) (ins j .dead st.Ls) λenv Ls=>.code c K ⟨env,Ls⟩
 |g=>g
def Qg (hS:G6 S P)(hc:pr)(j:Nat)(ps:List PV)(hk:KG S P F (frzC j ps (stp P g)))(hp:pr=C5 (cnd P g):=by kernel_rfl)(c:Dj (stp P g)=true:=by kernel_rfl)(b:P.follows .mixedOrders=true:=by kernel_rfl)
 (a:HP (HZ (stp P g)).all=true:=by kernel_rfl) (f:A1 (stp P g).st.Ls j=some (.cells (ps.map .p)):=by kernel_rfl):KG S P F g:=by
 refine⟨FA hS hc ?_ hp⟩;generalize stp P g=g1 at hk c a f;unfold Dj at c;split at c
 .rename_i id ops K st;have hk:=hk.out;simp only[frzC,Gr]at hk;show awp S P (.region id ops true) (kp S P K F) st;simp only[awp,Eu];have d : WH S P ops.toList (kp S P K F) ⟨Au1 j ps st.env,ins j .dead st.Ls⟩:=by
   have:awp S P (.region id ops true) (kp S P K F) ⟨Au1 j ps st.env,ins j .dead st.Ls⟩:=hk
   simpa only[awp,Eu]using this
  exact YT hS b a (hS.frz st j ps _ f d)
 cases c
def clsN (js:List Nat):Nat->List Oper->List Cls
 |_,[]=>[]
 |i,o::r=>(if js.contains i then .n else if js.contains (i+1000)then .w else Bg9 o.op)::clsN js (i+1) r
def SR (js:List Nat):Cfg->SC
 |.code (.region _ ops true) _ st=>⟨ops.toList,clsN js 0 ops.toList,ops.toList,st.env,st.Ls,[]⟩
 |_=>⟨[],[],[],[],[],[]⟩
def E3 (hS:G6 S P)(hc:pr)(js:List Nat)(h:DG S P (SR js (stp P g)) λenv Ls=>KG S P F (.pop .normal (stp P g).k ⟨env,Ls⟩))(hp:pr=C5 (cnd P g):=by kernel_rfl)(c:Dj (stp P g)=true:=by kernel_rfl)(a:P.follows .mixedOrders=true:=by kernel_rfl)
 (b:Mv (SR js (stp P g)).all (SR js (stp P g)).cls=true:=by kernel_rfl):KG S P F g:=by
 have e:(λenv Ls=>KG S P F (.pop .normal (stp P g).k ⟨env,Ls⟩))=λenv Ls=>G S P F (.pop .normal (stp P g).k ⟨env,Ls⟩):=by funext env Ls;exact propext ⟨λh=>h.out,λh=>⟨h⟩⟩
 rw[e]at h;refine⟨FA hS hc ?_ hp⟩;have h:=h.out;generalize stp P g=g' at c b h;unfold Dj at c;split at c
 .exact YM hS _ a b h
 cases c
def Bh4 (ls:List (Nat×Cls)):Nat->List Oper->List Cls
 |_,[]=>[]
 |i,o::r=>(match ls.find? (λq=>q.1==i)with|some q=>q.2|none=>Bg9 o.op)::Bh4 ls (i+1) r
def SS (ls:List (Nat×Cls)):Cfg->SC
 |.code (.region _ ops true) _ st=>⟨ops.toList,Bh4 ls 0 ops.toList,ops.toList,st.env,st.Ls,[]⟩
 |_=>⟨[],[],[],[],[],[]⟩
def F7 (hS:G6 S P)(hc:pr)(ls:List (Nat×Cls))(h:DG S P (SS ls (stp P g)) λenv Ls=>KG S P F (.pop .normal (stp P g).k ⟨env,Ls⟩))(hp:pr=C5 (cnd P g):=by kernel_rfl)(c:Dj (stp P g)=true:=by kernel_rfl)(a:P.follows .mixedOrders=true:=by kernel_rfl)
 (b:Mv (SS ls (stp P g)).all (SS ls (stp P g)).cls=true:=by kernel_rfl):KG S P F g:=by
 have e:(λenv Ls=>KG S P F (.pop .normal (stp P g).k ⟨env,Ls⟩))=λenv Ls=>G S P F (.pop .normal (stp P g).k ⟨env,Ls⟩):=by funext env Ls;exact propext ⟨λh=>h.out,λh=>⟨h⟩⟩
 rw[e]at h;refine⟨FA hS hc ?_ hp⟩;have h:=h.out;generalize stp P g=g' at c b h;unfold Dj at c;split at c
 .exact YM hS _ a b h
 cases c
def Ke (hS:G6 S P)(hc:pr){body:Code}{gh:Nat}{ts:List Nat}{next:St->Prop}{Q:M8}(h:KG S P (GH S gh ts next Q) (.code body [] (stp P g).st))(hp:pr=C5 (cnd P g):=by kernel_rfl)(a:stp P g=.pop .normal [] (stp P g).st:=by kernel_rfl):KG S P (CK S P body gh ts next Q) g:=by refine⟨FA hS hc ?_ hp⟩;rw[a];exact G_asg hS h.out
def NH (hS:G6 S P)(hc:pr){K:List It}{gh:Nat}{ts:List Nat}{next:St->Prop}(t:St){ids:List (Nat×Nat)}(hk:KG S P F (.pop (exitE (stp P g)) K t))(hp:pr=C5 (cnd P g):=by kernel_rfl)(a:AJ3 (stp P g)=true:=by kernel_rfl)
 (hle:KLe ids (stp P g).st (rst gh t):=by exact kl) (h1:t.env.map (·.1)=ts:=by kernel_rfl) (d:A1 t.Ls gh=none:=by kernel_rfl) (b:(⟨Y3 ts (t.env.map (·.2)),del gh (ins gh (.ghost (t.env.map (·.2))) t.Ls)⟩:St)=t:=by kernel_rfl):KG S P (GH S gh ts next (kp S P K F)) g:=by
 refine⟨FA hS hc ?_ hp⟩;generalize stp P g=g1 at hk a hle;have hl:(t.env.map (·.2)).length=ts.length:=by rw[<- h1];simp
 have c:A1 (del gh (ins gh (.ghost (t.env.map (·.2))) t.Ls)) gh=none:=by
  have:=congrArg St.Ls b
  simp only at this;rw[this];exact d
 unfold AJ3 at a;split at a
 .exact YQ hS Fc (rst gh t) ids hle.out (Ia gh t) hl c (by rw[show (⟨Y3 ts (t.env.map (·.2)),del gh (rst gh t).Ls⟩:St)=t from b];exact hk.out)
 .exact YQ hS Fc (rst gh t) ids hle.out (Ia gh t) hl c (by rw[show (⟨Y3 ts (t.env.map (·.2)),del gh (rst gh t).Ls⟩:St)=t from b];exact hk.out)
 cases a
end
end Go.AM
namespace Go.AM
section
variable {S:U6}{P:Program}{F:M8}{g:Cfg}{pr:Prop}
def Ba7 (j:Nat)(ps:List PV):Cfg->Cfg
 |.ops all rest K st=>mkO (Au1 j ps st.env) (ins j .dead st.Ls) λenv Ls=>.ops all rest K ⟨env,Ls⟩
 |g=>g
def AJ4 (ids:List Nat):Cfg->Option (FuncId×List AV×List Obj)
 |.ops all (o::_) _ st=>match BA all st.env o,o.op with
  |some true,.call c=>match c.callee with
   |.value f=>match QZ st.env f (c.args.toList.map (aev st.env))with
    |some (fn,as')=>match Ef ids as',M9 ids st.Ls ids with
     |some a,some ob=>if I1 ids&&Fz ob then some (fn,a,ob)else none
     |_,_=>none
    |none=>none
   |_=>none
  |_,_=>none
 |_=>none
def AJ5 (ids:List Nat)(ks:List Bool)(n:Nat):Cfg->Bool
 |.ops _ (o::_) _ st=>X3 st.Ls ids ks (o.dst.getD 0) n
 |_=>false
def AJ6 (ids:List Nat)(ks:List Bool)(r:AV)(objs' : List Obj):Cfg->Cfg
 |.ops all (o::rest) K st=>Ab9 o.dst (unA (H4 (o.dst.getD 0) ids ks objs'.length) r) st.env
  (back (H4 (o.dst.getD 0) ids ks objs'.length) (H4 (o.dst.getD 0) ids ks objs'.length) objs' (K8 ids ks st.Ls)) λst=>.ops all rest K st
 |g=>g
def AQ6 (hS:G6 S P)(ids:List Nat)(hc:pr){fn:FuncId}{args:List AV}{objs objs' : List Obj}{r:AV}{ks:List Bool}(f:Mb S fn args objs r objs' ks)(hk:KG S P F (AJ6 ids ks r objs' (stp P g)))
 (hp:pr=C5 (cnd P g):=by kernel_rfl) (a:AJ4 ids (stp P g)=some (fn,args,objs):=by kernel_rfl) (hn:AJ5 ids ks objs'.length (stp P g)=true:=by kernel_rfl):KG S P F g:=by
 refine⟨FA hS hc ?_ hp⟩;have hk:=hk.out;generalize stp P g=g' at a hn hk;unfold AJ4 at a;split at a
 .split at a
  .rename_i i j;split at a
   .rename_i c;split at a
    .rename_i hw;split at a
     .rename_i l d;split at a
      .rename_i b;cases a;simp only[Bi1]at b;simp only[AJ6,AJ5,FT]at hk hn;exact AM8 hS ids i j c hw l d f b.1 b.2 hn hk
      cases a
     cases a
    cases a
   cases a
  cases a
 cases a
def unrT:List (St->Prop)->Nat->St->Prop
 |[],_,_=>False
 |a::_,0,t=>a t
 |_::l,i+1,t=>unrT l i t
def AB0 (hS:G6 S P)(hc:pr)(n:Nat)(T:Nat->St->Prop)(s0:St){ids:List (Nat×Nat)}(j:T 0 s0)
 (l:∀(X:Type) (s' : X->St) (J:X->Prop) (m:X->Nat) (i k:Nat) (t:St),i<=n->T i t ->
  (∀(g' : Cfg) (ids:List (Nat×Nat)) (pr:Prop) (t' : St),pr->Nat.ble (i+1) n=true->T (i+1) t' -> (hp:pr=C5 (cnd P g'):=by kernel_rfl)->(q:stp P g' = .pop .normal (.lp X s' J m k::(stp P g).k) (stp P g').st:=by kernel_rfl)->(hle:KLe ids (stp P g').st t':=by exact kl)->KG S P F g') ->
  KG S P F (.code (Qe (stp P g)) (.lp X s' J m k::(stp P g).k) t)) (hp:pr=C5 (cnd P g):=by kernel_rfl) (hl:HY (stp P g)=true:=by kernel_rfl) (hle:KLe ids (stp P g).st s0:=by exact kl):KG S P F g:=by
 refine⟨FA hS hc ?_ hp⟩;rw[SL hl];refine Yt hS (X:=Nat×St) (λx=>x.2) (λx=>x.1<=n/\T x.1 x.2) (λx=>n-x.1) (0,s0) ids hle.out ⟨Bp2 _,j⟩ ?_;rintro⟨i,t⟩ ⟨o,ht⟩;refine (l (Nat×St) (λx=>x.2) (λx=>x.1<=n/\T x.1 x.2) (λx=>n-x.1) i (n-i) t o ht λg' ids' pr' t' b hn c d f a=>⟨FA hS b ?_ d⟩).out;rw[f];have hn:i+1<=n:=Bo1 hn;exact hS.le ids' _ _ _ a.out ⟨(i+1,t'),rfl,⟨hn,c⟩,by show n-(i+1)<n-i;omega⟩
end
section
variable {S:U6}{P:Program}{F:M8}{g:Cfg}{pr:Prop}
def O7 (hS:G6 S P)(hc:pr)(d:Nat)(st:St){ids:List (Nat×Nat)}(hk:KG S P F (opsS st (Hs P d g)))(hp:pr=C5 (AP5 P d g):=by kernel_rfl)(a:Kc (Hs P d g)=true:=by kernel_rfl)(hle:KLe ids (Hs P d g).st st:=by exact kl):KG S P F g:=by
 refine⟨(GI (u:=some d) (F:=F) hS 400 [] g (by subst hp;exact hc)).2 ?_⟩;have hk:=hk.out;have hle:=hle.out;show G S P F (Hs P d g);generalize Hs P d g=g' at a hle hk;unfold Kc at a;split at a
 .exact Al4 hS st ids hle hk
 cases a
end
end Go.AM
namespace Go.AM
section
variable {S:U6}{P:Program}{F:M8}{g:Cfg}{pr:Prop}
def Ba8 (S:U6)(P:Program)(pv:PV)(m:String)(as:List AV)(r:AV):Prop:=∃t y fn,pv=.iface t y/\Uk P t m=some fn/\Uq S fn (.p (nP y)::as) r
def invE:Cfg->Option (PV×String×List AV)
 |.ops all (o::_) _ st=>match BA all st.env o,o.op with
  |some true,.call c=>match c.callee with
   |.invoke rv m=>match HN st.Ls (c.args.toList.map (aev st.env)),aev st.env rv with
    |some (as,_),.p pv=>match Ef [] as with
     |some as'=>some (pv,m,as')
     |none=>none
    |_,_=>none
   |_=>none
  |_,_=>none
 |_=>none
def invK (r:AV):Cfg->Cfg
 |.ops all (o::rest) K st=>match o.op with
  |.call c=>match HN st.Ls (c.args.toList.map (aev st.env))with
   |some (_,Ls)=>Ab9 o.dst (unA [] r) st.env Ls λst=>.ops all rest K st
   |none=>.ops all (o::rest) K st
  |_=>.ops all (o::rest) K st
 |g=>g
def NI (hS:G6 S P)(hc:pr){pv:PV}{m:String}{as:List AV}{r:AV}(b:Ba8 S P pv m as r)(hk:KG S P F (invK r (stp P g)))
 (hp:pr=C5 (cnd P g):=by kernel_rfl) (a:invE (stp P g)=some (pv,m,as):=by kernel_rfl):KG S P F g:=by
 obtain⟨t,y,fn,rfl,hm,b⟩:=b;refine⟨FA hS hc ?_ hp⟩;have hk:=hk.out;generalize stp P g=g' at a hk;unfold invE at a;split at a
 .split at a
  .rename_i i f;split at a
   .rename_i c;split at a
    .rename_i ha d;split at a
     .rename_i j;cases a;simp only[invK,f,ha,FT]at hk;refine Ay4 hS i f c ha d hm (args:=.p (nP y)::_) ?_ b hk;simp only[Ef,Sc,j]
     cases a
    cases a
   cases a
  cases a
 cases a
def F6 (hS:G6 S P)(hc:pr)(d j:Nat)(ps:List PV)(hk:KG S P F (Ba7 j ps (Hs P d g)))(hp:pr=C5 (AP5 P d g):=by kernel_rfl)(a:Kc (Hs P d g)=true:=by kernel_rfl)
 (b:A1 (Hs P d g).st.Ls j=some (.cells (ps.map .p)):=by kernel_rfl):KG S P F g:=by
 refine⟨(GI (u:=some d) (F:=F) hS 400 [] g (by subst hp;exact hc)).2 ?_⟩;have hk:=hk.out;show G S P F (Hs P d g);generalize Hs P d g=g' at a b hk;unfold Kc at a;split at a
 .simp only[Ba7,Gr]at hk;exact WJ hS (hS.frz _ j ps _ b hk)
 cases a
def AB1 (j j' : Nat):AV->AV
 |.vecp i m=>if i=j then .vec j' else .vecp i m
 |a=>a
def AB2 (j j' : Nat):List AV->List AV
 |[]=>[]
 |a::r=>AB1 j j' a::AB2 j j' r
def AB3 (j j' : Nat):Env->Env
 |[]=>[]
 |(t,a)::r=>(t,AB1 j j' a)::AB3 j j' r
def Ac2 (j j' : Nat):C4->C4
 |[]=>[]
 |(t,.cells cs)::r=>(t,.cells (AB2 j j' cs))::Ac2 j j' r
 |(t,o)::r=>(t,o)::Ac2 j j' r
def msA (j:Nat)(r:List Nat):AV->List Nat
 |.vecp i m=>if i=j then m::r else r
 |_=>r
def msL (j:Nat):List AV->List Nat
 |[]=>[]
 |a::r=>msA j (msL j r) a
def msE (j:Nat):Env->List Nat
 |[]=>[]
 |(_,a)::r=>msA j (msE j r) a
def msR (j:Nat):C4->List Nat
 |[]=>[]
 |(_,.cells cs)::r=>msL j cs++msR j r
 |_::r=>msR j r
def Am3 {j:Nat}{r:List Nat}{a:AV}:∀x∈r,x∈msA j r a:=by
 intro x hx;unfold msA;split
 .split
  .exact Bj4 _ hx
  exact hx
 exact hx
def Zg {j n j' : Nat}{r:List Nat}{a:AV}(h:∀m∈msA j r a,m=n):Au7 j n j' a=AB1 j j' a:=by
 cases a with
 |vecp i m=>
  simp only[Au7,AB1];by_cases e:i=j
  .have:m=n:=h m (by simp[msA,e])
   simp[e,this]
  simp[e]
 |_=>rfl
def Zh {j n j' : Nat}:∀{l:List AV},(∀m∈msL j l,m=n)->AI2 j n j' l=AB2 j j' l
 |[],_=>rfl
 |a::r,h=>by simp only[AI2,AB2,Zg (r:=msL j r) h,Zh λm hm=>h m (Am3 m hm)]
def Zi {j n j' : Nat}:∀{l:Env},(∀m∈msE j l,m=n)->AI1 j n j' l=AB3 j j' l
 |[],_=>rfl
 |(t,a)::r,h=>by simp only[AI1,AB3,Zg (r:=msE j r) h,Zi λm hm=>h m (Am3 m hm)]
def ST {j n j' : Nat}:∀{l:C4},(∀m∈msR j l,m=n)->Ys j n j' l=Ac2 j j' l
 |[],_=>rfl
 |(t,o)::r,h=>by
  cases o with
  |cells cs=>simp only[Ys,Ac2,AV5,Zh λm hm=>h m (Bl0 _ hm),ST λm hm=>h m (Bk2 _ hm)]
  |_=>simp only[Ys,Ac2,AV5,ST (l:=r) h]
def truC (j j' : Nat)(e:TypeId)(k n:Nat)(f:Nat->List PV):Cfg->Cfg
 |.ops all rest K st=>mkO (AB3 j j' st.env) (ins j' (.vec e k n f false) (ins j .dead (Ac2 j j' st.Ls))) λenv Ls=>.ops all rest K ⟨env,Ls⟩
 |g=>g
def Ba9 (hS:G6 S P)(hc:pr)(d j n j' : Nat){e:TypeId}{k N:Nat}{f:Nat->List PV}(hn:n<=N)(hk:KG S P F (truC j j' e k n f (Hs P d g)))(hp:pr=C5 (AP5 P d g):=by kernel_rfl)(b:Kc (Hs P d g)=true:=by kernel_rfl)
 (c:A1 (Hs P d g).st.Ls j=some (.vec e k N f false):=by kernel_rfl) (i:A1 (Hs P d g).st.Ls j' = none:=by kernel_rfl) (h1:Nat.ble 1000 j' = true:=by kernel_rfl)
 (hm:(msE j (Hs P d g).st.env++msR j (Hs P d g).st.Ls)=List.replicate (msE j (Hs P d g).st.env++msR j (Hs P d g).st.Ls).length n:=by kernel_rfl):KG S P F g:=by
 refine⟨(GI (u:=some d) (F:=F) hS 400 [] g (by subst hp;exact hc)).2 ?_⟩;have hk:=hk.out;show G S P F (Hs P d g);generalize Hs P d g=g' at b c i hk hm;unfold Kc at b;split at b
 .rename_i st;have a:∀m∈msE j st.env++msR j st.Ls,m=n:=λm h=>by rw[show msE j st.env++msR j st.Ls=_ from hm]at h;exact (List.mem_replicate.1 h).2
  simp only[truC,Gr]at hk;refine WJ hS (hS.trunc _ j j' n N k e f _ c hn i (Bo1 h1) ?_);rw[Zi λm h=>a m (Bl0 _ h),ST λm h=>a m (Bk2 _ h)];exact hk
 cases b
end
abbrev cA {α : Type}(n:Nat)(c : α -> PV)(f:Nat -> α):List PV:=Ec n (λi=>c (f i))
def G7 (n:Nat)(f:Nat->PV):(Ec n f).length=n:=by simp[Ec]
def DA (n:Nat)(f:Nat->PV):∀i,i<n->[(Ec n f).getD i default]=[f i]:=by intro i a;simp[Ec,Bh8,a]
def OF {n:Nat}{z:PV}{ps:List PV}(h:ps=List.replicate n z):∀i,i<n->[ps.getD i default]=[z]:=by intro i a;subst h;simp[Bh8,a]
def Ac3 {n:Nat}{f g:Nat->PV}(h:∀i,i<n->[f i]=[g i]):Ec n f=Ec n g:=by unfold Ec;exact Bl3 λi a=>by have:=h i (Bl7.1 a);injection this
abbrev OG {α : Type}(f:Nat -> α)(k:Nat)(x : α):Nat -> α:=λi=>if i=k then x else f i
def AQ7 {α : Type}{c : α -> PV}{n k:Nat}{v:Nat -> α}{f:Nat->PV}{e:PV}{x : α}(h:∀i,i<n->[f i]=[c (v i)])(hx:e=c x):∀i,i<n->[if i=k then e else f i]=[c (if i=k then x else v i)]:=by
 intro i a;by_cases h1:i=k
 .rw[Ej h1,Ej h1,hx]
 rw[Er h1,Er h1];exact h i a
def app1H {α : Type}{c : α -> List PV}{n:Nat}{v:Sl α}{f g:Nat->List PV}{z : α}(h:∀i,i<n->f i=c (v.g i))(hn:n=v.n):∀i,i<n+1->i≠v.n->Gf n f g i=c ((v.push z).g i):=by
 subst hn;intro i b a;have hl:i<v.n:=by omega
 show (if i<v.n then f i else g (i-v.n))=c (if i<v.n then v.g i else z);rw[Ej hl,Ej hl];exact h i hl
def setH {α : Type}{c : α -> List PV}{n k:Nat}{v:Sl α}{f e:Nat->List PV}{x : α}(h:∀i,i<n->i≠k->f i=c (v.g i))(hx:k<n->e k=c x):∀i,i<n->(λl=>if l=k then e l else f l) i=c ((v.upd k x).g i):=by
 intro i a;show (if i=k then e i else f i)=c (if i=k then x else v.g i);split
 .subst_vars;exact hx a
 exact h i a ‹_›
end Go.AM
namespace Go.AM
section
variable {S:U6}{P:Program}{F:M8}{g:Cfg}{R X:Type}{A B:Option R}{r:R}{b:Bool}
def kI (hS:G6 S P)(h:(if b then A else B)=some r)(ht:A=some r->KG S P F (AP6 (stp P g)))(a:B=some r->KG S P F (AP7 (stp P g)))
 (hp:True=C5 (cnd P g):=by kernel_rfl) (hb:Az1 (stp P g)=some b:=by kernel_rfl):KG S P F g:=
 D0 hS Fc (λc=>ht (itT c h)) (λc=>a (itF c h)) hp hb
def kG (hS:G6 S P)(h:(if b then A else B)=some r)(ht:A=some r->KG S P F (Or true (stp P g)))(a:B=some r->KG S P F (Or false (stp P g)))
 (hp:True=C5 (cnd P g):=by kernel_rfl) (hb:YX (stp P g)=some b:=by kernel_rfl):KG S P F g:=
 GR hS Fc (λc=>ht (itT c h)) (λc=>a (itF c h)) hp hb
def kR (hS:G6 S P){n:Nat}{rs:List ResultVar}{Q:ARes->List Obj->List Bool->Prop}{a:AV}{objs:List Obj}(b:Q (.ret a) objs (FF n []):=by exact⟨rfl,rfl,rfl⟩)
 (hp:True=C5 (cnd P g):=by kernel_rfl) (c:(Az3 (stp P g)).bind (λst=>SM P st rs [])=some (a,objs):=by kernel_rfl):KG S P (CJ S P n rs Q) g:=
 Am0 hS Fc [] b hp c
def kC (hS:G6 S P){x:Option X}{f:X->Option R}(h:x.bind f=some r){fn:FuncId}{args:List AV}{objs:List Obj}{objs' : X->List Obj}{rr:X->AV}{ks:List Bool}
 (a:∀{y},x=some y->Mb S fn args objs (rr y) (objs' y) ks) (hk:∀y,f y=some r->KG S P F (Az2 [] ks (rr y) (objs' y) (stp P g)))
 (hp:True=C5 (cnd P g):=by kernel_rfl) (b:Ac0 [] (stp P g)=some (fn,args,objs):=by kernel_rfl) (hn:∀y,Ac1 [] ks (objs' y).length (stp P g)=true:=by intro y;kernel_rfl):KG S P F g:=by
 obtain⟨y,e,h⟩:=A8 h;exact B3 hS [] Fc (a e) (hk y h) hp b (hn y)
end
end Go.AM
namespace Go.AM
inductive BT where
 |l (b:Bool)
 |n (b:Bool) (t f:BT)
def BT.ev:BT->Bool
 |.l b=>b
 |.n b t f=>if b then t.ev else f.ev
inductive BE where
 |a (b:Bool)
 |n (x y:BE)
 |o (x y:BE)
def BE.den:BE->Bool
 |.a b=>b
 |.n x y=>x.den&&y.den
 |.o x y=>x.den||y.den
def BE.tr:BE->BT->BT->BT
 |.a b,t,f=>.n b t f
 |.n x y,t,f=>x.tr (y.tr t f) f
 |.o x y,t,f=>x.tr t (y.tr t f)
def BE.top:BE->BT
 |.a b=>.l b
 |.n x y=>x.tr y.top (.l false)
 |.o x y=>x.tr (.l true) y.top
def BE.tr_ev:∀(e:BE) (t f:BT),(e.tr t f).ev=if e.den then t.ev else f.ev
 |.a b,t,f=>rfl
 |.n x y,t,f=>by simp only[tr,den,x.tr_ev,y.tr_ev];by_cases h:x.den=true<;>simp[h]
 |.o x y,t,f=>by simp only[tr,den,x.tr_ev,y.tr_ev];by_cases h:x.den=true<;>simp[h]
def BE.top_ev:∀e:BE,e.top.ev=e.den
 |.a b=>rfl
 |.n x y=>by simp only[top,den,x.tr_ev,y.top_ev,BT.ev];by_cases h:x.den=true<;>simp[h]
 |.o x y=>by simp only[top,den,x.tr_ev,y.top_ev,BT.ev];by_cases h:x.den=true<;>simp[h]
def keeps:Op->Bool
 |.move _ | .assign _ | .pick .. | .load .. | .nilCheck _ | .binOp .. | .unOp .. | .convert .. | .fieldAddr .. | .field .. | .indexAddr .. | .index .. | .extract ..=>true
 |.call { callee:=.builtin .len,.. } | .call { callee:=.builtin .min,.. } | .call { callee:=.builtin .max,.. }=>true
 |_=>false
def Ac4 {P:Program}{env:Env}{Ls:C4}{d:Nat}{o:Op}{out:Out}(hk:keeps o=true)(h:aop P env Ls d o=some out):out.Ls=Ls:=by unfold keeps at hk;split at hk<;>first|(cases hk;done)|(simp only[aop]at h;(repeat' split at h)<;>first|(cases h;rfl)|cases h)
def RC {o:Op}(hk:keeps o=true):Au9 o=true:=by unfold keeps at hk;split at hk<;>first|cases hk;done|rfl
def AB4:List Prop->List Prop
 |[]=>[]
 |c=>[C5 c]
def bgo (P:Program)(Ls:C4)(o:Oper)(last:Bool)(rec:List Prop->Env->Option (BT×List Prop))(c:List Prop)(env:Env)(runs:Bool):Option (BT×List Prop):=match runs with
 |true=>match keeps o.op,o.dst with
  |true,some d=>match aop P env Ls d o.op with
   |some ⟨p,v,_⟩=>match last with
    |true=>match NQ v with
     |some b=>some (.l b,AB4 (p++c))
     |none=>none
    |false=>fA v λv=>Ah6 d v env λenv=>rec (p++c) env
   |none=>none
  |_,_=>none
 |false=>match last,o.dst with
  |false,some d=>Ah6 d CH env λenv=>rec c env
  |_,_=>none
def bev (P:Program)(all:List Oper)(Ls:C4):List Oper->List Prop->Env->Option (BT×List Prop)
 |[],_,_=>none
 |o::rest,c,env=>
  match o.guard with
  |none=>bgo P Ls o rest.isEmpty (λc env=>bev P all Ls rest c env) c env true
  |some (j,want)=>match get env (FR all j)with
   |.p (.v (.bool b))=>bgo P Ls o rest.isEmpty (λc env=>bev P all Ls rest c env) c env (b==want)
   |.p (.v (.tuple _))=>bgo P Ls o rest.isEmpty (λc env=>bev P all Ls rest c env) c env false
   |.p (.bb b)=>match Ah6 (FR all j) (.p (.v (.bool true))) env λenv=>bgo P Ls o rest.isEmpty (λc env=>bev P all Ls rest c env) [] env want,
    Ah6 (FR all j) (.p (.v (.bool false))) env λenv=>bgo P Ls o rest.isEmpty (λc env=>bev P all Ls rest c env) [] env !want with
    |some (t,ct),some (f,cf)=>some (.n b t f,AB4 c++(ct.map (λp=>b=true->p)++cf.map (λp=>b=false->p)))
    |_,_=>none
   |_=>none
def Ag2 (l:List Oper):List Nat:=l.filterMap (·.dst)
def AQ8 (ks:List Nat)(env:Env):Env:=env.filter λq=>!ks.contains q.1
def Zj (ks:List Nat)(env:Env)(x:Nat):get (AQ8 ks env) x=if x∈ks then .top else get env x:=by
 induction env with
 |nil=>simp[AQ8,get]
 |cons q r ih=>
  obtain⟨i,a⟩:=q;simp only[AQ8,List.filter_cons];by_cases b:i∈ks
  .rw[Er (by simpa using b)]
   have:=ih
   simp only[AQ8]at this;rw[this];by_cases hx:x∈ks
   .simp[hx]
   have:i≠x:=λe=>hx (e ▸ b)
   simp[hx,get,this]
  rw[Ej (by simpa using b)];simp only[get]
  have:=ih
  simp only[AQ8]at this;rw[this];by_cases hx:i=x
  .subst hx;simp[b]
  simp[hx]
def Xo:List Oper->Option Nat
 |[]=>none
 |[o]=>o.dst
 |_::r=>Xo r
section
variable {S:U6}{P:Program}
def RD {c:List Prop}(h:∀p∈AB4 c,p):C5 c:=by
 cases c with
 |nil=>trivial
 |cons p r=>exact h _ (by simp[AB4])
def Bb0 (hS:G6 S P){all:List Oper}{Ls:C4}{Q:M8}{post:List Oper}{envF:Env}{V:Bool}{d:Nat}(hQ:∀s,S.up s (Jc S P all post Q)->Jc S P all post Q s)(hV:get envF d=.p (.bb V))
 (hw:Jc S P all post Q ⟨envF,Ls⟩) :
 ∀(L:List Oper) (c:List Prop) (env:Env) (T:BT) (C:List Prop),bev P all Ls L c env=some (T,C)->(∀p∈C,p)->T.ev=V->Xo L=some d ->
  (∀x,x≠d->Sh (get envF x) (get env x) \/ (x∈Ag2 L/\get envF x=.top))->(∀x∈Ag2 L,x≠d->get envF x=.top)->C5 c/\Jc S P all (L++post) Q ⟨env,Ls⟩:=by
 intro L
 induction L with
 |nil=>intro c env T C h;cases h
 |cons o rest ih=>
  intro c env T C h w i hd hl ht;simp only[bev,JR]at h;have key:∀(c:List Prop) (env:Env) (runs:Bool) (T:BT) (C:List Prop),bgo P Ls o rest.isEmpty (λc env=>bev P all Ls rest c env) c env runs=some (T,C)->(∀p∈C,p)->T.ev=V ->
   (∀x,x≠d->Sh (get envF x) (get env x) \/ (x∈Ag2 (o::rest)/\get envF x=.top)) ->
   C5 c/\(if runs then wOp S P o (Jc S P all (rest++post) Q) Q ⟨env,Ls⟩else Jc S P all (rest++post) Q (put ⟨env,Ls⟩ o.dst CH)):=by
   intro c env runs T C h w i hl;have l:rest.isEmpty=false->Xo rest=some d:=by
    intro hr;cases rest with
    |nil=>cases hr
    |cons a r=>simpa[Xo]using hd
   have a0:∀{d'},o.dst=some d' -> Ag2 (o::rest)=d' :: Ag2 rest:=λg=>by simp[Ag2,g]
   have m:∀d' (v:AV),o.dst=some d' -> ∀x,x≠d->Sh (get envF x) (get (ins d' v env) x) \/ (x∈Ag2 rest/\get envF x=.top):=by
    intro d' v g x hx;rw[Ez];by_cases n:d' = x
    .subst n;exact .inl (.inl (ht _ (by rw[a0 g];exact Bq1 ..) hx))
    rw[Er n];rcases hl x hx with h|⟨h1,h2⟩
    .exact .inl h
    exact .inl (.inl h2)
   cases runs with
   |true=>
    simp only[bgo,ZS,JR,Eu]at h⊢;split at h
    .rename_i d' hk g;split at h
     .rename_i p v regs' ha;have hr:regs' = Ls:=Ac4 hk ha;subst hr;have ha' : aop P env regs' (o.dst.getD 0) o.op=some ⟨p,v,regs'⟩:=by rw[g];exact ha
      split at h
      .rename_i u;split at h
       .rename_i b hb;cases h;have a1:=RD w;obtain⟨hc,hp⟩:=(Df _ _).1 a1;refine⟨hc,NB (RC hk) ha' hp ?_⟩;obtain rfl:rest=[]:=By2.1 u;simp only[Xo]at hd;have e:d' = d:=by rw[g]at hd;exact Bn7 hd
        subst e;refine hQ _ (hS.less _ ⟨envF,regs'⟩ _ (λx=>?_) (λ_=>by rw[g];rfl) (by simpa using hw));rw[g];show Sh (get envF x) (get (ins d' v env) x);rw[Ez];by_cases hx:d' = x
        .subst hx;rw[Ej rfl,hV];have i:b=V:=i;subst i;unfold NQ at hb;split at hb
         .cases hb;exact .inr (.inr ⟨_,rfl,rfl⟩)
         .cases hb;exact .inr (.inl rfl)
         cases hb
        rw[Er hx];rcases hl x (λe=>hx e.symm)with h|⟨_,h⟩
        .exact h
        exact .inl h
       cases h
      rename_i u;have hn:∀x,x≠d->Sh (get envF x) (get (ins d' v env) x) \/ (x∈Ag2 rest/\get envF x=.top):=m d' v g;obtain⟨a1,a2⟩:=ih _ _ _ _ h w i (l (by simpa using u)) hn (λx hx=>ht x (by rw[a0 g];exact Bj4 _ hx));obtain⟨hc,hp⟩:=(Df _ _).1 a1;exact⟨hc,NB (RC hk) ha' hp (by rw[g];exact a2)⟩
     cases h
    cases h
   |false=>
    simp only[bgo,JR,Bi5,Ev]at h⊢;split at h
    .rename_i d' u g;have hn:∀x,x≠d->Sh (get envF x) (get (ins d' CH env) x) \/ (x∈Ag2 rest/\get envF x=.top):=m d' _ g;obtain⟨hc,a2⟩:=ih _ _ _ _ h w i (l (by simpa using u)) hn (λx hx=>ht x (by rw[a0 g];exact Bj4 _ hx));exact⟨hc,by rw[g];exact a2⟩
    cases h
  simp only[Bk9,Jc];cases hg:o.guard with
  |none=>simp only[hg]at h;obtain⟨hc,hk⟩:=key _ _ _ _ _ h w i hl;exact⟨hc,hS.refl _ _ (by simpa[hg]using hk)⟩
  |some q=>
   obtain⟨j,want⟩:=q;simp only[hg]at h;split at h
   .rename_i b hb;obtain⟨hc,hk⟩:=key _ _ _ _ _ h w i hl;refine⟨hc,hS.refl _ _ ⟨some b,by rw[hb];rfl,?_⟩⟩;have e:(some b=some want)↔(b==want)=true:=by simp
    by_cases z:(b==want)=true
    .rw[Ej (e.2 z)];simpa[z]using hk
    rw[Er (λx=>z (e.1 x))];simpa[z]using hk
   .rename_i tt hb;obtain⟨hc,hk⟩:=key _ _ _ _ _ h w i hl;refine⟨hc,hS.refl _ _ ⟨none,by rw[hb];rfl,?_⟩⟩;rw[Er (by simp)];simpa using hk
   .rename_i b hb;split at h
    .rename_i t ct f cf h1 h2;cases h;have hc:C5 c:=RD λp hp=>w p (Bl0 _ hp);refine⟨hc,hS.bool _ _ b _ hb ?_⟩;have hl2:∀x,x≠d->Sh (get envF x) (get (ins (FR all j) (.p (.v (.bool b))) env) x) \/ (x∈Ag2 (o::rest)/\get envF x=.top):=by
      intro x hx;rw[Ez];by_cases n:FR all j=x
      .subst n;rw[Ej rfl];rcases hl _ hx with h|h
       .rw[hb]at h;rcases h with h|h|⟨y,h1,h2⟩
        .exact .inl (.inl h)
        .exact .inl (.inr (.inr ⟨b,h,rfl⟩))
        cases h2
       exact .inr h
      rw[Er n];exact hl x hx
     cases b with
     |true=>
      obtain⟨_,hk⟩:=key _ _ _ _ _ h1 (λp hp=>w (true=true->p) (Bk2 _ (Bl0 _ (Bl2.2 ⟨p,hp,rfl⟩))) rfl) i hl2;refine⟨some true,by show yv (get (ins _ _ _) _)=_;rw[Ez,Ej rfl];rfl,?_⟩;cases want with
      |true=>simpa using hk
      |false=>simpa using hk
     |false=>
      obtain⟨_,hk⟩:=key _ _ _ _ _ h2 (λp hp=>w (false=false->p) (Bk2 _ (Bk2 _ (Bl2.2 ⟨p,hp,rfl⟩))) rfl) i hl2;refine⟨some false,by show yv (get (ins _ _ _) _)=_;rw[Ez,Ej rfl];rfl,?_⟩;cases want with
      |true=>simpa using hk
      |false=>simpa using hk
    cases h
   cases h
end
def AQ9 (P:Program)(m:Nat):Cfg->Option (BT×List Prop)
 |.ops all rest K st=>bev P all st.Ls (rest.take m) [] st.env
 |_=>none
def Bb1 (m:Nat)(b:Bool):Cfg->Cfg
 |.ops all rest K st=>match Xo (rest.take m)with
  |some d=>mkO (ins d (.p (.bb b)) (AQ8 (Ag2 (rest.take m)) st.env)) st.Ls λenv Ls=>.ops all (rest.drop m) K ⟨env,Ls⟩
  |none=>.ops all rest K st
 |g=>g
def Bb2 (m:Nat):Cfg->Bool
 |.ops all rest K st=>(Xo (rest.take m)).isSome
 |_=>false
def Bb3:List Prop->Prop
 |[]=>True
 |p::r=>r.foldl And p
def AB5 {l:List Prop}(h:Bb3 l):∀p∈l,p:=by
 have:∀(r:List Prop) (p:Prop),r.foldl And p->p/\∀q∈r,q:=by
  intro r
  induction r with
  |nil=>intro p h;exact⟨h,λq b=>by cases b⟩
  |cons a r ih=>intro p h;obtain⟨⟨h1,c⟩,d⟩:=ih _ h;exact⟨h1,λq b=>by rcases Bj7.1 b with rfl|b;exact c;exact d q b⟩
 cases l with
 |nil=>intro p hp;cases hp
 |cons a r=>obtain⟨h1,c⟩:=this _ _ h;exact λq b=>by rcases Bj7.1 b with rfl|b;exact h1;exact c q b
section
variable {S:U6}{P:Program}{F:M8}{g:Cfg}{pr pc:Prop}
def kB (hS:G6 S P)(l:∀s,S.up s (F .normal)->F .normal s)(hc:pr)(c:pc)(m:Nat)(E:BE)(hk:KG S P F (Bb1 m E.den (stp P g)))
 (hp:pr=C5 (cnd P g):=by kernel_rfl) (a:(AQ9 P m (stp P g)).map (·.1)=some E.top:=by kernel_rfl) (b:(AQ9 P m (stp P g)).map (λx=>Bb3 x.2)=some pc:=by kernel_rfl) (hD:Bb2 m (stp P g)=true:=by kernel_rfl):KG S P F g:=by
 refine⟨FA hS hc ?_ hp⟩;have hk:=hk.out;generalize stp P g=g' at hk a b hD;unfold AQ9 at a b;split at a
 .rename_i all rest K st;simp only[Bb2,Bj3]at hD;obtain⟨d,i⟩:=hD;simp only[Bb1,i,Gr]at hk;cases hb:bev P all st.Ls (rest.take m) [] st.env with
  |none=>rw[hb]at a;cases a
  |some q=>
   obtain⟨T,C⟩:=q;simp only[hb]at a b;simp only[Bj0,Bh9]at a b;subst a
   have:=(Bb0 hS (Q:=kp S P K F) (post:=rest.drop m) (envF:=ins d (.p (.bb E.den)) (AQ8 (Ag2 (rest.take m)) st.env)) (V:=E.den) (d:=d) ?_ (by rw[Ez,Ej rfl]) hk (rest.take m) [] st.env E.top C hb
    (AB5 (b ▸ c)) E.top_ev i (λx hx=>?_) (λx hx f=>?_)).2
   .rwa [Bt5]at this
   .intro s h;cases j:rest.drop m with
    |nil=>rw[j]at h;exact Ay7 hS l K s h
    |cons o r=>rw[j]at h;exact hS.trans _ _ h
   .rw[Ez,Er (λe=>hx e.symm),Zj];split
    .exact .inl (.inl rfl)
    exact .inl (.inr (.inl rfl))
   rw[Ez,Er (λe=>f e.symm),Zj,Ej hx]
 cases a
end
end Go.AM
namespace Go.AM
def famC (op:Sg):Cfg->List Prop
 |.ops _ _ _ st=>match V6 op st with
  |some (c,_)=>c
  |none=>[False]
 |_=>[False]
def famG (op:Sg):Cfg->Cfg
 |.ops all rest K st=>match V6 op st with
  |some (_,st)=>mkO st.env st.Ls λenv Ls=>.ops all rest K ⟨env,Ls⟩
  |none=>.ops all rest K st
 |g=>g
section
variable {S:U6}{P:Program}{F:M8}{g:Cfg}{pr pc:Prop}
def EX (hS:G6 S P)(hc:pr)(d:Nat)(op:Sg)(b:pc)(hk:KG S P F (famG op (Hs P d g)))(hp:pr=C5 (AP5 P d g):=by kernel_rfl)(f:Kc (Hs P d g)=true:=by kernel_rfl)
 (a:pc=C5 (famC op (Hs P d g)):=by kernel_rfl):KG S P F g:=by
 refine⟨(GI (u:=some d) (F:=F) hS 400 [] g (by subst hp;exact hc)).2 ?_⟩;have hk:=hk.out;show G S P F (Hs P d g);generalize Hs P d g=g' at f a hk;unfold Kc at f;split at f
 .rename_i all o rest K st;simp only[famC]at a;simp only[famG]at hk;cases i:V6 op st with
  |none=>rw[i]at a;subst a;exact b.elim
  |some q=>obtain⟨c,st'⟩:=q;simp only[i,Gr]at hk a;subst a;exact WJ hS (hS.fam op _ _ c _ i b hk)
 cases f
end
def Bb4 (j k n:Nat)(e:TypeId)(g:Nat->List PV)(vw:Bool):Cfg->Cfg
 |.ops all rest K st=>mkO st.env (ins j (.vec e k n g vw) st.Ls) λenv Ls=>.ops all rest K ⟨env,Ls⟩
 |g=>g
def Am4 {S:U6}{P:Program}{F:M8}{g:Cfg}{pr:Prop}(hS:G6 S P)(hc:pr)(d j:Nat){k n:Nat}{e:TypeId}{vw:Bool}(f q:Nat->List PV)(c:∀i,i<n->leC (f i) (q i))(hk:KG S P F (Bb4 j k n e q vw (Hs P d g)))
 (hp:pr=C5 (AP5 P d g):=by kernel_rfl) (a:Kc (Hs P d g)=true:=by kernel_rfl) (b:A1 (Hs P d g).st.Ls j=some (.vec e k n f vw):=by kernel_rfl):KG S P F g:=by
 refine⟨(GI (u:=some d) (F:=F) hS 400 [] g (by subst hp;exact hc)).2 ?_⟩;have hk:=hk.out;show G S P F (Hs P d g);generalize Hs P d g=g1 at hk a b;unfold Kc at a;split at a
 .simp only[Bb4,Gr]at hk;exact WJ hS (hS.vecq _ j n k e f q vw _ b c hk)
 cases a
def leCn {k:Nat}{g:Nat->List PV}:leC [.v (.slice none 0 0)] [.sl false k 0 g]:=GF AV6 Bg6
def leCr (l:List PV):leC l l:=⟨rfl,λ_=>.p (.inl rfl)⟩
end Go.AM
namespace Go.AM
def Bb5 (op:Sg):Cfg->List Prop
 |.code _ _ st=>match V6 op st with
  |some (c,_)=>c
  |none=>[False]
 |_=>[False]
def Bb6 (op:Sg):Cfg->Cfg
 |.code c K st=>match V6 op st with
  |some (_,st)=>mkO st.env st.Ls λenv Ls=>.code c K ⟨env,Ls⟩
  |none=>.code c K st
 |g=>g
def Zk {S:U6}{P:Program}{F:M8}{g:Cfg}{pr pc:Prop}(hS:G6 S P)(hc:pr)(op:Sg)(d:pc)(hk:KG S P F (Bb6 op (stp P g)))(hp:pr=C5 (cnd P g):=by kernel_rfl)(i:Dj (stp P g)=true:=by kernel_rfl)(f:P.follows .mixedOrders=true:=by kernel_rfl)
 (b:HP (HZ (stp P g)).all=true:=by kernel_rfl) (a:pc=C5 (Bb5 op (stp P g)):=by kernel_rfl):KG S P F g:=by
 refine⟨FA hS hc ?_ hp⟩;generalize stp P g=g1 at hk i b a;unfold Dj at i;split at i
 .rename_i id ops K st;have hk:=hk.out;simp only[Bb6]at hk;simp only[Bb5]at a;cases j:V6 op st with
  |none=>rw[j]at a;subst a;exact d.elim
  |some q=>
   obtain⟨c,st'⟩:=q;simp only[j,Gr]at hk a;subst a;show awp S P (.region id ops true) (kp S P K F) st;simp only[awp,Eu];have l : WH S P ops.toList (kp S P K F) st':=by
    have:awp S P (.region id ops true) (kp S P K F) st':=hk
    simpa only[awp,Eu]using this
   exact YT hS f b (hS.fam op _ _ c _ j d l)
 cases i
def Vg {P:Program}{f:FuncId}{vw:Bool}{args:List PV}{e:TypeId}{k n:Nat}{g:Nat->List PV}(t:∀as w,(callFunc f as).run P w=.ok (.enter f as) w)(hk:∀i,i<n->(g i).length=k)
 (h:∀(w:World) (Pi:Nat->Nat->Prop) (vs:Array Value),(∀b off,Pi b off->b<w.heap.size)->vs.size=args.length->(∀i,i<args.length->Md w Pi (vs.getD i undef) (args.getD i default)) ->
  Calls P f vs w λx w'=>∃v,x=.returned v/\RowKit.Below w.heap.size w w' /\ ((v=.slice none 0 0/\n=0) \/ ∃b cap c,v=.slice (some ⟨b,0,none⟩) n cap/\w.heap.size<=b/\w'.heap[b]? = some (.cells c e (0,0))/\n<=cap/\c.size=cap*k/\cap<=maxLen /\
   ∀i j,i<n->j<k->Md w Pi (c.getD (i*k+j) undef) ((g i).getD j default)/\(c.getD (i*k+j) undef).oneCell' = true)):Mb (Ge P) f (args.map .p) [] (.vec 0) [.vec e k n g vw] []:=by
 intro 𝒢 C w vs rho hG hs hsz;have y:∀j,A1 (Ma []) j=none:=λj=>by simp[Ma,Ma.go,A1]
 have h0:=h w (Prv C.X (A1 (Ma [])) rho) vs (λb off hp=>by
  rcases hp with hp|⟨j,o,a,_⟩
  .exact hs.hp.bound b off hp
  .simp[y]at a) (by simpa using hsz) (λi s=>by
  have:=hs.env i
  rw[AK]at this;have e:(args.map AV.p).getD i .top=.p (args.getD i default):=by simp[s]
  rw[e]at this;exact this.toP)
 refine⟨_,_,t _ _,callsIn_wide.2 (h0.mono ?_)⟩;rintro x w' ⟨v,rfl,hb,hv⟩;have hR:∀j o,A1 (Ma [Obj.vec e k n g vw]) j=some o->j=0/\o=.vec e k n g vw:=λj o a=>by
  simp only[Ma,Ma.go,A1]at a;split at a
  .rename_i hj0;cases a;exact⟨hj0.symm,rfl⟩
  cases a
 have z:A1 (Ma [Obj.vec e k n g vw]) 0=some (.vec e k n g vw):=rfl
 let rho' : Nat->Value:=λj=>if j=0 then v else rho j
 have hr0:rho' 0=v:=rfl;have l:∀b,E7 v (.vec e k n g vw) b->w.heap.size<=b/\b<w'.heap.size:=by
  intro b a0;rcases hv with⟨rfl,_⟩ | ⟨b',cap,c,rfl,h1,h2,_⟩
  .cases a0
  cases a0;exact⟨h1,(Bi2.1 h2).1⟩
 have a1:∀b o,Prv C.X (A1 (Ma [Obj.vec e k n g vw])) rho' b o->C.X b o \/ w.heap.size<=b:=by
  rintro b o (hX|⟨j,o',a,d,_⟩)
  .exact .inl hX
  obtain⟨rfl,rfl⟩:=hR j o' a;exact .inr (l b d).1
 have m:Mc w (Prv C.X (A1 (Ma [])) rho) w' (Prv C.X (A1 (Ma [Obj.vec e k n g vw])) rho'):=λb o u hp hc=>by
  have q:=Bn2 w ⟨b,o,none⟩ hc;refine⟨by rw[<- hc];exact Bl5 (hb.block b q),λhpp=>?_⟩;rcases a1 b o hpp with hX|hge
  .exact hp (.inl hX)
  have:b<w.heap.size:=q
  omega
 refine⟨C,.ret (.vec 0),[.vec e k n g vw],[],rho',hG,⟨rfl,rfl,rfl⟩,?_,⟨v,rfl,?_⟩,λi s=>by simp at s⟩
 .refine⟨⟨λj o a=>?_,λi j oi oj b s a _ _=>by rw[(hR i oi s).1,(hR j oj a).1],λj o b off a d hX=>?_,λb off hp=>Bk3 (hs.hp.bound b off hp) hb.size⟩,hs.ext.trans ⟨hb.os,hb.output⟩,Bm1 hs.size hb.size,λb q hE=>?_,hs.keep.trans m,λb d=>?_,λj r b a=>by cases (hR j _ a).2⟩
  .obtain⟨rfl,rfl⟩:=hR j o a;rw[hr0];rcases hv with hn|⟨b,cap,c,rfl,h1,h2,h3,h4,h5,h6⟩
   .exact .inl hn
   exact .inr ⟨b,cap,c,rfl,h2,h3,h4,h5,hk,λi j s a=>⟨(h6 i j s a).1.keeps m,(h6 i j s a).2⟩⟩
  .obtain⟨rfl,rfl⟩:=hR j o a;have h1:=(l b d).1;have h2:=hs.hp.bound b off hX;omega
  .rw[hb.block b (Bk3 q hs.size)];exact hs.same b q hE
  obtain⟨j,o,a,d⟩:=d;obtain⟨rfl,rfl⟩:=hR j o a;exact .inr (Bm1 hs.size (l b d).1)
 rcases hv with⟨rfl,_⟩ | ⟨b,cap,c,rfl,_⟩
 .exact .vec 0 none 0 0 (by simp[Lv,z]) rfl
 exact .vec 0 _ n cap (by simp[Lv,z]) rfl
end Go.AM
namespace Go.AM
open Go.RowKit Go.ChangeShapes
end Go.AM
namespace Go.AM
section
variable {S:U6}{P:Program}{F:M8}{K:List It}{st:St}{g:Cfg}{pr:Prop}
def AR0 (p:Option PV)(r:ARes):Prop:=match p with
 |none=>∃a,r=.ret a
 |some x=>r=.panic x
def OH (S:U6)(f:FuncId)(first caps:List AV)(objs:List Obj)(L:List (List PV))(p:Option PV):Prop:= S.F f (first ++ .yf objs.length::caps) (objs++[.yld L true]) λr objs' ks=>∃b,objs'[objs.length]? = some (.yld [] b)/\ks[objs.length]? = some true/\(b=true->AR0 p r)/\(b=false->∃a,r=.ret a)
def endP:Option PV->Jb
 |none=>.normal
 |some x=>.panic x
def AB6 (hS:G6 S P){g:Operand}{ps:Array Tmp}{asg body:Code}{f:FuncId}{first caps as bs:List AV}{objs:List Obj}(ids ts:List Nat)(gh:Nat)(L:List (List PV)){p:Option PV}{X:Type}(s:X->St)(J:List (List PV)->X->Prop)(x0:X)(idl:List (Nat×Nat))
 (hp:FQ st.env g=some (f,first,caps)) (n:∃fn,P.funcs[f]? = some fn/\fn.body.isSome=true/\(fn.name == "runtime.NumGoroutine")=false) (q:M9 ids st.Ls ids=some objs) (t:Fz objs=true) (hd:I1 ids=true) (u:Ef ids first=some as) (v:Ef ids caps=some bs) (w:objs.length=ids.length)
 (z:gh<1000) (a0:A1 st.Ls gh=none) (a1:ids.length<1000) (a2:I1 ts=true) (d:∀ys∈L,AI ys=some ps.size)
 (hF:OH S f as bs objs L p) (hle:Le idl ⟨Y3 ts (ts.map (get st.env)),K8 ids (ids.map λ_=>false) st.Ls⟩ (s x0)) (h0:J L x0) (hk:∀x,(s x).env.map (·.1)=ts) (hn:∀x,A1 (s x).Ls gh=none)
 (c:∀ys rest x,J (ys::rest) x->G S P (CK S P body gh ts (Ay5 s J rest) (kp S P K F)) (.code asg [] ⟨Nf ps.toList ys (s x).env,ins gh (.ghost ((s x).env.map (·.2))) (s x).Ls⟩))
 (i:∀x,J [] x->G S P F (.pop (endP p) K (s x))):G S P F (.code (.rangeFunc g ps asg body) K st):=by
 have j:∀{l:List Nat},I1 l=true->l.Nodup:=by
  intro l
  induction l with
  |nil=>intro _;exact Bp7
  |cons a r ih=>intro h;simp only[I1,Bi1,Bk1,Bl4,decide_eq_false_iff_not]at h;exact Bn4.2 ⟨h.1,ih h.2⟩
 refine⟨f,first,caps,as,bs,objs,ids,ts,gh,none,L,Ay5 s J,λb r=>b=true->AR0 p r,hp,n,t,hd,u,v,q,z,a0,a1,j a2,d,hS.le idl _ _ _ hle ⟨hk x0,hn x0,x0,rfl,h0⟩,?_,?_,?_⟩
 .rintro ys rest _ _ _ ⟨x,rfl,hJ⟩;have h:=c ys rest x hJ;have e:CK S P body gh ts (Ay5 s J rest) (kp S P K F)=λe s'=>match e with
   |.normal=>S.up s' λs'=>awp S P body (GH S gh ts (Ay5 s J rest) (kp S P K F)) s'
   |_=>False:=by funext e s';cases e<;>rfl
  rw[e]at h;exact h
 .rintro _ r _ _ ⟨x,rfl,hJ⟩ hf;have h1:=hf rfl;have m:=i x hJ;cases p with
  |none=>obtain⟨a,rfl⟩:=h1;exact m
  |some y=>cases h1;exact m
 rw[<- w];refine hS.monoF _ _ _ _ _ ?_ hF;rintro r o ks ⟨b,h1,m,h3,h4⟩;exact⟨b,h1,m,h3,h4⟩
def AB7 (hS:G6 S P){g:Operand}{ps:Array Tmp}{asg body:Code}{f:FuncId}{first caps as bs:List AV}{objs:List Obj}{R T A:Type}{enc:T->List PV}{L:List T}{p:Option PV}{mb:(A->Option R)->T->A->Option R}{mk:A->Option R}{a0:A}{r:R}
 (ids ts:List Nat) (gh:Nat) (s:A->St) (idl:List (Nat×Nat)) (h:T4 L mb mk a0=some r) (y:OH S f as bs objs (L.map enc) p)
 (hp:FQ st.env g=some (f,first,caps)) (j:∃fn,P.funcs[f]? = some fn/\fn.body.isSome=true/\(fn.name == "runtime.NumGoroutine")=false) (l:M9 ids st.Ls ids=some objs) (m:Fz objs=true) (z:I1 ids=true) (n:Ef ids first=some as) (o:Ef ids caps=some bs) (q:objs.length=ids.length)
 (u:Nat.blt gh 1000=true) (v:A1 st.Ls gh=none) (w:Nat.blt ids.length 1000=true) (x:I1 ts=true) (d:∀t:T,AI (enc t)=some ps.size)
 (hle:Le idl ⟨Y3 ts (ts.map (get st.env)),K8 ids (ids.map λ_=>false) st.Ls⟩ (s a0)) (hk:∀a,(s a).env.map (·.1)=ts) (hn:∀a,A1 (s a).Ls gh=none)
 (b:∀(t:T) (next:St->Prop) (c:A->Option R) (a:A),(∀(st st1:St) (cs:List AV) (idl:List (Nat×Nat)) (a:A),Le idl st st1->A1 st1.Ls gh=some (.ghost cs)->cs.length=ts.length->A1 (del gh st1.Ls) gh=none->(⟨Y3 ts cs,del gh st1.Ls⟩:St)=s a->c a=some r->G S P (GH S gh ts next (kp S P K F)) (.pop .normal [] st)) ->
  mb c t a=some r->G S P (CK S P body gh ts next (kp S P K F)) (.code asg [] ⟨Nf ps.toList (enc t) (s a).env,ins gh (.ghost ((s a).env.map (·.2))) (s a).Ls⟩))
 (i:∀a,mk a=some r->G S P F (.pop (endP p) K (s a))):G S P F (.code (.rangeFunc g ps asg body) K st):=by
 refine AB6 hS ids ts gh (L.map enc) s (λrest a=>∃L',rest=L'.map enc/\T4 L' mb mk a=some r) a0 idl hp j l m z n o q (by simpa[Br8]using u) v (by simpa[Br8]using w) x (λys hy=>?_) y hle ⟨L,rfl,h⟩ hk hn ?_ ?_
 .obtain⟨t,_,rfl⟩:=Bl2.1 hy;exact d t
 .rintro ys rest a ⟨L',hL,hx⟩;cases L' with
  |nil=>cases hL
  |cons t L'=>simp only[Bj8,Bn1]at hL;obtain⟨rfl,rfl⟩:=hL;refine b t _ (T4 L' mb mk) a (λst st1 cs idl a hle h1 h2 h3 h4 h5=>?_) hx;exact Xg hS st1 a idl hle h1 h2 h3 h4 ⟨L',rfl,h5⟩
 rintro a ⟨L',hL,hx⟩;cases L' with
 |nil=>exact i a hx
 |cons t L'=>cases hL
def Zl (hS:G6 S P)(hc:pr){f:FuncId}{as bs:List AV}{objs:List Obj}{R T A:Type}{enc:T->List PV}{L:List T}{p:Option PV}{mb:(A->Option R)->T->A->Option R}{mk:A->Option R}{a0:A}{r:R}
 (ids ts:List Nat) (gh:Nat) (s:A->St) {idl:List (Nat×Nat)}(h:T4 L mb mk a0=some r) (x:OH S f as bs objs (L.map enc) p)
 (i:∀t:T,AI (enc t)=some (Jo (stp P g)).size) (hk:∀a,(s a).env.map (·.1)=ts) (hn:∀a,A1 (s a).Ls gh=none) (m:∀a,(⟨Y3 ts ((s a).env.map (·.2)),del gh (ins gh (.ghost ((s a).env.map (·.2))) (s a).Ls)⟩:St)=s a)
 (c:∀(t:T) (next:St->Prop) (d:A->Option R) (a:A),
  (∀(g' : Cfg) (ids:List (Nat×Nat)) (pr:Prop) (a:A),pr->d a=some r->(hp:pr=C5 (cnd P g'):=by kernel_rfl)->(b:stp P g' = .pop .normal [] (stp P g').st:=by kernel_rfl)->(hle:KLe ids (stp P g').st (rst gh (s a)):=by exact kl)->KG S P (GH S gh ts next (kp S P (stp P g).k F)) g') ->
  mb d t a=some r->KG S P (CK S P (Vc (stp P g)) gh ts next (kp S P (stp P g).k F)) (.code (Vb (stp P g)) [] (Ve gh (Jo (stp P g)) (enc t) (s a))))
 (j:∀a,mk a=some r->KG S P F (.pop (endP p) (stp P g).k (s a)))
 (hp:pr=C5 (cnd P g):=by kernel_rfl) (b:Va P ids (stp P g)=some (f,as,bs,objs):=by kernel_rfl) (o:Nat.blt gh 1000=true:=by kernel_rfl) (n:A1 (stp P g).st.Ls gh=none:=by kernel_rfl) (q:I1 ts=true:=by kernel_rfl)
 (hle:KLe idl (Vd ids ts (stp P g)) (s a0):=by exact kl):KG S P F g:=by
 refine⟨FA hS hc ?_ hp⟩;have u:=(IW b).2;replace b:=(IW b).1;generalize stp P g=g1 at i c j b n hle;unfold OE at b;split at b
 .rename_i op ps asg body K st;split at b
  .rename_i f' first caps v
   split at b
   .rename_i objs' as' bs' y z h4;split at b
    .rename_i w;simp only[Bh9,Bi6]at b;obtain⟨rfl,rfl,rfl,rfl⟩:=b;simp only[Bi1,Bk1,beq_iff_eq]at w;obtain⟨⟨⟨e3,e4⟩,e5⟩,e6⟩:=w;refine AB7 hS ids ts gh s idl h x v u y e3 e4 z h4 e5 o n e6 q i hle.out hk hn (λt next d a hb hm=>?_) (λa hm=>(j a hm).out);refine (c t next d a (λg' ids' pr a hc l hp b hle=>⟨FA hS hc ?_ hp⟩) hm).out;rw[b];have hl:((s a).env.map (·.2)).length=ts.length:=by rw[<- hk a];simp
     refine hb _ (rst gh (s a)) ((s a).env.map λp=>p.2) ids' a hle.out (Ia gh (s a)) hl ?_ (m a) l
     have:=congrArg St.Ls (m a)
     simp only at this;show A1 (del gh (ins gh _ _)) gh=none;rw[this];exact hn a
    cases b
   cases b
  cases b
 cases b
def Am5 (hS:G6 S P){f:FuncId}{fn:Func}{first caps:List AV}{objs:List Obj}{L:List (List PV)}{p:Option PV}(i:P.funcs[f]? = some fn)
 (h:KG S P (CJ S P (objs++[Obj.yld L true]).length fn.results.toList λr objs' ks=>∃b,objs'[objs.length]? = some (.yld [] b)/\ks[objs.length]? = some true/\(b=true->AR0 p r)/\(b=false->∃a,r=.ret a)) (.code (fn.body.getD .skip) [] { env:=Pg (first ++ .yf objs.length::caps),Ls:=Ma (objs++[Obj.yld L true]) }))
 (hc:fn.body.isSome=true:=by kernel_rfl) (hn:Nat.ble (first ++ .yf objs.length::caps).length fn.ntmps=true:=by kernel_rfl) (j:Nat.blt (objs++[Obj.yld L true]).length 1000=true:=by kernel_rfl)
 (d:Bz fn.ntmps (fn.body.getD .skip)=true:=by kernel_rfl) (g:(fn.name == "runtime.NumGoroutine")=false:=by kernel_rfl):OH S f first caps objs L p:=by
 obtain⟨code,c⟩:=Bj3.1 hc;rw[c,Bi7]at d h;exact LW hS i c (Bo1 hn) (by simpa[Br8]using j) rfl d g h.out
def AB8 (hS:G6 S P){f:FuncId}{fn:Func}{args:List AV}{objs:List Obj}{Q:ARes->List Obj->List Bool->Prop}(d:P.funcs[f]? = some fn)
 (h:KG S P (CJ S P objs.length fn.results.toList Q) (.code (fn.body.getD .skip) [] { env:=Pg args,Ls:=Ma objs }))
 (hc:fn.body.isSome=true:=by kernel_rfl) (hn:Nat.ble args.length fn.ntmps=true:=by kernel_rfl) (g:Nat.blt objs.length 1000=true:=by kernel_rfl)
 (b:Bz fn.ntmps (fn.body.getD .skip)=true:=by kernel_rfl) (c:(fn.name == "runtime.NumGoroutine")=false:=by kernel_rfl):S.F f args objs Q:=by
 obtain⟨code,a⟩:=Bj3.1 hc;rw[a,Bi7]at b h;exact LW hS d a (Bo1 hn) (by simpa[Br8]using g) rfl b c h.out
def panE:Cfg->Option PV
 |.ops all (o::_) _ st=>match BA all st.env o,o.op with
  |some true,.panic x=>match aev st.env x with
   |.p (.iface t y)=>some (.iface t y)
   |_=>none
  |_,_=>none
 |_=>none
def panC (x:PV):Cfg->Cfg
 |.ops _ _ K st=>.pop (.panic x) K st
 |g=>g
def AR1 (hS:G6 S P)(hc:pr){x:PV}(hk:KG S P F (panC x (stp P g)))(hp:pr=C5 (cnd P g):=by kernel_rfl)(a:panE (stp P g)=some x:=by kernel_rfl):KG S P F g:=by
 refine⟨FA hS hc ?_ hp⟩;have hk:=hk.out;generalize stp P g=g1 at hk a;unfold panE at a;split at a
 .rename_i all o rest K st;split at a
  .rename_i y b c;split at a
   .rename_i t z hx;cases a;exact AP2 hS b c hx hk
   cases a
  cases a
 cases a
def AB9:Cfg->Option PV
 |.pop (.panic x) [] _=>some x
 |_=>none
def AJ7 (hS:G6 S P)(hc:pr){n:Nat}{rs:List ResultVar}{Q:ARes->List Obj->List Bool->Prop}{x:PV}{objs:List Obj}(outs:List Nat)(c:Q (.panic x) objs (FF n outs))(hp:pr=C5 (cnd P g):=by kernel_rfl)
 (a:AB9 (stp P g)=some x:=by kernel_rfl) (d:I1 outs=true:=by kernel_rfl) (b:M9 outs (stp P g).st.Ls outs=some objs:=by kernel_rfl):KG S P (CJ S P n rs Q) g:=by
 refine⟨FA hS hc ?_ hp⟩;generalize stp P g=g1 at a b;unfold AB9 at a;split at a
 .cases a;exact⟨outs,objs,d,b,c⟩
 cases a
def AR2 (hS:G6 S P){all rest:List Oper}{o:Oper}{c:Call}{f:Operand}{as:List AV}{Ls:C4}{fn:FuncId}{as' args:List AV}{objs objs' : List Obj}{ks:List Bool}{x:PV}(ids:List Nat)
 (d:BA all st.env o=some true) (g:o.op=.call c) (b:c.callee=.value f) (ha:HN st.Ls (c.args.toList.map (aev st.env))=some (as,Ls))
 (hw:QZ st.env f as=some (fn,as')) (i:Ef ids as' = some args) (a:M9 ids Ls ids=some objs) (j:S.F fn args objs λres o k=>res=.panic x/\o=objs' /\ k=ks)
 (l:I1 ids=true) (hy:Fz objs=true) (hn:X3 Ls ids ks (o.dst.getD 0) objs'.length=true)
 (hk:G S P F (.pop (.panic x) K { env:=st.env,Ls:=back (H4 (o.dst.getD 0) ids ks objs'.length) (H4 (o.dst.getD 0) ids ks objs'.length) objs' (K8 ids ks Ls) })) :
 G S P F (.ops all (o::rest) K st):=by
 refine BB hS d ?_;unfold wOp;obtain⟨callee,cargs,types⟩:=c;simp only at b ha;subst b;rw[g];refine .inl ⟨as,Ls,_,_,.inl ha,hw,ids,args,objs,l,i,a,hy,hS.monoF _ _ _ _ _ ?_ j⟩;rintro _ _ _ ⟨rfl,rfl,rfl⟩;exact⟨hn,hk⟩
def AJ8 (ids:List Nat)(ks:List Bool)(x:PV)(objs' : List Obj):Cfg->Cfg
 |.ops all (o::rest) K st=>match o.op with
  |.call c=>match HN st.Ls (c.args.toList.map (aev st.env))with
   |some (_,Ls)=>mkO st.env (back (H4 (o.dst.getD 0) ids ks objs'.length) (H4 (o.dst.getD 0) ids ks objs'.length) objs' (K8 ids ks Ls)) λenv Ls=>.pop (.panic x) K ⟨env,Ls⟩
   |none=>.ops all (o::rest) K st
  |_=>.ops all (o::rest) K st
 |g=>g
def AR3 (hS:G6 S P)(ids:List Nat)(hc:pr){fn:FuncId}{args:List AV}{objs objs' : List Obj}{x:PV}{ks:List Bool}(i:S.F fn args objs λres o k=>res=.panic x/\o=objs' /\ k=ks)
 (hk:KG S P F (AJ8 ids ks x objs' (stp P g))) (hp:pr=C5 (cnd P g):=by kernel_rfl) (a:Ac0 ids (stp P g)=some (fn,args,objs):=by kernel_rfl) (hn:Ac1 ids ks objs'.length (stp P g)=true:=by kernel_rfl):KG S P F g:=by
 refine⟨FA hS hc ?_ hp⟩;replace hk:=hk.out;generalize stp P g=g' at a hn hk;unfold Ac0 at a;split at a
 .split at a
  .rename_i j f;split at a
   .rename_i c;split at a
    .rename_i ha;split at a
     .rename_i hw;split at a
      .rename_i l d;split at a
       .rename_i b;cases a;simp only[Bi1]at b;simp only[AJ8,Ac1,f,ha,Gr]at hk hn;exact AR2 hS ids j f c ha hw l d i b.1 b.2 hn hk
       cases a
      cases a
     cases a
    cases a
   cases a
  cases a
 cases a
def RE (S:U6)(R:St->Prop)(X:PV->St->Prop):M8
 |.normal,st=>S.up st R
 |.panic x,st=>X x st
 |_,_=>False
def K_upN (hS:G6 S P)(hc:pr){R:St->Prop}{X:PV->St->Prop}(st:St){ids:List (Nat×Nat)}(hR:R st)(hp:pr=C5 (cnd P g):=by kernel_rfl)(a:stp P g=.pop .normal [] (stp P g).st:=by kernel_rfl)
 (hle:KLe ids (stp P g).st st:=by exact kl):KG S P (RE S R X) g:=by
 refine⟨FA hS hc ?_ hp⟩;rw[a];exact hS.le ids _ _ R hle.out hR
def K_upP (hS:G6 S P)(hc:pr){R:St->Prop}{X:PV->St->Prop}{x:PV}(b:X x (stp P g).st)(hp:pr=C5 (cnd P g):=by kernel_rfl)(a:AB9 (stp P g)=some x:=by kernel_rfl):KG S P (RE S R X) g:=by
 refine⟨FA hS hc ?_ hp⟩;generalize stp P g=g1 at a b;unfold AB9 at a;split at a
 .cases a;exact b
 cases a
end
end Go.AM
namespace Go.AM
section
variable {S:U6}{P:Program}{F:M8}{K:List It}{g:Cfg}{pr:Prop}
def Xp (hS:G6 S P){all:List Oper}{o:Oper}{k k' : St->Prop}{Q Q' : M8}(hk:∀s,k s->k' s)(hq:∀x s,Q (.panic x) s->Q' (.panic x) s){st:St}(h:HI S P all o k Q st):HI S P all o k' Q' st:=by
 have e:∀st,wOp S P o k Q st->wOp S P o k' Q' st:=by
  intro st h;have u:∀d ids f args st,WF S d ids f args st (HO o.dst k Q)->WF S d ids f args st (HO o.dst k' Q'):=by
   rintro d ids f args st ⟨a,ob,h1,l,q,v,w⟩;refine⟨a,ob,h1,l,q,v,hS.monoF _ _ _ _ _ (λr o ks ⟨z,h7⟩=>⟨z,?_⟩) w⟩;cases r with
   |ret a=>exact hk _ h7
   |panic x=>exact hq _ _ h7
  unfold wOp at h⊢;split at h
  .rcases h with⟨as,Ls,f',as',h1,l,ids,q⟩ | ⟨j,xs,Ls,ys,rest,h1,l,q,v,w,z⟩ | ⟨f',as',c,xs,h1,l,q,v⟩ | ⟨j,jw,e,m,n,g,rest,h1,l,q,v⟩
   .exact .inl ⟨as,Ls,f',as',h1,l,ids,u _ _ _ _ _ q⟩
   .exact .inr (.inl ⟨j,xs,Ls,ys,rest,h1,l,q,v,w,λb=>hk _ (z b)⟩)
   .exact .inr (.inr (.inl ⟨f',as',c,xs,h1,l,q,hS.monoF _ _ _ _ _ (λr o ks e=>e.imp (fun⟨a,e1,e2,e3⟩=>⟨a,e1,e2,hk _ e3⟩) fun⟨e0,m,n,g,e1,e2,e3,e4,e5⟩=>⟨e0,m,n,g,e1,e2,e3,e4,hk _ e5⟩) v⟩))
   exact .inr (.inr (.inr ⟨j,jw,e,m,n,g,rest,h1,l,q,λb=>hk _ (v b)⟩))
  .obtain⟨as,Ls,t,y,f',h1,l,q,ids,v⟩:=h;exact⟨as,Ls,t,y,f',h1,l,q,ids,u _ _ _ _ _ v⟩
  .obtain⟨t,y,h1,l⟩:=h;exact⟨t,y,h1,hq _ _ l⟩
  .obtain⟨j,cl,last,seen,jm,es,h1,l,q,v,w,z,h7⟩:=h;exact⟨j,cl,last,seen,jm,es,h1,l,q,v,w,λg=>hk _ (z g),λi hi hs=>hk _ (h7 i hi hs)⟩
  rcases h with⟨out,h1,l,q⟩ | ⟨c,x,h1,l,q⟩ | ⟨out,h1,l,q⟩
  .exact .inl ⟨out,h1,l,hk _ q⟩
  .exact .inr (.inl ⟨c,x,h1,l,hk _ q⟩)
  exact .inr (.inr ⟨out,h1,l,hk _ q⟩)
 unfold HI at h⊢;refine hS.mono _ _ _ (λt h=>?_) h;split at h
 .exact e _ h
 obtain⟨b,h1,l⟩:=h;refine⟨b,h1,?_⟩;split
 .rename_i hb;rw[Ej hb]at l;exact e _ l
 rename_i hb;rw[Er hb]at l;exact hk _ l
def AR4 (all:List Oper)(n:Nat):Bool:= Nat.blt n all.length&&(List.range all.length).all λi=>Nat.blt i n||(List.range i).all λj=>((AY8 all).getD i []).contains j
def Xq (all:List Oper)(n:Nat):Bool:=(all.take n).all λo=>match o.guard with
 |some (j,_)=>Nat.blt j n
 |none=>true
def Ac5 (all:List Oper){n:Nat}(b:Xq all n=true){o:Oper}(c:o∈all.take n){k:St->Prop}{Q:M8}{s:St}(h:HI S P (all.take n) o k Q s):HI S P all o k Q s:=by
 have h1:=Bi8.1 b o c;unfold HI at h⊢;cases a:o.guard with
 |none=>simpa only[a]using h
 |some q=>
  obtain⟨j,want⟩:=q;simp only[a,Br8]at h1 h⊢;have e:FR (all.take n) j=FR all j:=by unfold FR;rw[Bq0,Ej h1]
  rw[e]at h;exact h
def Vh (hS:G6 S P){all:List Oper}{n:Nat}{Q:M8}{st:St}(r:HP all=true)(y:AR4 all n=true)(hg:Xq all n=true)
 (h:WH S P (all.take n) (λe s=>match e with | .normal=>Jc S P all (all.drop n) Q s | .panic x=>Q (.panic x) s|_=>False) st):WH S P all Q st:=by
 obtain⟨z,hdp,Inv,h0,u,a0⟩:=h;simp only[AR4,Bi1,Br8,Bi8,Bl7,Bn5,Bl4,decide_eq_true_eq]at y;obtain⟨hn,y⟩:=y
 let down:(Nat->Bool)->Prop:=λD=>∀i o,D i=true->all[i]? = some o->∀e∈o.after.toList,EL e=true->D e.on=true
 let Inv' : (Nat->Bool)->St->Prop:=λD s=>down D/\(((∀i,n<=i->D i=false)/\Inv D s) \/ ∃j,n<=j/\j<=all.length/\(∀i,i<all.length->(D i=true↔i<j))/\Jc S P all (all.drop j) Q s)
 refine⟨z,r,Inv',⟨λi o hi=>(by cases hi),.inl ⟨λ_ _=>rfl,h0⟩⟩,?_,?_⟩
 .intro D i s o ⟨hD,hc⟩ ho hDi b;have g:i<all.length:=(Bj1.1 ho).1;have t:=LU r hD i o ho b;have l:down λj=>if j=i then true else D j:=by
   intro j oj m v e he hbe;show (if e.on=i then true else D e.on)=true;by_cases e1:j=i
   .subst e1;rw[ho]at v;cases v;split
    .rfl
    exact b e he hbe
   have m:(if j=i then true else D j)=true:=m;rw[Er e1]at m;split
   .rfl
   exact hD j oj m v e he hbe
  have d:(∀j,j<i->D j=true)->(∀j,i<j->j<all.length->D j=false)->n<=i->S.up s (Jc S P all (all.drop i) Q)->HI S P all o (Inv' λj=>if j=i then true else D j) Q s:=by
   intro c hhi hni h2;have hd:all.drop i=o::all.drop (i+1):=by rw[Br4 g];congr 1;exact (Bj1.1 ho).2
   rw[hd]at h2;have h3:HI S P all o (Jc S P all (all.drop (i+1)) Q) Q s:=hS.trans _ _ h2;refine LX hS (λs' w=>?_) (λe s h=>h) h3;refine⟨l,.inr ⟨i+1,by omega,g,λi' hi'=>?_,w⟩⟩;by_cases e:i' = i
   .simp[e]
   simp only[e,Ev];constructor
   .intro q;by_cases h5:i<i'
    .rw[hhi i' h5 hi']at q;cases q
    omega
   intro q;exact c i' (by omega)
  rcases hc with⟨c,hI⟩ | ⟨j,hj1,hj2,f,hw⟩
  .by_cases hi:i<n
   .have ho' : (all.take n)[i]? = some o:=by rw[Bq0,Ej hi];exact ho
    have h1:=Ac5 all hg (Bk5 ho') (u D i s o hI ho' hDi b);refine Xp hS (λs' w=>?_) (λx s' h=>h) h1;refine⟨l,.inl ⟨λi' h'=>?_,w⟩⟩
    have:i' ≠ i:=by omega
    show (if i' = i then true else D i')=false;rw[Er this];exact c i' h'
   have a:∀j,j<i->D j=true:=λj m=>t j ((y i g).resolve_left hi j m);have e:i=n:=by
    by_cases q:n<i
    .have:=a n q;rw[c n (Bi3 _)]at this;cases this
    omega
   subst e;refine d a (λj m _=>c j (by omega)) (Bi3 _) ?_;exact a0 D s hI λj m=>a j (by simp at m;omega)
  have e:i=j:=by
   by_cases q:i<j
   .have:=(f i g).2 q;rw[hDi]at this;cases this
   by_cases h5:j<i
   .have a:D j=true:=t j ((y i g).resolve_left (by omega) j h5)
    have:=(f j (by omega)).1 a;omega
   omega
  subst e;refine d (λj m=>(f j (by omega)).2 m) (λj h1 h2=>?_) hj1 (hS.refl _ _ hw);cases hh:D j with
  |false=>rfl
  |true=>have:=(f j h2).1 hh;omega
 rintro D s ⟨hD,hc⟩ a;rcases hc with⟨c,hI⟩ | ⟨j,hj1,hj2,f,hw⟩
 .have:=a n hn;rw[c n (Bi3 _)]at this;cases this
 have e:j=all.length:=by
  by_cases q:j<all.length
  .have:=(f j q).1 (a j q);omega
  omega
 subst e;rw[List.drop_length]at hw;exact hS.refl _ _ hw
def NJ (n:Nat)(ls:List (Nat×Cls)):Cfg->SC
 |.code (.region _ ops true) _ st=>⟨ops.toList.take n,Bh4 ls 0 (ops.toList.take n),ops.toList.take n,st.env,st.Ls,[]⟩
 |_=>⟨[],[],[],[],[],[]⟩
def Am6 (n:Nat)(env:Env)(Ls:C4):Cfg->Cfg
 |.code (.region _ ops true) K _=>.ops ops.toList (ops.toList.drop n) K ⟨env,Ls⟩
 |g=>g
def Am7 (n:Nat):Cfg->Bool
 |.code (.region _ ops true) _ _=>HP ops.toList&&AR4 ops.toList n&&Xq ops.toList n
 |_=>false
def AC0 (hS:G6 S P)(hc:pr)(n:Nat)(ls:List (Nat×Cls))(h:DG S P (NJ n ls (stp P g)) λenv Ls=>KG S P F (Am6 n env Ls (stp P g)))(hp:pr=C5 (cnd P g):=by kernel_rfl)(c:Dj (stp P g)=true:=by kernel_rfl)(a:P.follows .mixedOrders=true:=by kernel_rfl)
 (b:Mv (NJ n ls (stp P g)).all (NJ n ls (stp P g)).cls=true:=by kernel_rfl) (hb:Am7 n (stp P g)=true:=by kernel_rfl):KG S P F g:=by
 have e:(λenv Ls=>KG S P F (Am6 n env Ls (stp P g)))=λenv Ls=>G S P F (Am6 n env Ls (stp P g)):=by funext env Ls;exact propext ⟨λh=>h.out,λh=>⟨h⟩⟩
 rw[e]at h;refine⟨FA hS hc ?_ hp⟩;have h:=h.out;generalize stp P g=g' at c b h hb;unfold Dj at c;split at c
 .rename_i id ops K st;simp only[Am7,Bi1]at hb;show awp S P (.region id ops true) (kp S P K F) st;simp only[awp,Eu];refine Vh hS hb.1.1 hb.1.2 hb.2 ?_;have d:(ops.toList.take n).toArray.toList=ops.toList.take n:=rfl
  have:=YM hS (F:=λe s=>match e with | .normal=>Jc S P ops.toList (ops.toList.drop n) (kp S P K F) s | .panic x=>kp S P K F (.panic x) s|_=>False) (K:=[]) (id:=id) (ops:=(ops.toList.take n).toArray) (Bh4 ls 0 (ops.toList.take n)) a b h
  simpa only[G,awp,Eu,kp,NJ]using this
 cases c
end
end Go.AM
namespace Go.AM
open Go.RowKit Go.ChangeShapes Go.Deep
mutual
inductive LeD:PV->PV->Prop
 |refl (x:PV):LeD x x
 |sl {k n:Nat}{f g:Nat->List PV}(h:∀i,i<n->LeDs (f i) (g i)):LeD (.sl false k n f) (.sl false k n g)
inductive LeDs:List PV->List PV->Prop
 |nil:LeDs [] []
 |cons {x y:PV}{l r:List PV}(h:LeD x y) (h' : LeDs l r):LeDs (x::l) (y::r)
end
def LeDs.refl:∀l:List PV,LeDs l l
 |[]=>.nil
 |x::l=>.cons (.refl x) (LeDs.refl l)
def LeDs.length {l r:List PV}(h:LeDs l r):l.length=r.length:=by
 induction l generalizing r with
 |nil=>cases h;rfl
 |cons x l ih=>cases h with|cons _ h'=>simp[ih h']
def LeDs.get {l r:List PV}(h:LeDs l r):∀i,LeD (l.getD i default) (r.getD i default):=by
 induction l generalizing r with
 |nil=>cases h;exact λi=>.refl _
 |cons x l ih=>
  cases h with
  |cons h h'=>
   intro i;cases i with
   |zero=>exact h
   |succ i=>simpa using ih h' i
def LeDs.append {a b c d:List PV}(h:LeDs a b)(h' : LeDs c d):LeDs (a++c) (b++d):=by
 induction a generalizing b with
 |nil=>cases h;exact h'
 |cons x l ih=>cases h with|cons h1 h2=>exact .cons h1 (ih h2)
def Md.leD {w:World}{Pi:Nat->Nat->Prop}{v:Value}{x:PV}(h:Md w Pi v x):∀{y:PV},LeD x y->Md w Pi v y:=by
 induction h with
 |slnil k f=>intro y hy;cases hy with
  |refl=>exact .slnil _ _
  |sl h=>exact .slnil _ _
 |sl nn b off cap k n f c hn hk hc h sp hsp ih=>
  intro y hy;cases hy with
  |refl=>exact .sl nn b off cap k n f c hn hk hc h sp hsp
  |sl h'=>exact .sl false b off cap k n _ c hn (λi d=>by rw[<- (h' i d).length];exact hk i d) hc (λi j d g=>ih i j d g ((h' i d).get j)) sp hsp
 |v x=>intro y hy;cases hy;exact .v x
 |bb b=>intro y hy;cases hy;exact .bb b
 |str l=>intro y hy;cases hy;exact .str l
 |agg vs cs hs h1 h ih=>intro y hy;cases hy;exact .agg vs cs hs h1 h
 |ptr b off cs c hc h ih=>intro y hy;cases hy;exact .ptr b off cs c hc h
 |iface t x a h ih=>intro y hy;cases hy;exact .iface t x a h
 |fn f x y a b hx hy ha hb iha ihb=>intro y hy;cases hy;exact .fn f x _ a b hx ‹_› ha hb
def CRep.leD {W:World}{cs:List Value}{p q:List PV}(h:CRep W cs p)(hl:LeDs p q):CRep W cs q:=
 ⟨by rw[h.1,hl.length],λi a=>⟨(h.2 i (by rw[hl.length];exact a)).1.leD (hl.get i),(h.2 i (by rw[hl.length];exact a)).2⟩⟩
section
variable {P:Program}{t e:TypeId}{m:Nat}{pvs:List PV}
def LI (f:Nat->Nat):Nat->Nat
 |0=>0
 |k+1=>LI f k+f k
def AR5 (f:Nat->Nat){k n:Nat}(h:k<=n):LI f k<=LI f n:=by
 induction h with
 |refl=>exact Bi3 _
 |step _ ih=>simp only[LI];omega
def Am8 (f:Nat->Nat){k n:Nat}(h:k<n):f k<=LI f n:=by
 have:=AR5 f (show k+1<=n from h)
 simp only[LI]at this;omega
def Vi {f g:Nat->Nat}:∀{n:Nat},(∀i,i<n->f i<=g i)->LI f n<=LI g n
 |0,_=>Bi3 _
 |n+1,h=>by have h1:=Vi (n:=n) λi a=>h i (by omega);have b:=h n (by omega);simp only[LI];omega
def RF (f:Nat->Nat):∀n,WC ((List.range n).map f)=LI f n:=by
 have app:∀a b:List Nat,WC (a++b)=WC a+WC b:=by
  intro a b
  induction a with
  |nil=>simp[WC]
  |cons x r ih=>simp only[Bk9,UR,ih];omega
 intro n
 induction n with
 |zero=>rfl
 |succ n ih=>rw[Bt6,Br9,app,ih];simp[LI,WC]
def OI (P:Program)(t:TypeId){T:Type}(c:T->List PV)(W:T->Prop)(sz:T->Nat):Prop:= ∀(m:Nat) (pvs:List PV),Kb P m t pvs->∃x:T,LeDs pvs (c x)/\W x/\sz x<=m
def T8 {k:IntKind}(ht:P.underlying t=some (.int k)):OI P t (cI k) (λn=>(Lit.int k n).wf=true) (λ_=>1):=by
 intro m pvs h;cases h with
 |bool ht'=>rw[ht]at ht';cases ht'
 |str ht'=>rw[ht]at ht';cases ht'
 |slice _ ht'=>rw[ht]at ht';cases ht'
 |arr ht'=>rw[ht]at ht';cases ht'
 |struct ht'=>rw[ht]at ht';cases ht'
 |int ht' hw hm=>rw[ht]at ht';cases ht';exact⟨_,LeDs.refl _,hw,hm⟩
def Ac6 (ht:P.underlying t=some .bool):OI P t cB (λ_=>True) (λ_=>1):=by
 intro m pvs h;cases h with
 |int ht'=>rw[ht]at ht';cases ht'
 |str ht'=>rw[ht]at ht';cases ht'
 |slice _ ht'=>rw[ht]at ht';cases ht'
 |arr ht'=>rw[ht]at ht';cases ht'
 |struct ht'=>rw[ht]at ht';cases ht'
 |bool ht' hm=>exact⟨_,LeDs.refl _,trivial,hm⟩
def Am9 (ht:P.underlying t=some .string):OI P t cS (λ_=>True) (λl=>l.length+1):=by
 intro m pvs h;cases h with
 |int ht'=>rw[ht]at ht';cases ht'
 |bool ht'=>rw[ht]at ht';cases ht'
 |slice _ ht'=>rw[ht]at ht';cases ht'
 |arr ht'=>rw[ht]at ht';cases ht'
 |struct ht'=>rw[ht]at ht';cases ht'
 |str ht' hm=>exact⟨_,LeDs.refl _,trivial,hm⟩
def Dm {T:Type}[Inhabited T]{c:T->List PV}{W:T->Prop}{sz:T->Nat}{k:Nat}(ht:P.underlying t=some (.slice e))(hk:P.cellsOf e=k)(h:OI P e c W sz) :OI P t (cL k c) (λs=>∀i,i<s.n->W (s.g i)) (λs=>LI (λi=>sz (s.g i)) s.n+1):=by
 intro m pvs hs;cases hs with
 |int ht'=>rw[ht]at ht';cases ht'
 |bool ht'=>rw[ht]at ht';cases ht'
 |str ht'=>rw[ht]at ht';cases ht'
 |arr ht'=>rw[ht]at ht';cases ht'
 |struct ht'=>rw[ht]at ht';cases ht'
 | @slice _ _ e' n f ms ht' hl hel hm=>
  rw[ht]at ht';cases ht';obtain⟨g,b⟩:=choose_lt (α:=T) (p:=λi x=>LeDs (f i) (c x)/\W x/\sz x<=ms i) λi a=>h _ _ (hel i a);refine⟨⟨n,g⟩,?_,λi a=>(b i a).2.1,?_⟩
  .subst hk;exact .cons (.sl λi a=>(b i a).1) .nil
  have h1:=Vi (n:=n) λi a=>(b i a).2.2;rw[RF]at hm;show LI (λi=>sz (g i)) n+1<=m;omega
def Cw {fs:Array Field}(ht:P.underlying t=some (.struct fs))(h:Kb P m t pvs):∃m',HV P m' (fs.toList.map (·.type)) pvs/\m' + 1<=m:=by
 cases h with
 |int ht'=>rw[ht]at ht';cases ht'
 |bool ht'=>rw[ht]at ht';cases ht'
 |str ht'=>rw[ht]at ht';cases ht'
 |slice _ ht'=>rw[ht]at ht';cases ht'
 |arr ht'=>rw[ht]at ht';cases ht'
 |struct ht' h hm=>rw[ht]at ht';cases ht';exact⟨_,h,hm⟩
def E6 {ts:List TypeId}(h:HV P m (t::ts) pvs):∃a b p q,pvs=p++q/\Kb P a t p/\HV P b ts q/\a+b<=m:=by
 cases h with
 |cons h h' hm=>exact⟨_,_,_,_,rfl,h,h',hm⟩
def EH (h:HV P m [] pvs):pvs=[]:=by cases h;rfl
end
end Go.AM
namespace Go.AM
section
variable {S:U6}{P:Program}{sc:SC}{k:Env->C4->Prop}{pr:Prop}
end
end Go.AM
namespace Go.AM
section
variable {κ ν : Type}
def HM (eq : κ -> κ -> Bool)(k : κ)(z : ν):List (κ × ν)->Nat × ν×List (κ × ν)
 |[]=>(0,z,[(k,z)])
 |(a,v)::es=>if eq k a then (0,v,(k,v)::es)else ((HM eq k z es).1+1,(HM eq k z es).2.1,(a,v)::(HM eq k z es).2.2)
def AW1:List (κ × ν)->Nat -> ν -> List (κ × ν)
 |[],_,_=>[]
 |(a,_)::es,0,v=>(a,v)::es
 |p::es,n+1,v=>p::AW1 es n v
def NK {kP : κ -> PV}{vP : ν -> PV}{cmp:PV->PV->Option Bool}{eq : κ -> κ -> Bool}(hc:∀a b,cmp (kP a) (kP b)=some (eq a b))(k : κ)(z : ν):∀es:List (κ × ν),
 ∃q,Fy cmp (kP k) (Dd kP vP es)=some q/\ent (kP k) (vP z) (Dd kP vP es) q=((HM eq k z es).1,vP (HM eq k z es).2.1,Dd kP vP (HM eq k z es).2.2)
 |[]=>⟨none,rfl,rfl⟩
 |(a,v)::es=>by
  have e0:Dd kP vP ((a,v)::es)=(kP a,vP v)::Dd kP vP es:=rfl;rw[e0];simp only[Fy,hc,HM];cases h:eq k a
  .obtain⟨q,h1,c⟩:=NK (vP:=vP) hc k z es;refine⟨q.map (· + 1),by simp[h1],?_⟩;cases q with
   |none=>simp only[ent,Bi6]at c;simp only[ent,Bv8,Bi5,Ev,Bk7,Bi6];refine⟨by rw[c.1],c.2.1,?_⟩;rw[Bk9,c.2.2];rfl
   |some j=>simp only[ent,Bi6]at c;simp only[ent,Bj0,Bi5,Ev,Bi6];refine⟨by rw[c.1],by simpa using c.2.1,?_⟩;rw[BA0,BA8,c.2.2];rfl
  exact⟨some 0,rfl,rfl⟩
def Vj {eq : κ -> κ -> Bool}(c:∀a b,eq a b=true->a=b){k : κ}{z v : ν}:∀{es:List (κ × ν)},R8 eq k es=some v->(HM eq k z es).2=(v,es)
 |[],h=>by cases h
 |(a,x)::es,h=>by
  simp only[R8]at h;simp only[HM];split at h
  .rename_i hk;cases h;rw[Ej hk,c _ _ hk]
  rename_i hk;rw[Er hk,Vj c h]
def Kf (eq : κ -> κ -> Bool)(k : κ)(z : ν):∀es:List (κ × ν),(HM eq k z es).1<(HM eq k z es).2.2.length
 |[]=>by simp[HM]
 |(a,v)::es=>by
  have:=Kf eq k z es
  simp only[HM];split<;>simp<;>omega
def KT {kP : κ -> PV}{vP : ν -> PV}:∀(es:List (κ × ν)) (i:Nat) (v : ν),i<es.length->AM0 (Dd kP vP es) i (vP v)=Dd kP vP (AW1 es i v)
 |[],i,v,h=>Es h (by simp)
 |(a,x)::es,0,v,h=>rfl
 |p::es,n+1,v,h=>by have ih:=KT (kP:=kP) (vP:=vP) es n v (by simpa using h);have e0:Dd kP vP (p::es)=(kP p.1,vP p.2)::Dd kP vP es:=rfl;have e1:Dd kP vP (AW1 (p::es) (n+1) v)=(kP p.1,vP p.2)::Dd kP vP (AW1 es n v):=rfl;rw[e0,e1,<- ih];simp only[AM0,BA0,BA8]
def KU (eq : κ -> κ -> Bool)(k : κ)(z v : ν):∀es:List (κ × ν),AW1 (HM eq k z es).2.2 (HM eq k z es).1 v=Eh eq k v es
 |[]=>rfl
 |(a,x)::es=>by
  have ih:=KU eq k z v es;simp only[HM,Eh];by_cases h:eq k a=true
  .simp only[h,Eu];rfl
  simp only[h,Ev,Bi5];show (a,x)::AW1 (HM eq k z es).2.2 (HM eq k z es).1 v=_;rw[ih]
end
section
variable {S:U6}{P:Program}{F:M8}{g:Cfg}{pr:Prop}
structure EntI where
 kt:TypeId
 key:PV
 z:PV
 es:List (PV×PV)
end
end Go.AM
namespace Go.AM
section
variable {S:U6}{P:Program}{F:M8}{g:Cfg}{pr:Prop}
end
end Go.AM
namespace Go.AM
section
variable {S:U6}{P:Program}{pr:Prop}{sc:SC}{k:Env->C4->Prop}
def AC1 (P:Program)(sc:SC):Option EntI:=match sc.cls,sc.rest with
 |cl::_,o::_=>match An sc.all sc.env o,o.op,UO cl sc.env (o.dst.getD 0) o.op with
  |some true,.mapEntry t m k,true=>match aev sc.env k,aev sc.env m with
   |.p key,.Ni j=>match A1 sc.Ls j,tk P t with
    |some (.map es),some (.map kt e)=>match Ho P e with
     |some z=>if Gj P kt (nP key) then some ⟨kt,nP key,z,es⟩else none
     |none=>none
    |_,_=>none
   |_,_=>none
  |_,_,_=>none
 |_,_=>none
def Vk (P:Program)(sc:SC):Option EntI:=match sc.cls,sc.rest with
 |.l js::_,o::_=>match An sc.all sc.env o,o.op with
  |some true,.mapEntry t m k=>match aev sc.env k,aev sc.env m with
   |.p key,.Ni j=>if js.contains j then match A1 sc.Ls j,tk P t with
    |some (.map es),some (.map kt e)=>match Ho P e with
     |some z=>if Gj P kt (nP key) then some ⟨kt,nP key,z,es⟩else none
     |none=>none
    |_,_=>none
    else none
   |_,_=>none
  |_,_=>none
 |_,_=>none
def AC2 (i:Nat)(y:PV)(es' : List (PV×PV))(sc:SC):SC:=match sc.rest with
 |o::rest=>match o.op with
  |.mapEntry _ m _=>match aev sc.env m with
   |.Ni j=>AA1 o.dst (.tup [.p y,.p (pI .i64 i)]) sc.env (ins j (.map es') sc.Ls) λenv Ls=>⟨sc.all,sc.cls.tail,rest,env,Ls,sc.kn⟩
   |_=>sc
  |_=>sc
 |[]=>sc
def An0 (hc:pr){kt:TypeId}{key z y:PV}{es es' : List (PV×PV)}{i:Nat}(b:∃q,Fy (HH P kt) key es=some q/\ent key z es q=(i,y,es'))(d:C5 (Hn P kt))(hk:DG S P (AC2 i y es' (By P sc)) k)
 (hp:pr=C5 (Ov P sc):=by kernel_rfl) (a:AC1 P (By P sc)=some ⟨kt,key,z,es⟩:=by kernel_rfl):DG S P sc k:=by
 refine⟨Al7 hc ?_ hp⟩;obtain⟨q,b,r⟩:=b;replace hk:=hk.out;generalize By P sc=s at a hk;obtain⟨all,cls,rest,env,Ls,kn⟩:=s;cases rest with
 |nil=>cases cls<;>simp[AC1]at a
 |cons o rest=>
  cases cls with
  |nil=>simp[AC1]at a
  |cons cl cls=>
   simp only[AC1]at a;split at a
   .rename_i t m kk u l f;split at a
    .rename_i kp j h1 n;split at a
     .rename_i es0 kt0 e0 w ht;split at a
      .rename_i z0 x;split at a
       .rename_i g;simp only[Bh9,EntI.mk.injEq]at a;obtain⟨rfl,rfl,rfl,rfl⟩:=a;simp only[AC2,l,n,EV,Bp1]at hk;refine YP (c:=Hn P kt0) (v:=.tup [.p y,.p (pI .i64 i)]) (regs':=ins j (.map es') Ls) u ?_ d f hk;rw[l];simp only[aop,ht,n,h1,w,x,g,b,r]
       cases a
      cases a
     cases a
    cases a
   cases a
def AC3 (hc:pr){kt:TypeId}{key z y:PV}{es:List (PV×PV)}{i:Nat}(g:∃q,Fy (HH P kt) key es=some q/\ent key z es q=(i,y,es))(n:C5 (Hn P kt))(hk:DG S P (AC2 i y es (By P sc)) k)
 (hp:pr=C5 (Ov P sc):=by kernel_rfl) (a:Vk P (By P sc)=some ⟨kt,key,z,es⟩:=by kernel_rfl):DG S P sc k:=by
 refine⟨Al7 hc ?_ hp⟩;obtain⟨q,g,x⟩:=g;replace hk:=hk.out;generalize By P sc=s at a hk;obtain⟨all,cls,rest,env,Ls,kn⟩:=s;cases rest with
 |nil=>cases cls<;>simp[Vk]at a
 |cons o rest=>
  cases cls with
  |nil=>simp[Vk]at a
  |cons cl cls=>
   cases cl with
   |l js=>
    simp only[Vk]at a;split at a
    .rename_i t m kk hg u;split at a
     .rename_i kp j h1 v;split at a
      .rename_i c;split at a
       .rename_i es0 kt0 e0 f ht;split at a
        .rename_i z0 hz;split at a
         .rename_i r;simp only[Bh9,EntI.mk.injEq]at a;obtain⟨rfl,rfl,rfl,rfl⟩:=a;simp only[AC2,u,v,EV,Bp1]at hk;have w:∀R2:C4,A1 R2 j=some (.map es0)->aop P env R2 (o.dst.getD 0) o.op=some ⟨Hn P kt0,.tup [.p y,.p (pI .i64 i)],ins j (.map es0) R2⟩:=by intro R2 b;rw[u];simp only[aop,ht,v,h1,b,hz,r,g,x]
          have d:∀R2:C4,A1 R2 j=some (.map es0)->∀q,A1 (ins j (.map es0) R2) q=A1 R2 q:=by
           intro R2 b q;rw[O1];split
           .rename_i e;subst e;exact b.symm
           rfl
          refine⟨true,hg,?_⟩;rw[Ej rfl];exact⟨_,_,.inl ⟨_,w Ls f,n,trivial,d Ls f,λR2 h=>⟨_,w R2 ((h j (by simpa using c)).trans f),d R2 ((h j (by simpa using c)).trans f)⟩⟩,hk⟩
         cases a
        cases a
       cases a
      cases a
     cases a
    cases a
   |_=>simp[Vk]at a
def AC4 (sc:SC):Option (Int×PV×List (PV×PV)):=match sc.cls,sc.rest with
 |cl::_,o::_=>match An sc.all sc.env o,o.op,UO cl sc.env (o.dst.getD 0) o.op with
  |some true,.entryStore _ m s x,true=>match aev sc.env m,asInt (aev sc.env s),Ee sc.Ls (aev sc.env x)with
   |.Ni j,some s,some (y,Ls)=>match A1 Ls j with
    |some (.map es)=>some (s,y,es)
    |_=>none
   |_,_,_=>none
  |_,_,_=>none
 |_,_=>none
def Bb7 (es' : List (PV×PV))(sc:SC):SC:=match sc.rest with
 |o::rest=>match o.op with
  |.entryStore _ m s x=>match aev sc.env m,Ee sc.Ls (aev sc.env x)with
   |.Ni j,some (_,Ls)=>AA1 o.dst Kx sc.env (ins j (.map es') Ls) λenv Ls=>⟨sc.all,sc.cls.tail,rest,env,Ls,sc.kn⟩
   |_,_=>sc
  |_=>sc
 |[]=>sc
def SU (hc:pr){i:Nat}{y:PV}{es es' : List (PV×PV)}(r:i<es.length)(g:AM0 es i y=es')(hk:DG S P (Bb7 es' (By P sc)) k)
 (hp:pr=C5 (Ov P sc):=by kernel_rfl) (a:AC4 (By P sc)=some ((i:Int),y,es):=by kernel_rfl):DG S P sc k:=by
 refine⟨Al7 hc ?_ hp⟩;replace hk:=hk.out;generalize By P sc=s at a hk;obtain⟨all,cls,rest,env,Ls,kn⟩:=s;cases rest with
 |nil=>cases cls<;>simp[AC4]at a
 |cons o rest=>
  cases cls with
  |nil=>simp[AC4]at a
  |cons cl cls=>
   simp only[AC4]at a;split at a
   .rename_i t m s x l d b;split at a
    .rename_i j sv y0 regs1 h1 n f;split at a
     .rename_i es0 q;simp only[Bh9,Bi6]at a;obtain⟨rfl,rfl,rfl⟩:=a;subst g;simp only[Bb7,d,h1,f,EV,Bp1]at hk;refine YP (c:=[0<=(i:Int)/\(i:Int)<(es0.length:Int)]) (v:=Kx) (regs':=ins j (.map (AM0 es0 i y0)) regs1) l ?_ (show 0<=(i:Int)/\(i:Int)<(es0.length:Int) by omega) b hk;rw[d];simp only[aop,h1,n,f,q];rfl
     cases a
    cases a
   cases a
end
end Go.AM
namespace Go.AM
section
variable {S:U6}{P:Program}{F:M8}{g:Cfg}{pr:Prop}
end
section
variable {S:U6}{P:Program}{pr:Prop}{sc:SC}{k:Env->C4->Prop}
end
end Go.AM
namespace Go.AM
section
variable {S:U6}{P:Program}{F:M8}{g:Cfg}{pr:Prop}
def bldK (P:Program):Cfg->Cfg
 |.ops all (o::rest) K st=>match bop P st.Ls (o.dst.getD 0) o.op with
  |some out=>Ab9 o.dst out.val st.env out.Ls λst=>.ops all rest K st
  |none=>.ops all (o::rest) K st
 |g=>g
def bldI (P:Program):Cfg->Bool
 |.ops all (o::rest) K st=>(match BA all st.env o with|some true=>true|_=>false)&&(bop P st.Ls (o.dst.getD 0) o.op).isSome
 |_=>false
def K_bld (hS:G6 S P)(hc:pr)(d:Nat)(hk:KG S P F (bldK P (Hs P d g)))
 (hp:pr=C5 (AP5 P d g):=by kernel_rfl) (f:bldI P (Hs P d g)=true:=by kernel_rfl):KG S P F g:=by
 refine⟨(GI (u:=some d) (F:=F) hS 400 [] g (by subst hp;exact hc)).2 ?_⟩;have hk:=hk.out;show G S P F (Hs P d g);generalize Hs P d g=g1 at hk f;unfold bldI at f;split at f
 .rename_i all o rest K st;simp only[Bi1]at f;obtain⟨j,hb⟩:=f;split at j
  .rename_i i;obtain⟨out,a⟩:=Bj3.1 hb;simp only[bldK,a,FT]at hk;refine BB hS i ?_;have b:C5 out.cond:=by
    unfold bop at a;split at a
    .split at a
     .cases a;exact trivial
     cases a
    cases a
   unfold wOp;split
   .rename_i c;rw[c]at a;simp[bop]at a
   .rename_i c;rw[c]at a;simp[bop]at a
   .rename_i c;rw[c]at a;simp[bop]at a
   .rename_i c;rw[c]at a;simp[bop]at a
   exact .inr (.inr ⟨out,a,b,hk⟩)
  cases j
 cases f
structure NextI where
 cl:Nat
 last:Nat
 seen:List Nat
 es:List (PV×PV)
def Bb8:Cfg->Option NextI
 |.ops all (o::rest) K st=>match BA all st.env o,o.op with
  |some true,.next x false=>match aev st.env x with
   |.reg j 0=>match A1 st.Ls j with
    |some (.blk (1::cl::last::seen) jm)=>match A1 st.Ls jm with
     |some (.map es)=>some ⟨cl,last,seen,es⟩
     |_=>none
    |_=>none
   |_=>none
  |_,_=>none
 |_=>none
def Bb9:Cfg->Cfg
 |.ops all (o::rest) K st=>Ab9 o.dst (.tup [.p (.bb false)]) st.env st.Ls λst=>.ops all rest K st
 |g=>g
def Bc0 (i:Nat)(ky vl:PV):Cfg->Cfg
 |.ops all (o::rest) K st=>match o.op with
  |.next x _=>match aev st.env x with
   |.reg j _=>match A1 st.Ls j with
    |some (.blk (_::cl::_::seen) jm)=>match A1 st.Ls jm with
     |some (.map es)=>Ab9 o.dst (.tup [.p (.bb true),.p ky,.p vl]) st.env (ins j (.blk (1::cl::es.length::(i::seen)) jm) st.Ls) λst=>.ops all rest K st
     |_=>.ops all (o::rest) K st
    |_=>.ops all (o::rest) K st
   |_=>.ops all (o::rest) K st
  |_=>.ops all (o::rest) K st
 |g=>g
def Bc1 (hS:G6 S P)(hc:pr){cl last:Nat}{seen:List Nat}{es:List (PV×PV)}(h1:cl=es.length)(q:cl<=last){ky vl:Nat->PV}(f:∀i,i<es.length->es.getD i default=(ky i,vl i))
 (d:(∀i,i<es.length->i∈seen)->KG S P F (Bb9 (stp P g))) (ht:∀i,i<es.length->i ∉ seen->KG S P F (Bc0 i (ky i) (vl i) (stp P g)))
 (hp:pr=C5 (cnd P g):=by kernel_rfl) (c:Bb8 (stp P g)=some ⟨cl,last,seen,es⟩:=by kernel_rfl):KG S P F g:=by
 refine⟨FA hS hc ?_ hp⟩;replace d:=λx=>(d x).out;replace ht:=λi a b=>(ht i a b).out;generalize stp P g=g1 at d ht c;unfold Bb8 at c;split at c
 .rename_i all o rest K st;split at c
  .rename_i x r l;split at c
   .rename_i j hx;split at c
    .rename_i cl' last' seen' jm m;split at c
     .rename_i es' hm;cases c;simp only[Bb9,Bc0,l,hx,m,hm,FT]at d ht;refine BB hS r ?_;unfold wOp;rw[l];exact⟨j,cl,last,seen,jm,es,hx,m,hm,h1,q,d,λi n hs=>by rw[f i n];exact ht i n hs⟩
     cases c
    cases c
   cases c
  cases c
 cases c
structure EntVI where
 last:Nat
 i:Nat
 es:List (PV×PV)
def Bc2:Cfg->Option EntVI
 |.ops all (o::rest) K st=>match BA all st.env o,o.op with
  |some true,.entry x=>match aev st.env x with
   |.reg j 0=>match A1 st.Ls j with
    |some (.blk (1::_::last::i::_) jm)=>match A1 st.Ls jm with
     |some (.map es)=>some ⟨last,i,es⟩
     |_=>none
    |_=>none
   |_=>none
  |_,_=>none
 |_=>none
def Bc3 (ky vl:PV):Cfg->Cfg
 |.ops all (o::rest) K st=>Ab9 o.dst (.tup [.p ky,.p vl]) st.env st.Ls λst=>.ops all rest K st
 |g=>g
def Bc4 (hS:G6 S P)(hc:pr)(d:Nat){last i:Nat}{es:List (PV×PV)}(h1:last=es.length)(f:i<es.length)(ky vl:PV)(b:es.getD i default=(ky,vl))(hk:KG S P F (Bc3 ky vl (Hs P d g)))
 (hp:pr=C5 (AP5 P d g):=by kernel_rfl) (a:Bc2 (Hs P d g)=some ⟨last,i,es⟩:=by kernel_rfl):KG S P F g:=by
 refine⟨(GI (u:=some d) (F:=F) hS 400 [] g (by subst hp;exact hc)).2 ?_⟩;have hk:=hk.out;show G S P F (Hs P d g);generalize Hs P d g=g1 at hk a;unfold Bc2 at a;split at a
 .rename_i all o rest K st;split at a
  .rename_i x l m;split at a
   .rename_i j hx;split at a
    .rename_i cl' last' i' seen' jm n;split at a
     .rename_i es' hm;cases a;simp only[Bc3,FT]at hk;refine BB hS l ?_;refine JZ (c:=[last=es.length/\i<es.length]) (v:=.tup [.p ky,.p vl]) (R':=st.Ls) ?_ ⟨h1,f⟩ hk;rw[m];simp only[aop,hx,n,hm,b]
     cases a
    cases a
   cases a
  cases a
 cases a
def Bc5 (hS:G6 S P)(hc:pr)(n:Nat)(Pr:Nat->Prop)(s:List Nat->St){ids:List (Nat×Nat)}
 (f:∀(X:Type) (s' : X->St) (J:X->Prop) (m:X->Nat) (k:Nat) (seen:List Nat),(∀i∈seen,i<n/\Pr i) ->
  (∀(g' : Cfg) (ids:List (Nat×Nat)) (pr:Prop) (i:Nat),pr->i<n->i ∉ seen->Pr i->(hp:pr=C5 (cnd P g'):=by kernel_rfl)->(c:stp P g' = .pop .normal (.lp X s' J m k::(stp P g).k) (stp P g').st:=by kernel_rfl)->(hle:KLe ids (stp P g').st (s (i::seen)):=by exact kl)->KG S P F g') ->
  KG S P F (.code (Qe (stp P g)) (.lp X s' J m k::(stp P g).k) (s seen)))
 (hp:pr=C5 (cnd P g):=by kernel_rfl) (hl:HY (stp P g)=true:=by kernel_rfl) (hle:KLe ids (stp P g).st (s []):=by exact kl):KG S P F g:=by
 refine⟨FA hS hc ?_ hp⟩;rw[SL hl];refine Yt hS s (λseen=>∀i∈seen,i<n/\Pr i) (λseen=>((List.range n).filter λi=>!seen.contains i).length) [] ids hle.out (λi b=>by cases b) λseen d=>?_;refine (f (List Nat) s _ _ _ seen d λg' ids pr i hc b hs j hp c hle=>⟨FA hS hc ?_ hp⟩).out;rw[c];refine WK hS (i::seen) ids hle.out (λq a=>?_) ?_
 .rcases Bj7.1 a with rfl|a
  .exact⟨b,j⟩
  exact d q a
 refine filter_lt (λq=>!seen.contains q) (λq=>!(i::seen).contains q) (λq a=>?_) i ?_ ?_ (List.range n) (Bl7.2 b)
 .simp only[Bk1,Bl4,decide_eq_false_iff_not,Bj7,not_or]at a⊢;exact a.2
 .simpa using hs
 simp
end
end Go.AM
namespace Go.AM
section
variable {S:U6}{P:Program}{pr:Prop}{sc:SC}{k:Env->C4->Prop}
def AR6:AV->Bool
 |.vec _ | .vecp _ _=>false
 |_=>true
def NL {R:C4}:∀{l:List AV},l.all AR6=true->HN R l=some (l,R)
 |[],_=>rfl
 |a::r,h=>by simp only[Br2,Bi1]at h;simp only[HN,NL h.2];cases a<;>first|rfl|exact Es h.1 (by simp[AR6])
def OJ {ids:List Nat}{R R2:C4}:∀{l:List Nat},(∀j∈l,A1 R2 j=A1 R j)->M9 ids R2 l=M9 ids R l
 |[],_=>rfl
 |j::l,h=>by simp only[M9,h j (by simp),OJ (l:=l) λq a=>h q (by simp[a])]
def Gs {q:Nat}:∀{ids:List Nat}{ks:List Bool}{R:C4},q ∉ ids->A1 (K8 ids ks R) q=A1 R q
 |[],ks,R,_=>by cases ks<;>rfl
 |j::ids,[],R,h=>by simp only[Bj7,not_or]at h;simp only[K8];rw[Gs h.2,O1,Er (Bm0 h.1)]
 |j::ids,b::ks,R,h=>by
  simp only[Bj7,not_or]at h;simp only[K8];split
  .exact Gs h.2
  rw[Gs h.2,O1,Er (Bm0 h.1)]
def GT {q:Nat}:∀{ids:List Nat}{ks:List Bool}{A B:C4},A1 A q=A1 B q->A1 (K8 ids ks A) q=A1 (K8 ids ks B) q
 |[],ks,A,B,h=>by cases ks<;>exact h
 |j::ids,[],A,B,h=>by simp only[K8];exact GT (by rw[O1,O1,h])
 |j::ids,b::ks,A,B,h=>by
  simp only[K8];split
  .exact GT h
  exact GT (by rw[O1,O1,h])
def SV (ids:List Nat)(ks:List Bool)(n:Nat)(sc:SC):Bool:=match sc.cls,sc.rest with
 |.a js::_,o::_=>match o.op with
  |.call c=>((c.args.toList.map (aev sc.env)).all AR6&&ids.all λq=>js.contains q)&&(((H4 (o.dst.getD 0) ids ks n).all λq=>js.contains q)&&((List.range n).all λp=>js.contains (nid (o.dst.getD 0) p))&&X3 sc.Ls ids ks (o.dst.getD 0) n)
  |_=>false
 |_,_=>false
def OK (ids:List Nat)(hc:pr){fn:FuncId}{args:List AV}{objs objs' : List Obj}{r:AV}{ks:List Bool}(hF:Mb S fn args objs r objs' ks)(hk:DG S P (OA ids ks r objs' (By P sc)) k)
 (hp:pr=C5 (Ov P sc):=by kernel_rfl) (b:Ox ids (By P sc)=some (fn,args,objs):=by kernel_rfl) (hn:SV ids ks objs'.length (By P sc)=true:=by kernel_rfl):DG S P sc k:=by
 refine⟨Al7 hc ?_ hp⟩;replace hk:=hk.out;generalize By P sc=s at b hn hk;obtain⟨all,cls,rest,env,Ls,kn⟩:=s;cases rest with
 |nil=>simp[Ox]at b
 |cons o rest=>
  simp only[Ox]at b;split at b
  .rename_i c hg t;split at b
   .rename_i f u;split at b
    .rename_i as regs1 ha;split at b
     .rename_i fn' as' hw;split at b
      .rename_i a0 ob0 hr v;split at b
       .rename_i i;cases b;simp only[Bi1]at i;cases cls with
        |nil=>simp[SV]at hn
        |cons cl cls=>
         cases cl with
         |a js=>
          simp only[SV,t,Bi1]at hn;obtain⟨⟨l,w⟩,⟨x,y⟩,m⟩:=hn;rw[NL l]at ha;cases ha;simp only[OA,t,NL l,EV,Bp1]at hk;have d:∀q∈ids,q∈js:=λq g=>by simpa using Bi8.1 w q g
          have n:∀q,q ∉ js->q ∉ H4 (o.dst.getD 0) ids ks objs'.length:=λq g h=>g (by simpa using Bi8.1 x q h);refine⟨true,hg,?_⟩;rw[Ej rfl];refine⟨_,_,.inr (.inr (.inr (.inr ⟨js,rfl,λq g=>?_,λR2 z=>?_⟩))),hk⟩
          .rw[IV (n q g),Gs λh=>g (d q h)]
          refine⟨_,.inl ⟨c,f,_,R2,fn,as',args,objs,objs',ks,r,ids,t,u,NL l,hw,hr,(OJ λj hj=>z j (d j hj)).trans v,hF,i.1,i.2,?_,rfl,rfl⟩,λq g=>Oy (GT (z q g)),λq g=>(IV (n q g)).trans (Gs λh=>g (d q h))⟩;unfold X3 at m⊢;rw[Bi8]at m⊢;intro p hp;have h1:=m p hp;have h3:nid (o.dst.getD 0) p∈js:=by simpa using Bi8.1 y p hp
          rw[z _ h3];exact h1
         |_=>simp[SV]at hn
       cases b
      cases b
     cases b
    cases b
   cases b
  cases b
end
end Go.AM
namespace Go.AM
section
variable {S:U6}{P:Program}{g:Cfg}{pr:Prop}
def An1 (outs:List Nat):List Nat->List Obj->C4
 |j::js,o::os=>ins j (unO outs o) (An1 outs js os)
 |_,_=>[]
def An2:List ResultVar->List AV->Env
 |.tmp t::rs,a::l=>ins t a (An2 rs l)
 |_,_=>[]
def An3 (rs:List ResultVar)(outs:List Nat)(a:AV)(objs:List Obj):St:=
 ⟨match rs with
  |[r]=>An2 [r] [unA outs a]
  |rs=>match a with
   |.tup l=>An2 rs (unL outs l)
   |_=>[],An1 outs outs objs⟩
def Bc6 (R:C4)(outs:List Nat):List (Nat×Nat):=(outs.filter λj=>(A1 R j).isSome).map λj=>(j,j)
def kOi (hS:G6 S P)(hc:pr){n:Nat}{rs:List ResultVar}{Q:ARes->List Obj->List Bool->Prop}{a:AV}{objs:List Obj}(ids:List (Nat×Nat))(outs:List Nat)(b:Q (.ret a) objs (FF n outs):=by exact⟨rfl,rfl,rfl⟩)(hp:pr=C5 (cnd P g):=by kernel_rfl)
 (c:(Az3 (stp P g)).isSome=true:=by kernel_rfl) (hle:KLe ids (stp P g).st (An3 rs outs a objs):=by exact kl) (d:SM P (An3 rs outs a objs) rs outs=some (a,objs):=by kernel_rfl):KG S P (CJ S P n rs Q) g:=
 J7 hS hc (An3 rs outs a objs) outs b hp c hle d
def kO (hS:G6 S P)(hc:pr){n:Nat}{rs:List ResultVar}{Q:ARes->List Obj->List Bool->Prop}{a:AV}{objs:List Obj}(outs:List Nat)(b:Q (.ret a) objs (FF n outs):=by exact⟨rfl,rfl,rfl⟩)(hp:pr=C5 (cnd P g):=by kernel_rfl)
 (c:(Az3 (stp P g)).isSome=true:=by kernel_rfl) (hle:KLe (Bc6 (stp P g).st.Ls outs) (stp P g).st (An3 rs outs a objs):=by exact kl) (d:SM P (An3 rs outs a objs) rs outs=some (a,objs):=by kernel_rfl):KG S P (CJ S P n rs Q) g:=
 kOi hS hc _ outs b hp c hle d
end
section
variable {α : Type}
def An4 (c : α -> List PV):Nat->List α -> List (Nat×List PV)
 |_,[]=>[]
 |k,a::l=>(k,c a)::An4 c (k+1) l
def Vl (c : α -> List PV)(z:List PV):∀(l:List α) (k i:Nat) (d : α),i<l.length->H2 z (An4 c k l) (k+i)=c (l.getD i d)
 |[],k,i,d,h=>Es h (Bj5 i)
 |a::l,k,0,d,h=>by simp[An4,H2]
 |a::l,k,i+1,d,h=>by
  have:=Vl c z l (k+1) i d (By4 h)
  rw[show k+1+i=k+(i+1) by omega]at this;simp only[An4,H2];rw[Er (by omega),this];rfl
def Ac7 [Inhabited α](c : α -> List PV)(l:List α)(z:List PV):(Nj.fn l.length (Sl.of l).n (H2 z (An4 c 0 l)) (λi=>c ((Sl.of l).g i))).ok:=⟨rfl,λi a=>by
 have:=Vl c z l 0 i default a
 rw[Bm8]at this;exact this⟩
def X5 (c : α -> List PV)(v:Sl α)(x : α)(z:List PV):(Nj.fn (v.n+1) (v.push x).n (Gf v.n (λi=>c (v.g i)) (H2 z [(0,c x)])) (λi=>c ((v.push x).g i))).ok:=⟨rfl,app1 same rfl rfl⟩
def appS (c : α -> List PV)(v w:Sl α):(Nj.fn (v.n+w.n) (v.app w).n (Gf v.n (λi=>c (v.g i)) (λi=>c (w.g i))) (λi=>c ((v.app w).g i))).ok:=⟨rfl,appL same rfl same rfl⟩
def MA (n:Nat)(f:Nat->PV):(Nj.fn n n (λi=>[(λi=>(Ec n f).getD i default) i]) (λi=>[f i])).ok:=⟨rfl,DA n f⟩
def AC5 (n:Nat)(z:PV):(Nj.fn n n (λi=>[(λi=>(List.replicate n z).getD i default) i]) (λ_=>[z])).ok:=⟨rfl,OF rfl⟩
def AJ9 (c : α -> List PV)(v:Sl α)(z:List PV):(Nj.fn (0+v.n) v.n (Gf 0 (H2 z []) (λi=>c (v.g i))) (λi=>c (v.g i))).ok:=⟨Bm8 _,λi _=>by simp[Gf]⟩
variable {ids:List (Nat×Nat)}{s t:St}{L M:Nj}
def kl1 (i:Nat)(h:L.ok)(h1:(leK ids s t).map (Az8 [i] Nj.src)=(leK ids s t).map (Az8 [i] Nj.tgt):=by kernel_rfl)
 (a:(leK ids s t).map (λK=>[K[i]?])=some [some L]:=by kernel_rfl):KLe ids s t:=klR [(i,L)] (al1 h al0) h1 a
def kl2 (i j:Nat)(h:L.ok)(g:M.ok)(h1:(leK ids s t).map (Az8 [i,j] Nj.src)=(leK ids s t).map (Az8 [i,j] Nj.tgt):=by kernel_rfl)
 (a:(leK ids s t).map (λK=>[K[i]?,K[j]?])=some [some L,some M]:=by kernel_rfl):KLe ids s t:=klR [(i,L),(j,M)] (al1 h (al1 g al0)) h1 a
end
section
variable {S:U6}{P:Program}{F:M8}{g:Cfg}{pr:Prop}{sc:SC}{k:Env->C4->Prop}{κ ν : Type}
def lkC {kP : κ -> PV}{vP : ν -> PV}{cmp:PV->PV->Option Bool}{eq : κ -> κ -> Bool}(hc:∀a b,cmp (kP a) (kP b)=some (eq a b)){q : κ}{es:List (κ × ν)}{r:Option ν}(o:R8 eq q es=r):find cmp (kP q) (Dd kP vP es)=some (r.map vP):=by subst o;exact UU hc q es
def Xr (hS:G6 S P)(hc:pr)(kt e:TypeId)(kP : κ -> PV)(vP : ν -> PV)(eq : κ -> κ -> Bool){q : κ}{es:List (κ × ν)}{v : ν}(o:R8 eq q es=some v)(c:C5 (Hn P kt))(hk:KG S P F (Al6 (vP v) true (stp P g)))
 (d:∀a b,HH P kt (kP a) (kP b)=some (eq a b):=by exact λ_ _=>by kernel_rfl) (hp:pr=C5 (cnd P g):=by kernel_rfl) (f:Al5 P (stp P g)=some ⟨kt,e,kP q,Dd kP vP es⟩:=by kernel_rfl) (hx:UV P e (some (vP v))=some (vP v,true):=by kernel_rfl):KG S P F g:=
 Ze hS hc (lkC d o) c hk hp f hx
def Xs (hS:G6 S P)(hc:pr)(kt e:TypeId)(kP : κ -> PV)(vP : ν -> PV)(eq : κ -> κ -> Bool){q : κ}{es:List (κ × ν)}(o:R8 eq q es=none)(x:PV)(c:C5 (Hn P kt))(hk:KG S P F (Al6 x false (stp P g)))
 (d:∀a b,HH P kt (kP a) (kP b)=some (eq a b):=by exact λ_ _=>by kernel_rfl) (hp:pr=C5 (cnd P g):=by kernel_rfl) (f:Al5 P (stp P g)=some ⟨kt,e,kP q,Dd kP vP es⟩:=by kernel_rfl) (hx:UV P e none=some (x,false):=by kernel_rfl):KG S P F g:=
 Ze hS hc (lkC d o) c hk hp f hx
def Ac8 (hS:G6 S P)(hc:pr)(kt:TypeId)(kP : κ -> PV)(vP : ν -> PV)(eq : κ -> κ -> Bool)(q : κ)(y : ν)(es:List (κ × ν))(c:C5 (Hn P kt))(hk:KG S P F (Bh2 (Dd kP vP (Eh eq q y es)) (stp P g)))
 (d:∀a b,HH P kt (kP a) (kP b)=some (eq a b):=by exact λ_ _=>by kernel_rfl) (hp:pr=C5 (cnd P g):=by kernel_rfl) (f:Bh1 P (stp P g)=some (kt,kP q,vP y,Dd kP vP es):=by kernel_rfl):KG S P F g:=
 AA7 hS hc (SJ d q y es) c hk hp f
def AC6 (hc:pr)(kt e:TypeId)(kP : κ -> PV)(vP : ν -> PV)(eq : κ -> κ -> Bool){q : κ}{es:List (κ × ν)}{v : ν}(o:R8 eq q es=some v)(c:C5 (Hn P kt))(hk:DG S P (UX (vP v) true (By P sc)) k)
 (d:∀a b,HH P kt (kP a) (kP b)=some (eq a b):=by exact λ_ _=>by kernel_rfl) (hp:pr=C5 (Ov P sc):=by kernel_rfl) (f:OB P (By P sc)=some ⟨kt,e,kP q,Dd kP vP es⟩:=by kernel_rfl) (hx:UV P e (some (vP v))=some (vP v,true):=by kernel_rfl):DG S P sc k:=
 Zf hc (lkC d o) c hk hp f hx
def AR7 (hc:pr)(kt e:TypeId)(kP : κ -> PV)(vP : ν -> PV)(eq : κ -> κ -> Bool){q : κ}{es:List (κ × ν)}(o:R8 eq q es=none)(x:PV)(c:C5 (Hn P kt))(hk:DG S P (UX x false (By P sc)) k)
 (d:∀a b,HH P kt (kP a) (kP b)=some (eq a b):=by exact λ_ _=>by kernel_rfl) (hp:pr=C5 (Ov P sc):=by kernel_rfl) (f:OB P (By P sc)=some ⟨kt,e,kP q,Dd kP vP es⟩:=by kernel_rfl) (hx:UV P e none=some (x,false):=by kernel_rfl):DG S P sc k:=
 Zf hc (lkC d o) c hk hp f hx
def SW (hc:pr)(kt:TypeId)(kP : κ -> PV)(vP : ν -> PV)(eq : κ -> κ -> Bool)(q : κ)(y : ν)(es:List (κ × ν))(c:C5 (Hn P kt))(hk:DG S P (AA5 (Dd kP vP (Eh eq q y es)) (By P sc)) k)
 (d:∀a b,HH P kt (kP a) (kP b)=some (eq a b):=by exact λ_ _=>by kernel_rfl) (hp:pr=C5 (Ov P sc):=by kernel_rfl) (f:UY P (By P sc)=some (kt,kP q,vP y,Dd kP vP es):=by kernel_rfl):DG S P sc k:=
 AA8 hc (SJ d q y es) c hk hp f
end
abbrev oV {α : Type}(t:TypeId)(k:Nat)(c : α -> List PV)(s:Sl α)(b:Bool):Obj:=.vec t k s.n (λi=>c (s.g i)) b
abbrev oM {κ ν : Type}(kP : κ -> PV)(vP : ν -> PV)(es:List (κ × ν)):Obj:=.map (Dd kP vP es)
end Go.AM
