/- Part 5. -/
import Derived.Test.YtcoileenpgjmoaaGreatDoorED
import Derived.KernelRfl
import Derived.Laws.IdiomRangeMap
set_option linter.defProp false
set_option linter.unusedSimpArgs false
set_option linter.unusedVariables false
set_option linter.unusedSectionVars false
namespace Go.AM
def Fe:=True.intro
def Bm6:=@List.mem_singleton
def Bn0:=@Nat.le_of_ble_eq_true
def Bn8:=@List.tail_cons
def Bp2:=@List.map_append
def Bs5:=@List.range_succ
def Bx4:=@List.isEmpty_iff
def Bx5:=@List.filter_cons
def Bx7:=@Nat.lt_of_succ_lt_succ
def Bz4:=@List.getD_cons_succ
def BA3:=@List.set_cons_succ
section
variable (P:Program)
def stp (g:Cfg):Cfg:=(run P none 400 [] g).cfg
def cnd (g:Cfg):List Prop:=(run P none 400 [] g).conds
def Hw (d:Nat)(g:Cfg):Cfg:=(run P (some d) 400 [] g).cfg
def AP5 (d:Nat)(g:Cfg):List Prop:=(run P (some d) 400 [] g).conds
def Cfg.st:Cfg->St
 |.code _ _ s=>s
 |.ops _ _ _ s=>s
 |.pop _ _ s=>s
def Cfg.k:Cfg->List It
 |.code _ K _=>K
 |.ops _ _ K _=>K
 |.pop _ K _=>K
def mkO {R:Type _}(env:Env)(Mc:B9)(κ : Env->B9->R):R:=fE env λenv=>fR Mc λregs=>κ env Mc
def Gq {R:Type _}(env:Env)(Mc:B9)(κ : Env->B9->R):mkO env Mc κ = κ env Mc:=by simp only[mkO,fE_eq,AM3]
def Ac4 {R:Type _}(d:Option Nat)(a:AV)(env:Env)(Mc:B9)(κ : St->R):R:=match d with
 |some d=>mkO (ins d a env) Mc λenv Mc=>κ ⟨env,Mc⟩
 |none=>mkO env Mc λenv Mc=>κ ⟨env,Mc⟩
def FT {R:Type _}(d:Option Nat)(a:AV)(env:Env)(Mc:B9)(κ : St->R):Ac4 d a env Mc κ = κ (put ⟨env,Mc⟩ d a):=by cases d<;>simp only[Ac4,Gq,put]
def Az0:Cfg->Option Bool
 |.code (.cond c _ _) _ st=>match aev st.env c with
  |.p (.bb b)=>some b
  |_=>none
 |_=>none
def AP6:Cfg->Cfg
 |.code (.cond _ t _) K st=>.code t K st
 |g=>g
def AP7:Cfg->Cfg
 |.code (.cond _ _ e) K st=>.code e K st
 |g=>g
def Zg:Cfg->Option Bool
 |.ops all (o::_) _ st=>match o.guard with
  |some (j,_)=>match AW7 all j with
   |some d=>match get st.env d with
    |.p (.bb b)=>some b
    |_=>none
   |none=>none
  |none=>none
 |_=>none
def Oz (b:Bool):Cfg->Cfg
 |.ops all (o::rest) K st=>match o.guard with
  |some (j,_)=>match AW7 all j with
   |some d=>Ac4 (some d) (.p (.v (.bool b))) st.env st.Mc λst=>.ops all (o::rest) K st
   |none=>.ops all (o::rest) K st
  |none=>.ops all (o::rest) K st
 |g=>g
def Ac5 (ids:List Nat):Cfg->Option (FuncId×List AV×List Obj)
 |.ops all (o::_) _ st=>match BD all st.env o,o.op with
  |some true,.call c=>match c.callee with
   |.value f=>match HR st.Mc (c.args.toList.map (aev st.env))with
    |some (as,Mc)=>match Rc st.env f as with
     |some (fn,as')=>match Eh ids as',M8 ids Mc ids with
      |some a,some ob=>if H8 ids&&FD ob then some (fn,a,ob)else none
      |_,_=>none
     |none=>none
    |none=>none
   |_=>none
  |_,_=>none
 |_=>none
def Ac6 (ids:List Nat)(ks:List Bool)(n:Nat):Cfg->Bool
 |.ops _ (o::_) _ st=>match o.op with
  |.call c=>match HR st.Mc (c.args.toList.map (aev st.env))with
   |some (_,Mc)=>X3 Mc ids ks (o.dst.getD 0) n
   |none=>false
  |_=>false
 |_=>false
def Az1 (ids:List Nat)(ks:List Bool)(r:AV)(objs' : List Obj):Cfg->Cfg
 |.ops all (o::rest) K st=>match o.op with
  |.call c=>match HR st.Mc (c.args.toList.map (aev st.env))with
   |some (_,Mc)=>Ac4 o.dst (unA (H2 (o.dst.getD 0) ids ks objs'.length) r) st.env
    (back (H2 (o.dst.getD 0) ids ks objs'.length) (H2 (o.dst.getD 0) ids ks objs'.length) objs' (K6 ids ks Mc)) λst=>.ops all rest K st
   |none=>.ops all (o::rest) K st
  |_=>.ops all (o::rest) K st
 |g=>g
structure LookI where
 kt:TypeId
 e:TypeId
 key:PV
 es:List (PV×PV)
def Al9:Cfg->Option LookI
 |.ops all (o::_) _ st=>match BD all st.env o,o.op with
  |some true,.lookup t m k _=>match Eg st.Mc (aev st.env k),aev st.env m with
   |some (key,Mc),.No j=>match A1 Mc j,tk P t with
    |some (.map es),some (.map kt e)=>if Gi P kt key then some ⟨kt,e,key,es⟩else none
    |_,_=>none
   |_,_=>none
  |_,_=>none
 |_=>none
def UZ (e:TypeId):Option PV->Option (PV×Bool)
 |some x=>some (x,true)
 |none=>(Ht P e).map λz=>(z,false)
def Am0 (x:PV)(b:Bool):Cfg->Cfg
 |.ops all (o::rest) K st=>match o.op with
  |.lookup _ _ k ok=>match Eg st.Mc (aev st.env k)with
   |some (_,Mc)=>Ac4 o.dst (if ok then .tup [.p x,.bool b]else .p x) st.env Mc λst=>.ops all rest K st
   |none=>.ops all (o::rest) K st
  |_=>.ops all (o::rest) K st
 |g=>g
def Bf9:Cfg->Option (TypeId×PV×PV×List (PV×PV))
 |.ops all (o::_) _ st=>match BD all st.env o,o.op with
  |some true,.mapUpdate t m k x=>match aev st.env k,aev st.env m,Eg st.Mc (aev st.env x)with
   |.p key,.No j,some (y,Mc)=>match A1 Mc j,tk P t with
    |some (.map es),some (.map kt _)=>if Gi P kt (nP key) then some (kt,nP key,y,es)else none
    |_,_=>none
   |_,_,_=>none
  |_,_=>none
 |_=>none
def Bg0 (es' : List (PV×PV)):Cfg->Cfg
 |.ops all (o::rest) K st=>match o.op with
  |.mapUpdate _ m _ x=>match aev st.env m,Eg st.Mc (aev st.env x)with
   |.No j,some (_,Mc)=>Ac4 o.dst KA st.env (ins j (.map es') Mc) λst=>.ops all rest K st
   |_,_=>.ops all (o::rest) K st
  |_=>.ops all (o::rest) K st
 |g=>g
def Ic:Cfg->Bool
 |.code (.loop _) _ _=>true
 |_=>false
def Ql:Cfg->Code
 |.code (.loop b) _ _=>b
 |_=>.skip
def popSt:Cfg->Option St
 |.pop .normal _ st=>some st
 |_=>none
def Va (M:It):Nat->List It->List It
 |0,K=>M::K
 |n+1,i::K=>i::Va M n K
 |_+1,[]=>[M]
def AY8 (n:Nat)(M:St->Prop):Cfg->Cfg
 |.code c K st=>.code c (Va (.mid M) n K) st
 |.ops all rest K st=>.ops all rest (Va (.mid M) n K) st
 |.pop e K st=>.pop e (Va (.mid M) n K) st
def Kf:Cfg->Bool
 |.ops _ (_::_) _ _=>true
 |_=>false
def opsS (st:St):Cfg->Cfg
 |.ops all rest K _=>.ops all rest K st
 |g=>g
def Az2:Cfg->Option St
 |.pop .ret [] st=>some st
 |.pop .normal [] st=>some st
 |_=>none
inductive Np where
 |eq (x y:PV)
 |fn (n m:Nat) (f g:Nat->List PV)
 |mp (x y:List (PV×PV))
 |yl (x y:List (List PV)) (b c:Bool)
 |nt (a b:Nat)
 |ob (n:Nat) (f g:Nat->Obj)
inductive LV where
 |eq (x:PV)
 |fn (n:Nat) (f:Nat->List PV)
 |mp (x:List (PV×PV))
 |yl (x:List (List PV)) (b:Bool)
 |nt (a:Nat)
 |ob (f:Nat->Obj)
def Np.src:Np->LV
 |.eq x _=>.eq x
 |.fn n _ f _=>.fn n f
 |.mp x _=>.mp x
 |.yl x _ b _=>.yl x b
 |.nt a _=>.nt a
 |.ob _ f _=>.ob f
def Np.tgt:Np->LV
 |.eq _ y=>.eq y
 |.fn _ m _ g=>.fn m g
 |.mp _ y=>.mp y
 |.yl _ y _ c=>.yl y c
 |.nt _ b=>.nt b
 |.ob _ _ g=>.ob g
def Np.ok:Np->Prop
 |.eq x y=>x=y
 |.fn n m f g=>n=m/\∀i,i<n->f i=g i
 |.mp x y=>x=y
 |.yl x y b c=>x=y/\b=c
 |.nt a b=>a=b
 |.ob n f g=>∀i,i<n->f i=g i
def Np.ok_of {l:Np}(h:l.src=l.tgt):l.ok:=by
 cases l with
 |eq x y=>simp only[Np.src,Np.tgt,LV.eq.injEq]at h;exact h
 |fn n m f g=>simp only[Np.src,Np.tgt,LV.fn.injEq]at h;obtain⟨rfl,rfl⟩:=h;exact⟨rfl,λ_ _=>rfl⟩
 |mp x y=>simp only[Np.src,Np.tgt,LV.mp.injEq]at h;exact h
 |yl x y b c=>simp only[Np.src,Np.tgt,LV.yl.injEq]at h;exact h
 |nt a b=>simp only[Np.src,Np.tgt,LV.nt.injEq]at h;exact h
 |ob n f g=>simp only[Np.src,Np.tgt,LV.ob.injEq]at h;subst h;exact λ_ _=>rfl
def AP8:PV->PV->Np
 |.v (.bool b),.bb c=>.eq (.bb b) (.bb c)
 |.v (.slice none 0 0),.sl false _ n f=>.fn 0 n f f
 |.sl nn k n f,.sl false l m g=>if k=l then .fn n m f g else .eq (.sl nn k n f) (.sl false l m g)
 |x,y=>.eq x y
mutual
def Kg (Mc:B9)(ids:List (Nat×Nat))(a b:AV):Option (List Np):=
 match b with
 |.top=>some []
 |.p y=>match viewP Mc a with
  |some x=>some [AP8 x y]
  |none=>none
 |.reg j off=>match a with | .reg i off'=>if lk ids j=some i/\off=off' then some []else none|_=>none
 |.vec j=>match a with
  |.vec i=>if lk ids j=some i then some []else none
  |.p (.v (.slice none 0 0))=>if lk ids j=none then some []else none
  |_=>none
 |.vecp j n=>match a with | .vecp i m=>if lk ids j=some i/\n=m then some []else none|_=>none
 |.elt j k n off=>match a with | .elt i k' n' off'=>if lk ids j=some i/\k=k' /\ n=n' /\ off=off' then some []else none|_=>none
 |.No j=>match a with | .No i=>if lk ids j=some i then some []else none|_=>none
 |.yf j=>match a with | .yf i=>if lk ids j=some i then some []else none|_=>none
 |.rsl j n=>match a with | .rsl i m=>if lk ids j=some i/\n=m then some []else none|_=>none
 |.clo f x y=>match a with
  |.clo f' x' y'=>match Qm Mc ids x' x,Qm Mc ids y' y with|some l,some m=>some (.nt f' f::l++m)|_,_=>none
  |_=>none
 |.tup l=>match a with | .tup l'=>Qm Mc ids l' l|_=>none
 |.agr l=>match a with | .agr l'=>Qm Mc ids l' l|_=>none
def Qm (Mc:B9)(ids:List (Nat×Nat))(a b:List AV):Option (List Np):=
 match b with
 |[]=>match a with | []=>some [] | _=>none
 |y::s=>match a with
  |x::r=>match Kg Mc ids x y,Qm Mc ids r s with|some l,some m=>some (l++m)|_,_=>none
  |[]=>none
end
def Az3 (Mc:B9)(ids:List (Nat×Nat))(env:Env):Env->Option (List Np)
 |[]=>some []
 |(t,b)::r=>match Kg Mc ids (get env t) b,Az3 Mc ids env r with|some l,some m=>some (l++m)|_,_=>none
def OA (Mc:B9)(ids:List (Nat×Nat))(o p:Obj):Option (List Np):=
 match p with
 |.cells cs=>match o with | .cells cs'=>Qm Mc ids cs' cs|_=>none
 |.vec e k n f vw=>match o with
  |.vec e' k' m g vw'=>if e=e' /\ k=k' /\ (vw' = true->vw=true)then some [.fn m n g f]else none
  |_=>none
 |.map es=>match o with | .map es'=>some [.mp es' es] | _=>none
 |.arr n f=>match o with | .arr m g=>some [.fn m n (λi=>[g i]) (λi=>[f i])] | _=>none
 |.blk l jr=>match o with | .blk l' jr'=>if lk ids jr=some jr' then some [.ob 1 (λ_=>.blk l' 0) (λ_=>.blk l 0)]else none|_=>none
 |.ghost cs=>match o with | .ghost cs'=>Qm Mc ids cs' cs|_=>none
 |.yld r b=>match o with | .yld r' b'=>some [.yl r' r b' b] | _=>none
 |.fam e n jr x=>match o with
  |.fam e' m jr' x'=>if e=e' /\ lk ids jr=some jr' then (match x,x' with
   |none,none=>some [.nt m n]
   |some (i,a),some (i',a')=>match nov a' a,Kg Mc ids a' a with
    |true,some l=>some (.nt m n :: .nt i' i::l)
    |_,_=>none
   |_,_=>none)else none
  |_=>none
 |.rows n g=>match o with | .rows m g'=>some [.nt m n,.ob n g' g] | _=>none
 |.dead=>some []
def Az4 (Mc:B9)(ids:List (Nat×Nat)):B9->Option (List Np)
 |[]=>some []
 |(j,p)::r=>match (match lk ids j with
  |some i=>match A1 Mc i with
   |some o=>OA Mc ids o p
   |none=>none
  |none=>match p with
   |.vec _ _ n f _=>some [.fn 0 n f f]
   |_=>none:Option (List Np)),Az4 Mc ids r with
  |some l,some m=>some (l++m)
  |_,_=>none
def leK (ids:List (Nat×Nat))(s t:St):Option (List Np):=
 if (wf t&&H8 (ids.map (·.2))&&ZV ids&&Re ids t.Mc&&Mu ids (seen s.env t.env++KE ids s.Mc t.Mc) t.Mc) then
  match Az3 s.Mc ids s.env t.env,Az4 s.Mc ids t.Mc with
  |some l,some m=>some (l++m)
  |_,_=>none
 else none
def Az5 {x y:PV}(h:(AP8 x y).ok):leP x y:=by
 unfold AP8 at h;split at h
 .simp only[Np.ok,PV.bb.injEq]at h;subst h;exact .inr (.inr (.inr (.inl ⟨_,rfl,rfl⟩)))
 .obtain⟨rfl,_⟩:=h;exact .inr (.inr (.inl ⟨_,_,rfl,rfl⟩))
 .split at h
  .rename_i hk;subst hk;obtain⟨rfl,h⟩:=h;exact .inr (.inl ⟨_,_,_,_,_,rfl,rfl,h⟩)
  exact .inl h
 exact .inl h
def OB {l m:List Np}(h:∀x∈l++m,x.ok):(∀x∈l,x.ok)/\∀x∈m,x.ok:=
 ⟨λx hx=>h x (Bk0 _ hx),λx hx=>h x (Bj0 _ hx)⟩
mutual
def SN {Mc:B9}{ids:List (Nat×Nat)}{a:AV}(b:AV){L:List Np}(h:Kg Mc ids a b=some L)(hL:∀x∈L,x.ok):leA Mc ids a b:=by
 cases b with
 |top=>unfold leA;trivial
 |p y=>
  unfold Kg at h;split at h
  .rename_i x hx;cases h;unfold leA;exact⟨x,hx,Az5 (hL _ (by simp))⟩
  cases h
 |reg j off=>
  unfold Kg at h;split at h
  .split at h
   .rename_i c;obtain⟨h1,rfl⟩:=c;exact AX0 h1
   cases h
  cases h
 |vec j=>
  unfold Kg at h;split at h
  .split at h
   .rename_i h1;exact AW9 h1
   cases h
  .split at h
   .rename_i h1;exact AM9 h1
   cases h
  cases h
 |vecp j n=>
  unfold Kg at h;split at h
  .split at h
   .rename_i c;obtain⟨h1,rfl⟩:=c;unfold leA;exact⟨_,h1,rfl⟩
   cases h
  cases h
 |elt j k n off=>
  unfold Kg at h;split at h
  .split at h
   .rename_i c;obtain⟨h1,rfl,rfl,rfl⟩:=c;unfold leA;exact⟨_,h1,rfl⟩
   cases h
  cases h
 |No j=>
  unfold Kg at h;split at h
  .split at h
   .rename_i h1;exact AN0 h1
   cases h
  cases h
 |rsl j n=>
  unfold Kg at h;split at h
  .split at h
   .rename_i c;obtain⟨h1,rfl⟩:=c;unfold leA;exact⟨_,h1,rfl⟩
   cases h
  cases h
 |yf j=>
  unfold Kg at h;split at h
  .split at h
   .rename_i h1;exact le_yf h1
   cases h
  cases h
 |clo f x y=>
  unfold Kg at h;split at h
  .split at h
   .rename_i l m h1 g;cases h;have d:=hL _ (Bp4 ..);simp only[Np.ok]at d;subst d;obtain⟨i,o⟩:=OB λx hx=>hL x (Bi1 _ hx);exact AX1 (GS x h1 i) (GS y g o)
   cases h
  cases h
 |tup l=>
  unfold Kg at h;split at h
  .exact AY6 (GS l h hL)
  cases h
 |agr l=>
  unfold Kg at h;split at h
  .exact AY7 (GS l h hL)
  cases h
def GS {Mc:B9}{ids:List (Nat×Nat)}{a:List AV}(b:List AV){L:List Np}(h:Qm Mc ids a b=some L)(hL:∀x∈L,x.ok):leL Mc ids a b:=by
 cases b with
 |nil=>
  unfold Qm at h;split at h
  .exact AN1
  cases h
 |cons y s=>
  unfold Qm at h;split at h
  .split at h
   .rename_i l m h1 c;cases h;obtain⟨d,f⟩:=OB hL;exact Av1 (SN y h1 d) (GS s c f)
   cases h
  cases h
end
def Zh {Mc:B9}{ids:List (Nat×Nat)}{env:Env}:∀(t:Env) {L:List Np},Az3 Mc ids env t=some L->(∀x∈L,x.ok)->Si Mc ids env t
 |[],_,_,_=>trivial
 |(t,b)::r,L,h,hL=>by
  simp only[Az3]at h;split at h
  .rename_i l m h1 a;cases h;obtain⟨c,d⟩:=OB hL;exact⟨SN b h1 c,Zh r a d⟩
  cases h
def Az6 {Mc:B9}{ids:List (Nat×Nat)}{o p:Obj}{L:List Np}(h:OA Mc ids o p=some L)(hL:∀x∈L,x.ok):leO Mc ids o p:=by
 cases p with
 |cells cs=>
  simp only[OA]at h;split at h
  .exact Av2 (GS cs h hL)
  cases h
 |vec e k n f vw=>
  simp only[OA]at h;split at h
  .split at h
   .rename_i c;obtain⟨rfl,rfl,j⟩:=c;cases h;obtain⟨rfl,h1⟩:=hL _ (Bm6.2 rfl);exact⟨_,_,rfl,h1,j⟩
   cases h
  cases h
 |map es=>
  simp only[OA]at h;split at h
  .cases h
   have:=hL _ (Bm6.2 rfl)
   simp only[Np.ok]at this;subst this;rfl
  cases h
 |blk l jr=>
  simp only[OA]at h;split at h
  .split at h
   .rename_i c;cases h;have h1:=hL _ (Bm6.2 rfl);have m:=h1 0 (Bx3 0);cases m;exact⟨_,rfl,c⟩
   cases h
  cases h
 |arr n f=>
  simp only[OA]at h;split at h
  .cases h;obtain⟨rfl,h1⟩:=hL _ (Bm6.2 rfl);exact⟨_,rfl,λi q=>by simpa using h1 i q⟩
  cases h
 |ghost cs=>
  simp only[OA]at h;split at h
  .exact⟨_,rfl,GS cs h hL⟩
  cases h
 |yld r b=>
  simp only[OA]at h;split at h
  .cases h;obtain⟨rfl,rfl⟩:=hL _ (Bm6.2 rfl);rfl
  cases h
 |fam e n jr x=>
  simp only[OA]at h;split at h
  .split at h
   .rename_i s;obtain⟨rfl,d⟩:=s;split at h
    .cases h;have a:=hL _ (Bp4 ..);simp only[Np.ok]at a;subst a;exact⟨_,_,rfl,d,rfl⟩
    .split at h
     .rename_i hn hl;cases h;have a:=hL _ (Bp4 ..);have h1:=hL _ (Bi1 _ (Bp4 ..));simp only[Np.ok]at a h1;subst a h1;exact⟨_,_,rfl,d,_,rfl,hn,SN _ hl λx hx=>hL x (by simp[hx])⟩
     cases h
    cases h
   cases h
  cases h
 |rows n g=>
  simp only[OA]at h;split at h
  .cases h;have a:=hL _ (Bp4 ..);simp only[Np.ok]at a;subst a;exact⟨_,rfl,hL (.ob _ _ _) (by simp)⟩
  cases h
 |dead=>trivial
def Zi {Mc:B9}{ids:List (Nat×Nat)}:∀(t:B9) {L:List Np},Az4 Mc ids t=some L->(∀x∈L,x.ok)->Uq Mc ids t
 |[],_,_,_=>trivial
 |(j,p)::r,L,h,hL=>by
  simp only[Az4]at h;split at h
  .rename_i l m h1 c;cases h;obtain⟨b,d⟩:=OB hL;refine⟨?_,Zi r c d⟩;split at h1
   .rename_i i a;split at h1
    .rename_i o f;exact .inl ⟨i,o,a,f,Az6 h1 b⟩
    cases h1
   rename_i a;split at h1
   .cases h1;obtain⟨rfl,_⟩:=b _ (Bm6.2 rfl);exact .inr ⟨a,_,_,_,_,rfl⟩
   cases h1
  cases h
def AI7 {ids:List (Nat×Nat)}{s t:St}{L:List Np}(h:leK ids s t=some L)(hL:∀x∈L,x.ok):Le ids s t:=by
 unfold leK at h;split at h
 .rename_i hw;split at h
  .rename_i l m h1 a;cases h;obtain⟨b,c⟩:=OB hL;exact le_mk hw (Zh _ h1 b) (Zi _ a c)
  cases h
 cases h
def kle {ids:List (Nat×Nat)}{s t:St}(h:(leK ids s t).map (·.map Np.src)=(leK ids s t).map (·.map Np.tgt):=by kernel_rfl)(h1:(leK ids s t).isSome=true:=by kernel_rfl):Le ids s t:=by
 obtain⟨L,hL⟩:=Bi2.1 h1;rw[hL]at h;simp only[Bh8,Bg8]at h;refine AI7 hL λx hx=>?_;obtain⟨i,a,rfl⟩:=Bq7.1 hx
 have:=congrArg (·[i]?) h
 simp only[Bh2,Bg9 a,Bh8,Bg8]at this;exact Np.ok_of this
def Az7 (is:List Nat)(f:Np->LV)(L:List Np):List (Option LV):=L.zipIdx.map λq=>if is.contains q.2 then none else some (f q.1)
def kleR {ids:List (Nat×Nat)}{s t:St}(rs:List (Nat×Np))(d:∀q∈rs,q.2.ok)(h:(leK ids s t).map (Az7 (rs.map (·.1)) Np.src)=(leK ids s t).map (Az7 (rs.map (·.1)) Np.tgt):=by kernel_rfl)
 (a:(leK ids s t).map (λL=>rs.map λq=>L[q.1]?)=some (rs.map λq=>some q.2):=by kernel_rfl):Le ids s t:=by
 cases hL:leK ids s t with
 |none=>rw[hL]at a;cases a
 |some L=>
  rw[hL]at h a;simp only[Bh8,Bg8]at h a;refine AI7 hL λx hx=>?_;obtain⟨i,b,rfl⟩:=Bq7.1 hx;by_cases hm:(rs.map (·.1)).contains i=true
  .simp only[Bk1,decide_eq_true_eq,Bl0]at hm;obtain⟨q,c,rfl⟩:=hm;obtain⟨k,hk,rfl⟩:=Bq7.1 c
   have:=congrArg (·[k]?) a
   simp only[Bh2,Bg9 hk,Bh8,Bg8,Bg9 b]at this;rw[this];exact d _ c
  have:=congrArg (·[i]?) h
  simp only[Az7,Bh2,List.getElem?_zipIdx,Bg9 b,Bh8,Bl7,hm,Bg8]at this;exact Np.ok_of (by simpa using this)
end
section
variable {P:Program}
variable {S:U5}{F:M0}{g:Cfg}{pr:Prop}
def FE (hS:G6 S P)(hc:pr)(h:G S P F (stp P g))(hp:pr=C4 (cnd P g):=by kernel_rfl):G S P F g:=
 (GK (F:=F) hS 400 [] g (by subst hp;exact hc)).2 h
def AY9 (hS:G6 S P)(hc:pr){b:Bool}(ht:b=true->G S P F (AP6 (stp P g)))(a:b=false->G S P F (AP7 (stp P g)))(hp:pr=C4 (cnd P g):=by kernel_rfl)(hb:Az0 (stp P g)=some b:=by kernel_rfl):G S P F g:=by
 refine FE hS hc ?_ hp;generalize stp P g=g' at hb ht a;unfold Az0 at hb;split at hb
 .split at hb
  .rename_i hc;cases hb;exact AW6 hc ht a
  cases hb
 cases hb
def AP9 (hS:G6 S P)(hc:pr){b:Bool}(ht:b=true->G S P F (Oz true (stp P g)))(a:b=false->G S P F (Oz false (stp P g)))(hp:pr=C4 (cnd P g):=by kernel_rfl)(hb:Zg (stp P g)=some b:=by kernel_rfl):G S P F g:=by
 refine FE hS hc ?_ hp;generalize stp P g=g' at hb ht a;unfold Zg at hb;split at hb
 .split at hb
  .rename_i d;split at hb
   .rename_i f;split at hb
    .rename_i c;cases hb;simp only[Oz,d,f,FT,put]at ht a;exact AM6 hS d f c ht a
    cases hb
   cases hb
  cases hb
 cases hb
def AZ0 (hS:G6 S P)(ids:List Nat)(hc:pr){fn:FuncId}{args:List AV}{objs objs' : List Obj}{r:AV}{ks:List Bool}(i:Me S fn args objs r objs' ks)
 (hk:G S P F (Az1 ids ks r objs' (stp P g))) (hp:pr=C4 (cnd P g):=by kernel_rfl) (a:Ac5 ids (stp P g)=some (fn,args,objs):=by kernel_rfl) (hn:Ac6 ids ks objs'.length (stp P g)=true:=by kernel_rfl):G S P F g:=by
 refine FE hS hc ?_ hp;generalize stp P g=g' at a hn hk;unfold Ac5 at a;split at a
 .split at a
  .rename_i j f;split at a
   .rename_i c;split at a
    .rename_i ha;split at a
     .rename_i hw;split at a
      .rename_i l d;split at a
       .rename_i b;cases a;simp only[Bh0]at b;simp only[Az1,Ac6,f,ha,FT]at hk hn;exact AM7 hS ids j f c ha hw l d i b.1 b.2 hn hk
       cases a
      cases a
     cases a
    cases a
   cases a
  cases a
 cases a
def Az8 (hS:G6 S P)(hc:pr){kt e:TypeId}{key:PV}{es:List (PV×PV)}{x:PV}{b:Bool}{fd:Option PV}
 (j:find (HL P kt) key es=some fd) (c:C4 (Hs P kt))
 (hk:G S P F (Am0 x b (stp P g))) (hp:pr=C4 (cnd P g):=by kernel_rfl) (a:Al9 P (stp P g)=some ⟨kt,e,key,es⟩:=by kernel_rfl) (hx:UZ P e fd=some (x,b):=by kernel_rfl):G S P F g:=by
 refine FE hS hc ?_ hp;generalize stp P g=g' at a hk;unfold Al9 at a;split at a
 .split at a
  .rename_i l f;split at a
   .rename_i i hm;split at a
    .rename_i m ht;split at a
     .rename_i d;simp only[Bg8,LookI.mk.injEq]at a;obtain⟨rfl,rfl,rfl,rfl⟩:=a;simp only[Am0,f,i,FT]at hk;cases fd with
      |some y=>exact Zd (fd:=some y) hS l f i hm m ht d j hx c hk
      |none=>exact Zd (fd:=none) hS l f i hm m ht d j hx c hk
     cases a
    cases a
   cases a
  cases a
 cases a
def Az9 (hS:G6 S P)(hc:pr){kt:TypeId}{key y:PV}{es es' : List (PV×PV)}
 (j:upd (HL P kt) key y es=some es') (b:C4 (Hs P kt)) (hk:G S P F (Bg0 es' (stp P g))) (hp:pr=C4 (cnd P g):=by kernel_rfl) (a:Bf9 P (stp P g)=some (kt,key,y,es):=by kernel_rfl):G S P F g:=by
 refine FE hS hc ?_ hp;generalize stp P g=g' at a hk;unfold Bf9 at a;split at a
 .split at a
  .rename_i l d;split at a
   .rename_i h1 f i;split at a
    .rename_i m ht;split at a
     .rename_i c;simp only[Bg8,Bh4]at a;obtain⟨rfl,rfl,rfl,rfl⟩:=a;simp only[Bg0,d,f,i,FT]at hk;exact Xn hS l d h1 i f m ht c j b hk
     cases a
    cases a
   cases a
  cases a
 cases a
def AZ1 (hS:G6 S P)(hc:pr)(st:St){ids:List (Nat×Nat)}(hk:G S P F (opsS st (stp P g)))(hp:pr=C4 (cnd P g):=by kernel_rfl)(a:Kf (stp P g)=true:=by kernel_rfl)(hle:Le ids (stp P g).st st:=by exact kle):G S P F g:=by
 refine FE hS hc ?_ hp;generalize stp P g=g' at a hle hk;unfold Kf at a;split at a
 .exact Al8 hS st ids hle hk
 cases a
end
section
variable {S:U5}{P:Program}{F:M0}{g:Cfg}{pr:Prop}
def KU (hS:G6 S P){K1 K2:List It}(h:∀e s,kp S P K1 F e s->kp S P K2 F e s):∀(K:List It) (e:Jc) (s:St),kp S P (K++K1) F e s->kp S P (K++K2) F e s
 |[],e,s,hk=>h e s hk
 |.code c::K,e,s,hk=>by simp only[Bj7,kp]at hk⊢;exact SL hS (λt=>AR hS c (KU hS h K)) (KU hS h K) e s hk
 |.blk id::K,e,s,hk=>by
  simp only[Bj7,kp]at hk⊢;cases e with
  |exit i=>
   simp only[blk]at hk⊢;split at hk
   .rename_i a;rw[Ek a];exact KU hS h K _ _ hk
   rename_i a;rw[Et a];exact KU hS h K _ _ hk
  |_=>exact KU hS h K _ _ hk
 |.lp X s' J m n::K,e,s,hk=>by
  simp only[Bj7,kp]at hk⊢;cases e with
  |normal=>exact hk
  |_=>exact KU hS h K _ _ hk
 |.mid M::K,e,s,hk=>by simp only[Bj7,kp]at hk⊢;exact SL hS (λt h=>h) (KU hS h K) e s hk
 |.scp::K,e,s,hk=>by
  simp only[Bj7,kp]at hk⊢;cases e with
  |goto l=>exact hk
  |_=>exact KU hS h K _ _ hk
def Zj (M:It):∀(n:Nat) (K:List It),n<=K.length->Va M n K=K.take n++M::K.drop n
 |0,K,_=>by simp[Va]
 |n+1,i::K,h=>by simp only[Va,Br4,List.drop_succ_cons,Bj7,Zj M n K (by simpa using h)]
 |n+1,[],h=>by simp at h
def AI8 (hS:G6 S P)(a:∀s,S.up s (F .normal)->F .normal s)(n:Nat)(hn:n<=g.k.length){M:St->Prop}(b:∀t,M t->G S P F (.pop .normal (g.k.drop n) t))(h:G S P F (AY8 n M g)):G S P F g:=by
 have hk:∀e s,kp S P (Va (.mid M) n g.k) F e s->kp S P g.k F e s:=by
  intro e s;rw[Zj _ _ _ hn]
  conv=>rhs;rw[<- Bs4 n g.k]
  exact KU hS (AY4 hS a b) _ e s
 cases g with
 |code c K st=>exact AR hS c hk h
 |ops all rest K st=>exact Ia hS hk rest h
 |pop e K st=>exact hk e st h
def J_cut (hS:G6 S P)(hc:pr)(b:∀s,S.up s (F .normal)->F .normal s)(n:Nat)(s:St)
 (h1:∀(M:St->Prop),(∀(g' : Cfg) (ids:List (Nat×Nat)) (pr:Prop),pr->(hp:pr=C4 (cnd P g'):=by kernel_rfl)->(a:stp P g' = .pop .normal (.mid M::(stp P g).k.drop n) (stp P g').st:=by kernel_rfl)->(hle:Le ids (stp P g').st s:=by exact kle)->G S P F g')->G S P F (AY8 n M (stp P g)))
 (c:G S P F (.pop .normal ((stp P g).k.drop n) s)) (hp:pr=C4 (cnd P g):=by kernel_rfl) (hn:Nat.ble n (stp P g).k.length=true:=by kernel_rfl):G S P F g:=by
 refine FE hS hc ?_ hp;refine AI8 hS b n (Bn0 hn) (M:=λt=>t=s) (λt ht=>by subst ht;exact c) (h1 _ λg' ids pr hc hp a hle=>?_);refine FE hS hc ?_ hp;rw[a];exact hS.le ids _ _ _ hle rfl
def J_lt (hS:G6 S P)(hc:pr)(c:∀s,S.up s (F .normal)->F .normal s){R A:Type}{f:(A->Option R)->Option R}{k0:A->Option R}{r:R}(h:lt k0 f=some r)(n:Nat)(s:A->St)
 (h1:∀(M:St->Prop) (k:A->Option R),(∀(g' : Cfg) (ids:List (Nat×Nat)) (pr:Prop) (a:A),pr->k a=some r->(hp:pr=C4 (cnd P g'):=by kernel_rfl)->(b:stp P g' = .pop .normal (.mid M::(stp P g).k.drop n) (stp P g').st:=by kernel_rfl)->(hle:Le ids (stp P g').st (s a):=by exact kle)->G S P F g')->f k=some r->G S P F (AY8 n M (stp P g)))
 (d:∀a,k0 a=some r->G S P F (.pop .normal ((stp P g).k.drop n) (s a))) (hp:pr=C4 (cnd P g):=by kernel_rfl) (hn:Nat.ble n (stp P g).k.length=true:=by kernel_rfl):G S P F g:=by
 refine FE hS hc ?_ hp;refine AI8 hS c n (Bn0 hn) (M:=λt=>∃a,t=s a/\k0 a=some r) (λt ⟨a,ht,hk⟩=>by subst ht;exact d a hk) (h1 _ k0 (λg' ids pr a hc hk hp b hle=>?_) h);refine FE hS hc ?_ hp;rw[b];exact hS.le ids _ _ _ hle ⟨a,rfl,hk⟩
def SO {g:Cfg}(h:Ic g=true):g=.code (.loop (Ql g)) g.k g.st:=by
 unfold Ic at h;split at h
 .rfl
 cases h
def AZ2 (hS:G6 S P)(hc:pr){R A:Type}{body:(A->Option R)->A->Option R}{N:Nat}{a0:A}{r:R}(h:X5 N body a0=some r)(s:A->St){ids:List (Nat×Nat)}
 (i:∀(X:Type) (s' : X->St) (J:X->Prop) (m:X->Nat) (n:Nat) (b:A->Option R) (a:A),
  (∀(g' : Cfg) (ids:List (Nat×Nat)) (pr:Prop) (a:A),pr->b a=some r->(hp:pr=C4 (cnd P g'):=by kernel_rfl)->(f:stp P g' = .pop .normal (.lp X s' J m n::(stp P g).k) (stp P g').st:=by kernel_rfl)->(hle:Le ids (stp P g').st (s a):=by exact kle)->G S P F g') ->
  body b a=some r->G S P F (.code (Ql (stp P g)) (.lp X s' J m n::(stp P g).k) (s a))) (hp:pr=C4 (cnd P g):=by kernel_rfl) (hl:Ic (stp P g)=true:=by kernel_rfl) (hle:Le ids (stp P g).st (s a0):=by exact kle):G S P F g:=by
 refine FE hS hc ?_ hp;rw[SO hl];refine AY5 hS h s ids hle λX s' J m n b a hb c=>i X s' J m n b a (λg' ids pr a hc d hp f hle=>?_) c;refine FE hS hc ?_ hp;rw[f];exact hb _ _ _ hle d
def SP (P:Program)(st:St)(rs:List ResultVar)(outs:List Nat):Option (AV×List Obj):=match HU P st rs with
 |some l=>match Sf outs (one l),M8 outs st.Mc outs with
  |some a,some o=>if H8 outs then some (a,o)else none
  |_,_=>none
 |none=>none
def J_ret (hS:G6 S P)(hc:pr){n:Nat}{rs:List ResultVar}{Q:ARes->List Obj->List Bool->Prop}{a:AV}{objs:List Obj}(outs:List Nat)(c:Q (.ret a) objs (FH n outs))(hp:pr=C4 (cnd P g):=by kernel_rfl)(d:(Az2 (stp P g)).bind (λst=>SP P st rs outs)=some (a,objs):=by kernel_rfl) :G S P (CF S P n rs Q) g:=by
 refine FE hS hc ?_ hp;generalize stp P g=g' at d;obtain⟨st,h1,b⟩:=Bp8.1 d;unfold SP at b;split at b
 .rename_i l hl;split at b
  .rename_i f i;split at b
   .rename_i j;cases b;unfold Az2 at h1;split at h1
    .cases h1;exact hS.refl _ _ ⟨l,outs,a,objs,hl,j,f,i,c⟩
    .cases h1;exact hS.refl _ _ ⟨l,outs,a,objs,hl,j,f,i,c⟩
    cases h1
   cases b
  cases b
 cases b
def AZ3 (hS:G6 S P)(hc:pr){n:Nat}{rs:List ResultVar}{Q:ARes->List Obj->List Bool->Prop}{a:AV}{objs:List Obj}(st:St)(outs:List Nat){ids:List (Nat×Nat)}(f:Q (.ret a) objs (FH n outs))(hp:pr=C4 (cnd P g):=by kernel_rfl)(c:(Az2 (stp P g)).isSome=true:=by kernel_rfl)(hle:Le ids (stp P g).st st:=by exact kle)(d:SP P st rs outs=some (a,objs):=by kernel_rfl) :G S P (CF S P n rs Q) g:=by
 refine FE hS hc ?_ hp;generalize stp P g=g' at c hle;have b:=d;unfold SP at b;split at b
 .rename_i l hl;split at b
  .rename_i d i;split at b
   .rename_i j;cases b;unfold Az2 at c;split at c
    .exact hS.le ids _ _ _ hle ⟨l,outs,a,objs,hl,j,d,i,f⟩
    .exact hS.le ids _ _ _ hle ⟨l,outs,a,objs,hl,j,d,i,f⟩
    cases c
   cases b
  cases b
 cases b
def AQ0 (hS:G6 S P){f:FuncId}{fn:Func}{args:List AV}{objs objs' : List Obj}{ks:List Bool}{r:AV}(d:P.funcs[f]? = some fn)
 (h:G S P (CF S P objs.length fn.results.toList λres o k=>res=.ret r/\o=objs' /\ k=ks) (.code (fn.body.getD .skip) [] { env:=Pj args,Mc:=Md objs }))
 (hc:fn.body.isSome=true:=by kernel_rfl) (hn:Nat.ble args.length fn.ntmps=true:=by kernel_rfl) (g:Nat.blt objs.length 1000=true:=by kernel_rfl)
 (b:BC fn.ntmps (fn.body.getD .skip)=true:=by kernel_rfl) (c:(fn.name == "runtime.NumGoroutine")=false:=by kernel_rfl):Me S f args objs r objs' ks:=by
 obtain⟨code,a⟩:=Bi2.1 hc;rw[a,Bh6]at b h;exact Ai1 hS d a (Bn0 hn) (by simpa[Br1]using g) rfl b c h
def al0:∀q∈([]:List (Nat×Np)),q.2.ok:=λ_ h=>by cases h
def al1 {i:Nat}{l:Np}{rs:List (Nat×Np)}(h:l.ok)(t:∀q∈rs,q.2.ok):∀q∈(i,l)::rs,q.2.ok:=λq a=>by
 rcases Bi4.1 a with rfl|a
 .exact h
 exact t q a
structure SC where
 all:List Oper
 cls:List Cls
 rest:List Oper
 env:Env
 Mc:B9
 kn:List Nat
def SG (S:U5)(P:Program)(sc:SC)(k:Env->B9->Prop):Prop:=Ky S P sc.all sc.cls sc.rest sc.env sc.Mc k
def BB (P:Program)(sc:SC):SC:=match Qf P sc.kn sc.all sc.cls sc.rest [] sc.env sc.Mc with
 |⟨_,cls,rest,env,Mc⟩=>⟨sc.all,cls,rest,env,Mc,sc.kn⟩
def OC (P:Program)(sc:SC):List Prop:=(Qf P sc.kn sc.all sc.cls sc.rest [] sc.env sc.Mc).conds
def Dj:Cfg->Bool
 |.code (.region _ _ true) _ _=>true
 |_=>false
def Id:Cfg->SC
 |.code (.region _ ops true) _ st=>⟨ops.toList,ops.toList.map λo=>Bf6 o.op,ops.toList,st.env,st.Mc,[]⟩
 |_=>⟨[],[],[],[],[],[]⟩
def AQ1 (hS:G6 S P)(hc:pr)
 (h:SG S P (Id (stp P g)) λenv Mc=>G S P F (.pop .normal (stp P g).k ⟨env,Mc⟩)) (hp:pr=C4 (cnd P g):=by kernel_rfl) (c:Dj (stp P g)=true:=by kernel_rfl) (a:P.follows .mixedOrders=true:=by kernel_rfl) (b:MA (Id (stp P g)).all (Id (stp P g)).cls=true:=by kernel_rfl):G S P F g:=by
 refine FE hS hc ?_ hp;generalize stp P g=g' at c b h;unfold Dj at c;split at c
 .exact Ay3 hS a rfl b h
 cases c
section
variable {sc:SC}{k:Env->B9->Prop}
def Am1 (hc:pr)(h:SG S P (BB P sc) k)(hp:pr=C4 (OC P sc):=by kernel_rfl):SG S P sc k:=by subst hp;unfold BB at h;unfold OC at hc;unfold SG at *;generalize a:Qf P sc.kn sc.all sc.cls sc.rest [] sc.env sc.Mc=r at h hc;obtain⟨c,cls,rest,env,Mc⟩:=r;exact s_go a hc h
def C_end (hc:pr)(h:k (BB P sc).env (BB P sc).Mc)(hp:pr=C4 (OC P sc):=by kernel_rfl)(a:(BB P sc).rest.isEmpty=true:=by kernel_rfl):SG S P sc k:=by
 refine Am1 hc ?_ hp;generalize BB P sc=s at a h;obtain⟨all,cls,rest,env,Mc,kn⟩:=s;cases rest with
 |nil=>exact s_end h
 |cons=>simp at a
def AA0 {R:Type _}(d:Option Nat)(a:AV)(env:Env)(Mc:B9)(κ : Env->B9->R):R:=match d with
 |some d=>mkO (ins d a env) Mc κ
 |none=>mkO env Mc κ
def EY {R:Type _}(d:Option Nat)(a:AV)(env:Env)(Mc:B9)(κ : Env->B9->R):AA0 d a env Mc κ = κ (NK d a env) Mc:=by cases d<;>simp only[AA0,Gq,NK]
def AI9:∀{env:Env}{i d:Nat}{b:AV},Au5 ((i,b)::env)=true->get env d ≠ .top->d<i
 |[],_,_,_,_,h=>Eu rfl h
 |(j,c)::r,i,d,b,hd,h=>by
  simp only[Au5,Bh0,decide_eq_true_eq]at hd;by_cases e:j=d
  .subst e;exact hd.1
  simp only[get,e,Ex]at h;exact Nat.lt_trans (AI9 hd.2 h) hd.1
def SQ:∀{env:Env}{d:Nat}{a:AV},Au5 env=true->get env d=a->a ≠ .top->ins d a env=env
 |[],_,_,_,h,hn=>Eu h.symm hn
 |(i,b)::r,d,a,hd,h,hn=>by
  by_cases e:i=d
  .subst e;simp only[get,Ew]at h;subst h;simp[ins]
  simp only[get,e,Ex]at h;have c:=AI9 hd (by rw[h];exact hn);have f:Au5 r=true:=by
   cases r with
   |nil=>rfl
   |cons p r=>simp only[Au5,Bh0]at hd;exact hd.2
  simp only[ins,show ¬i<d by omega,e,Ex,SQ f h hn]
def SR (sc:SC):Option Bool:=match sc.rest with
 |o::_=>match o.guard with
  |some (j,_)=>match AW7 sc.all j with
   |some d=>match get sc.env d with
    |.p (.bb b)=>if Au5 sc.env then some b else none
    |_=>none
   |none=>none
  |none=>none
 |[]=>none
def OD (v:Bool)(sc:SC):SC:=match sc.rest with
 |o::_=>match o.guard with
  |some (j,_)=>match AW7 sc.all j with
   |some d=>mkO (ins d (.p (.bb v)) sc.env) sc.Mc λenv Mc=>⟨sc.all,sc.cls,sc.rest,env,Mc,j::sc.kn⟩
   |none=>sc
  |none=>sc
 |[]=>sc
def AQ2 (hc:pr){b:Bool}(ht:b=true->SG S P (OD true (BB P sc)) k)(f:b=false->SG S P (OD false (BB P sc)) k)(hp:pr=C4 (OC P sc))(hb:SR (BB P sc)=some b):SG S P sc k:=by
 refine Am1 hc ?_ hp;generalize BB P sc=s at hb ht f;obtain⟨all,cls,rest,env,Mc,kn⟩:=s;cases rest with
 |nil=>simp[SR]at hb
 |cons o rest=>
  simp only[SR]at hb;split at hb
  .rename_i j w g;split at hb
   .rename_i d i;split at hb
    .rename_i b' a;split at hb
     .rename_i c;simp only[Bg8]at hb;subst hb;simp only[OD,g,i,Gq]at ht f;cases b' with
      |true=>have:=ht rfl;rwa [SQ c a (by simp)]at this
      |false=>have:=f rfl;rwa [SQ c a (by simp)]at this
     cases hb
    cases hb
   cases hb
  cases hb
def OE (ids:List Nat)(sc:SC):Option (FuncId×List AV×List Obj):=match sc.rest with
 |o::_=>match At sc.all sc.env o,o.op with
  |some true,.call c=>match c.callee with
   |.value f=>match HR sc.Mc (c.args.toList.map (aev sc.env))with
    |some (as,Mc)=>match Rc sc.env f as with
     |some (fn,as')=>match Eh ids as',M8 ids Mc ids with
      |some a,some ob=>if H8 ids&&FD ob then some (fn,a,ob)else none
      |_,_=>none
     |none=>none
    |none=>none
   |_=>none
  |_,_=>none
 |[]=>none
def AA1 (js:List Nat):AV->Bool
 |.vec j=>js.contains j
 |.vecp j _=>js.contains j
 |_=>true
def Zk {js:List Nat}{regs' : B9}:∀{l:List AV}{Mc:B9}{as:List AV},l.all (AA1 js)=true->HR Mc l=some (as,regs')->∀q,q ∉ js->A1 regs' q=A1 Mc q
 |[],Mc,as,_,h,q,_=>by simp only[HR,Bg8,Bh4]at h;rw[<- h.2]
 |a::r,Mc,as,hl,h,q,hq=>by
  simp only[Bq4,Bh0]at hl;simp only[HR]at h;split at h
  .rename_i x R1 h1;split at h
   .rename_i l1 R2 c;simp only[Bg8,Bh4]at h;obtain⟨_,rfl⟩:=h;rw[Zk hl.2 c q hq];cases a with
    |vec j=>
     simp only at h1;split at h1
     .rename_i x2 R3 b;cases h1;exact SI (by simpa[inJ,AA1]using hl.1) b q hq
     cases h1
    |vecp j m=>
     simp only at h1;split at h1
     .rename_i x2 R3 b;cases h1;exact SI (by simpa[inJ,AA1]using hl.1) b q hq
     cases h1
    |_=>cases h1;rfl
   cases h
  cases h
def AZ4 (R:B9)(a:AV):Option (AV×B9):=match a with | .vec _ | .vecp _ _=>(match Eg R a with|some (x,Mc)=>some (AV.p x,Mc)|none=>none)|a=>some (a,R)
def Am2 (R:B9)(a:AV)(r:List AV):HR R (a::r)=match AZ4 R a with
 |some (a,Mc)=>match HR Mc r with
  |some (l,Mc)=>some (a::l,Mc)
  |none=>none
 |none=>none:=rfl
def AA2 {js:List Nat}{a x:AV}{R R2 R' : B9}(hl:inJ js a=true)(d:∀q∈js,A1 R2 q=A1 R q)(hx:AZ4 R a=some (x,R')):∃R3,AZ4 R2 a=some (x,R3)/\(∀q∈js,A1 R3 q=A1 R' q)/\∀q,q ∉ js->A1 R3 q=A1 R2 q:=by
 have up:∀(i:Nat) (o:Obj),i∈js->(∀q∈js,A1 (ins i o R2) q=A1 (ins i o R) q)/\∀q,q ∉ js->A1 (ins i o R2) q=A1 R2 q:=λi o g=>
  ⟨λq f=>by rw[N9,N9,d q f],λq f=>by rw[N9,Et (by rintro rfl;exact f g)]⟩
 cases a with
 |p y=>cases hx;exact⟨R2,rfl,d,λ_ _=>rfl⟩
 |vec j=>
  have b:j∈js:=by simpa[inJ]using hl
  simp only[AZ4,Eg,d j b]at hx⊢;cases c:A1 R j with
  |none=>simp[c]at hx
  |some ob=>cases ob<;>simp only[c]at hx⊢<;>first|(cases hx;exact⟨_,rfl,up _ _ b⟩)|cases hx
 |vecp j m=>
  have b:j∈js:=by simpa[inJ]using hl
  simp only[AZ4,Eg,d j b]at hx⊢;cases c:A1 R j with
  |none=>simp[c]at hx
  |some ob=>cases ob<;>simp only[c]at hx⊢<;>first|(cases hx;exact⟨_,rfl,up _ _ b⟩)|cases hx
 |_=>cases hl
def SS {js:List Nat}:∀{l:List AV}{R R2 R1:B9}{as:List AV},l.all (inJ js)=true->(∀q∈js,A1 R2 q=A1 R q)->HR R l=some (as,R1) ->
 ∃R3,HR R2 l=some (as,R3)/\(∀q∈js,A1 R3 q=A1 R1 q)/\∀q,q ∉ js->A1 R3 q=A1 R2 q
 |[],R,R2,R1,as,_,h2,h=>by simp only[HR,Bg8,Bh4]at h;obtain⟨rfl,rfl⟩:=h;exact⟨R2,rfl,h2,λ_ _=>rfl⟩
 |a::r,R,R2,R1,as,hl,h2,h=>by
  simp only[Bq4,Bh0]at hl;simp only[Am2]at h⊢;split at h
  .rename_i x R' hx;obtain⟨R3,e1,e2,e3⟩:=AA2 hl.1 h2 hx;split at h
   .rename_i l1 R'' c;simp only[Bg8,Bh4]at h;obtain⟨rfl,rfl⟩:=h;obtain⟨R4,f1,f2,f3⟩:=SS hl.2 e2 c;exact⟨R4,by simp only[e1,f1],f2,λq b=>(f3 q b).trans (e3 q b)⟩
   cases h
  cases h
def OF {m:List Nat}:∀{ids:List Nat}{objs:List Obj}{A B:B9}{q:Nat},A1 A q=A1 B q->A1 (back m ids objs A) q=A1 (back m ids objs B) q
 |[],_,_,_,_,h=>h
 |_::_,[],_,_,_,h=>h
 |j::ids,o::objs,A,B,q,h=>by simp only[back];exact OF (by rw[N9,N9,h])
def AQ3 {all:List Oper}{k:Env->B9->Prop}{js:List Nat}{cls:List Cls}{o:Oper}{rest:List Oper}{env:Env}{Mc regs1:B9}{c:Call}{f:Operand}{as:List AV}{fn:FuncId}{as' args:List AV}{objs' : List Obj}{ks:List Bool}{r:AV}
 (j:At all env o=some true) (l:o.op=.call c) (m:c.callee=.value f) (g:(c.args.toList.map (aev env)).all (inJ js)=true)
 (ha:HR Mc (c.args.toList.map (aev env))=some (as,regs1)) (hw:Rc env f as=some (fn,as')) (n:Eh [] as' = some args) (s:Me S fn args [] r objs' ks)
 (d:((H2 (o.dst.getD 0) [] ks objs'.length).all λq=>js.contains q)=true) (hn:X3 regs1 [] ks (o.dst.getD 0) objs'.length=true)
 (hk:Ky S P all cls rest (NK o.dst (unA (H2 (o.dst.getD 0) [] ks objs'.length) r) env) (back (H2 (o.dst.getD 0) [] ks objs'.length) (H2 (o.dst.getD 0) [] ks objs'.length) objs' (K6 [] ks regs1)) k) :
 Ky S P all (.a js::cls) (o::rest) env Mc k:=by
 have i:∀q,q ∉ js->q ∉ H2 (o.dst.getD 0) [] ks objs'.length:=λq b h=>b (by simpa using Bh7.1 d q h);refine⟨true,j,?_⟩;rw[Ek rfl];refine⟨_,_,.inr (.inr (.inr (.inr ⟨js,rfl,λq b=>?_,λR2 t=>?_⟩))),hk⟩
 .rw[IW (i q b)];obtain⟨R3,e1,_,e3⟩:=SS (R2:=Mc) g (λ_ _=>rfl) ha;rw[ha]at e1;cases e1;exact e3 q b
 obtain⟨R3,e1,e2,e3⟩:=SS g t ha;refine⟨_,.inl ⟨c,f,as,R3,fn,as',args,[],objs',ks,r,[],l,m,e1,hw,n,rfl,s,rfl,rfl,?_,rfl,rfl⟩,λq b=>OF (e2 q b),λq b=>(IW (i q b)).trans (e3 q b)⟩;unfold X3 at hn⊢;rw[Bh7]at hn⊢;intro p hp;have h1:=hn p hp;have u:nid (o.dst.getD 0) p∈js:=by
  have:=Bh7.1 d (nid (o.dst.getD 0) p) (by unfold H2;exact Bl0.2 ⟨p,hp,rfl⟩)
  simpa using this
 show (A1 R3 (nid (o.dst.getD 0) p)).isNone=true;rw[e2 _ u];exact h1
def OG (ids:List Nat)(ks:List Bool)(n:Nat)(sc:SC):Bool:=match sc.cls,sc.rest with
 |.w::_,o::_=>match o.op with
  |.call c=>match HR sc.Mc (c.args.toList.map (aev sc.env))with
   |some (_,Mc)=>X3 Mc ids ks (o.dst.getD 0) n
   |none=>false
  |_=>false
 |.b js::_,o::_=>match o.op with
  |.call c=>match HR sc.Mc (c.args.toList.map (aev sc.env))with
   |some (_,Mc)=>((c.args.toList.map (aev sc.env)).all (AA1 js)&&ids.isEmpty)&&(((H2 (o.dst.getD 0) ids ks n).all λq=>js.contains q)&&X3 Mc ids ks (o.dst.getD 0) n)
   |none=>false
  |_=>false
 |.a js::_,o::_=>match o.op with
  |.call c=>match HR sc.Mc (c.args.toList.map (aev sc.env))with
   |some (_,Mc)=>((c.args.toList.map (aev sc.env)).all (inJ js)&&ids.isEmpty)&&(((H2 (o.dst.getD 0) ids ks n).all λq=>js.contains q)&&X3 Mc ids ks (o.dst.getD 0) n)
   |none=>false
  |_=>false
 |_,_=>false
def OH (ids:List Nat)(ks:List Bool)(r:AV)(objs' : List Obj)(sc:SC):SC:=match sc.rest with
 |o::rest=>match o.op with
  |.call c=>match HR sc.Mc (c.args.toList.map (aev sc.env))with
   |some (_,Mc)=>AA0 o.dst (unA (H2 (o.dst.getD 0) ids ks objs'.length) r) sc.env
    (back (H2 (o.dst.getD 0) ids ks objs'.length) (H2 (o.dst.getD 0) ids ks objs'.length) objs' (K6 ids ks Mc)) λenv Mc=>⟨sc.all,sc.cls.tail,rest,env,Mc,sc.kn⟩
   |none=>sc
  |_=>sc
 |[]=>sc
def AZ5 (ids:List Nat)(hc:pr){fn:FuncId}{args:List AV}{objs objs' : List Obj}{r:AV}{ks:List Bool}(u:Me S fn args objs r objs' ks)
 (hk:SG S P (OH ids ks r objs' (BB P sc)) k) (hp:pr=C4 (OC P sc):=by kernel_rfl) (d:OE ids (BB P sc)=some (fn,args,objs):=by kernel_rfl) (hn:OG ids ks objs'.length (BB P sc)=true:=by kernel_rfl):SG S P sc k:=by
 refine Am1 hc ?_ hp;generalize BB P sc=s at d hn hk;obtain⟨all,cls,rest,env,Mc,kn⟩:=s;cases rest with
 |nil=>simp[OE]at d
 |cons o rest=>
  simp only[OE]at d;split at d
  .rename_i c v g;split at d
   .rename_i i;split at d
    .rename_i ha;split at d
     .rename_i hw;split at d
      .rename_i x j;split at d
       .rename_i f;cases d;simp only[Bh0]at f;cases cls with
        |nil=>simp[OG]at hn
        |cons cl cls=>
         cases cl with
         |w=>simp only[OG,g,ha]at hn;simp only[OH,g,ha,EY,Bn8]at hk;exact Al4 ids (.inl rfl) v g i ha hw x j u f.1 f.2 hn hk
         |b js=>simp only[OG,g,ha,Bh0,Bx4]at hn;obtain⟨⟨l,m⟩,n,t⟩:=hn;subst m;simp only[OH,g,ha,EY,Bn8]at hk;refine Al4 [] (.inr ⟨js,rfl,λq y=>?_⟩) v g i ha hw x j u f.1 f.2 t hk;rw[IW (λh=>y (by simpa using Bh7.1 n q h))];exact Zk l ha q y
         |a js=>simp only[OG,g,ha,Bh0,Bx4]at hn;obtain⟨⟨l,m⟩,n,t⟩:=hn;subst m;simp only[OH,g,ha,EY,Bn8]at hk;cases j;exact AQ3 v g i l ha hw x u n t hk
         |_=>simp[OG]at hn
       cases d
      cases d
     cases d
    cases d
   cases d
  cases d
def Zl (sc:SC):Bool:=match sc.cls,sc.rest with
 |_::_,o::_=>match o.op with
  |.call c=>(c.args.toList.map (aev sc.env)).all Ak9
  |_=>false
 |_,_=>false
def Zm (sc:SC):Option (FuncId×List AV):=match sc.rest with
 |o::_=>match At sc.all sc.env o,o.op with
  |some true,.call c=>match c.callee with
   |.value f=>match Rc sc.env f (c.args.toList.map (aev sc.env))with
    |some (fn,as')=>match Eh [] as' with
     |some a=>some (fn,a)
     |none=>none
    |none=>none
   |_=>none
  |_,_=>none
 |[]=>none
def Am3 (r:AV)(sc:SC):SC:=match sc.rest with
 |o::rest=>AA0 o.dst (unA [] r) sc.env sc.Mc λenv Mc=>⟨sc.all,sc.cls.tail,rest,env,Mc,sc.kn⟩
 |[]=>sc
def AZ6 (hc:pr){fn:FuncId}{args:List AV}{r:AV}(f:Me S fn args [] r [] [])
 (hk:SG S P (Am3 r (BB P sc)) k) (hp:pr=C4 (OC P sc):=by kernel_rfl) (a:Zm (BB P sc)=some (fn,args):=by kernel_rfl) (hn:Zl (BB P sc)=true:=by kernel_rfl):SG S P sc k:=by
 refine Am1 hc ?_ hp;generalize BB P sc=s at a hn hk;obtain⟨all,cls,rest,env,Mc,kn⟩:=s;cases rest with
 |nil=>simp[Zm]at a
 |cons o rest=>
  cases cls with
  |nil=>simp[Zl]at hn
  |cons cl cls=>
   simp only[Zm]at a;split at a
   .rename_i c g d;split at a
    .rename_i b;split at a
     .rename_i hw;split at a
      .rename_i i;cases a;simp only[Zl,d]at hn;simp only[Am3,EY,Bn8]at hk;exact AY2 g d b hn hw i f hk
      cases a
     cases a
    cases a
   cases a
def GT (P:Program)(sc:SC):Option (List Prop×PV):=match sc.cls,sc.rest with
 |_::_,o::_=>match At sc.all sc.env o with
  |some true=>Qg P sc.env o.op
  |_=>none
 |_,_=>none
def Xq (x:PV)(sc:SC):SC:=match sc.rest with
 |o::rest=>AA0 o.dst (.p x) sc.env sc.Mc λenv Mc=>⟨sc.all,sc.cls.tail,rest,env,Mc,sc.kn⟩
 |[]=>sc
def AQ4 (hc:pr){x:PV}(hk:SG S P (Xq x (BB P sc)) k)(hp:pr=C4 (OC P sc):=by kernel_rfl)(a:(GT P (BB P sc)).map (·.2)=some x:=by kernel_rfl)(b:((GT P (BB P sc)).map λq=>C4 q.1)=some (true=true):=by kernel_rfl):SG S P sc k:=by
 refine Am1 hc ?_ hp;generalize BB P sc=s at a b hk;obtain⟨all,cls,rest,env,Mc,kn⟩:=s;cases rest with
 |nil=>cases cls<;>simp[GT]at a
 |cons o rest=>
  cases cls with
  |nil=>simp[GT]at a
  |cons cl cls=>
   cases d:At all env o with
   |none=>simp[GT,d]at a
   |some bb=>
    cases bb with
    |false=>simp[GT,d]at a
    |true=>
     simp only[GT,d]at a b;cases ha:Qg P env o.op with
     |none=>rw[ha]at a;cases a
     |some q=>obtain⟨c,y⟩:=q;rw[ha]at a b;simp only[Bh8,Bg8]at a b;subst a;simp only[Xq,EY,Bn8]at hk;exact Ay2 d ha (by rw[b];trivial) hk
def OI (P:Program)(sc:SC):Option LookI:=match sc.cls,sc.rest with
 |cl::_,o::_=>match At sc.all sc.env o,o.op with
  |some true,.lookup t m q _=>match Eg sc.Mc (aev sc.env q),aev sc.env m with
   |some (key,Mc),.No j=>match A1 Mc j,tk P t with
    |some (.map es),some (.map kt e)=>if (Gi P kt key&&US cl sc.env (o.dst.getD 0) o.op) then some ⟨kt,e,key,es⟩else none
    |_,_=>none
   |_,_=>none
  |_,_=>none
 |_,_=>none
def Vb (x:PV)(b:Bool)(sc:SC):SC:=match sc.rest with
 |o::rest=>match o.op with
  |.lookup _ _ q ok=>match Eg sc.Mc (aev sc.env q)with
   |some (_,Mc)=>AA0 o.dst (if ok then .tup [.p x,.bool b]else .p x) sc.env Mc λenv Mc=>⟨sc.all,sc.cls.tail,rest,env,Mc,sc.kn⟩
   |none=>sc
  |_=>sc
 |[]=>sc
def AA3 (hc:pr){kt e:TypeId}{key:PV}{es:List (PV×PV)}{x:PV}{b:Bool}{fd:Option PV}
 (j:find (HL P kt) key es=some fd) (g:C4 (Hs P kt)) (hk:SG S P (Vb x b (BB P sc)) k) (hp:pr=C4 (OC P sc):=by kernel_rfl) (a:OI P (BB P sc)=some ⟨kt,e,key,es⟩:=by kernel_rfl) (hx:UZ P e fd=some (x,b):=by kernel_rfl):SG S P sc k:=by
 refine Am1 hc ?_ hp;generalize BB P sc=s at a hk;obtain⟨all,cls,rest,env,Mc,kn⟩:=s;cases rest with
 |nil=>cases cls<;>simp[OI]at a
 |cons o rest=>
  cases cls with
  |nil=>simp[OI]at a
  |cons cl cls=>
   simp only[OI]at a;split at a
   .rename_i l f;split at a
    .rename_i i hm;split at a
     .rename_i m ht;split at a
      .rename_i c;simp only[Bg8,LookI.mk.injEq]at a;obtain⟨rfl,rfl,rfl,rfl⟩:=a;simp only[Bh0]at c;simp only[Vb,f,i,EY,Bn8]at hk;have d:=c.2;simp only[f]at d;cases fd with
       |some y=>exact Zf (fd:=some y) l f i hm m ht c.1 j hx g (by rw[f];exact d) hk
       |none=>exact Zf (fd:=none) l f i hm m ht c.1 j hx g (by rw[f];exact d) hk
      cases a
     cases a
    cases a
   cases a
def Vc (P:Program)(sc:SC):Option (TypeId×PV×PV×List (PV×PV)):=match sc.cls,sc.rest with
 |.w::_,o::_=>match At sc.all sc.env o,o.op with
  |some true,.mapUpdate t m q x=>match aev sc.env q,aev sc.env m,Eg sc.Mc (aev sc.env x)with
   |.p key,.No j,some (y,Mc)=>match A1 Mc j,tk P t with
    |some (.map es),some (.map kt _)=>if Gi P kt (nP key) then some (kt,nP key,y,es)else none
    |_,_=>none
   |_,_,_=>none
  |_,_=>none
 |_,_=>none
def AA4 (es' : List (PV×PV))(sc:SC):SC:=match sc.rest with
 |o::rest=>match o.op with
  |.mapUpdate _ m _ x=>match aev sc.env m,Eg sc.Mc (aev sc.env x)with
   |.No j,some (_,Mc)=>AA0 o.dst KA sc.env (ins j (.map es') Mc) λenv Mc=>⟨sc.all,sc.cls.tail,rest,env,Mc,sc.kn⟩
   |_,_=>sc
  |_=>sc
 |[]=>sc
def AA5 (hc:pr){kt:TypeId}{key y:PV}{es es' : List (PV×PV)}
 (i:upd (HL P kt) key y es=some es') (b:C4 (Hs P kt)) (hk:SG S P (AA4 es' (BB P sc)) k) (hp:pr=C4 (OC P sc):=by kernel_rfl) (a:Vc P (BB P sc)=some (kt,key,y,es):=by kernel_rfl):SG S P sc k:=by
 refine Am1 hc ?_ hp;generalize BB P sc=s at a hk;obtain⟨all,cls,rest,env,Mc,kn⟩:=s;cases rest with
 |nil=>cases cls with
  |nil=>simp[Vc]at a
  |cons cl cls=>cases cl<;>simp[Vc]at a
 |cons o rest=>
  cases cls with
  |nil=>simp[Vc]at a
  |cons cl cls=>
   cases cl with
   |w=>
    simp only[Vc]at a;split at a
    .rename_i j d;split at a
     .rename_i h1 f g;split at a
      .rename_i l ht;split at a
       .rename_i c;simp only[Bg8,Bh4]at a;obtain⟨rfl,rfl,rfl,rfl⟩:=a;simp only[AA4,d,f,g,EY,Bn8]at hk;exact Xp j d h1 g f l ht c i b hk
       cases a
      cases a
     cases a
    cases a
   |_=>simp[Vc]at a
end
end
structure KG (S:U5) (P:Program) (F:M0) (g:Cfg):Prop where
 out:G S P F g
structure DG (S:U5) (P:Program) (sc:SC) (k:Env->B9->Prop):Prop where
 out:SG S P sc k
structure KLe (ids:List (Nat×Nat)) (s t:St):Prop where
 out:Le ids s t
section
variable {S:U5}{P:Program}{F:M0}{g:Cfg}{pr:Prop}
def kl {ids:List (Nat×Nat)}{s t:St}(h:(leK ids s t).map (·.map Np.src)=(leK ids s t).map (·.map Np.tgt):=by kernel_rfl)(h1:(leK ids s t).isSome=true:=by kernel_rfl):KLe ids s t:=⟨kle h h1⟩
def klR {ids:List (Nat×Nat)}{s t:St}(rs:List (Nat×Np))(a:∀q∈rs,q.2.ok)(h:(leK ids s t).map (Az7 (rs.map (·.1)) Np.src)=(leK ids s t).map (Az7 (rs.map (·.1)) Np.tgt):=by kernel_rfl)
 (b:(leK ids s t).map (λL=>rs.map λq=>L[q.1]?)=some (rs.map λq=>some q.2):=by kernel_rfl):KLe ids s t:=⟨kleR rs a h b⟩
def C7 (hS:G6 S P)(hc:pr){b:Bool}(ht:b=true->KG S P F (AP6 (stp P g)))(a:b=false->KG S P F (AP7 (stp P g)))(hp:pr=C4 (cnd P g):=by kernel_rfl)(hb:Az0 (stp P g)=some b:=by kernel_rfl):KG S P F g:=
 ⟨AY9 hS hc (λh=>(ht h).out) (λh=>(a h).out) hp hb⟩
def GU (hS:G6 S P)(hc:pr){b:Bool}(ht:b=true->KG S P F (Oz true (stp P g)))(a:b=false->KG S P F (Oz false (stp P g)))(hp:pr=C4 (cnd P g):=by kernel_rfl)(hb:Zg (stp P g)=some b:=by kernel_rfl):KG S P F g:=
 ⟨AP9 hS hc (λh=>(ht h).out) (λh=>(a h).out) hp hb⟩
def B4 (hS:G6 S P)(ids:List Nat)(hc:pr){fn:FuncId}{args:List AV}{objs objs' : List Obj}{r:AV}{ks:List Bool}(a:Me S fn args objs r objs' ks)(hk:KG S P F (Az1 ids ks r objs' (stp P g)))
 (hp:pr=C4 (cnd P g):=by kernel_rfl) (b:Ac5 ids (stp P g)=some (fn,args,objs):=by kernel_rfl) (hn:Ac6 ids ks objs'.length (stp P g)=true:=by kernel_rfl):KG S P F g:=⟨AZ0 hS ids hc a hk.out hp b hn⟩
def Zn (hS:G6 S P)(hc:pr){kt e:TypeId}{key:PV}{es:List (PV×PV)}{x:PV}{b:Bool}{fd:Option PV}(c:find (HL P kt) key es=some fd)(a:C4 (Hs P kt))(hk:KG S P F (Am0 x b (stp P g)))
 (hp:pr=C4 (cnd P g):=by kernel_rfl) (d:Al9 P (stp P g)=some ⟨kt,e,key,es⟩:=by kernel_rfl) (hx:UZ P e fd=some (x,b):=by kernel_rfl):KG S P F g:=⟨Az8 hS hc c a hk.out hp d hx⟩
def AA6 (hS:G6 S P)(hc:pr){kt:TypeId}{key y:PV}{es es' : List (PV×PV)}(b:upd (HL P kt) key y es=some es')(a:C4 (Hs P kt))(hk:KG S P F (Bg0 es' (stp P g)))
 (hp:pr=C4 (cnd P g):=by kernel_rfl) (c:Bf9 P (stp P g)=some (kt,key,y,es):=by kernel_rfl):KG S P F g:=⟨Az9 hS hc b a hk.out hp c⟩
def KV (hS:G6 S P)(hc:pr)(st:St){ids:List (Nat×Nat)}(hk:KG S P F (opsS st (stp P g)))(hp:pr=C4 (cnd P g):=by kernel_rfl)(a:Kf (stp P g)=true:=by kernel_rfl)(hle:KLe ids (stp P g).st st:=by exact kl):KG S P F g:=
 ⟨AZ1 hS hc st hk.out hp a hle.out⟩
def Vd (hS:G6 S P)(hc:pr)(b:∀s,S.up s (F .normal)->F .normal s)(n:Nat)(s:St)
 (h1:∀(M:St->Prop),(∀(g' : Cfg) (ids:List (Nat×Nat)) (pr:Prop),pr->(hp:pr=C4 (cnd P g'):=by kernel_rfl)->(a:stp P g' = .pop .normal (.mid M::(stp P g).k.drop n) (stp P g').st:=by kernel_rfl)->(hle:KLe ids (stp P g').st s:=by exact kl)->KG S P F g')->KG S P F (AY8 n M (stp P g)))
 (c:KG S P F (.pop .normal ((stp P g).k.drop n) s)) (hp:pr=C4 (cnd P g):=by kernel_rfl) (hn:Nat.ble n (stp P g).k.length=true:=by kernel_rfl):KG S P F g:=
 ⟨J_cut hS hc b n s (λM hb=>(h1 M λg' ids pr hc hp a hle=>⟨hb g' ids pr hc hp a hle.out⟩).out) c.out hp hn⟩
def Kz (hS:G6 S P)(hc:pr)(c:∀s,S.up s (F .normal)->F .normal s){R A:Type}{f:(A->Option R)->Option R}{k0:A->Option R}{r:R}(h:lt k0 f=some r)(n:Nat)(s:A->St)
 (h1:∀(M:St->Prop) (k:A->Option R),(∀(g' : Cfg) (ids:List (Nat×Nat)) (pr:Prop) (a:A),pr->k a=some r->(hp:pr=C4 (cnd P g'):=by kernel_rfl)->(b:stp P g' = .pop .normal (.mid M::(stp P g).k.drop n) (stp P g').st:=by kernel_rfl)->(hle:KLe ids (stp P g').st (s a):=by exact kl)->KG S P F g')->f k=some r->KG S P F (AY8 n M (stp P g)))
 (d:∀a,k0 a=some r->KG S P F (.pop .normal ((stp P g).k.drop n) (s a))) (hp:pr=C4 (cnd P g):=by kernel_rfl) (hn:Nat.ble n (stp P g).k.length=true:=by kernel_rfl):KG S P F g:=
 ⟨J_lt hS hc c h n s (λM k hb i=>(h1 M k (λg' ids pr a hc hk hp b hle=>⟨hb g' ids pr a hc hk hp b hle.out⟩) i).out) (λa hk=>(d a hk).out) hp hn⟩
def P8 (hS:G6 S P)(hc:pr){R A:Type}{body:(A->Option R)->A->Option R}{N:Nat}{a0:A}{r:R}(h:X5 N body a0=some r)(s:A->St){ids:List (Nat×Nat)}
 (i:∀(X:Type) (s' : X->St) (J:X->Prop) (m:X->Nat) (n:Nat) (b:A->Option R) (a:A),
  (∀(g' : Cfg) (ids:List (Nat×Nat)) (pr:Prop) (a:A),pr->b a=some r->(hp:pr=C4 (cnd P g'):=by kernel_rfl)->(f:stp P g' = .pop .normal (.lp X s' J m n::(stp P g).k) (stp P g').st:=by kernel_rfl)->(hle:KLe ids (stp P g').st (s a):=by exact kl)->KG S P F g') ->
  body b a=some r->KG S P F (.code (Ql (stp P g)) (.lp X s' J m n::(stp P g).k) (s a))) (hp:pr=C4 (cnd P g):=by kernel_rfl) (hl:Ic (stp P g)=true:=by kernel_rfl) (hle:KLe ids (stp P g).st (s a0):=by exact kl):KG S P F g:=
 ⟨AZ2 hS hc h s (λX s' J m n b a hb c=>(i X s' J m n b a (λg' ids pr a hc d hp f hle=>⟨hb g' ids pr a hc d hp f hle.out⟩) c).out) hp hl hle.out⟩
def I1 (hS:G6 S P)(hc:pr){R A B:Type}{body:(A->B->Option R)->A->B->Option R}{N:Nat}{a0:A}{b0:B}{r:R}(h:Ca N body a0 b0=some r)(s:A->B->St){ids:List (Nat×Nat)}
 (d:∀(X:Type) (s' : X->St) (J:X->Prop) (m:X->Nat) (n:Nat) (c:A->B->Option R) (a:A) (b:B),
  (∀(g' : Cfg) (ids:List (Nat×Nat)) (pr:Prop) (a:A) (b:B),pr->c a b=some r->(hp:pr=C4 (cnd P g'):=by kernel_rfl)->(o:stp P g' = .pop .normal (.lp X s' J m n::(stp P g).k) (stp P g').st:=by kernel_rfl)->(hle:KLe ids (stp P g').st (s a b):=by exact kl)->KG S P F g') ->
  body c a b=some r->KG S P F (.code (Ql (stp P g)) (.lp X s' J m n::(stp P g).k) (s a b))) (hp:pr=C4 (cnd P g):=by kernel_rfl) (hl:Ic (stp P g)=true:=by kernel_rfl) (hle:KLe ids (stp P g).st (s a0 b0):=by exact kl):KG S P F g:=
 P8 hS hc h (λx=>s x.1 x.2) (λX s' J m n c a hb=>d X s' J m n (λa b=>c (a,b)) a.1 a.2 λg' ids pr a b h1 f i j l=>hb g' ids pr (a,b) h1 f i j l) hp hl hle
def KW (hS:G6 S P)(hc:pr){R A B C:Type}{body:(A->B->C->Option R)->A->B->C->Option R}{N:Nat}{a0:A}{b0:B}{c0:C}{r:R}(h:Al7 N body a0 b0 c0=some r)(s:A->B->C->St){ids:List (Nat×Nat)}
 (f:∀(X:Type) (s' : X->St) (J:X->Prop) (m:X->Nat) (n:Nat) (d:A->B->C->Option R) (a:A) (b:B) (c:C),
  (∀(g' : Cfg) (ids:List (Nat×Nat)) (pr:Prop) (a:A) (b:B) (c:C),pr->d a b c=some r->(hp:pr=C4 (cnd P g'):=by kernel_rfl)->(q:stp P g' = .pop .normal (.lp X s' J m n::(stp P g).k) (stp P g').st:=by kernel_rfl)->(hle:KLe ids (stp P g').st (s a b c):=by exact kl)->KG S P F g') ->
  body d a b c=some r->KG S P F (.code (Ql (stp P g)) (.lp X s' J m n::(stp P g).k) (s a b c))) (hp:pr=C4 (cnd P g):=by kernel_rfl) (hl:Ic (stp P g)=true:=by kernel_rfl) (hle:KLe ids (stp P g).st (s a0 b0 c0):=by exact kl):KG S P F g:=
 P8 hS hc h (λx=>s x.1 x.2.1 x.2.2) (λX s' J m n d a hb=>f X s' J m n (λa b c=>d (a,b,c)) a.1 a.2.1 a.2.2 λg' ids pr a b c h1 i j l o=>hb g' ids pr (a,b,c) h1 i j l o) hp hl hle
def AZ7 (hS:G6 S P)(hc:pr){R A B C D E F' : Type}{body:(A->B->C->D->E->F' -> Option R)->A->B->C->D->E->F' -> Option R}{N:Nat}{a0:A}{b0:B}{c0:C}{d0:D}{e0:E}{f0:F'}{r:R}(h:fix6 N body a0 b0 c0 d0 e0 f0=some r)(s:A->B->C->D->E->F' -> St){ids:List (Nat×Nat)}
 (j:∀(X:Type) (s' : X->St) (J:X->Prop) (m:X->Nat) (n:Nat) (i:A->B->C->D->E->F' -> Option R) (a:A) (b:B) (c:C) (d:D) (e:E) (f:F'),
  (∀(g' : Cfg) (ids:List (Nat×Nat)) (pr:Prop) (a:A) (b:B) (c:C) (d:D) (e:E) (f:F'),pr->i a b c d e f=some r->(hp:pr=C4 (cnd P g'):=by kernel_rfl)->(u:stp P g' = .pop .normal (.lp X s' J m n::(stp P g).k) (stp P g').st:=by kernel_rfl)->(hle:KLe ids (stp P g').st (s a b c d e f):=by exact kl)->KG S P F g') ->
  body i a b c d e f=some r->KG S P F (.code (Ql (stp P g)) (.lp X s' J m n::(stp P g).k) (s a b c d e f))) (hp:pr=C4 (cnd P g):=by kernel_rfl) (hl:Ic (stp P g)=true:=by kernel_rfl) (hle:KLe ids (stp P g).st (s a0 b0 c0 d0 e0 f0):=by exact kl):KG S P F g:=
 P8 hS hc h (λx=>s x.1 x.2.1 x.2.2.1 x.2.2.2.1 x.2.2.2.2.1 x.2.2.2.2.2) (λX s' J m n i a hb=>j X s' J m n (λa b c d e f=>i (a,b,c,d,e,f)) a.1 a.2.1 a.2.2.1 a.2.2.2.1 a.2.2.2.2.1 a.2.2.2.2.2 λg' ids pr a b c d e f h1 l o q t=>hb g' ids pr (a,b,c,d,e,f) h1 l o q t) hp hl hle
def Am4 (hS:G6 S P)(hc:pr){n:Nat}{rs:List ResultVar}{Q:ARes->List Obj->List Bool->Prop}{a:AV}{objs:List Obj}(outs:List Nat)(b:Q (.ret a) objs (FH n outs))(hp:pr=C4 (cnd P g):=by kernel_rfl)
 (c:(Az2 (stp P g)).bind (λst=>SP P st rs outs)=some (a,objs):=by kernel_rfl):KG S P (CF S P n rs Q) g:=⟨J_ret hS hc outs b hp c⟩
def J6 (hS:G6 S P)(hc:pr){n:Nat}{rs:List ResultVar}{Q:ARes->List Obj->List Bool->Prop}{a:AV}{objs:List Obj}(st:St)(outs:List Nat){ids:List (Nat×Nat)}(b:Q (.ret a) objs (FH n outs))(hp:pr=C4 (cnd P g):=by kernel_rfl)
 (c:(Az2 (stp P g)).isSome=true:=by kernel_rfl) (hle:KLe ids (stp P g).st st:=by exact kl) (d:SP P st rs outs=some (a,objs):=by kernel_rfl):KG S P (CF S P n rs Q) g:=⟨AZ3 hS hc st outs b hp c hle.out d⟩
def A2 (hS:G6 S P){f:FuncId}{fn:Func}{args:List AV}{objs objs' : List Obj}{ks:List Bool}{r:AV}(c:P.funcs[f]? = some fn)
 (h:KG S P (CF S P objs.length fn.results.toList λres o k=>res=.ret r/\o=objs' /\ k=ks) (.code (fn.body.getD .skip) [] { env:=Pj args,Mc:=Md objs }))
 (hc:fn.body.isSome=true:=by kernel_rfl) (hn:Nat.ble args.length fn.ntmps=true:=by kernel_rfl) (d:Nat.blt objs.length 1000=true:=by kernel_rfl)
 (a:BC fn.ntmps (fn.body.getD .skip)=true:=by kernel_rfl) (b:(fn.name == "runtime.NumGoroutine")=false:=by kernel_rfl):Me S f args objs r objs' ks:=AQ0 hS c h.out hc hn d a b
def EZ (hS:G6 S P)(hc:pr)(h:DG S P (Id (stp P g)) λenv Mc=>KG S P F (.pop .normal (stp P g).k ⟨env,Mc⟩))(hp:pr=C4 (cnd P g):=by kernel_rfl)(c:Dj (stp P g)=true:=by kernel_rfl)(a:P.follows .mixedOrders=true:=by kernel_rfl)
 (b:MA (Id (stp P g)).all (Id (stp P g)).cls=true:=by kernel_rfl):KG S P F g:=by
 have e:(λenv Mc=>KG S P F (.pop .normal (stp P g).k ⟨env,Mc⟩))=λenv Mc=>G S P F (.pop .normal (stp P g).k ⟨env,Mc⟩):=by funext env Mc;exact propext ⟨λh=>h.out,λh=>⟨h⟩⟩
 rw[e]at h;exact⟨AQ1 hS hc h.out hp c a b⟩
section
variable {sc:SC}{k:Env->B9->Prop}
def D0 (hc:pr)(h:k (BB P sc).env (BB P sc).Mc)(hp:pr=C4 (OC P sc):=by kernel_rfl)(a:(BB P sc).rest.isEmpty=true:=by kernel_rfl):DG S P sc k:=⟨C_end hc h hp a⟩
def U6 (hc:pr){b:Bool}(ht:b=true->DG S P (OD true (BB P sc)) k)(a:b=false->DG S P (OD false (BB P sc)) k)(hp:pr=C4 (OC P sc):=by kernel_rfl)(hb:SR (BB P sc)=some b:=by kernel_rfl):DG S P sc k:=
 ⟨AQ2 hc (λh=>(ht h).out) (λh=>(a h).out) hp hb⟩
def OJ (ids:List Nat)(hc:pr){fn:FuncId}{args:List AV}{objs objs' : List Obj}{r:AV}{ks:List Bool}(a:Me S fn args objs r objs' ks)(hk:DG S P (OH ids ks r objs' (BB P sc)) k)
 (hp:pr=C4 (OC P sc):=by kernel_rfl) (b:OE ids (BB P sc)=some (fn,args,objs):=by kernel_rfl) (hn:OG ids ks objs'.length (BB P sc)=true:=by kernel_rfl):DG S P sc k:=⟨AZ5 ids hc a hk.out hp b hn⟩
def G3 (hc:pr){fn:FuncId}{args:List AV}{r:AV}(a:Me S fn args [] r [] [])(hk:DG S P (Am3 r (BB P sc)) k)(hp:pr=C4 (OC P sc):=by kernel_rfl)(b:Zm (BB P sc)=some (fn,args):=by kernel_rfl)(hn:Zl (BB P sc)=true:=by kernel_rfl):DG S P sc k:=
 ⟨AZ6 hc a hk.out hp b hn⟩
def M4 (hc:pr){x:PV}(hk:DG S P (Xq x (BB P sc)) k)(hp:pr=C4 (OC P sc):=by kernel_rfl)(b:(GT P (BB P sc)).map (·.2)=some x:=by kernel_rfl)(a:((GT P (BB P sc)).map λq=>C4 q.1)=some (true=true):=by kernel_rfl):DG S P sc k:=⟨AQ4 hc hk.out hp b a⟩
def Zo (hc:pr){kt e:TypeId}{key:PV}{es:List (PV×PV)}{x:PV}{b:Bool}{fd:Option PV}(c:find (HL P kt) key es=some fd)(a:C4 (Hs P kt))(hk:DG S P (Vb x b (BB P sc)) k)
 (hp:pr=C4 (OC P sc):=by kernel_rfl) (d:OI P (BB P sc)=some ⟨kt,e,key,es⟩:=by kernel_rfl) (hx:UZ P e fd=some (x,b):=by kernel_rfl):DG S P sc k:=⟨AA3 hc c a hk.out hp d hx⟩
def AA7 (hc:pr){kt:TypeId}{key y:PV}{es es' : List (PV×PV)}(b:upd (HL P kt) key y es=some es')(a:C4 (Hs P kt))(hk:DG S P (AA4 es' (BB P sc)) k)
 (hp:pr=C4 (OC P sc):=by kernel_rfl) (c:Vc P (BB P sc)=some (kt,key,y,es):=by kernel_rfl):DG S P sc k:=⟨AA5 hc b a hk.out hp c⟩
end
end
end Go.AM
namespace Go.AM
section
variable {S:U5}{P:Program}{F:M0}{g:Cfg}{pr:Prop}
def yldE:Cfg->Option (List PV×List (List PV))
 |.ops all (o::_) _ st=>match BD all st.env o,o.op with
  |some true,.call c=>match c.callee with
   |.value f=>match aev st.env f,Gf st.Mc (c.args.toList.map (aev st.env))with
    |.yf j,some (xs,Mc)=>match A1 Mc j with
     |some (.yld (ys::rest) true)=>if FS j Mc=true/\xs.length=ys.length then some (xs,ys::rest)else none
     |_=>none
    |_,_=>none
   |_=>none
  |_,_=>none
 |_=>none
def AZ8 (b:Bool)(rest:List (List PV)):Cfg->Cfg
 |.ops all (o::ops) K st=>match o.op with
  |.call c=>match c.callee with
   |.value f=>match aev st.env f,Gf st.Mc (c.args.toList.map (aev st.env))with
    |.yf j,some (_,Mc)=>Ac4 o.dst (.p (.bb b)) st.env (ins j (.yld rest b) Mc) λst=>.ops all ops K st
    |_,_=>.ops all (o::ops) K st
   |_=>.ops all (o::ops) K st
  |_=>.ops all (o::ops) K st
 |g=>g
def Ve:∀l:List PV,AM0 l l
 |[]=>trivial
 |x::l=>⟨.inl rfl,Ve l⟩
def AQ5 (hS:G6 S P)(hc:pr){ys:List PV}{rest:List (List PV)}(ht:G S P F (AZ8 true rest (stp P g)))(d:G S P F (AZ8 false [] (stp P g)))(hp:pr=C4 (cnd P g))(a:yldE (stp P g)=some (ys,ys::rest)):G S P F g:=by
 refine FE hS hc ?_ hp;generalize stp P g=g' at a ht d;unfold yldE at a;split at a
 .split at a
  .rename_i l i;split at a
   .rename_i c;split at a
    .rename_i hy j;split at a
     .rename_i m;split at a
      .rename_i f;simp only[Bg8,Bh4,Bl9]at a;obtain⟨rfl,rfl,rfl⟩:=a;simp only[AZ8,i,c,hy,j,FT]at ht d;refine AP1 hS l i c hy j m f.1 (Ve _) λb=>?_;cases b
       .exact d
       exact ht
      cases a
     cases a
    cases a
   cases a
  cases a
 cases a
def Dk (hS:G6 S P)(hc:pr){ys:List PV}{rest:List (List PV)}(ht:KG S P F (AZ8 true rest (stp P g)))(a:KG S P F (AZ8 false [] (stp P g)))(hp:pr=C4 (cnd P g):=by kernel_rfl)(b:yldE (stp P g)=some (ys,ys::rest):=by kernel_rfl):KG S P F g:=
 ⟨AQ5 hS hc ht.out a.out hp b⟩
def Ak {T:Type}(x:T)(o:Option (List T)):Option (List T):=o.map (x :: ·)
def Ma {T:Type}{x:T}{o:Option (List T)}{L:List T}(h:Ak x o=some L):∃L',L=x::L' /\ o=some L':=by simp only[Ak,Bj6]at h;obtain⟨l,h1,a⟩:=h;exact⟨l,a.symm,h1⟩
def Dl (hS:G6 S P)(hc:pr){R A:Type}{body:(A->Option R)->A->Option R}{N:Nat}{a0:A}{r0:R}(h:X5 N body a0=some r0)(s:A->R->St){ids:List (Nat×Nat)}
 (f:∀(X:Type) (s' : X->St) (J:X->Prop) (m:X->Nat) (n:Nat) (b:A->Option R) (a:A) (r:R),
  (∀(g' : Cfg) (ids:List (Nat×Nat)) (pr:Prop) (a:A) (r:R),pr->b a=some r->(hp:pr=C4 (cnd P g'):=by kernel_rfl)->(d:stp P g' = .pop .normal (.lp X s' J m n::(stp P g).k) (stp P g').st:=by kernel_rfl)->(hle:KLe ids (stp P g').st (s a r):=by exact kl)->KG S P F g') ->
  body b a=some r->KG S P F (.code (Ql (stp P g)) (.lp X s' J m n::(stp P g).k) (s a r))) (hp:pr=C4 (cnd P g):=by kernel_rfl) (hl:Ic (stp P g)=true:=by kernel_rfl) (hle:KLe ids (stp P g).st (s a0 r0):=by exact kl):KG S P F g:=by
 refine⟨FE hS hc ?_ hp⟩;rw[SO hl];refine YC hS (X:=Nat×A×R) (λx=>s x.2.1 x.2.2) (λx=>X5 x.1 body x.2.1=some x.2.2) (λx=>x.1) (N,a0,r0) ids hle.out h ?_;rintro⟨n,a,r⟩ hx;cases n with
 |zero=>cases hx
 |succ n=>exact (f _ _ _ _ _ (X5 n body) a r (λg' ids pr a r hc c hp d hle=>⟨FE hS hc (by rw[d];exact WO hS (n,a,r) ids hle.out c (Bx3 n)) hp⟩) hx).out
def ST (hS:G6 S P)(hc:pr){R A B:Type}{body:(A->B->Option R)->A->B->Option R}{N:Nat}{a0:A}{b0:B}{r0:R}(h:Ca N body a0 b0=some r0)(s:A->B->R->St){ids:List (Nat×Nat)}
 (d:∀(X:Type) (s' : X->St) (J:X->Prop) (m:X->Nat) (n:Nat) (c:A->B->Option R) (a:A) (b:B) (r:R),
  (∀(g' : Cfg) (ids:List (Nat×Nat)) (pr:Prop) (a:A) (b:B) (r:R),pr->c a b=some r->(hp:pr=C4 (cnd P g'):=by kernel_rfl)->(o:stp P g' = .pop .normal (.lp X s' J m n::(stp P g).k) (stp P g').st:=by kernel_rfl)->(hle:KLe ids (stp P g').st (s a b r):=by exact kl)->KG S P F g') ->
  body c a b=some r->KG S P F (.code (Ql (stp P g)) (.lp X s' J m n::(stp P g).k) (s a b r))) (hp:pr=C4 (cnd P g):=by kernel_rfl) (hl:Ic (stp P g)=true:=by kernel_rfl) (hle:KLe ids (stp P g).st (s a0 b0 r0):=by exact kl):KG S P F g:=
 Dl hS hc h (λx r=>s x.1 x.2 r) (λX s' J m n c a r hb=>d X s' J m n (λa b=>c (a,b)) a.1 a.2 r λg' ids pr a b r h1 f i j l=>hb g' ids pr (a,b) r h1 f i j l) hp hl hle
def EC (hS:G6 S P){f:FuncId}{fn:Func}{first caps:List AV}{objs:List Obj}{L:List (List PV)}(i:P.funcs[f]? = some fn)
 (h:KG S P (CF S P (objs++[Obj.yld L true]).length fn.results.toList λr objs' ks=>∃b,objs'[objs.length]? = some (.yld [] b)/\ks[objs.length]? = some true/\∃a,r=.ret a) (.code (fn.body.getD .skip) [] { env:=Pj (first ++ .yf objs.length::caps),Mc:=Md (objs++[Obj.yld L true]) }))
 (hc:fn.body.isSome=true:=by kernel_rfl) (hn:Nat.ble (first ++ .yf objs.length::caps).length fn.ntmps=true:=by kernel_rfl) (j:Nat.blt (objs++[Obj.yld L true]).length 1000=true:=by kernel_rfl)
 (d:BC fn.ntmps (fn.body.getD .skip)=true:=by kernel_rfl) (g:(fn.name == "runtime.NumGoroutine")=false:=by kernel_rfl):EW S f first caps objs L:=by
 obtain⟨code,c⟩:=Bi2.1 hc;rw[c,Bh6]at d h;exact LY hS i c (Bn0 hn) (by simpa[Br1]using j) rfl d g h.out
def Vf (P:Program)(ids:List Nat):Cfg->Option (FuncId×List AV×List AV×List Obj)
 |.code (.rangeFunc op _ _ _) _ st=>match FQ st.env op with
  |some (f,first,caps)=>match P.funcs[f]?,M8 ids st.Mc ids,Eh ids first,Eh ids caps with
   |some fn,some objs,some as,some bs=>if (fn.body.isSome && !(fn.name == "runtime.NumGoroutine")&&FD objs&&H8 ids&&(objs.length==ids.length)&&Nat.blt ids.length 1000) then some (f,as,bs,objs)else none
   |_,_,_,_=>none
  |none=>none
 |_=>none
def Jp:Cfg->Array Tmp
 |.code (.rangeFunc _ ps _ _) _ _=>ps
 |_=>#[]
def Vg:Cfg->Code
 |.code (.rangeFunc _ _ a _) _ _=>a
 |_=>.skip
def Vh:Cfg->Code
 |.code (.rangeFunc _ _ _ b) _ _=>b
 |_=>.skip
def Vi (ids ts:List Nat)(g:Cfg):St:=⟨Y6 ts (ts.map (get g.st.env)),K6 ids (ids.map λ_=>false) g.st.Mc⟩
def rst (gh:Nat)(t:St):St:=⟨[],ins gh (.ghost (t.env.map (·.2))) t.Mc⟩
def Vj (gh:Nat)(ps:Array Tmp)(ys:List PV)(t:St):St:=⟨Nj ps.toList ys t.env,ins gh (.ghost (t.env.map (·.2))) t.Mc⟩
def exitE:Cfg->Jc
 |.pop e _ _=>e
 |_=>.normal
def AJ0:Cfg->Bool
 |.pop .ret [] _=>true
 |.pop (.exit _) [] _=>true
 |_=>false
def Am5 (Mc:B9)(d:Nat)(x:Obj):A1 (ins d x Mc) d=some x:=by
 induction Mc with
 |nil=>simp[ins,A1]
 |cons p r ih=>
  obtain⟨i,b⟩:=p;simp only[ins];split
  .simp[A1]
  split
  .simp[A1]
  rename_i h1 a;simp only[A1,a,Ex,ih]
def Ie (gh:Nat)(t:St):A1 (rst gh t).Mc gh=some (.ghost (t.env.map λp=>p.2)):=by unfold rst;exact Am5 _ _ _
def OK (ids:List Nat):Cfg->Option (FuncId×List AV×List AV×List Obj)
 |.code (.rangeFunc op _ _ _) _ st=>match FQ st.env op with
  |some (f,first,caps)=>match M8 ids st.Mc ids,Eh ids first,Eh ids caps with
   |some objs,some as,some bs=>if (FD objs&&H8 ids&&(objs.length==ids.length)&&Nat.blt ids.length 1000) then some (f,as,bs,objs)else none
   |_,_,_=>none
  |none=>none
 |_=>none
def IX {ids:List Nat}{g:Cfg}{q:FuncId×List AV×List AV×List Obj}(h:Vf P ids g=some q):OK ids g=some q/\∃fn,P.funcs[q.1]? = some fn/\fn.body.isSome=true/\(fn.name == "runtime.NumGoroutine")=false:=by
 unfold Vf at h;split at h
 .split at h
  .rename_i a;split at h
   .rename_i fn objs' as' bs' h1 c d f;split at h
    .rename_i b;cases h;simp only[Bh0,Bi7,beq_iff_eq]at b;obtain⟨⟨⟨⟨⟨e1,e2⟩,e3⟩,e4⟩,e5⟩,e6⟩:=b;refine⟨?_,fn,h1,e1,by simpa using e2⟩;simp only[OK,a,c,d,f,e3,e4,e5,e6,beq_self_eq_true,Bw8,Ew]
    cases h
   cases h
  cases h
 cases h
def NM (hS:G6 S P)(hc:pr){f:FuncId}{as bs:List AV}{objs:List Obj}{R T A:Type}{enc:T->List PV}{L:List T}{mb:(A->Option R)->T->A->Option R}{mk:A->Option R}{a0:A}{r:R}(o:∃fn,P.funcs[f]? = some fn/\fn.body.isSome=true/\(fn.name == "runtime.NumGoroutine")=false)
 (ids ts:List Nat) (gh:Nat) (s:A->St) {idl:List (Nat×Nat)}(h:T2 L mb mk a0=some r) (x:EW S f as bs objs (L.map enc))
 (i:∀t:T,AN (enc t)=some (Jp (stp P g)).size) (hk:∀a,(s a).env.map (·.1)=ts) (hn:∀a,A1 (s a).Mc gh=none) (m:∀a,(⟨Y6 ts ((s a).env.map (·.2)),del gh (ins gh (.ghost ((s a).env.map (·.2))) (s a).Mc)⟩:St)=s a)
 (c:∀(t:T) (next:St->Prop) (d:A->Option R) (a:A),
  (∀(g' : Cfg) (ids:List (Nat×Nat)) (pr:Prop) (a:A),pr->d a=some r->(hp:pr=C4 (cnd P g'):=by kernel_rfl)->(b:stp P g' = .pop .normal [] (stp P g').st:=by kernel_rfl)->(hle:KLe ids (stp P g').st (rst gh (s a)):=by exact kl)->KG S P (GJ S gh ts next (kp S P (stp P g).k F)) g') ->
  mb d t a=some r->KG S P (CG S P (Vh (stp P g)) gh ts next (kp S P (stp P g).k F)) (.code (Vg (stp P g)) [] (Vj gh (Jp (stp P g)) (enc t) (s a))))
 (j:∀a,mk a=some r->KG S P F (.pop .normal (stp P g).k (s a)))
 (hp:pr=C4 (cnd P g):=by kernel_rfl) (b:OK ids (stp P g)=some (f,as,bs,objs):=by kernel_rfl) (q:Nat.blt gh 1000=true:=by kernel_rfl) (n:A1 (stp P g).st.Mc gh=none:=by kernel_rfl) (u:H8 ts=true:=by kernel_rfl)
 (hle:KLe idl (Vi ids ts (stp P g)) (s a0):=by exact kl):KG S P F g:=by
 refine⟨FE hS hc ?_ hp⟩;generalize stp P g=g1 at i c j b n hle;unfold OK at b;split at b
 .rename_i op ps asg body K st;split at b
  .rename_i f' first caps v
   split at b
   .rename_i objs' as' bs' y z h4;split at b
    .rename_i w;simp only[Bg8,Bh4]at b;obtain⟨rfl,rfl,rfl,rfl⟩:=b;simp only[Bh0,Bi7,beq_iff_eq]at w;obtain⟨⟨⟨e3,e4⟩,e5⟩,e6⟩:=w;refine AP4 hS ids ts gh s idl h x v o y e3 e4 z h4 e5 q n e6 u i hle.out hk hn (λt next d a hb hm=>?_) (λa hm=>(j a hm).out);refine (c t next d a (λg' ids' pr a hc l hp b hle=>⟨FE hS hc ?_ hp⟩) hm).out;rw[b];have hl:((s a).env.map (·.2)).length=ts.length:=by rw[<- hk a];simp
     refine hb _ (rst gh (s a)) ((s a).env.map λp=>p.2) ids' a hle.out (Ie gh (s a)) hl ?_ (m a) l
     have:=congrArg St.Mc (m a)
     simp only at this;show A1 (del gh (ins gh _ _)) gh=none;rw[this];exact hn a
    cases b
   cases b
  cases b
 cases b
def GV (hS:G6 S P)(hc:pr){f:FuncId}{as bs:List AV}{objs:List Obj}{R T A:Type}{enc:T->List PV}{L:List T}{mb:(A->Option R)->T->A->Option R}{mk:A->Option R}{a0:A}{r:R}
 (ids ts:List Nat) (gh:Nat) (s:A->St) {idl:List (Nat×Nat)}(h:T2 L mb mk a0=some r) (q:EW S f as bs objs (L.map enc))
 (d:∀t:T,AN (enc t)=some (Jp (stp P g)).size) (hk:∀a,(s a).env.map (·.1)=ts) (hn:∀a,A1 (s a).Mc gh=none) (j:∀a,(⟨Y6 ts ((s a).env.map (·.2)),del gh (ins gh (.ghost ((s a).env.map (·.2))) (s a).Mc)⟩:St)=s a)
 (b:∀(t:T) (next:St->Prop) (c:A->Option R) (a:A),
  (∀(g' : Cfg) (ids:List (Nat×Nat)) (pr:Prop) (a:A),pr->c a=some r->(hp:pr=C4 (cnd P g'):=by kernel_rfl)->(l:stp P g' = .pop .normal [] (stp P g').st:=by kernel_rfl)->(hle:KLe ids (stp P g').st (rst gh (s a)):=by exact kl)->KG S P (GJ S gh ts next (kp S P (stp P g).k F)) g') ->
  mb c t a=some r->KG S P (CG S P (Vh (stp P g)) gh ts next (kp S P (stp P g).k F)) (.code (Vg (stp P g)) [] (Vj gh (Jp (stp P g)) (enc t) (s a))))
 (i:∀a,mk a=some r->KG S P F (.pop .normal (stp P g).k (s a)))
 (hp:pr=C4 (cnd P g):=by kernel_rfl) (l:Vf P ids (stp P g)=some (f,as,bs,objs):=by kernel_rfl) (m:Nat.blt gh 1000=true:=by kernel_rfl) (n:A1 (stp P g).st.Mc gh=none:=by kernel_rfl) (o:H8 ts=true:=by kernel_rfl)
 (hle:KLe idl (Vi ids ts (stp P g)) (s a0):=by exact kl):KG S P F g:=
 NM hS hc (IX l).2 ids ts gh s h q d hk hn j b i hp (IX l).1 m n o hle
def Am6 (hS:G6 S P)(hc:pr){f:FuncId}{as bs:List AV}{objs:List Obj}{R T A:Type}{enc:T->List PV}{L:List T}{mb:(A->Option R)->T->A->Option R}{mk:A->Option R}{a0:A}{r0:R}(o:∃fn,P.funcs[f]? = some fn/\fn.body.isSome=true/\(fn.name == "runtime.NumGoroutine")=false)
 (ids ts:List Nat) (gh:Nat) (s:A->R->St) {idl:List (Nat×Nat)}(h:T2 L mb mk a0=some r0) (x:EW S f as bs objs (L.map enc))
 (i:∀t:T,AN (enc t)=some (Jp (stp P g)).size) (hk:∀a r,(s a r).env.map (·.1)=ts) (hn:∀a r,A1 (s a r).Mc gh=none) (m:∀a r,(⟨Y6 ts ((s a r).env.map (·.2)),del gh (ins gh (.ghost ((s a r).env.map (·.2))) (s a r).Mc)⟩:St)=s a r)
 (c:∀(t:T) (next:St->Prop) (d:A->Option R) (a:A) (r:R),
  (∀(g' : Cfg) (ids:List (Nat×Nat)) (pr:Prop) (a:A) (r:R),pr->d a=some r->(hp:pr=C4 (cnd P g'):=by kernel_rfl)->(b:stp P g' = .pop .normal [] (stp P g').st:=by kernel_rfl)->(hle:KLe ids (stp P g').st (rst gh (s a r)):=by exact kl)->KG S P (GJ S gh ts next (kp S P (stp P g).k F)) g') ->
  mb d t a=some r->KG S P (CG S P (Vh (stp P g)) gh ts next (kp S P (stp P g).k F)) (.code (Vg (stp P g)) [] (Vj gh (Jp (stp P g)) (enc t) (s a r))))
 (j:∀a r,mk a=some r->KG S P F (.pop .normal (stp P g).k (s a r)))
 (hp:pr=C4 (cnd P g):=by kernel_rfl) (b:OK ids (stp P g)=some (f,as,bs,objs):=by kernel_rfl) (q:Nat.blt gh 1000=true:=by kernel_rfl) (n:A1 (stp P g).st.Mc gh=none:=by kernel_rfl) (u:H8 ts=true:=by kernel_rfl)
 (hle:KLe idl (Vi ids ts (stp P g)) (s a0 r0):=by exact kl):KG S P F g:=by
 refine⟨FE hS hc ?_ hp⟩;generalize stp P g=g1 at i c j b n hle;unfold OK at b;split at b
 .rename_i op ps asg body K st;split at b
  .rename_i f' first caps v
   split at b
   .rename_i objs' as' bs' y z h4;split at b
    .rename_i w;simp only[Bg8,Bh4]at b;obtain⟨rfl,rfl,rfl,rfl⟩:=b;simp only[Bh0,Bi7,beq_iff_eq]at w;obtain⟨⟨⟨e3,e4⟩,e5⟩,e6⟩:=w;refine Ay9 hS ids ts gh s idl h x v o y e3 e4 z h4 e5 q n e6 u i hle.out hk hn (λt next d a r hb hm=>?_) (λa r hm=>(j a r hm).out);refine (c t next d a r (λg' ids' pr a r hc l hp b hle=>⟨FE hS hc ?_ hp⟩) hm).out;rw[b];have hl:((s a r).env.map (·.2)).length=ts.length:=by rw[<- hk a r];simp
     refine hb _ (rst gh (s a r)) ((s a r).env.map λp=>p.2) ids' a r hle.out (Ie gh (s a r)) hl ?_ (m a r) l
     have:=congrArg St.Mc (m a r)
     simp only at this;show A1 (del gh (ins gh _ _)) gh=none;rw[this];exact hn a r
    cases b
   cases b
  cases b
 cases b
def AA8 (hS:G6 S P)(hc:pr){f:FuncId}{as bs:List AV}{objs:List Obj}{R T A:Type}{enc:T->List PV}{L:List T}{mb:(A->Option R)->T->A->Option R}{mk:A->Option R}{a0:A}{r0:R}
 (ids ts:List Nat) (gh:Nat) (s:A->R->St) {idl:List (Nat×Nat)}(h:T2 L mb mk a0=some r0) (q:EW S f as bs objs (L.map enc))
 (d:∀t:T,AN (enc t)=some (Jp (stp P g)).size) (hk:∀a r,(s a r).env.map (·.1)=ts) (hn:∀a r,A1 (s a r).Mc gh=none) (j:∀a r,(⟨Y6 ts ((s a r).env.map (·.2)),del gh (ins gh (.ghost ((s a r).env.map (·.2))) (s a r).Mc)⟩:St)=s a r)
 (b:∀(t:T) (next:St->Prop) (c:A->Option R) (a:A) (r:R),
  (∀(g' : Cfg) (ids:List (Nat×Nat)) (pr:Prop) (a:A) (r:R),pr->c a=some r->(hp:pr=C4 (cnd P g'):=by kernel_rfl)->(l:stp P g' = .pop .normal [] (stp P g').st:=by kernel_rfl)->(hle:KLe ids (stp P g').st (rst gh (s a r)):=by exact kl)->KG S P (GJ S gh ts next (kp S P (stp P g).k F)) g') ->
  mb c t a=some r->KG S P (CG S P (Vh (stp P g)) gh ts next (kp S P (stp P g).k F)) (.code (Vg (stp P g)) [] (Vj gh (Jp (stp P g)) (enc t) (s a r))))
 (i:∀a r,mk a=some r->KG S P F (.pop .normal (stp P g).k (s a r)))
 (hp:pr=C4 (cnd P g):=by kernel_rfl) (l:Vf P ids (stp P g)=some (f,as,bs,objs):=by kernel_rfl) (m:Nat.blt gh 1000=true:=by kernel_rfl) (n:A1 (stp P g).st.Mc gh=none:=by kernel_rfl) (o:H8 ts=true:=by kernel_rfl)
 (hle:KLe idl (Vi ids ts (stp P g)) (s a0 r0):=by exact kl):KG S P F g:=
 Am6 hS hc (IX l).2 ids ts gh s h q d hk hn j b i hp (IX l).1 m n o hle
def Bg1 (t:Nat)(a:AV):Cfg->Cfg
 |.ops all rest K st=>mkO (ins t a st.env) st.Mc λenv Mc=>.ops all rest K ⟨env,Mc⟩
 |g=>g
def Vk (hS:G6 S P)(hc:pr)(t:Nat){k n:Nat}{f:Nat->List PV}(b:n=0->KG S P F (Bg1 t (.p (.v (.slice none 0 0))) (stp P g)))(h1:KG S P F (Bg1 t (.p (.sl true k n f)) (stp P g)))
 (hp:pr=C4 (cnd P g):=by kernel_rfl) (a:Kf (stp P g)=true:=by kernel_rfl) (c:get (stp P g).st.env t=.p (.sl false k n f):=by kernel_rfl):KG S P F g:=by
 refine⟨FE hS hc ?_ hp⟩;generalize stp P g=g1 at b h1 a c;unfold Kf at a;split at a
 .refine AW8 hS t c (λh=>?_) ?_
  .have:=(b h).out
   simpa only[Bg1,Gq]using this
  have:=h1.out
  simpa only[Bg1,Gq]using this
 cases a
def frzC (j:Nat)(ps:List PV):Cfg->Cfg
 |.code c K st=>mkO (Au0 j ps st.env) (ins j .dead st.Mc) λenv Mc=>.code c K ⟨env,Mc⟩
 |g=>g
def Vl (hS:G6 S P)(hc:pr)(j:Nat)(ps:List PV)(hk:KG S P F (frzC j ps (stp P g)))(hp:pr=C4 (cnd P g):=by kernel_rfl)(c:Dj (stp P g)=true:=by kernel_rfl)(b:P.follows .mixedOrders=true:=by kernel_rfl)
 (a:HT (Id (stp P g)).all=true:=by kernel_rfl) (f:A1 (stp P g).st.Mc j=some (.cells (ps.map .p)):=by kernel_rfl):KG S P F g:=by
 refine⟨FE hS hc ?_ hp⟩;generalize stp P g=g1 at hk c a f;unfold Dj at c;split at c
 .rename_i id ops K st;have hk:=hk.out;simp only[frzC,Gq]at hk;show awp S P (.region id ops true) (kp S P K F) st;simp only[awp,Ew];have d : WL S P ops.toList (kp S P K F) ⟨Au0 j ps st.env,ins j .dead st.Mc⟩:=by
   have:awp S P (.region id ops true) (kp S P K F) ⟨Au0 j ps st.env,ins j .dead st.Mc⟩:=hk
   simpa only[awp,Ew]using this
  exact Zc hS b a (hS.frz st j ps _ f d)
 cases c
def clsN (js:List Nat):Nat->List Oper->List Cls
 |_,[]=>[]
 |i,o::r=>(if js.contains i then .n else if js.contains (i+1000)then .w else Bf6 o.op)::clsN js (i+1) r
def SU (js:List Nat):Cfg->SC
 |.code (.region _ ops true) _ st=>⟨ops.toList,clsN js 0 ops.toList,ops.toList,st.env,st.Mc,[]⟩
 |_=>⟨[],[],[],[],[],[]⟩
def E2 (hS:G6 S P)(hc:pr)(js:List Nat)(h:DG S P (SU js (stp P g)) λenv Mc=>KG S P F (.pop .normal (stp P g).k ⟨env,Mc⟩))(hp:pr=C4 (cnd P g):=by kernel_rfl)(c:Dj (stp P g)=true:=by kernel_rfl)(a:P.follows .mixedOrders=true:=by kernel_rfl)
 (b:MA (SU js (stp P g)).all (SU js (stp P g)).cls=true:=by kernel_rfl):KG S P F g:=by
 have e:(λenv Mc=>KG S P F (.pop .normal (stp P g).k ⟨env,Mc⟩))=λenv Mc=>G S P F (.pop .normal (stp P g).k ⟨env,Mc⟩):=by funext env Mc;exact propext ⟨λh=>h.out,λh=>⟨h⟩⟩
 rw[e]at h;refine⟨FE hS hc ?_ hp⟩;have h:=h.out;generalize stp P g=g' at c b h;unfold Dj at c;split at c
 .exact YV hS _ a b h
 cases c
def Bg2 (ls:List (Nat×Cls)):Nat->List Oper->List Cls
 |_,[]=>[]
 |i,o::r=>(match ls.find? (λq=>q.1==i)with|some q=>q.2|none=>Bf6 o.op)::Bg2 ls (i+1) r
def SV (ls:List (Nat×Cls)):Cfg->SC
 |.code (.region _ ops true) _ st=>⟨ops.toList,Bg2 ls 0 ops.toList,ops.toList,st.env,st.Mc,[]⟩
 |_=>⟨[],[],[],[],[],[]⟩
def F2 (hS:G6 S P)(hc:pr)(ls:List (Nat×Cls))(h:DG S P (SV ls (stp P g)) λenv Mc=>KG S P F (.pop .normal (stp P g).k ⟨env,Mc⟩))(hp:pr=C4 (cnd P g):=by kernel_rfl)(c:Dj (stp P g)=true:=by kernel_rfl)(a:P.follows .mixedOrders=true:=by kernel_rfl)
 (b:MA (SV ls (stp P g)).all (SV ls (stp P g)).cls=true:=by kernel_rfl):KG S P F g:=by
 have e:(λenv Mc=>KG S P F (.pop .normal (stp P g).k ⟨env,Mc⟩))=λenv Mc=>G S P F (.pop .normal (stp P g).k ⟨env,Mc⟩):=by funext env Mc;exact propext ⟨λh=>h.out,λh=>⟨h⟩⟩
 rw[e]at h;refine⟨FE hS hc ?_ hp⟩;have h:=h.out;generalize stp P g=g' at c b h;unfold Dj at c;split at c
 .exact YV hS _ a b h
 cases c
def Kh (hS:G6 S P)(hc:pr){body:Code}{gh:Nat}{ts:List Nat}{next:St->Prop}{Q:M0}(h:KG S P (GJ S gh ts next Q) (.code body [] (stp P g).st))(hp:pr=C4 (cnd P g):=by kernel_rfl)(a:stp P g=.pop .normal [] (stp P g).st:=by kernel_rfl):KG S P (CG S P body gh ts next Q) g:=by refine⟨FE hS hc ?_ hp⟩;rw[a];exact G_asg hS h.out
def NN (hS:G6 S P)(hc:pr){K:List It}{gh:Nat}{ts:List Nat}{next:St->Prop}(t:St){ids:List (Nat×Nat)}(hk:KG S P F (.pop (exitE (stp P g)) K t))(hp:pr=C4 (cnd P g):=by kernel_rfl)(a:AJ0 (stp P g)=true:=by kernel_rfl)
 (hle:KLe ids (stp P g).st (rst gh t):=by exact kl) (h1:t.env.map (·.1)=ts:=by kernel_rfl) (d:A1 t.Mc gh=none:=by kernel_rfl) (b:(⟨Y6 ts (t.env.map (·.2)),del gh (ins gh (.ghost (t.env.map (·.2))) t.Mc)⟩:St)=t:=by kernel_rfl):KG S P (GJ S gh ts next (kp S P K F)) g:=by
 refine⟨FE hS hc ?_ hp⟩;generalize stp P g=g1 at hk a hle;have hl:(t.env.map (·.2)).length=ts.length:=by rw[<- h1];simp
 have c:A1 (del gh (ins gh (.ghost (t.env.map (·.2))) t.Mc)) gh=none:=by
  have:=congrArg St.Mc b
  simp only at this;rw[this];exact d
 unfold AJ0 at a;split at a
 .exact YZ hS Fe (rst gh t) ids hle.out (Ie gh t) hl c (by rw[show (⟨Y6 ts (t.env.map (·.2)),del gh (rst gh t).Mc⟩:St)=t from b];exact hk.out)
 .exact YZ hS Fe (rst gh t) ids hle.out (Ie gh t) hl c (by rw[show (⟨Y6 ts (t.env.map (·.2)),del gh (rst gh t).Mc⟩:St)=t from b];exact hk.out)
 cases a
end
end Go.AM
namespace Go.AM
section
variable {S:U5}{P:Program}{F:M0}{g:Cfg}{pr:Prop}
def AZ9 (j:Nat)(ps:List PV):Cfg->Cfg
 |.ops all rest K st=>mkO (Au0 j ps st.env) (ins j .dead st.Mc) λenv Mc=>.ops all rest K ⟨env,Mc⟩
 |g=>g
def AJ1 (ids:List Nat):Cfg->Option (FuncId×List AV×List Obj)
 |.ops all (o::_) _ st=>match BD all st.env o,o.op with
  |some true,.call c=>match c.callee with
   |.value f=>match Rc st.env f (c.args.toList.map (aev st.env))with
    |some (fn,as')=>match Eh ids as',M8 ids st.Mc ids with
     |some a,some ob=>if H8 ids&&FD ob then some (fn,a,ob)else none
     |_,_=>none
    |none=>none
   |_=>none
  |_,_=>none
 |_=>none
def AJ2 (ids:List Nat)(ks:List Bool)(n:Nat):Cfg->Bool
 |.ops _ (o::_) _ st=>X3 st.Mc ids ks (o.dst.getD 0) n
 |_=>false
def AJ3 (ids:List Nat)(ks:List Bool)(r:AV)(objs' : List Obj):Cfg->Cfg
 |.ops all (o::rest) K st=>Ac4 o.dst (unA (H2 (o.dst.getD 0) ids ks objs'.length) r) st.env
  (back (H2 (o.dst.getD 0) ids ks objs'.length) (H2 (o.dst.getD 0) ids ks objs'.length) objs' (K6 ids ks st.Mc)) λst=>.ops all rest K st
 |g=>g
def AQ6 (hS:G6 S P)(ids:List Nat)(hc:pr){fn:FuncId}{args:List AV}{objs objs' : List Obj}{r:AV}{ks:List Bool}(f:Me S fn args objs r objs' ks)(hk:KG S P F (AJ3 ids ks r objs' (stp P g)))
 (hp:pr=C4 (cnd P g):=by kernel_rfl) (a:AJ1 ids (stp P g)=some (fn,args,objs):=by kernel_rfl) (hn:AJ2 ids ks objs'.length (stp P g)=true:=by kernel_rfl):KG S P F g:=by
 refine⟨FE hS hc ?_ hp⟩;have hk:=hk.out;generalize stp P g=g' at a hn hk;unfold AJ1 at a;split at a
 .split at a
  .rename_i i j;split at a
   .rename_i c;split at a
    .rename_i hw;split at a
     .rename_i l d;split at a
      .rename_i b;cases a;simp only[Bh0]at b;simp only[AJ3,AJ2,FT]at hk hn;exact AM8 hS ids i j c hw l d f b.1 b.2 hn hk
      cases a
     cases a
    cases a
   cases a
  cases a
 cases a
def unrT:List (St->Prop)->Nat->St->Prop
 |[],_,_=>False
 |a::_,0,t=>a t
 |_::l,i+1,t=>unrT l i t
def AA9 (hS:G6 S P)(hc:pr)(n:Nat)(T:Nat->St->Prop)(s0:St){ids:List (Nat×Nat)}(j:T 0 s0)
 (l:∀(X:Type) (s' : X->St) (J:X->Prop) (m:X->Nat) (i k:Nat) (t:St),i<=n->T i t ->
  (∀(g' : Cfg) (ids:List (Nat×Nat)) (pr:Prop) (t' : St),pr->Nat.ble (i+1) n=true->T (i+1) t' -> (hp:pr=C4 (cnd P g'):=by kernel_rfl)->(q:stp P g' = .pop .normal (.lp X s' J m k::(stp P g).k) (stp P g').st:=by kernel_rfl)->(hle:KLe ids (stp P g').st t':=by exact kl)->KG S P F g') ->
  KG S P F (.code (Ql (stp P g)) (.lp X s' J m k::(stp P g).k) t)) (hp:pr=C4 (cnd P g):=by kernel_rfl) (hl:Ic (stp P g)=true:=by kernel_rfl) (hle:KLe ids (stp P g).st s0:=by exact kl):KG S P F g:=by
 refine⟨FE hS hc ?_ hp⟩;rw[SO hl];refine YC hS (X:=Nat×St) (λx=>x.2) (λx=>x.1<=n/\T x.1 x.2) (λx=>n-x.1) (0,s0) ids hle.out ⟨Bn9 _,j⟩ ?_;rintro⟨i,t⟩ ⟨o,ht⟩;refine (l (Nat×St) (λx=>x.2) (λx=>x.1<=n/\T x.1 x.2) (λx=>n-x.1) i (n-i) t o ht λg' ids' pr' t' b hn c d f a=>⟨FE hS b ?_ d⟩).out;rw[f];have hn:i+1<=n:=Bn0 hn;exact hS.le ids' _ _ _ a.out ⟨(i+1,t'),rfl,⟨hn,c⟩,by show n-(i+1)<n-i;omega⟩
end
section
variable {S:U5}{P:Program}{F:M0}{g:Cfg}{pr:Prop}
def N2 (hS:G6 S P)(hc:pr)(d:Nat)(st:St){ids:List (Nat×Nat)}(hk:KG S P F (opsS st (Hw P d g)))(hp:pr=C4 (AP5 P d g):=by kernel_rfl)(a:Kf (Hw P d g)=true:=by kernel_rfl)(hle:KLe ids (Hw P d g).st st:=by exact kl):KG S P F g:=by
 refine⟨(GK (u:=some d) (F:=F) hS 400 [] g (by subst hp;exact hc)).2 ?_⟩;have hk:=hk.out;have hle:=hle.out;show G S P F (Hw P d g);generalize Hw P d g=g' at a hle hk;unfold Kf at a;split at a
 .exact Al8 hS st ids hle hk
 cases a
end
end Go.AM
namespace Go.AM
section
variable {S:U5}{P:Program}{F:M0}{g:Cfg}{pr:Prop}
def Ba0 (S:U5)(P:Program)(pv:PV)(m:String)(as:List AV)(r:AV):Prop:=∃t y fn,pv=.iface t y/\Un P t m=some fn/\Uu S fn (.p (nP y)::as) r
def invE:Cfg->Option (PV×String×List AV)
 |.ops all (o::_) _ st=>match BD all st.env o,o.op with
  |some true,.call c=>match c.callee with
   |.invoke rv m=>match HR st.Mc (c.args.toList.map (aev st.env)),aev st.env rv with
    |some (as,_),.p pv=>match Eh [] as with
     |some as'=>some (pv,m,as')
     |none=>none
    |_,_=>none
   |_=>none
  |_,_=>none
 |_=>none
def invK (r:AV):Cfg->Cfg
 |.ops all (o::rest) K st=>match o.op with
  |.call c=>match HR st.Mc (c.args.toList.map (aev st.env))with
   |some (_,Mc)=>Ac4 o.dst (unA [] r) st.env Mc λst=>.ops all rest K st
   |none=>.ops all (o::rest) K st
  |_=>.ops all (o::rest) K st
 |g=>g
def NO (hS:G6 S P)(hc:pr){pv:PV}{m:String}{as:List AV}{r:AV}(b:Ba0 S P pv m as r)(hk:KG S P F (invK r (stp P g)))
 (hp:pr=C4 (cnd P g):=by kernel_rfl) (a:invE (stp P g)=some (pv,m,as):=by kernel_rfl):KG S P F g:=by
 obtain⟨t,y,fn,rfl,hm,b⟩:=b;refine⟨FE hS hc ?_ hp⟩;have hk:=hk.out;generalize stp P g=g' at a hk;unfold invE at a;split at a
 .split at a
  .rename_i i f;split at a
   .rename_i c;split at a
    .rename_i ha d;split at a
     .rename_i j;cases a;simp only[invK,f,ha,FT]at hk;refine Ay4 hS i f c ha d hm (args:=.p (nP y)::_) ?_ b hk;simp only[Eh,Sf,j]
     cases a
    cases a
   cases a
  cases a
 cases a
def F6 (hS:G6 S P)(hc:pr)(d j:Nat)(ps:List PV)(hk:KG S P F (AZ9 j ps (Hw P d g)))(hp:pr=C4 (AP5 P d g):=by kernel_rfl)(a:Kf (Hw P d g)=true:=by kernel_rfl)
 (b:A1 (Hw P d g).st.Mc j=some (.cells (ps.map .p)):=by kernel_rfl):KG S P F g:=by
 refine⟨(GK (u:=some d) (F:=F) hS 400 [] g (by subst hp;exact hc)).2 ?_⟩;have hk:=hk.out;show G S P F (Hw P d g);generalize Hw P d g=g' at a b hk;unfold Kf at a;split at a
 .simp only[AZ9,Gq]at hk;exact WN hS (hS.frz _ j ps _ b hk)
 cases a
def AB0 (j j' : Nat):AV->AV
 |.vecp i m=>if i=j then .vec j' else .vecp i m
 |a=>a
def AB1 (j j' : Nat):List AV->List AV
 |[]=>[]
 |a::r=>AB0 j j' a::AB1 j j' r
def AB2 (j j' : Nat):Env->Env
 |[]=>[]
 |(t,a)::r=>(t,AB0 j j' a)::AB2 j j' r
def Ac7 (j j' : Nat):B9->B9
 |[]=>[]
 |(t,.cells cs)::r=>(t,.cells (AB1 j j' cs))::Ac7 j j' r
 |(t,o)::r=>(t,o)::Ac7 j j' r
def msA (j:Nat)(r:List Nat):AV->List Nat
 |.vecp i m=>if i=j then m::r else r
 |_=>r
def msL (j:Nat):List AV->List Nat
 |[]=>[]
 |a::r=>msA j (msL j r) a
def msE (j:Nat):Env->List Nat
 |[]=>[]
 |(_,a)::r=>msA j (msE j r) a
def msR (j:Nat):B9->List Nat
 |[]=>[]
 |(_,.cells cs)::r=>msL j cs++msR j r
 |_::r=>msR j r
def Am7 {j:Nat}{r:List Nat}{a:AV}:∀x∈r,x∈msA j r a:=by
 intro x hx;unfold msA;split
 .split
  .exact Bi1 _ hx
  exact hx
 exact hx
def Zp {j n j' : Nat}{r:List Nat}{a:AV}(h:∀m∈msA j r a,m=n):Au6 j n j' a=AB0 j j' a:=by
 cases a with
 |vecp i m=>
  simp only[Au6,AB0];by_cases e:i=j
  .have:m=n:=h m (by simp[msA,e])
   simp[e,this]
  simp[e]
 |_=>rfl
def Zq {j n j' : Nat}:∀{l:List AV},(∀m∈msL j l,m=n)->AH8 j n j' l=AB1 j j' l
 |[],_=>rfl
 |a::r,h=>by simp only[AH8,AB1,Zp (r:=msL j r) h,Zq λm hm=>h m (Am7 m hm)]
def Zr {j n j' : Nat}:∀{l:Env},(∀m∈msE j l,m=n)->AH7 j n j' l=AB2 j j' l
 |[],_=>rfl
 |(t,a)::r,h=>by simp only[AH7,AB2,Zp (r:=msE j r) h,Zr λm hm=>h m (Am7 m hm)]
def SW {j n j' : Nat}:∀{l:B9},(∀m∈msR j l,m=n)->YA j n j' l=Ac7 j j' l
 |[],_=>rfl
 |(t,o)::r,h=>by
  cases o with
  |cells cs=>simp only[YA,Ac7,AV0,Zq λm hm=>h m (Bk0 _ hm),SW λm hm=>h m (Bj0 _ hm)]
  |_=>simp only[YA,Ac7,AV0,SW (l:=r) h]
def truC (j j' : Nat)(e:TypeId)(k n:Nat)(f:Nat->List PV):Cfg->Cfg
 |.ops all rest K st=>mkO (AB2 j j' st.env) (ins j' (.vec e k n f false) (ins j .dead (Ac7 j j' st.Mc))) λenv Mc=>.ops all rest K ⟨env,Mc⟩
 |g=>g
def Ba1 (hS:G6 S P)(hc:pr)(d j n j' : Nat){e:TypeId}{k N:Nat}{f:Nat->List PV}(hn:n<=N)(hk:KG S P F (truC j j' e k n f (Hw P d g)))(hp:pr=C4 (AP5 P d g):=by kernel_rfl)(b:Kf (Hw P d g)=true:=by kernel_rfl)
 (c:A1 (Hw P d g).st.Mc j=some (.vec e k N f false):=by kernel_rfl) (i:A1 (Hw P d g).st.Mc j' = none:=by kernel_rfl) (h1:Nat.ble 1000 j' = true:=by kernel_rfl)
 (hm:(msE j (Hw P d g).st.env++msR j (Hw P d g).st.Mc)=List.replicate (msE j (Hw P d g).st.env++msR j (Hw P d g).st.Mc).length n:=by kernel_rfl):KG S P F g:=by
 refine⟨(GK (u:=some d) (F:=F) hS 400 [] g (by subst hp;exact hc)).2 ?_⟩;have hk:=hk.out;show G S P F (Hw P d g);generalize Hw P d g=g' at b c i hk hm;unfold Kf at b;split at b
 .rename_i st;have a:∀m∈msE j st.env++msR j st.Mc,m=n:=λm h=>by rw[show msE j st.env++msR j st.Mc=_ from hm]at h;exact (List.mem_replicate.1 h).2
  simp only[truC,Gq]at hk;refine WN hS (hS.trunc _ j j' n N k e f _ c hn i (Bn0 h1) ?_);rw[Zr λm h=>a m (Bk0 _ h),SW λm h=>a m (Bj0 _ h)];exact hk
 cases b
end
abbrev cA {α : Type}(n:Nat)(c : α -> PV)(f:Nat -> α):List PV:=Ef n (λi=>c (f i))
def G7 (n:Nat)(f:Nat->PV):(Ef n f).length=n:=by simp[Ef]
def DA (n:Nat)(f:Nat->PV):∀i,i<n->[(Ef n f).getD i default]=[f i]:=by intro i a;simp[Ef,Bg7,a]
def OL {n:Nat}{z:PV}{ps:List PV}(h:ps=List.replicate n z):∀i,i<n->[ps.getD i default]=[z]:=by intro i a;subst h;simp[Bg7,a]
def Ac8 {n:Nat}{f g:Nat->PV}(h:∀i,i<n->[f i]=[g i]):Ef n f=Ef n g:=by unfold Ef;exact Bj8 λi a=>by have:=h i (Bk2.1 a);injection this
abbrev OM {α : Type}(f:Nat -> α)(k:Nat)(x : α):Nat -> α:=λi=>if i=k then x else f i
def AQ7 {α : Type}{c : α -> PV}{n k:Nat}{v:Nat -> α}{f:Nat->PV}{e:PV}{x : α}(h:∀i,i<n->[f i]=[c (v i)])(hx:e=c x):∀i,i<n->[if i=k then e else f i]=[c (if i=k then x else v i)]:=by
 intro i a;by_cases h1:i=k
 .rw[Ek h1,Ek h1,hx]
 rw[Et h1,Et h1];exact h i a
def app1H {α : Type}{c : α -> List PV}{n:Nat}{v:Sl α}{f g:Nat->List PV}{z : α}(h:∀i,i<n->f i=c (v.g i))(hn:n=v.n):∀i,i<n+1->i≠v.n->Es n f g i=c ((v.push z).g i):=by
 subst hn;intro i b a;have hl:i<v.n:=by omega
 show (if i<v.n then f i else g (i-v.n))=c (if i<v.n then v.g i else z);rw[Ek hl,Ek hl];exact h i hl
def setH {α : Type}{c : α -> List PV}{n k:Nat}{v:Sl α}{f e:Nat->List PV}{x : α}(h:∀i,i<n->i≠k->f i=c (v.g i))(hx:k<n->e k=c x):∀i,i<n->(λl=>if l=k then e l else f l) i=c ((v.upd k x).g i):=by
 intro i a;show (if i=k then e i else f i)=c (if i=k then x else v.g i);split
 .subst_vars;exact hx a
 exact h i a ‹_›
end Go.AM
namespace Go.AM
section
variable {S:U5}{P:Program}{F:M0}{g:Cfg}{R X:Type}{A B:Option R}{r:R}{b:Bool}
def kI (hS:G6 S P)(h:(if b then A else B)=some r)(ht:A=some r->KG S P F (AP6 (stp P g)))(a:B=some r->KG S P F (AP7 (stp P g)))
 (hp:True=C4 (cnd P g):=by kernel_rfl) (hb:Az0 (stp P g)=some b:=by kernel_rfl):KG S P F g:=
 C7 hS Fe (λc=>ht (itT c h)) (λc=>a (itF c h)) hp hb
def kG (hS:G6 S P)(h:(if b then A else B)=some r)(ht:A=some r->KG S P F (Oz true (stp P g)))(a:B=some r->KG S P F (Oz false (stp P g)))
 (hp:True=C4 (cnd P g):=by kernel_rfl) (hb:Zg (stp P g)=some b:=by kernel_rfl):KG S P F g:=
 GU hS Fe (λc=>ht (itT c h)) (λc=>a (itF c h)) hp hb
def kR (hS:G6 S P){n:Nat}{rs:List ResultVar}{Q:ARes->List Obj->List Bool->Prop}{a:AV}{objs:List Obj}(b:Q (.ret a) objs (FH n []):=by exact⟨rfl,rfl,rfl⟩)
 (hp:True=C4 (cnd P g):=by kernel_rfl) (c:(Az2 (stp P g)).bind (λst=>SP P st rs [])=some (a,objs):=by kernel_rfl):KG S P (CF S P n rs Q) g:=
 Am4 hS Fe [] b hp c
def kC (hS:G6 S P){x:Option X}{f:X->Option R}(h:x.bind f=some r){fn:FuncId}{args:List AV}{objs:List Obj}{objs' : X->List Obj}{rr:X->AV}{ks:List Bool}
 (a:∀{y},x=some y->Me S fn args objs (rr y) (objs' y) ks) (hk:∀y,f y=some r->KG S P F (Az1 [] ks (rr y) (objs' y) (stp P g)))
 (hp:True=C4 (cnd P g):=by kernel_rfl) (b:Ac5 [] (stp P g)=some (fn,args,objs):=by kernel_rfl) (hn:∀y,Ac6 [] ks (objs' y).length (stp P g)=true:=by intro y;kernel_rfl):KG S P F g:=by
 obtain⟨y,e,h⟩:=A9 h;exact B4 hS [] Fe (a e) (hk y h) hp b (hn y)
end
end Go.AM
namespace Go.AM
inductive BT where
 |l (b:Bool)
 |n (b:Bool) (t f:BT)
def BT.ev:BT->Bool
 |.l b=>b
 |.n b t f=>if b then t.ev else f.ev
inductive BE where
 |a (b:Bool)
 |n (x y:BE)
 |o (x y:BE)
def BE.den:BE->Bool
 |.a b=>b
 |.n x y=>x.den&&y.den
 |.o x y=>x.den||y.den
def BE.tr:BE->BT->BT->BT
 |.a b,t,f=>.n b t f
 |.n x y,t,f=>x.tr (y.tr t f) f
 |.o x y,t,f=>x.tr t (y.tr t f)
def BE.top:BE->BT
 |.a b=>.l b
 |.n x y=>x.tr y.top (.l false)
 |.o x y=>x.tr (.l true) y.top
def BE.tr_ev:∀(e:BE) (t f:BT),(e.tr t f).ev=if e.den then t.ev else f.ev
 |.a b,t,f=>rfl
 |.n x y,t,f=>by simp only[tr,den,x.tr_ev,y.tr_ev];by_cases h:x.den=true<;>simp[h]
 |.o x y,t,f=>by simp only[tr,den,x.tr_ev,y.tr_ev];by_cases h:x.den=true<;>simp[h]
def BE.top_ev:∀e:BE,e.top.ev=e.den
 |.a b=>rfl
 |.n x y=>by simp only[top,den,x.tr_ev,y.top_ev,BT.ev];by_cases h:x.den=true<;>simp[h]
 |.o x y=>by simp only[top,den,x.tr_ev,y.top_ev,BT.ev];by_cases h:x.den=true<;>simp[h]
def keeps:Op->Bool
 |.move _ | .assign _ | .pick .. | .load .. | .nilCheck _ | .binOp .. | .unOp .. | .convert .. | .fieldAddr .. | .field .. | .indexAddr .. | .index .. | .extract ..=>true
 |.call { callee:=.builtin .len,.. } | .call { callee:=.builtin .min,.. } | .call { callee:=.builtin .max,.. }=>true
 |_=>false
def Ac9 {P:Program}{env:Env}{Mc:B9}{d:Nat}{o:Op}{out:Out}(hk:keeps o=true)(h:aop P env Mc d o=some out):out.Mc=Mc:=by unfold keeps at hk;split at hk<;>first|(cases hk;done)|(simp only[aop]at h;(repeat' split at h)<;>first|(cases h;rfl)|cases h)
def RF {o:Op}(hk:keeps o=true):Au8 o=true:=by unfold keeps at hk;split at hk<;>first|cases hk;done|rfl
def AB3:List Prop->List Prop
 |[]=>[]
 |c=>[C4 c]
def bgo (P:Program)(Mc:B9)(o:Oper)(last:Bool)(rec:List Prop->Env->Option (BT×List Prop))(c:List Prop)(env:Env)(runs:Bool):Option (BT×List Prop):=match runs with
 |true=>match keeps o.op,o.dst with
  |true,some d=>match aop P env Mc d o.op with
   |some ⟨p,v,_⟩=>match last with
    |true=>match NX v with
     |some b=>some (.l b,AB3 (p++c))
     |none=>none
    |false=>fA v λv=>Ah9 d v env λenv=>rec (p++c) env
   |none=>none
  |_,_=>none
 |false=>match last,o.dst with
  |false,some d=>Ah9 d CE env λenv=>rec c env
  |_,_=>none
def bev (P:Program)(all:List Oper)(Mc:B9):List Oper->List Prop->Env->Option (BT×List Prop)
 |[],_,_=>none
 |o::rest,c,env=>
  match o.guard with
  |none=>bgo P Mc o rest.isEmpty (λc env=>bev P all Mc rest c env) c env true
  |some (j,want)=>match get env (FR all j)with
   |.p (.v (.bool b))=>bgo P Mc o rest.isEmpty (λc env=>bev P all Mc rest c env) c env (b==want)
   |.p (.v (.tuple _))=>bgo P Mc o rest.isEmpty (λc env=>bev P all Mc rest c env) c env false
   |.p (.bb b)=>match Ah9 (FR all j) (.p (.v (.bool true))) env λenv=>bgo P Mc o rest.isEmpty (λc env=>bev P all Mc rest c env) [] env want,
    Ah9 (FR all j) (.p (.v (.bool false))) env λenv=>bgo P Mc o rest.isEmpty (λc env=>bev P all Mc rest c env) [] env !want with
    |some (t,ct),some (f,cf)=>some (.n b t f,AB3 c++(ct.map (λp=>b=true->p)++cf.map (λp=>b=false->p)))
    |_,_=>none
   |_=>none
def Ag4 (l:List Oper):List Nat:=l.filterMap (·.dst)
def AQ8 (ks:List Nat)(env:Env):Env:=env.filter λq=>!ks.contains q.1
def Zs (ks:List Nat)(env:Env)(x:Nat):get (AQ8 ks env) x=if x∈ks then .top else get env x:=by
 induction env with
 |nil=>simp[AQ8,get]
 |cons q r ih=>
  obtain⟨i,a⟩:=q;simp only[AQ8,Bx5];by_cases b:i∈ks
  .rw[Et (by simpa using b)]
   have:=ih
   simp only[AQ8]at this;rw[this];by_cases hx:x∈ks
   .simp[hx]
   have:i≠x:=λe=>hx (e ▸ b)
   simp[hx,get,this]
  rw[Ek (by simpa using b)];simp only[get]
  have:=ih
  simp only[AQ8]at this;rw[this];by_cases hx:i=x
  .subst hx;simp[b]
  simp[hx]
def Xr:List Oper->Option Nat
 |[]=>none
 |[o]=>o.dst
 |_::r=>Xr r
section
variable {S:U5}{P:Program}
def RG {c:List Prop}(h:∀p∈AB3 c,p):C4 c:=by
 cases c with
 |nil=>trivial
 |cons p r=>exact h _ (by simp[AB3])
def Ba2 (hS:G6 S P){all:List Oper}{Mc:B9}{Q:M0}{post:List Oper}{envF:Env}{V:Bool}{d:Nat}(hQ:∀s,S.up s (Jd S P all post Q)->Jd S P all post Q s)(hV:get envF d=.p (.bb V))
 (hw:Jd S P all post Q ⟨envF,Mc⟩) :
 ∀(L:List Oper) (c:List Prop) (env:Env) (T:BT) (C:List Prop),bev P all Mc L c env=some (T,C)->(∀p∈C,p)->T.ev=V->Xr L=some d ->
  (∀x,x≠d->Sk (get envF x) (get env x) \/ (x∈Ag4 L/\get envF x=.top))->(∀x∈Ag4 L,x≠d->get envF x=.top)->C4 c/\Jd S P all (L++post) Q ⟨env,Mc⟩:=by
 intro L
 induction L with
 |nil=>intro c env T C h;cases h
 |cons o rest ih=>
  intro c env T C h w i hd hl ht;simp only[bev,JU]at h;have key:∀(c:List Prop) (env:Env) (runs:Bool) (T:BT) (C:List Prop),bgo P Mc o rest.isEmpty (λc env=>bev P all Mc rest c env) c env runs=some (T,C)->(∀p∈C,p)->T.ev=V ->
   (∀x,x≠d->Sk (get envF x) (get env x) \/ (x∈Ag4 (o::rest)/\get envF x=.top)) ->
   C4 c/\(if runs then wOp S P o (Jd S P all (rest++post) Q) Q ⟨env,Mc⟩else Jd S P all (rest++post) Q (put ⟨env,Mc⟩ o.dst CE)):=by
   intro c env runs T C h w i hl;have l:rest.isEmpty=false->Xr rest=some d:=by
    intro hr;cases rest with
    |nil=>cases hr
    |cons a r=>simpa[Xr]using hd
   have a0:∀{d'},o.dst=some d' -> Ag4 (o::rest)=d' :: Ag4 rest:=λg=>by simp[Ag4,g]
   have m:∀d' (v:AV),o.dst=some d' -> ∀x,x≠d->Sk (get envF x) (get (ins d' v env) x) \/ (x∈Ag4 rest/\get envF x=.top):=by
    intro d' v g x hx;rw[EB];by_cases n:d' = x
    .subst n;exact .inl (.inl (ht _ (by rw[a0 g];exact Bp4 ..) hx))
    rw[Et n];rcases hl x hx with h|⟨h1,h2⟩
    .exact .inl h
    exact .inl (.inl h2)
   cases runs with
   |true=>
    simp only[bgo,ZW,JU,Ew]at h⊢;split at h
    .rename_i d' hk g;split at h
     .rename_i p v regs' ha;have hr:regs' = Mc:=Ac9 hk ha;subst hr;have ha' : aop P env regs' (o.dst.getD 0) o.op=some ⟨p,v,regs'⟩:=by rw[g];exact ha
      split at h
      .rename_i u;split at h
       .rename_i b hb;cases h;have a1:=RG w;obtain⟨hc,hp⟩:=(Df _ _).1 a1;refine⟨hc,NH (RF hk) ha' hp ?_⟩;obtain rfl:rest=[]:=Bx4.1 u;simp only[Xr]at hd;have e:d' = d:=by rw[g]at hd;exact Bl3 hd
        subst e;refine hQ _ (hS.less _ ⟨envF,regs'⟩ _ (λx=>?_) (λ_=>by rw[g];rfl) (by simpa using hw));rw[g];show Sk (get envF x) (get (ins d' v env) x);rw[EB];by_cases hx:d' = x
        .subst hx;rw[Ek rfl,hV];have i:b=V:=i;subst i;unfold NX at hb;split at hb
         .cases hb;exact .inr (.inr ⟨_,rfl,rfl⟩)
         .cases hb;exact .inr (.inl rfl)
         cases hb
        rw[Et hx];rcases hl x (λe=>hx e.symm)with h|⟨_,h⟩
        .exact h
        exact .inl h
       cases h
      rename_i u;have hn:∀x,x≠d->Sk (get envF x) (get (ins d' v env) x) \/ (x∈Ag4 rest/\get envF x=.top):=m d' v g;obtain⟨a1,a2⟩:=ih _ _ _ _ h w i (l (by simpa using u)) hn (λx hx=>ht x (by rw[a0 g];exact Bi1 _ hx));obtain⟨hc,hp⟩:=(Df _ _).1 a1;exact⟨hc,NH (RF hk) ha' hp (by rw[g];exact a2)⟩
     cases h
    cases h
   |false=>
    simp only[bgo,JU,Bh3,Ex]at h⊢;split at h
    .rename_i d' u g;have hn:∀x,x≠d->Sk (get envF x) (get (ins d' CE env) x) \/ (x∈Ag4 rest/\get envF x=.top):=m d' _ g;obtain⟨hc,a2⟩:=ih _ _ _ _ h w i (l (by simpa using u)) hn (λx hx=>ht x (by rw[a0 g];exact Bi1 _ hx));exact⟨hc,by rw[g];exact a2⟩
    cases h
  simp only[Bj7,Jd];cases hg:o.guard with
  |none=>simp only[hg]at h;obtain⟨hc,hk⟩:=key _ _ _ _ _ h w i hl;exact⟨hc,hS.refl _ _ (by simpa[hg]using hk)⟩
  |some q=>
   obtain⟨j,want⟩:=q;simp only[hg]at h;split at h
   .rename_i b hb;obtain⟨hc,hk⟩:=key _ _ _ _ _ h w i hl;refine⟨hc,hS.refl _ _ ⟨some b,by rw[hb];rfl,?_⟩⟩;have e:(some b=some want)↔(b==want)=true:=by simp
    by_cases z:(b==want)=true
    .rw[Ek (e.2 z)];simpa[z]using hk
    rw[Et (λx=>z (e.1 x))];simpa[z]using hk
   .rename_i tt hb;obtain⟨hc,hk⟩:=key _ _ _ _ _ h w i hl;refine⟨hc,hS.refl _ _ ⟨none,by rw[hb];rfl,?_⟩⟩;rw[Et (by simp)];simpa using hk
   .rename_i b hb;split at h
    .rename_i t ct f cf h1 h2;cases h;have hc:C4 c:=RG λp hp=>w p (Bk0 _ hp);refine⟨hc,hS.bool _ _ b _ hb ?_⟩;have hl2:∀x,x≠d->Sk (get envF x) (get (ins (FR all j) (.p (.v (.bool b))) env) x) \/ (x∈Ag4 (o::rest)/\get envF x=.top):=by
      intro x hx;rw[EB];by_cases n:FR all j=x
      .subst n;rw[Ek rfl];rcases hl _ hx with h|h
       .rw[hb]at h;rcases h with h|h|⟨y,h1,h2⟩
        .exact .inl (.inl h)
        .exact .inl (.inr (.inr ⟨b,h,rfl⟩))
        cases h2
       exact .inr h
      rw[Et n];exact hl x hx
     cases b with
     |true=>
      obtain⟨_,hk⟩:=key _ _ _ _ _ h1 (λp hp=>w (true=true->p) (Bj0 _ (Bk0 _ (Bl0.2 ⟨p,hp,rfl⟩))) rfl) i hl2;refine⟨some true,by show yv (get (ins _ _ _) _)=_;rw[EB,Ek rfl];rfl,?_⟩;cases want with
      |true=>simpa using hk
      |false=>simpa using hk
     |false=>
      obtain⟨_,hk⟩:=key _ _ _ _ _ h2 (λp hp=>w (false=false->p) (Bj0 _ (Bj0 _ (Bl0.2 ⟨p,hp,rfl⟩))) rfl) i hl2;refine⟨some false,by show yv (get (ins _ _ _) _)=_;rw[EB,Ek rfl];rfl,?_⟩;cases want with
      |true=>simpa using hk
      |false=>simpa using hk
    cases h
   cases h
end
def AQ9 (P:Program)(m:Nat):Cfg->Option (BT×List Prop)
 |.ops all rest K st=>bev P all st.Mc (rest.take m) [] st.env
 |_=>none
def Ba3 (m:Nat)(b:Bool):Cfg->Cfg
 |.ops all rest K st=>match Xr (rest.take m)with
  |some d=>mkO (ins d (.p (.bb b)) (AQ8 (Ag4 (rest.take m)) st.env)) st.Mc λenv Mc=>.ops all (rest.drop m) K ⟨env,Mc⟩
  |none=>.ops all rest K st
 |g=>g
def Ba4 (m:Nat):Cfg->Bool
 |.ops all rest K st=>(Xr (rest.take m)).isSome
 |_=>false
def Ba5:List Prop->Prop
 |[]=>True
 |p::r=>r.foldl And p
def AB4 {l:List Prop}(h:Ba5 l):∀p∈l,p:=by
 have:∀(r:List Prop) (p:Prop),r.foldl And p->p/\∀q∈r,q:=by
  intro r
  induction r with
  |nil=>intro p h;exact⟨h,λq b=>by cases b⟩
  |cons a r ih=>intro p h;obtain⟨⟨h1,c⟩,d⟩:=ih _ h;exact⟨h1,λq b=>by rcases Bi4.1 b with rfl|b;exact c;exact d q b⟩
 cases l with
 |nil=>intro p hp;cases hp
 |cons a r=>obtain⟨h1,c⟩:=this _ _ h;exact λq b=>by rcases Bi4.1 b with rfl|b;exact h1;exact c q b
section
variable {S:U5}{P:Program}{F:M0}{g:Cfg}{pr pc:Prop}
def kB (hS:G6 S P)(n:∀s,S.up s (F .normal)->F .normal s)(hc:pr)(c:pc)(m:Nat)(E:BE)(hk:KG S P F (Ba3 m E.den (stp P g)))
 (hp:pr=C4 (cnd P g):=by kernel_rfl) (a:(AQ9 P m (stp P g)).map (·.1)=some E.top:=by kernel_rfl) (b:(AQ9 P m (stp P g)).map (λx=>Ba5 x.2)=some pc:=by kernel_rfl) (f:Ba4 m (stp P g)=true:=by kernel_rfl):KG S P F g:=by
 refine⟨FE hS hc ?_ hp⟩;have hk:=hk.out;generalize stp P g=g' at hk a b f;unfold AQ9 at a b;split at a
 .rename_i all rest K st;simp only[Ba4,Bi2]at f;obtain⟨d,j⟩:=f;simp only[Ba3,j,Gq]at hk;cases hb:bev P all st.Mc (rest.take m) [] st.env with
  |none=>rw[hb]at a;cases a
  |some q=>
   obtain⟨T,C⟩:=q;simp only[hb]at a b;simp only[Bh8,Bg8]at a b;subst a
   have:=(Ba2 hS (Q:=kp S P K F) (post:=rest.drop m) (envF:=ins d (.p (.bb E.den)) (AQ8 (Ag4 (rest.take m)) st.env)) (V:=E.den) (d:=d) ?_ (by rw[EB,Ek rfl]) hk (rest.take m) [] st.env E.top C hb
    (AB4 (b ▸ c)) E.top_ev j (λx hx=>?_) (λx hx i=>?_)).2
   .rwa [Bs4]at this
   .intro s h;cases l:rest.drop m with
    |nil=>rw[l]at h;exact Ay7 hS n K s h
    |cons o r=>rw[l]at h;exact hS.trans _ _ h
   .rw[EB,Et (λe=>hx e.symm),Zs];split
    .exact .inl (.inl rfl)
    exact .inl (.inr (.inl rfl))
   rw[EB,Et (λe=>i e.symm),Zs,Ek hx]
 cases a
end
end Go.AM
namespace Go.AM
def famC (op:Sj):Cfg->List Prop
 |.ops _ _ _ st=>match V6 op st with
  |some (c,_)=>c
  |none=>[False]
 |_=>[False]
def famG (op:Sj):Cfg->Cfg
 |.ops all rest K st=>match V6 op st with
  |some (_,st)=>mkO st.env st.Mc λenv Mc=>.ops all rest K ⟨env,Mc⟩
  |none=>.ops all rest K st
 |g=>g
section
variable {S:U5}{P:Program}{F:M0}{g:Cfg}{pr pc:Prop}
def Fa (hS:G6 S P)(hc:pr)(d:Nat)(op:Sj)(b:pc)(hk:KG S P F (famG op (Hw P d g)))(hp:pr=C4 (AP5 P d g):=by kernel_rfl)(f:Kf (Hw P d g)=true:=by kernel_rfl)
 (a:pc=C4 (famC op (Hw P d g)):=by kernel_rfl):KG S P F g:=by
 refine⟨(GK (u:=some d) (F:=F) hS 400 [] g (by subst hp;exact hc)).2 ?_⟩;have hk:=hk.out;show G S P F (Hw P d g);generalize Hw P d g=g' at f a hk;unfold Kf at f;split at f
 .rename_i all o rest K st;simp only[famC]at a;simp only[famG]at hk;cases i:V6 op st with
  |none=>rw[i]at a;subst a;exact b.elim
  |some q=>obtain⟨c,st'⟩:=q;simp only[i,Gq]at hk a;subst a;exact WN hS (hS.fam op _ _ c _ i b hk)
 cases f
end
def Ba6 (j k n:Nat)(e:TypeId)(g:Nat->List PV)(vw:Bool):Cfg->Cfg
 |.ops all rest K st=>mkO st.env (ins j (.vec e k n g vw) st.Mc) λenv Mc=>.ops all rest K ⟨env,Mc⟩
 |g=>g
def Am8 {S:U5}{P:Program}{F:M0}{g:Cfg}{pr:Prop}(hS:G6 S P)(hc:pr)(d j:Nat){k n:Nat}{e:TypeId}{vw:Bool}(f q:Nat->List PV)(c:∀i,i<n->leC (f i) (q i))(hk:KG S P F (Ba6 j k n e q vw (Hw P d g)))
 (hp:pr=C4 (AP5 P d g):=by kernel_rfl) (a:Kf (Hw P d g)=true:=by kernel_rfl) (b:A1 (Hw P d g).st.Mc j=some (.vec e k n f vw):=by kernel_rfl):KG S P F g:=by
 refine⟨(GK (u:=some d) (F:=F) hS 400 [] g (by subst hp;exact hc)).2 ?_⟩;have hk:=hk.out;show G S P F (Hw P d g);generalize Hw P d g=g1 at hk a b;unfold Kf at a;split at a
 .simp only[Ba6,Gq]at hk;exact WN hS (hS.vecq _ j n k e f q vw _ b c hk)
 cases a
def leCn {k:Nat}{g:Nat->List PV}:leC [.v (.slice none 0 0)] [.sl false k 0 g]:=FB Av0 AM5
def leCr (l:List PV):leC l l:=⟨rfl,λ_=>.p (.inl rfl)⟩
end Go.AM
namespace Go.AM
def Ba7 (op:Sj):Cfg->List Prop
 |.code _ _ st=>match V6 op st with
  |some (c,_)=>c
  |none=>[False]
 |_=>[False]
def Ba8 (op:Sj):Cfg->Cfg
 |.code c K st=>match V6 op st with
  |some (_,st)=>mkO st.env st.Mc λenv Mc=>.code c K ⟨env,Mc⟩
  |none=>.code c K st
 |g=>g
def Zt {S:U5}{P:Program}{F:M0}{g:Cfg}{pr pc:Prop}(hS:G6 S P)(hc:pr)(op:Sj)(d:pc)(hk:KG S P F (Ba8 op (stp P g)))(hp:pr=C4 (cnd P g):=by kernel_rfl)(i:Dj (stp P g)=true:=by kernel_rfl)(f:P.follows .mixedOrders=true:=by kernel_rfl)
 (b:HT (Id (stp P g)).all=true:=by kernel_rfl) (a:pc=C4 (Ba7 op (stp P g)):=by kernel_rfl):KG S P F g:=by
 refine⟨FE hS hc ?_ hp⟩;generalize stp P g=g1 at hk i b a;unfold Dj at i;split at i
 .rename_i id ops K st;have hk:=hk.out;simp only[Ba8]at hk;simp only[Ba7]at a;cases j:V6 op st with
  |none=>rw[j]at a;subst a;exact d.elim
  |some q=>
   obtain⟨c,st'⟩:=q;simp only[j,Gq]at hk a;subst a;show awp S P (.region id ops true) (kp S P K F) st;simp only[awp,Ew];have l : WL S P ops.toList (kp S P K F) st':=by
    have:awp S P (.region id ops true) (kp S P K F) st':=hk
    simpa only[awp,Ew]using this
   exact Zc hS f b (hS.fam op _ _ c _ j d l)
 cases i
def Vm {P:Program}{f:FuncId}{vw:Bool}{args:List PV}{e:TypeId}{k n:Nat}{g:Nat->List PV}(t:∀as w,(callFunc f as).run P w=.ok (.enter f as) w)(hk:∀i,i<n->(g i).length=k)
 (h:∀(w:World) (Pi:Nat->Nat->Prop) (vs:Array Value),(∀b off,Pi b off->b<w.heap.size)->vs.size=args.length->(∀i,i<args.length->Nn w Pi (vs.getD i undef) (args.getD i default)) ->
  Calls P f vs w λx w'=>∃v,x=.returned v/\RowKit.Below w.heap.size w w' /\ ((v=.slice none 0 0/\n=0) \/ ∃b cap c,v=.slice (some ⟨b,0,none⟩) n cap/\w.heap.size<=b/\w'.heap[b]? = some (.cells c e (0,0))/\n<=cap/\c.size=cap*k/\cap<=maxLen /\
   ∀i j,i<n->j<k->Nn w Pi (c.getD (i*k+j) undef) ((g i).getD j default)/\(c.getD (i*k+j) undef).oneCell' = true)):Me (Ge P) f (args.map .p) [] (.vec 0) [.vec e k n g vw] []:=by
 intro 𝒢 C w vs rho hG hs hsz;have y:∀j,A1 (Md []) j=none:=λj=>by simp[Md,Md.go,A1]
 have h0:=h w (Prv C.X (A1 (Md [])) rho) vs (λb off hp=>by
  rcases hp with hp|⟨j,o,a,_⟩
  .exact hs.hp.bound b off hp
  .simp[y]at a) (by simpa using hsz) (λi s=>by
  have:=hs.env i
  rw[AP]at this;have e:(args.map AV.p).getD i .top=.p (args.getD i default):=by simp[s]
  rw[e]at this;exact this.toP)
 refine⟨_,_,t _ _,callsIn_wide.2 (h0.mono ?_)⟩;rintro x w' ⟨v,rfl,hb,hv⟩;have hR:∀j o,A1 (Md [Obj.vec e k n g vw]) j=some o->j=0/\o=.vec e k n g vw:=λj o a=>by
  simp only[Md,Md.go,A1]at a;split at a
  .rename_i hj0;cases a;exact⟨hj0.symm,rfl⟩
  cases a
 have z:A1 (Md [Obj.vec e k n g vw]) 0=some (.vec e k n g vw):=rfl
 let rho' : Nat->Value:=λj=>if j=0 then v else rho j
 have hr0:rho' 0=v:=rfl;have l:∀b,E7 v (.vec e k n g vw) b->w.heap.size<=b/\b<w'.heap.size:=by
  intro b a0;rcases hv with⟨rfl,_⟩ | ⟨b',cap,c,rfl,h1,h2,_⟩
  .cases a0
  cases a0;exact⟨h1,(Bh1.1 h2).1⟩
 have a1:∀b o,Prv C.X (A1 (Md [Obj.vec e k n g vw])) rho' b o->C.X b o \/ w.heap.size<=b:=by
  rintro b o (hX|⟨j,o',a,d,_⟩)
  .exact .inl hX
  obtain⟨rfl,rfl⟩:=hR j o' a;exact .inr (l b d).1
 have m:Mf w (Prv C.X (A1 (Md [])) rho) w' (Prv C.X (A1 (Md [Obj.vec e k n g vw])) rho'):=λb o u hp hc=>by
  have q:=Bn1 w ⟨b,o,none⟩ hc;refine⟨by rw[<- hc];exact Bk5 (hb.block b q),λhpp=>?_⟩;rcases a1 b o hpp with hX|hge
  .exact hp (.inl hX)
  have:b<w.heap.size:=q
  omega
 refine⟨C,.ret (.vec 0),[.vec e k n g vw],[],rho',hG,⟨rfl,rfl,rfl⟩,?_,⟨v,rfl,?_⟩,λi s=>by simp at s⟩
 .refine⟨⟨λj o a=>?_,λi j oi oj b s a _ _=>by rw[(hR i oi s).1,(hR j oj a).1],λj o b off a d hX=>?_,λb off hp=>Bj1 (hs.hp.bound b off hp) hb.size⟩,hs.ext.trans ⟨hb.os,hb.output⟩,Bl6 hs.size hb.size,λb q hE=>?_,hs.keep.trans m,λb d=>?_,λj r b a=>by cases (hR j _ a).2⟩
  .obtain⟨rfl,rfl⟩:=hR j o a;rw[hr0];rcases hv with hn|⟨b,cap,c,rfl,h1,h2,h3,h4,h5,h6⟩
   .exact .inl hn
   exact .inr ⟨b,cap,c,rfl,h2,h3,h4,h5,hk,λi j s a=>⟨(h6 i j s a).1.keeps m,(h6 i j s a).2⟩⟩
  .obtain⟨rfl,rfl⟩:=hR j o a;have h1:=(l b d).1;have h2:=hs.hp.bound b off hX;omega
  .rw[hb.block b (Bj1 q hs.size)];exact hs.same b q hE
  obtain⟨j,o,a,d⟩:=d;obtain⟨rfl,rfl⟩:=hR j o a;exact .inr (Bl6 hs.size (l b d).1)
 rcases hv with⟨rfl,_⟩ | ⟨b,cap,c,rfl,_⟩
 .exact .vec 0 none 0 0 (by simp[Lv,z]) rfl
 exact .vec 0 _ n cap (by simp[Lv,z]) rfl
end Go.AM
namespace Go.AM
open Go.RowKit Go.ChangeShapes
end Go.AM
namespace Go.AM
section
variable {S:U5}{P:Program}{F:M0}{K:List It}{st:St}{g:Cfg}{pr:Prop}
def AR0 (p:Option PV)(r:ARes):Prop:=match p with
 |none=>∃a,r=.ret a
 |some x=>r=.panic x
def ON (S:U5)(f:FuncId)(first caps:List AV)(objs:List Obj)(L:List (List PV))(p:Option PV):Prop:= S.F f (first ++ .yf objs.length::caps) (objs++[.yld L true]) λr objs' ks=>∃b,objs'[objs.length]? = some (.yld [] b)/\ks[objs.length]? = some true/\(b=true->AR0 p r)/\(b=false->∃a,r=.ret a)
def endP:Option PV->Jc
 |none=>.normal
 |some x=>.panic x
def AB5 (hS:G6 S P){g:Operand}{ps:Array Tmp}{asg body:Code}{f:FuncId}{first caps as bs:List AV}{objs:List Obj}(ids ts:List Nat)(gh:Nat)(L:List (List PV)){p:Option PV}{X:Type}(s:X->St)(J:List (List PV)->X->Prop)(x0:X)(idl:List (Nat×Nat))
 (hp:FQ st.env g=some (f,first,caps)) (n:∃fn,P.funcs[f]? = some fn/\fn.body.isSome=true/\(fn.name == "runtime.NumGoroutine")=false) (q:M8 ids st.Mc ids=some objs) (t:FD objs=true) (hd:H8 ids=true) (u:Eh ids first=some as) (v:Eh ids caps=some bs) (w:objs.length=ids.length)
 (z:gh<1000) (a0:A1 st.Mc gh=none) (a1:ids.length<1000) (a2:H8 ts=true) (d:∀ys∈L,AN ys=some ps.size)
 (hF:ON S f as bs objs L p) (hle:Le idl ⟨Y6 ts (ts.map (get st.env)),K6 ids (ids.map λ_=>false) st.Mc⟩ (s x0)) (h0:J L x0) (hk:∀x,(s x).env.map (·.1)=ts) (hn:∀x,A1 (s x).Mc gh=none)
 (c:∀ys rest x,J (ys::rest) x->G S P (CG S P body gh ts (Ay5 s J rest) (kp S P K F)) (.code asg [] ⟨Nj ps.toList ys (s x).env,ins gh (.ghost ((s x).env.map (·.2))) (s x).Mc⟩))
 (i:∀x,J [] x->G S P F (.pop (endP p) K (s x))):G S P F (.code (.rangeFunc g ps asg body) K st):=by
 have j:∀{l:List Nat},H8 l=true->l.Nodup:=by
  intro l
  induction l with
  |nil=>intro _;exact Bo9
  |cons a r ih=>intro h;simp only[H8,Bh0,Bi7,Bk1,decide_eq_false_iff_not]at h;exact Bm1.2 ⟨h.1,ih h.2⟩
 refine⟨f,first,caps,as,bs,objs,ids,ts,gh,none,L,Ay5 s J,λb r=>b=true->AR0 p r,hp,n,t,hd,u,v,q,z,a0,a1,j a2,d,hS.le idl _ _ _ hle ⟨hk x0,hn x0,x0,rfl,h0⟩,?_,?_,?_⟩
 .rintro ys rest _ _ _ ⟨x,rfl,hJ⟩;have h:=c ys rest x hJ;have e:CG S P body gh ts (Ay5 s J rest) (kp S P K F)=λe s'=>match e with
   |.normal=>S.up s' λs'=>awp S P body (GJ S gh ts (Ay5 s J rest) (kp S P K F)) s'
   |_=>False:=by funext e s';cases e<;>rfl
  rw[e]at h;exact h
 .rintro _ r _ _ ⟨x,rfl,hJ⟩ hf;have h1:=hf rfl;have m:=i x hJ;cases p with
  |none=>obtain⟨a,rfl⟩:=h1;exact m
  |some y=>cases h1;exact m
 rw[<- w];refine hS.monoF _ _ _ _ _ ?_ hF;rintro r o ks ⟨b,h1,m,h3,h4⟩;exact⟨b,h1,m,h3,h4⟩
def AB6 (hS:G6 S P){g:Operand}{ps:Array Tmp}{asg body:Code}{f:FuncId}{first caps as bs:List AV}{objs:List Obj}{R T A:Type}{enc:T->List PV}{L:List T}{p:Option PV}{mb:(A->Option R)->T->A->Option R}{mk:A->Option R}{a0:A}{r:R}
 (ids ts:List Nat) (gh:Nat) (s:A->St) (idl:List (Nat×Nat)) (h:T2 L mb mk a0=some r) (y:ON S f as bs objs (L.map enc) p)
 (hp:FQ st.env g=some (f,first,caps)) (j:∃fn,P.funcs[f]? = some fn/\fn.body.isSome=true/\(fn.name == "runtime.NumGoroutine")=false) (l:M8 ids st.Mc ids=some objs) (m:FD objs=true) (z:H8 ids=true) (n:Eh ids first=some as) (o:Eh ids caps=some bs) (q:objs.length=ids.length)
 (u:Nat.blt gh 1000=true) (v:A1 st.Mc gh=none) (w:Nat.blt ids.length 1000=true) (x:H8 ts=true) (d:∀t:T,AN (enc t)=some ps.size)
 (hle:Le idl ⟨Y6 ts (ts.map (get st.env)),K6 ids (ids.map λ_=>false) st.Mc⟩ (s a0)) (hk:∀a,(s a).env.map (·.1)=ts) (hn:∀a,A1 (s a).Mc gh=none)
 (b:∀(t:T) (next:St->Prop) (c:A->Option R) (a:A),(∀(st st1:St) (cs:List AV) (idl:List (Nat×Nat)) (a:A),Le idl st st1->A1 st1.Mc gh=some (.ghost cs)->cs.length=ts.length->A1 (del gh st1.Mc) gh=none->(⟨Y6 ts cs,del gh st1.Mc⟩:St)=s a->c a=some r->G S P (GJ S gh ts next (kp S P K F)) (.pop .normal [] st)) ->
  mb c t a=some r->G S P (CG S P body gh ts next (kp S P K F)) (.code asg [] ⟨Nj ps.toList (enc t) (s a).env,ins gh (.ghost ((s a).env.map (·.2))) (s a).Mc⟩))
 (i:∀a,mk a=some r->G S P F (.pop (endP p) K (s a))):G S P F (.code (.rangeFunc g ps asg body) K st):=by
 refine AB5 hS ids ts gh (L.map enc) s (λrest a=>∃L',rest=L'.map enc/\T2 L' mb mk a=some r) a0 idl hp j l m z n o q (by simpa[Br1]using u) v (by simpa[Br1]using w) x (λys hy=>?_) y hle ⟨L,rfl,h⟩ hk hn ?_ ?_
 .obtain⟨t,_,rfl⟩:=Bl0.1 hy;exact d t
 .rintro ys rest a ⟨L',hL,hx⟩;cases L' with
  |nil=>cases hL
  |cons t L'=>simp only[Bi8,Bl9]at hL;obtain⟨rfl,rfl⟩:=hL;refine b t _ (T2 L' mb mk) a (λst st1 cs idl a hle h1 h2 h3 h4 h5=>?_) hx;exact Xk hS st1 a idl hle h1 h2 h3 h4 ⟨L',rfl,h5⟩
 rintro a ⟨L',hL,hx⟩;cases L' with
 |nil=>exact i a hx
 |cons t L'=>cases hL
def Zu (hS:G6 S P)(hc:pr){f:FuncId}{as bs:List AV}{objs:List Obj}{R T A:Type}{enc:T->List PV}{L:List T}{p:Option PV}{mb:(A->Option R)->T->A->Option R}{mk:A->Option R}{a0:A}{r:R}
 (ids ts:List Nat) (gh:Nat) (s:A->St) {idl:List (Nat×Nat)}(h:T2 L mb mk a0=some r) (x:ON S f as bs objs (L.map enc) p)
 (i:∀t:T,AN (enc t)=some (Jp (stp P g)).size) (hk:∀a,(s a).env.map (·.1)=ts) (hn:∀a,A1 (s a).Mc gh=none) (m:∀a,(⟨Y6 ts ((s a).env.map (·.2)),del gh (ins gh (.ghost ((s a).env.map (·.2))) (s a).Mc)⟩:St)=s a)
 (c:∀(t:T) (next:St->Prop) (d:A->Option R) (a:A),
  (∀(g' : Cfg) (ids:List (Nat×Nat)) (pr:Prop) (a:A),pr->d a=some r->(hp:pr=C4 (cnd P g'):=by kernel_rfl)->(b:stp P g' = .pop .normal [] (stp P g').st:=by kernel_rfl)->(hle:KLe ids (stp P g').st (rst gh (s a)):=by exact kl)->KG S P (GJ S gh ts next (kp S P (stp P g).k F)) g') ->
  mb d t a=some r->KG S P (CG S P (Vh (stp P g)) gh ts next (kp S P (stp P g).k F)) (.code (Vg (stp P g)) [] (Vj gh (Jp (stp P g)) (enc t) (s a))))
 (j:∀a,mk a=some r->KG S P F (.pop (endP p) (stp P g).k (s a)))
 (hp:pr=C4 (cnd P g):=by kernel_rfl) (b:Vf P ids (stp P g)=some (f,as,bs,objs):=by kernel_rfl) (o:Nat.blt gh 1000=true:=by kernel_rfl) (n:A1 (stp P g).st.Mc gh=none:=by kernel_rfl) (q:H8 ts=true:=by kernel_rfl)
 (hle:KLe idl (Vi ids ts (stp P g)) (s a0):=by exact kl):KG S P F g:=by
 refine⟨FE hS hc ?_ hp⟩;have u:=(IX b).2;replace b:=(IX b).1;generalize stp P g=g1 at i c j b n hle;unfold OK at b;split at b
 .rename_i op ps asg body K st;split at b
  .rename_i f' first caps v
   split at b
   .rename_i objs' as' bs' y z h4;split at b
    .rename_i w;simp only[Bg8,Bh4]at b;obtain⟨rfl,rfl,rfl,rfl⟩:=b;simp only[Bh0,Bi7,beq_iff_eq]at w;obtain⟨⟨⟨e3,e4⟩,e5⟩,e6⟩:=w;refine AB6 hS ids ts gh s idl h x v u y e3 e4 z h4 e5 o n e6 q i hle.out hk hn (λt next d a hb hm=>?_) (λa hm=>(j a hm).out);refine (c t next d a (λg' ids' pr a hc l hp b hle=>⟨FE hS hc ?_ hp⟩) hm).out;rw[b];have hl:((s a).env.map (·.2)).length=ts.length:=by rw[<- hk a];simp
     refine hb _ (rst gh (s a)) ((s a).env.map λp=>p.2) ids' a hle.out (Ie gh (s a)) hl ?_ (m a) l
     have:=congrArg St.Mc (m a)
     simp only at this;show A1 (del gh (ins gh _ _)) gh=none;rw[this];exact hn a
    cases b
   cases b
  cases b
 cases b
def Am9 (hS:G6 S P){f:FuncId}{fn:Func}{first caps:List AV}{objs:List Obj}{L:List (List PV)}{p:Option PV}(i:P.funcs[f]? = some fn)
 (h:KG S P (CF S P (objs++[Obj.yld L true]).length fn.results.toList λr objs' ks=>∃b,objs'[objs.length]? = some (.yld [] b)/\ks[objs.length]? = some true/\(b=true->AR0 p r)/\(b=false->∃a,r=.ret a)) (.code (fn.body.getD .skip) [] { env:=Pj (first ++ .yf objs.length::caps),Mc:=Md (objs++[Obj.yld L true]) }))
 (hc:fn.body.isSome=true:=by kernel_rfl) (hn:Nat.ble (first ++ .yf objs.length::caps).length fn.ntmps=true:=by kernel_rfl) (j:Nat.blt (objs++[Obj.yld L true]).length 1000=true:=by kernel_rfl)
 (d:BC fn.ntmps (fn.body.getD .skip)=true:=by kernel_rfl) (g:(fn.name == "runtime.NumGoroutine")=false:=by kernel_rfl):ON S f first caps objs L p:=by
 obtain⟨code,c⟩:=Bi2.1 hc;rw[c,Bh6]at d h;exact LY hS i c (Bn0 hn) (by simpa[Br1]using j) rfl d g h.out
def AB7 (hS:G6 S P){f:FuncId}{fn:Func}{args:List AV}{objs:List Obj}{Q:ARes->List Obj->List Bool->Prop}(d:P.funcs[f]? = some fn)
 (h:KG S P (CF S P objs.length fn.results.toList Q) (.code (fn.body.getD .skip) [] { env:=Pj args,Mc:=Md objs }))
 (hc:fn.body.isSome=true:=by kernel_rfl) (hn:Nat.ble args.length fn.ntmps=true:=by kernel_rfl) (g:Nat.blt objs.length 1000=true:=by kernel_rfl)
 (b:BC fn.ntmps (fn.body.getD .skip)=true:=by kernel_rfl) (c:(fn.name == "runtime.NumGoroutine")=false:=by kernel_rfl):S.F f args objs Q:=by
 obtain⟨code,a⟩:=Bi2.1 hc;rw[a,Bh6]at b h;exact LY hS d a (Bn0 hn) (by simpa[Br1]using g) rfl b c h.out
def panE:Cfg->Option PV
 |.ops all (o::_) _ st=>match BD all st.env o,o.op with
  |some true,.panic x=>match aev st.env x with
   |.p (.iface t y)=>some (.iface t y)
   |_=>none
  |_,_=>none
 |_=>none
def panC (x:PV):Cfg->Cfg
 |.ops _ _ K st=>.pop (.panic x) K st
 |g=>g
def AR1 (hS:G6 S P)(hc:pr){x:PV}(hk:KG S P F (panC x (stp P g)))(hp:pr=C4 (cnd P g):=by kernel_rfl)(a:panE (stp P g)=some x:=by kernel_rfl):KG S P F g:=by
 refine⟨FE hS hc ?_ hp⟩;have hk:=hk.out;generalize stp P g=g1 at hk a;unfold panE at a;split at a
 .rename_i all o rest K st;split at a
  .rename_i y b c;split at a
   .rename_i t z hx;cases a;exact AP2 hS b c hx hk
   cases a
  cases a
 cases a
def AB8:Cfg->Option PV
 |.pop (.panic x) [] _=>some x
 |_=>none
def AJ4 (hS:G6 S P)(hc:pr){n:Nat}{rs:List ResultVar}{Q:ARes->List Obj->List Bool->Prop}{x:PV}{objs:List Obj}(outs:List Nat)(c:Q (.panic x) objs (FH n outs))(hp:pr=C4 (cnd P g):=by kernel_rfl)
 (a:AB8 (stp P g)=some x:=by kernel_rfl) (d:H8 outs=true:=by kernel_rfl) (b:M8 outs (stp P g).st.Mc outs=some objs:=by kernel_rfl):KG S P (CF S P n rs Q) g:=by
 refine⟨FE hS hc ?_ hp⟩;generalize stp P g=g1 at a b;unfold AB8 at a;split at a
 .cases a;exact⟨outs,objs,d,b,c⟩
 cases a
def AR2 (hS:G6 S P){all rest:List Oper}{o:Oper}{c:Call}{f:Operand}{as:List AV}{Mc:B9}{fn:FuncId}{as' args:List AV}{objs objs' : List Obj}{ks:List Bool}{x:PV}(ids:List Nat)
 (d:BD all st.env o=some true) (g:o.op=.call c) (b:c.callee=.value f) (ha:HR st.Mc (c.args.toList.map (aev st.env))=some (as,Mc))
 (hw:Rc st.env f as=some (fn,as')) (i:Eh ids as' = some args) (a:M8 ids Mc ids=some objs) (j:S.F fn args objs λres o k=>res=.panic x/\o=objs' /\ k=ks)
 (l:H8 ids=true) (hy:FD objs=true) (hn:X3 Mc ids ks (o.dst.getD 0) objs'.length=true)
 (hk:G S P F (.pop (.panic x) K { env:=st.env,Mc:=back (H2 (o.dst.getD 0) ids ks objs'.length) (H2 (o.dst.getD 0) ids ks objs'.length) objs' (K6 ids ks Mc) })) :
 G S P F (.ops all (o::rest) K st):=by
 refine BF hS d ?_;unfold wOp;obtain⟨callee,cargs,types⟩:=c;simp only at b ha;subst b;rw[g];refine .inl ⟨as,Mc,_,_,.inl ha,hw,ids,args,objs,l,i,a,hy,hS.monoF _ _ _ _ _ ?_ j⟩;rintro _ _ _ ⟨rfl,rfl,rfl⟩;exact⟨hn,hk⟩
def AJ5 (ids:List Nat)(ks:List Bool)(x:PV)(objs' : List Obj):Cfg->Cfg
 |.ops all (o::rest) K st=>match o.op with
  |.call c=>match HR st.Mc (c.args.toList.map (aev st.env))with
   |some (_,Mc)=>mkO st.env (back (H2 (o.dst.getD 0) ids ks objs'.length) (H2 (o.dst.getD 0) ids ks objs'.length) objs' (K6 ids ks Mc)) λenv Mc=>.pop (.panic x) K ⟨env,Mc⟩
   |none=>.ops all (o::rest) K st
  |_=>.ops all (o::rest) K st
 |g=>g
def AR3 (hS:G6 S P)(ids:List Nat)(hc:pr){fn:FuncId}{args:List AV}{objs objs' : List Obj}{x:PV}{ks:List Bool}(i:S.F fn args objs λres o k=>res=.panic x/\o=objs' /\ k=ks)
 (hk:KG S P F (AJ5 ids ks x objs' (stp P g))) (hp:pr=C4 (cnd P g):=by kernel_rfl) (a:Ac5 ids (stp P g)=some (fn,args,objs):=by kernel_rfl) (hn:Ac6 ids ks objs'.length (stp P g)=true:=by kernel_rfl):KG S P F g:=by
 refine⟨FE hS hc ?_ hp⟩;replace hk:=hk.out;generalize stp P g=g' at a hn hk;unfold Ac5 at a;split at a
 .split at a
  .rename_i j f;split at a
   .rename_i c;split at a
    .rename_i ha;split at a
     .rename_i hw;split at a
      .rename_i l d;split at a
       .rename_i b;cases a;simp only[Bh0]at b;simp only[AJ5,Ac6,f,ha,Gq]at hk hn;exact AR2 hS ids j f c ha hw l d i b.1 b.2 hn hk
       cases a
      cases a
     cases a
    cases a
   cases a
  cases a
 cases a
def RH (S:U5)(R:St->Prop)(X:PV->St->Prop):M0
 |.normal,st=>S.up st R
 |.panic x,st=>X x st
 |_,_=>False
def K_upN (hS:G6 S P)(hc:pr){R:St->Prop}{X:PV->St->Prop}(st:St){ids:List (Nat×Nat)}(hR:R st)(hp:pr=C4 (cnd P g):=by kernel_rfl)(a:stp P g=.pop .normal [] (stp P g).st:=by kernel_rfl)
 (hle:KLe ids (stp P g).st st:=by exact kl):KG S P (RH S R X) g:=by
 refine⟨FE hS hc ?_ hp⟩;rw[a];exact hS.le ids _ _ R hle.out hR
def K_upP (hS:G6 S P)(hc:pr){R:St->Prop}{X:PV->St->Prop}{x:PV}(b:X x (stp P g).st)(hp:pr=C4 (cnd P g):=by kernel_rfl)(a:AB8 (stp P g)=some x:=by kernel_rfl):KG S P (RH S R X) g:=by
 refine⟨FE hS hc ?_ hp⟩;generalize stp P g=g1 at a b;unfold AB8 at a;split at a
 .cases a;exact b
 cases a
end
end Go.AM
namespace Go.AM
section
variable {S:U5}{P:Program}{F:M0}{K:List It}{g:Cfg}{pr:Prop}
def Xs (hS:G6 S P){all:List Oper}{o:Oper}{k k' : St->Prop}{Q Q' : M0}(hk:∀s,k s->k' s)(hq:∀x s,Q (.panic x) s->Q' (.panic x) s){st:St}(h:HM S P all o k Q st):HM S P all o k' Q' st:=by
 have e:∀st,wOp S P o k Q st->wOp S P o k' Q' st:=by
  intro st h;have u:∀d ids f args st,WJ S d ids f args st (HS o.dst k Q)->WJ S d ids f args st (HS o.dst k' Q'):=by
   rintro d ids f args st ⟨a,ob,h1,l,q,v,w⟩;refine⟨a,ob,h1,l,q,v,hS.monoF _ _ _ _ _ (λr o ks ⟨z,h7⟩=>⟨z,?_⟩) w⟩;cases r with
   |ret a=>exact hk _ h7
   |panic x=>exact hq _ _ h7
  unfold wOp at h⊢;split at h
  .rcases h with⟨as,Mc,f',as',h1,l,ids,q⟩ | ⟨j,xs,Mc,ys,rest,h1,l,q,v,w,z⟩ | ⟨f',as',c,xs,h1,l,q,v⟩ | ⟨j,jw,e,m,n,g,rest,h1,l,q,v⟩
   .exact .inl ⟨as,Mc,f',as',h1,l,ids,u _ _ _ _ _ q⟩
   .exact .inr (.inl ⟨j,xs,Mc,ys,rest,h1,l,q,v,w,λb=>hk _ (z b)⟩)
   .exact .inr (.inr (.inl ⟨f',as',c,xs,h1,l,q,hS.monoF _ _ _ _ _ (λr o ks e=>e.imp (fun⟨a,e1,e2,e3⟩=>⟨a,e1,e2,hk _ e3⟩) fun⟨e0,m,n,g,e1,e2,e3,e4,e5⟩=>⟨e0,m,n,g,e1,e2,e3,e4,hk _ e5⟩) v⟩))
   exact .inr (.inr (.inr ⟨j,jw,e,m,n,g,rest,h1,l,q,λb=>hk _ (v b)⟩))
  .obtain⟨as,Mc,t,y,f',h1,l,q,ids,v⟩:=h;exact⟨as,Mc,t,y,f',h1,l,q,ids,u _ _ _ _ _ v⟩
  .obtain⟨t,y,h1,l⟩:=h;exact⟨t,y,h1,hq _ _ l⟩
  .obtain⟨j,cl,last,seen,jm,es,h1,l,q,v,w,z,h7⟩:=h;exact⟨j,cl,last,seen,jm,es,h1,l,q,v,w,λg=>hk _ (z g),λi hi hs=>hk _ (h7 i hi hs)⟩
  rcases h with⟨out,h1,l,q⟩ | ⟨c,x,h1,l,q⟩ | ⟨out,h1,l,q⟩
  .exact .inl ⟨out,h1,l,hk _ q⟩
  .exact .inr (.inl ⟨c,x,h1,l,hk _ q⟩)
  exact .inr (.inr ⟨out,h1,l,hk _ q⟩)
 unfold HM at h⊢;refine hS.mono _ _ _ (λt h=>?_) h;split at h
 .exact e _ h
 obtain⟨b,h1,l⟩:=h;refine⟨b,h1,?_⟩;split
 .rename_i hb;rw[Ek hb]at l;exact e _ l
 rename_i hb;rw[Et hb]at l;exact hk _ l
def AR4 (all:List Oper)(n:Nat):Bool:= Nat.blt n all.length&&(List.range all.length).all λi=>Nat.blt i n||(List.range i).all λj=>((AY0 all).getD i []).contains j
def Xt (all:List Oper)(n:Nat):Bool:=(all.take n).all λo=>match o.guard with
 |some (j,_)=>Nat.blt j n
 |none=>true
def Ad0 (all:List Oper){n:Nat}(b:Xt all n=true){o:Oper}(c:o∈all.take n){k:St->Prop}{Q:M0}{s:St}(h:HM S P (all.take n) o k Q s):HM S P all o k Q s:=by
 have h1:=Bh7.1 b o c;unfold HM at h⊢;cases a:o.guard with
 |none=>simpa only[a]using h
 |some q=>
  obtain⟨j,want⟩:=q;simp only[a,Br1]at h1 h⊢;have e:FR (all.take n) j=FR all j:=by unfold FR;rw[Bp3,Ek h1]
  rw[e]at h;exact h
def Vn (hS:G6 S P){all:List Oper}{n:Nat}{Q:M0}{st:St}(r:HT all=true)(y:AR4 all n=true)(hg:Xt all n=true)
 (h:WL S P (all.take n) (λe s=>match e with | .normal=>Jd S P all (all.drop n) Q s | .panic x=>Q (.panic x) s|_=>False) st):WL S P all Q st:=by
 obtain⟨z,hdp,Inv,h0,u,a0⟩:=h;simp only[AR4,Bh0,Br1,Bh7,Bk2,Bm2,Bk1,decide_eq_true_eq]at y;obtain⟨hn,y⟩:=y
 let down:(Nat->Bool)->Prop:=λD=>∀i o,D i=true->all[i]? = some o->∀e∈o.after.toList,EO e=true->D e.on=true
 let Inv' : (Nat->Bool)->St->Prop:=λD s=>down D/\(((∀i,n<=i->D i=false)/\Inv D s) \/ ∃j,n<=j/\j<=all.length/\(∀i,i<all.length->(D i=true↔i<j))/\Jd S P all (all.drop j) Q s)
 refine⟨z,r,Inv',⟨λi o hi=>(by cases hi),.inl ⟨λ_ _=>rfl,h0⟩⟩,?_,?_⟩
 .intro D i s o ⟨hD,hc⟩ ho hDi b;have g:i<all.length:=(Bh9.1 ho).1;have t:=LX r hD i o ho b;have l:down λj=>if j=i then true else D j:=by
   intro j oj m v e he hbe;show (if e.on=i then true else D e.on)=true;by_cases e1:j=i
   .subst e1;rw[ho]at v;cases v;split
    .rfl
    exact b e he hbe
   have m:(if j=i then true else D j)=true:=m;rw[Et e1]at m;split
   .rfl
   exact hD j oj m v e he hbe
  have d:(∀j,j<i->D j=true)->(∀j,i<j->j<all.length->D j=false)->n<=i->S.up s (Jd S P all (all.drop i) Q)->HM S P all o (Inv' λj=>if j=i then true else D j) Q s:=by
   intro c hhi hni h2;have hd:all.drop i=o::all.drop (i+1):=by rw[Bo8 g];congr 1;exact (Bh9.1 ho).2
   rw[hd]at h2;have h3:HM S P all o (Jd S P all (all.drop (i+1)) Q) Q s:=hS.trans _ _ h2;refine LZ hS (λs' w=>?_) (λe s h=>h) h3;refine⟨l,.inr ⟨i+1,by omega,g,λi' hi'=>?_,w⟩⟩;by_cases e:i' = i
   .simp[e]
   simp only[e,Ex];constructor
   .intro q;by_cases h5:i<i'
    .rw[hhi i' h5 hi']at q;cases q
    omega
   intro q;exact c i' (by omega)
  rcases hc with⟨c,hI⟩ | ⟨j,hj1,hj2,f,hw⟩
  .by_cases hi:i<n
   .have ho' : (all.take n)[i]? = some o:=by rw[Bp3,Ek hi];exact ho
    have h1:=Ad0 all hg (Bj4 ho') (u D i s o hI ho' hDi b);refine Xs hS (λs' w=>?_) (λx s' h=>h) h1;refine⟨l,.inl ⟨λi' h'=>?_,w⟩⟩
    have:i' ≠ i:=by omega
    show (if i' = i then true else D i')=false;rw[Et this];exact c i' h'
   have a:∀j,j<i->D j=true:=λj m=>t j ((y i g).resolve_left hi j m);have e:i=n:=by
    by_cases q:n<i
    .have:=a n q;rw[c n (Bh5 _)]at this;cases this
    omega
   subst e;refine d a (λj m _=>c j (by omega)) (Bh5 _) ?_;exact a0 D s hI λj m=>a j (by simp at m;omega)
  have e:i=j:=by
   by_cases q:i<j
   .have:=(f i g).2 q;rw[hDi]at this;cases this
   by_cases h5:j<i
   .have a:D j=true:=t j ((y i g).resolve_left (by omega) j h5)
    have:=(f j (by omega)).1 a;omega
   omega
  subst e;refine d (λj m=>(f j (by omega)).2 m) (λj h1 h2=>?_) hj1 (hS.refl _ _ hw);cases hh:D j with
  |false=>rfl
  |true=>have:=(f j h2).1 hh;omega
 rintro D s ⟨hD,hc⟩ a;rcases hc with⟨c,hI⟩ | ⟨j,hj1,hj2,f,hw⟩
 .have:=a n hn;rw[c n (Bh5 _)]at this;cases this
 have e:j=all.length:=by
  by_cases q:j<all.length
  .have:=(f j q).1 (a j q);omega
  omega
 subst e;rw[List.drop_length]at hw;exact hS.refl _ _ hw
def NP (n:Nat)(ls:List (Nat×Cls)):Cfg->SC
 |.code (.region _ ops true) _ st=>⟨ops.toList.take n,Bg2 ls 0 (ops.toList.take n),ops.toList.take n,st.env,st.Mc,[]⟩
 |_=>⟨[],[],[],[],[],[]⟩
def An0 (n:Nat)(env:Env)(Mc:B9):Cfg->Cfg
 |.code (.region _ ops true) K _=>.ops ops.toList (ops.toList.drop n) K ⟨env,Mc⟩
 |g=>g
def An1 (n:Nat):Cfg->Bool
 |.code (.region _ ops true) _ _=>HT ops.toList&&AR4 ops.toList n&&Xt ops.toList n
 |_=>false
def AB9 (hS:G6 S P)(hc:pr)(n:Nat)(ls:List (Nat×Cls))(h:DG S P (NP n ls (stp P g)) λenv Mc=>KG S P F (An0 n env Mc (stp P g)))(hp:pr=C4 (cnd P g):=by kernel_rfl)(c:Dj (stp P g)=true:=by kernel_rfl)(a:P.follows .mixedOrders=true:=by kernel_rfl)
 (b:MA (NP n ls (stp P g)).all (NP n ls (stp P g)).cls=true:=by kernel_rfl) (hb:An1 n (stp P g)=true:=by kernel_rfl):KG S P F g:=by
 have e:(λenv Mc=>KG S P F (An0 n env Mc (stp P g)))=λenv Mc=>G S P F (An0 n env Mc (stp P g)):=by funext env Mc;exact propext ⟨λh=>h.out,λh=>⟨h⟩⟩
 rw[e]at h;refine⟨FE hS hc ?_ hp⟩;have h:=h.out;generalize stp P g=g' at c b h hb;unfold Dj at c;split at c
 .rename_i id ops K st;simp only[An1,Bh0]at hb;show awp S P (.region id ops true) (kp S P K F) st;simp only[awp,Ew];refine Vn hS hb.1.1 hb.1.2 hb.2 ?_;have d:(ops.toList.take n).toArray.toList=ops.toList.take n:=rfl
  have:=YV hS (F:=λe s=>match e with | .normal=>Jd S P ops.toList (ops.toList.drop n) (kp S P K F) s | .panic x=>kp S P K F (.panic x) s|_=>False) (K:=[]) (id:=id) (ops:=(ops.toList.take n).toArray) (Bg2 ls 0 (ops.toList.take n)) a b h
  simpa only[G,awp,Ew,kp,NP]using this
 cases c
end
end Go.AM
namespace Go.AM
open Go.RowKit Go.ChangeShapes Go.Deep
mutual
inductive LeD:PV->PV->Prop
 |refl (x:PV):LeD x x
 |sl {k n:Nat}{f g:Nat->List PV}(h:∀i,i<n->LeDs (f i) (g i)):LeD (.sl false k n f) (.sl false k n g)
inductive LeDs:List PV->List PV->Prop
 |nil:LeDs [] []
 |cons {x y:PV}{l r:List PV}(h:LeD x y) (h' : LeDs l r):LeDs (x::l) (y::r)
end
def LeDs.refl:∀l:List PV,LeDs l l
 |[]=>.nil
 |x::l=>.cons (.refl x) (LeDs.refl l)
def LeDs.length {l r:List PV}(h:LeDs l r):l.length=r.length:=by
 induction l generalizing r with
 |nil=>cases h;rfl
 |cons x l ih=>cases h with|cons _ h'=>simp[ih h']
def LeDs.get {l r:List PV}(h:LeDs l r):∀i,LeD (l.getD i default) (r.getD i default):=by
 induction l generalizing r with
 |nil=>cases h;exact λi=>.refl _
 |cons x l ih=>
  cases h with
  |cons h h'=>
   intro i;cases i with
   |zero=>exact h
   |succ i=>simpa using ih h' i
def LeDs.append {a b c d:List PV}(h:LeDs a b)(h' : LeDs c d):LeDs (a++c) (b++d):=by
 induction a generalizing b with
 |nil=>cases h;exact h'
 |cons x l ih=>cases h with|cons h1 h2=>exact .cons h1 (ih h2)
def Nn.leD {w:World}{Pi:Nat->Nat->Prop}{v:Value}{x:PV}(h:Nn w Pi v x):∀{y:PV},LeD x y->Nn w Pi v y:=by
 induction h with
 |slnil k f=>intro y hy;cases hy with
  |refl=>exact .slnil _ _
  |sl h=>exact .slnil _ _
 |sl nn b off cap k n f c hn hk hc h sp hsp ih=>
  intro y hy;cases hy with
  |refl=>exact .sl nn b off cap k n f c hn hk hc h sp hsp
  |sl h'=>exact .sl false b off cap k n _ c hn (λi d=>by rw[<- (h' i d).length];exact hk i d) hc (λi j d g=>ih i j d g ((h' i d).get j)) sp hsp
 |v x=>intro y hy;cases hy;exact .v x
 |bb b=>intro y hy;cases hy;exact .bb b
 |str l=>intro y hy;cases hy;exact .str l
 |agg vs cs hs h1 h ih=>intro y hy;cases hy;exact .agg vs cs hs h1 h
 |ptr b off cs c hc h ih=>intro y hy;cases hy;exact .ptr b off cs c hc h
 |iface t x a h ih=>intro y hy;cases hy;exact .iface t x a h
 |fn f x y a b hx hy ha hb iha ihb=>intro y hy;cases hy;exact .fn f x _ a b hx ‹_› ha hb
def CRep.leD {W:World}{cs:List Value}{p q:List PV}(h:CRep W cs p)(hl:LeDs p q):CRep W cs q:=
 ⟨by rw[h.1,hl.length],λi a=>⟨(h.2 i (by rw[hl.length];exact a)).1.leD (hl.get i),(h.2 i (by rw[hl.length];exact a)).2⟩⟩
section
variable {P:Program}{t e:TypeId}{m:Nat}{pvs:List PV}
def LJ (f:Nat->Nat):Nat->Nat
 |0=>0
 |k+1=>LJ f k+f k
def AR5 (f:Nat->Nat){k n:Nat}(h:k<=n):LJ f k<=LJ f n:=by
 induction h with
 |refl=>exact Bh5 _
 |step _ ih=>simp only[LJ];omega
def An2 (f:Nat->Nat){k n:Nat}(h:k<n):f k<=LJ f n:=by
 have:=AR5 f (show k+1<=n from h)
 simp only[LJ]at this;omega
def Vo {f g:Nat->Nat}:∀{n:Nat},(∀i,i<n->f i<=g i)->LJ f n<=LJ g n
 |0,_=>Bh5 _
 |n+1,h=>by have h1:=Vo (n:=n) λi a=>h i (by omega);have b:=h n (by omega);simp only[LJ];omega
def RI (f:Nat->Nat):∀n,WH ((List.range n).map f)=LJ f n:=by
 have app:∀a b:List Nat,WH (a++b)=WH a+WH b:=by
  intro a b
  induction a with
  |nil=>simp[WH]
  |cons x r ih=>simp only[Bj7,UV,ih];omega
 intro n
 induction n with
 |zero=>rfl
 |succ n ih=>rw[Bs5,Bp2,app,ih];simp[LJ,WH]
def OO (P:Program)(t:TypeId){T:Type}(c:T->List PV)(W:T->Prop)(sz:T->Nat):Prop:= ∀(m:Nat) (pvs:List PV),Ke P m t pvs->∃x:T,LeDs pvs (c x)/\W x/\sz x<=m
def S3 {k:IntKind}(ht:P.underlying t=some (.int k)):OO P t (cI k) (λn=>(Lit.int k n).wf=true) (λ_=>1):=by
 intro m pvs h;cases h with
 |bool ht'=>rw[ht]at ht';cases ht'
 |str ht'=>rw[ht]at ht';cases ht'
 |slice _ ht'=>rw[ht]at ht';cases ht'
 |arr ht'=>rw[ht]at ht';cases ht'
 |struct ht'=>rw[ht]at ht';cases ht'
 |int ht' hw hm=>rw[ht]at ht';cases ht';exact⟨_,LeDs.refl _,hw,hm⟩
def Ad1 (ht:P.underlying t=some .bool):OO P t cB (λ_=>True) (λ_=>1):=by
 intro m pvs h;cases h with
 |int ht'=>rw[ht]at ht';cases ht'
 |str ht'=>rw[ht]at ht';cases ht'
 |slice _ ht'=>rw[ht]at ht';cases ht'
 |arr ht'=>rw[ht]at ht';cases ht'
 |struct ht'=>rw[ht]at ht';cases ht'
 |bool ht' hm=>exact⟨_,LeDs.refl _,trivial,hm⟩
def An3 (ht:P.underlying t=some .string):OO P t cS (λ_=>True) (λl=>l.length+1):=by
 intro m pvs h;cases h with
 |int ht'=>rw[ht]at ht';cases ht'
 |bool ht'=>rw[ht]at ht';cases ht'
 |slice _ ht'=>rw[ht]at ht';cases ht'
 |arr ht'=>rw[ht]at ht';cases ht'
 |struct ht'=>rw[ht]at ht';cases ht'
 |str ht' hm=>exact⟨_,LeDs.refl _,trivial,hm⟩
def Dm {T:Type}[Inhabited T]{c:T->List PV}{W:T->Prop}{sz:T->Nat}{k:Nat}(ht:P.underlying t=some (.slice e))(hk:P.cellsOf e=k)(h:OO P e c W sz) :OO P t (cL k c) (λs=>∀i,i<s.n->W (s.g i)) (λs=>LJ (λi=>sz (s.g i)) s.n+1):=by
 intro m pvs hs;cases hs with
 |int ht'=>rw[ht]at ht';cases ht'
 |bool ht'=>rw[ht]at ht';cases ht'
 |str ht'=>rw[ht]at ht';cases ht'
 |arr ht'=>rw[ht]at ht';cases ht'
 |struct ht'=>rw[ht]at ht';cases ht'
 | @slice _ _ e' n f ms ht' hl hel hm=>
  rw[ht]at ht';cases ht';obtain⟨g,b⟩:=choose_lt (α:=T) (p:=λi x=>LeDs (f i) (c x)/\W x/\sz x<=ms i) λi a=>h _ _ (hel i a);refine⟨⟨n,g⟩,?_,λi a=>(b i a).2.1,?_⟩
  .subst hk;exact .cons (.sl λi a=>(b i a).1) .nil
  have h1:=Vo (n:=n) λi a=>(b i a).2.2;rw[RI]at hm;show LJ (λi=>sz (g i)) n+1<=m;omega
def Cw {fs:Array Field}(ht:P.underlying t=some (.struct fs))(h:Ke P m t pvs):∃m',HZ P m' (fs.toList.map (·.type)) pvs/\m' + 1<=m:=by
 cases h with
 |int ht'=>rw[ht]at ht';cases ht'
 |bool ht'=>rw[ht]at ht';cases ht'
 |str ht'=>rw[ht]at ht';cases ht'
 |slice _ ht'=>rw[ht]at ht';cases ht'
 |arr ht'=>rw[ht]at ht';cases ht'
 |struct ht' h hm=>rw[ht]at ht';cases ht';exact⟨_,h,hm⟩
def E6 {ts:List TypeId}(h:HZ P m (t::ts) pvs):∃a b p q,pvs=p++q/\Ke P a t p/\HZ P b ts q/\a+b<=m:=by
 cases h with
 |cons h h' hm=>exact⟨_,_,_,_,rfl,h,h',hm⟩
def EK (h:HZ P m [] pvs):pvs=[]:=by cases h;rfl
end
end Go.AM
namespace Go.AM
section
variable {S:U5}{P:Program}{sc:SC}{k:Env->B9->Prop}{pr:Prop}
end
end Go.AM
namespace Go.AM
section
variable {κ ν : Type}
def HP (eq : κ -> κ -> Bool)(k : κ)(z : ν):List (κ × ν)->Nat × ν×List (κ × ν)
 |[]=>(0,z,[(k,z)])
 |(a,v)::es=>if eq k a then (0,v,(k,v)::es)else ((HP eq k z es).1+1,(HP eq k z es).2.1,(a,v)::(HP eq k z es).2.2)
def AV5:List (κ × ν)->Nat -> ν -> List (κ × ν)
 |[],_,_=>[]
 |(a,_)::es,0,v=>(a,v)::es
 |p::es,n+1,v=>p::AV5 es n v
def NQ {kP : κ -> PV}{vP : ν -> PV}{cmp:PV->PV->Option Bool}{eq : κ -> κ -> Bool}(hc:∀a b,cmp (kP a) (kP b)=some (eq a b))(k : κ)(z : ν):∀es:List (κ × ν),
 ∃q,FC cmp (kP k) (Dc kP vP es)=some q/\ent (kP k) (vP z) (Dc kP vP es) q=((HP eq k z es).1,vP (HP eq k z es).2.1,Dc kP vP (HP eq k z es).2.2)
 |[]=>⟨none,rfl,rfl⟩
 |(a,v)::es=>by
  have e0:Dc kP vP ((a,v)::es)=(kP a,vP v)::Dc kP vP es:=rfl;rw[e0];simp only[FC,hc,HP];cases h:eq k a
  .obtain⟨q,h1,c⟩:=NQ (vP:=vP) hc k z es;refine⟨q.map (· + 1),by simp[h1],?_⟩;cases q with
   |none=>simp only[ent,Bh4]at c;simp only[ent,Bv3,Bh3,Ex,Bj5,Bh4];refine⟨by rw[c.1],c.2.1,?_⟩;rw[Bj7,c.2.2];rfl
   |some j=>simp only[ent,Bh4]at c;simp only[ent,Bh8,Bh3,Ex,Bh4];refine⟨by rw[c.1],by simpa using c.2.1,?_⟩;rw[Bz4,BA3,c.2.2];rfl
  exact⟨some 0,rfl,rfl⟩
def Vp {eq : κ -> κ -> Bool}(c:∀a b,eq a b=true->a=b){k : κ}{z v : ν}:∀{es:List (κ × ν)},P1 eq k es=some v->(HP eq k z es).2=(v,es)
 |[],h=>by cases h
 |(a,x)::es,h=>by
  simp only[P1]at h;simp only[HP];split at h
  .rename_i hk;cases h;rw[Ek hk,c _ _ hk]
  rename_i hk;rw[Et hk,Vp c h]
def Ki (eq : κ -> κ -> Bool)(k : κ)(z : ν):∀es:List (κ × ν),(HP eq k z es).1<(HP eq k z es).2.2.length
 |[]=>by simp[HP]
 |(a,v)::es=>by
  have:=Ki eq k z es
  simp only[HP];split<;>simp<;>omega
def KX {kP : κ -> PV}{vP : ν -> PV}:∀(es:List (κ × ν)) (i:Nat) (v : ν),i<es.length->AL9 (Dc kP vP es) i (vP v)=Dc kP vP (AV5 es i v)
 |[],i,v,h=>Eu h (by simp)
 |(a,x)::es,0,v,h=>rfl
 |p::es,n+1,v,h=>by have ih:=KX (kP:=kP) (vP:=vP) es n v (by simpa using h);have e0:Dc kP vP (p::es)=(kP p.1,vP p.2)::Dc kP vP es:=rfl;have e1:Dc kP vP (AV5 (p::es) (n+1) v)=(kP p.1,vP p.2)::Dc kP vP (AV5 es n v):=rfl;rw[e0,e1,<- ih];simp only[AL9,Bz4,BA3]
def KY (eq : κ -> κ -> Bool)(k : κ)(z v : ν):∀es:List (κ × ν),AV5 (HP eq k z es).2.2 (HP eq k z es).1 v=Dd eq k v es
 |[]=>rfl
 |(a,x)::es=>by
  have ih:=KY eq k z v es;simp only[HP,Dd];by_cases h:eq k a=true
  .simp only[h,Ew];rfl
  simp only[h,Ex,Bh3];show (a,x)::AV5 (HP eq k z es).2.2 (HP eq k z es).1 v=_;rw[ih]
end
section
variable {S:U5}{P:Program}{F:M0}{g:Cfg}{pr:Prop}
structure EntI where
 kt:TypeId
 key:PV
 z:PV
 es:List (PV×PV)
end
end Go.AM
namespace Go.AM
section
variable {S:U5}{P:Program}{F:M0}{g:Cfg}{pr:Prop}
end
end Go.AM
namespace Go.AM
section
variable {S:U5}{P:Program}{pr:Prop}{sc:SC}{k:Env->B9->Prop}
def AC0 (P:Program)(sc:SC):Option EntI:=match sc.cls,sc.rest with
 |cl::_,o::_=>match At sc.all sc.env o,o.op,US cl sc.env (o.dst.getD 0) o.op with
  |some true,.mapEntry t m k,true=>match aev sc.env k,aev sc.env m with
   |.p key,.No j=>match A1 sc.Mc j,tk P t with
    |some (.map es),some (.map kt e)=>match Ht P e with
     |some z=>if Gi P kt (nP key) then some ⟨kt,nP key,z,es⟩else none
     |none=>none
    |_,_=>none
   |_,_=>none
  |_,_,_=>none
 |_,_=>none
def Vq (P:Program)(sc:SC):Option EntI:=match sc.cls,sc.rest with
 |.l js::_,o::_=>match At sc.all sc.env o,o.op with
  |some true,.mapEntry t m k=>match aev sc.env k,aev sc.env m with
   |.p key,.No j=>if js.contains j then match A1 sc.Mc j,tk P t with
    |some (.map es),some (.map kt e)=>match Ht P e with
     |some z=>if Gi P kt (nP key) then some ⟨kt,nP key,z,es⟩else none
     |none=>none
    |_,_=>none
    else none
   |_,_=>none
  |_,_=>none
 |_,_=>none
def AC1 (i:Nat)(y:PV)(es' : List (PV×PV))(sc:SC):SC:=match sc.rest with
 |o::rest=>match o.op with
  |.mapEntry _ m _=>match aev sc.env m with
   |.No j=>AA0 o.dst (.tup [.p y,.p (pI .i64 i)]) sc.env (ins j (.map es') sc.Mc) λenv Mc=>⟨sc.all,sc.cls.tail,rest,env,Mc,sc.kn⟩
   |_=>sc
  |_=>sc
 |[]=>sc
def An4 (hc:pr){kt:TypeId}{key z y:PV}{es es' : List (PV×PV)}{i:Nat}(b:∃q,FC (HL P kt) key es=some q/\ent key z es q=(i,y,es'))(d:C4 (Hs P kt))(hk:DG S P (AC1 i y es' (BB P sc)) k)
 (hp:pr=C4 (OC P sc):=by kernel_rfl) (a:AC0 P (BB P sc)=some ⟨kt,key,z,es⟩:=by kernel_rfl):DG S P sc k:=by
 refine⟨Am1 hc ?_ hp⟩;obtain⟨q,b,r⟩:=b;replace hk:=hk.out;generalize BB P sc=s at a hk;obtain⟨all,cls,rest,env,Mc,kn⟩:=s;cases rest with
 |nil=>cases cls<;>simp[AC0]at a
 |cons o rest=>
  cases cls with
  |nil=>simp[AC0]at a
  |cons cl cls=>
   simp only[AC0]at a;split at a
   .rename_i t m kk u l f;split at a
    .rename_i kp j h1 n;split at a
     .rename_i es0 kt0 e0 w ht;split at a
      .rename_i z0 x;split at a
       .rename_i g;simp only[Bg8,EntI.mk.injEq]at a;obtain⟨rfl,rfl,rfl,rfl⟩:=a;simp only[AC1,l,n,EY,Bn8]at hk;refine YY (c:=Hs P kt0) (v:=.tup [.p y,.p (pI .i64 i)]) (regs':=ins j (.map es') Mc) u ?_ d f hk;rw[l];simp only[aop,ht,n,h1,w,x,g,b,r]
       cases a
      cases a
     cases a
    cases a
   cases a
def AC2 (hc:pr){kt:TypeId}{key z y:PV}{es:List (PV×PV)}{i:Nat}(g:∃q,FC (HL P kt) key es=some q/\ent key z es q=(i,y,es))(n:C4 (Hs P kt))(hk:DG S P (AC1 i y es (BB P sc)) k)
 (hp:pr=C4 (OC P sc):=by kernel_rfl) (a:Vq P (BB P sc)=some ⟨kt,key,z,es⟩:=by kernel_rfl):DG S P sc k:=by
 refine⟨Am1 hc ?_ hp⟩;obtain⟨q,g,x⟩:=g;replace hk:=hk.out;generalize BB P sc=s at a hk;obtain⟨all,cls,rest,env,Mc,kn⟩:=s;cases rest with
 |nil=>cases cls<;>simp[Vq]at a
 |cons o rest=>
  cases cls with
  |nil=>simp[Vq]at a
  |cons cl cls=>
   cases cl with
   |l js=>
    simp only[Vq]at a;split at a
    .rename_i t m kk hg u;split at a
     .rename_i kp j h1 v;split at a
      .rename_i c;split at a
       .rename_i es0 kt0 e0 f ht;split at a
        .rename_i z0 hz;split at a
         .rename_i r;simp only[Bg8,EntI.mk.injEq]at a;obtain⟨rfl,rfl,rfl,rfl⟩:=a;simp only[AC1,u,v,EY,Bn8]at hk;have w:∀R2:B9,A1 R2 j=some (.map es0)->aop P env R2 (o.dst.getD 0) o.op=some ⟨Hs P kt0,.tup [.p y,.p (pI .i64 i)],ins j (.map es0) R2⟩:=by intro R2 b;rw[u];simp only[aop,ht,v,h1,b,hz,r,g,x]
          have d:∀R2:B9,A1 R2 j=some (.map es0)->∀q,A1 (ins j (.map es0) R2) q=A1 R2 q:=by
           intro R2 b q;rw[N9];split
           .rename_i e;subst e;exact b.symm
           rfl
          refine⟨true,hg,?_⟩;rw[Ek rfl];exact⟨_,_,.inl ⟨_,w Mc f,n,trivial,d Mc f,λR2 h=>⟨_,w R2 ((h j (by simpa using c)).trans f),d R2 ((h j (by simpa using c)).trans f)⟩⟩,hk⟩
         cases a
        cases a
       cases a
      cases a
     cases a
    cases a
   |_=>simp[Vq]at a
def AC3 (sc:SC):Option (Int×PV×List (PV×PV)):=match sc.cls,sc.rest with
 |cl::_,o::_=>match At sc.all sc.env o,o.op,US cl sc.env (o.dst.getD 0) o.op with
  |some true,.entryStore _ m s x,true=>match aev sc.env m,asInt (aev sc.env s),Eg sc.Mc (aev sc.env x)with
   |.No j,some s,some (y,Mc)=>match A1 Mc j with
    |some (.map es)=>some (s,y,es)
    |_=>none
   |_,_,_=>none
  |_,_,_=>none
 |_,_=>none
def Ba9 (es' : List (PV×PV))(sc:SC):SC:=match sc.rest with
 |o::rest=>match o.op with
  |.entryStore _ m s x=>match aev sc.env m,Eg sc.Mc (aev sc.env x)with
   |.No j,some (_,Mc)=>AA0 o.dst KA sc.env (ins j (.map es') Mc) λenv Mc=>⟨sc.all,sc.cls.tail,rest,env,Mc,sc.kn⟩
   |_,_=>sc
  |_=>sc
 |[]=>sc
def SX (hc:pr){i:Nat}{y:PV}{es es' : List (PV×PV)}(r:i<es.length)(g:AL9 es i y=es')(hk:DG S P (Ba9 es' (BB P sc)) k)
 (hp:pr=C4 (OC P sc):=by kernel_rfl) (a:AC3 (BB P sc)=some ((i:Int),y,es):=by kernel_rfl):DG S P sc k:=by
 refine⟨Am1 hc ?_ hp⟩;replace hk:=hk.out;generalize BB P sc=s at a hk;obtain⟨all,cls,rest,env,Mc,kn⟩:=s;cases rest with
 |nil=>cases cls<;>simp[AC3]at a
 |cons o rest=>
  cases cls with
  |nil=>simp[AC3]at a
  |cons cl cls=>
   simp only[AC3]at a;split at a
   .rename_i t m s x l d b;split at a
    .rename_i j sv y0 regs1 h1 n f;split at a
     .rename_i es0 q;simp only[Bg8,Bh4]at a;obtain⟨rfl,rfl,rfl⟩:=a;subst g;simp only[Ba9,d,h1,f,EY,Bn8]at hk;refine YY (c:=[0<=(i:Int)/\(i:Int)<(es0.length:Int)]) (v:=KA) (regs':=ins j (.map (AL9 es0 i y0)) regs1) l ?_ (show 0<=(i:Int)/\(i:Int)<(es0.length:Int) by omega) b hk;rw[d];simp only[aop,h1,n,f,q];rfl
     cases a
    cases a
   cases a
end
end Go.AM
namespace Go.AM
section
variable {S:U5}{P:Program}{F:M0}{g:Cfg}{pr:Prop}
end
section
variable {S:U5}{P:Program}{pr:Prop}{sc:SC}{k:Env->B9->Prop}
end
end Go.AM
namespace Go.AM
section
variable {S:U5}{P:Program}{F:M0}{g:Cfg}{pr:Prop}
def bldK (P:Program):Cfg->Cfg
 |.ops all (o::rest) K st=>match bop P st.Mc (o.dst.getD 0) o.op with
  |some out=>Ac4 o.dst out.val st.env out.Mc λst=>.ops all rest K st
  |none=>.ops all (o::rest) K st
 |g=>g
def bldI (P:Program):Cfg->Bool
 |.ops all (o::rest) K st=>(match BD all st.env o with|some true=>true|_=>false)&&(bop P st.Mc (o.dst.getD 0) o.op).isSome
 |_=>false
def K_bld (hS:G6 S P)(hc:pr)(d:Nat)(hk:KG S P F (bldK P (Hw P d g)))
 (hp:pr=C4 (AP5 P d g):=by kernel_rfl) (f:bldI P (Hw P d g)=true:=by kernel_rfl):KG S P F g:=by
 refine⟨(GK (u:=some d) (F:=F) hS 400 [] g (by subst hp;exact hc)).2 ?_⟩;have hk:=hk.out;show G S P F (Hw P d g);generalize Hw P d g=g1 at hk f;unfold bldI at f;split at f
 .rename_i all o rest K st;simp only[Bh0]at f;obtain⟨j,hb⟩:=f;split at j
  .rename_i i;obtain⟨out,a⟩:=Bi2.1 hb;simp only[bldK,a,FT]at hk;refine BF hS i ?_;have b:C4 out.cond:=by
    unfold bop at a;split at a
    .split at a
     .cases a;exact trivial
     cases a
    cases a
   unfold wOp;split
   .rename_i c;rw[c]at a;simp[bop]at a
   .rename_i c;rw[c]at a;simp[bop]at a
   .rename_i c;rw[c]at a;simp[bop]at a
   .rename_i c;rw[c]at a;simp[bop]at a
   exact .inr (.inr ⟨out,a,b,hk⟩)
  cases j
 cases f
structure NextI where
 cl:Nat
 last:Nat
 seen:List Nat
 es:List (PV×PV)
def Bb0:Cfg->Option NextI
 |.ops all (o::rest) K st=>match BD all st.env o,o.op with
  |some true,.next x false=>match aev st.env x with
   |.reg j 0=>match A1 st.Mc j with
    |some (.blk (1::cl::last::seen) jm)=>match A1 st.Mc jm with
     |some (.map es)=>some ⟨cl,last,seen,es⟩
     |_=>none
    |_=>none
   |_=>none
  |_,_=>none
 |_=>none
def Bb1:Cfg->Cfg
 |.ops all (o::rest) K st=>Ac4 o.dst (.tup [.p (.bb false)]) st.env st.Mc λst=>.ops all rest K st
 |g=>g
def Bb2 (i:Nat)(ky vl:PV):Cfg->Cfg
 |.ops all (o::rest) K st=>match o.op with
  |.next x _=>match aev st.env x with
   |.reg j _=>match A1 st.Mc j with
    |some (.blk (_::cl::_::seen) jm)=>match A1 st.Mc jm with
     |some (.map es)=>Ac4 o.dst (.tup [.p (.bb true),.p ky,.p vl]) st.env (ins j (.blk (1::cl::es.length::(i::seen)) jm) st.Mc) λst=>.ops all rest K st
     |_=>.ops all (o::rest) K st
    |_=>.ops all (o::rest) K st
   |_=>.ops all (o::rest) K st
  |_=>.ops all (o::rest) K st
 |g=>g
def Bb3 (hS:G6 S P)(hc:pr){cl last:Nat}{seen:List Nat}{es:List (PV×PV)}(h1:cl=es.length)(q:cl<=last){ky vl:Nat->PV}(f:∀i,i<es.length->es.getD i default=(ky i,vl i))
 (d:(∀i,i<es.length->i∈seen)->KG S P F (Bb1 (stp P g))) (ht:∀i,i<es.length->i ∉ seen->KG S P F (Bb2 i (ky i) (vl i) (stp P g)))
 (hp:pr=C4 (cnd P g):=by kernel_rfl) (c:Bb0 (stp P g)=some ⟨cl,last,seen,es⟩:=by kernel_rfl):KG S P F g:=by
 refine⟨FE hS hc ?_ hp⟩;replace d:=λx=>(d x).out;replace ht:=λi a b=>(ht i a b).out;generalize stp P g=g1 at d ht c;unfold Bb0 at c;split at c
 .rename_i all o rest K st;split at c
  .rename_i x r l;split at c
   .rename_i j hx;split at c
    .rename_i cl' last' seen' jm m;split at c
     .rename_i es' hm;cases c;simp only[Bb1,Bb2,l,hx,m,hm,FT]at d ht;refine BF hS r ?_;unfold wOp;rw[l];exact⟨j,cl,last,seen,jm,es,hx,m,hm,h1,q,d,λi n hs=>by rw[f i n];exact ht i n hs⟩
     cases c
    cases c
   cases c
  cases c
 cases c
structure EntVI where
 last:Nat
 i:Nat
 es:List (PV×PV)
def Bb4:Cfg->Option EntVI
 |.ops all (o::rest) K st=>match BD all st.env o,o.op with
  |some true,.entry x=>match aev st.env x with
   |.reg j 0=>match A1 st.Mc j with
    |some (.blk (1::_::last::i::_) jm)=>match A1 st.Mc jm with
     |some (.map es)=>some ⟨last,i,es⟩
     |_=>none
    |_=>none
   |_=>none
  |_,_=>none
 |_=>none
def Bb5 (ky vl:PV):Cfg->Cfg
 |.ops all (o::rest) K st=>Ac4 o.dst (.tup [.p ky,.p vl]) st.env st.Mc λst=>.ops all rest K st
 |g=>g
def Bb6 (hS:G6 S P)(hc:pr)(d:Nat){last i:Nat}{es:List (PV×PV)}(h1:last=es.length)(f:i<es.length)(ky vl:PV)(b:es.getD i default=(ky,vl))(hk:KG S P F (Bb5 ky vl (Hw P d g)))
 (hp:pr=C4 (AP5 P d g):=by kernel_rfl) (a:Bb4 (Hw P d g)=some ⟨last,i,es⟩:=by kernel_rfl):KG S P F g:=by
 refine⟨(GK (u:=some d) (F:=F) hS 400 [] g (by subst hp;exact hc)).2 ?_⟩;have hk:=hk.out;show G S P F (Hw P d g);generalize Hw P d g=g1 at hk a;unfold Bb4 at a;split at a
 .rename_i all o rest K st;split at a
  .rename_i x l m;split at a
   .rename_i j hx;split at a
    .rename_i cl' last' i' seen' jm n;split at a
     .rename_i es' hm;cases a;simp only[Bb5,FT]at hk;refine BF hS l ?_;refine Kc (c:=[last=es.length/\i<es.length]) (v:=.tup [.p ky,.p vl]) (R':=st.Mc) ?_ ⟨h1,f⟩ hk;rw[m];simp only[aop,hx,n,hm,b]
     cases a
    cases a
   cases a
  cases a
 cases a
def Bb7 (hS:G6 S P)(hc:pr)(n:Nat)(Pr:Nat->Prop)(s:List Nat->St){ids:List (Nat×Nat)}
 (f:∀(X:Type) (s' : X->St) (J:X->Prop) (m:X->Nat) (k:Nat) (seen:List Nat),(∀i∈seen,i<n/\Pr i) ->
  (∀(g' : Cfg) (ids:List (Nat×Nat)) (pr:Prop) (i:Nat),pr->i<n->i ∉ seen->Pr i->(hp:pr=C4 (cnd P g'):=by kernel_rfl)->(c:stp P g' = .pop .normal (.lp X s' J m k::(stp P g).k) (stp P g').st:=by kernel_rfl)->(hle:KLe ids (stp P g').st (s (i::seen)):=by exact kl)->KG S P F g') ->
  KG S P F (.code (Ql (stp P g)) (.lp X s' J m k::(stp P g).k) (s seen)))
 (hp:pr=C4 (cnd P g):=by kernel_rfl) (hl:Ic (stp P g)=true:=by kernel_rfl) (hle:KLe ids (stp P g).st (s []):=by exact kl):KG S P F g:=by
 refine⟨FE hS hc ?_ hp⟩;rw[SO hl];refine YC hS s (λseen=>∀i∈seen,i<n/\Pr i) (λseen=>((List.range n).filter λi=>!seen.contains i).length) [] ids hle.out (λi b=>by cases b) λseen d=>?_;refine (f (List Nat) s _ _ _ seen d λg' ids pr i hc b hs j hp c hle=>⟨FE hS hc ?_ hp⟩).out;rw[c];refine WO hS (i::seen) ids hle.out (λq a=>?_) ?_
 .rcases Bi4.1 a with rfl|a
  .exact⟨b,j⟩
  exact d q a
 refine filter_lt (λq=>!seen.contains q) (λq=>!(i::seen).contains q) (λq a=>?_) i ?_ ?_ (List.range n) (Bk2.2 b)
 .simp only[Bi7,Bk1,decide_eq_false_iff_not,Bi4,not_or]at a⊢;exact a.2
 .simpa using hs
 simp
end
end Go.AM
namespace Go.AM
section
variable {S:U5}{P:Program}{pr:Prop}{sc:SC}{k:Env->B9->Prop}
def AR6:AV->Bool
 |.vec _ | .vecp _ _=>false
 |_=>true
def NR {R:B9}:∀{l:List AV},l.all AR6=true->HR R l=some (l,R)
 |[],_=>rfl
 |a::r,h=>by simp only[Bq4,Bh0]at h;simp only[HR,NR h.2];cases a<;>first|rfl|exact Eu h.1 (by simp[AR6])
def OP {ids:List Nat}{R R2:B9}:∀{l:List Nat},(∀j∈l,A1 R2 j=A1 R j)->M8 ids R2 l=M8 ids R l
 |[],_=>rfl
 |j::l,h=>by simp only[M8,h j (by simp),OP (l:=l) λq a=>h q (by simp[a])]
def Gr {q:Nat}:∀{ids:List Nat}{ks:List Bool}{R:B9},q ∉ ids->A1 (K6 ids ks R) q=A1 R q
 |[],ks,R,_=>by cases ks<;>rfl
 |j::ids,[],R,h=>by simp only[Bi4,not_or]at h;simp only[K6];rw[Gr h.2,N9,Et (Bk6 h.1)]
 |j::ids,b::ks,R,h=>by
  simp only[Bi4,not_or]at h;simp only[K6];split
  .exact Gr h.2
  rw[Gr h.2,N9,Et (Bk6 h.1)]
def GW {q:Nat}:∀{ids:List Nat}{ks:List Bool}{A B:B9},A1 A q=A1 B q->A1 (K6 ids ks A) q=A1 (K6 ids ks B) q
 |[],ks,A,B,h=>by cases ks<;>exact h
 |j::ids,[],A,B,h=>by simp only[K6];exact GW (by rw[N9,N9,h])
 |j::ids,b::ks,A,B,h=>by
  simp only[K6];split
  .exact GW h
  exact GW (by rw[N9,N9,h])
def SY (ids:List Nat)(ks:List Bool)(n:Nat)(sc:SC):Bool:=match sc.cls,sc.rest with
 |.a js::_,o::_=>match o.op with
  |.call c=>((c.args.toList.map (aev sc.env)).all AR6&&ids.all λq=>js.contains q)&&(((H2 (o.dst.getD 0) ids ks n).all λq=>js.contains q)&&((List.range n).all λp=>js.contains (nid (o.dst.getD 0) p))&&X3 sc.Mc ids ks (o.dst.getD 0) n)
  |_=>false
 |_,_=>false
def OQ (ids:List Nat)(hc:pr){fn:FuncId}{args:List AV}{objs objs' : List Obj}{r:AV}{ks:List Bool}(hF:Me S fn args objs r objs' ks)(hk:DG S P (OH ids ks r objs' (BB P sc)) k)
 (hp:pr=C4 (OC P sc):=by kernel_rfl) (b:OE ids (BB P sc)=some (fn,args,objs):=by kernel_rfl) (hn:SY ids ks objs'.length (BB P sc)=true:=by kernel_rfl):DG S P sc k:=by
 refine⟨Am1 hc ?_ hp⟩;replace hk:=hk.out;generalize BB P sc=s at b hn hk;obtain⟨all,cls,rest,env,Mc,kn⟩:=s;cases rest with
 |nil=>simp[OE]at b
 |cons o rest=>
  simp only[OE]at b;split at b
  .rename_i c hg t;split at b
   .rename_i f u;split at b
    .rename_i as regs1 ha;split at b
     .rename_i fn' as' hw;split at b
      .rename_i a0 ob0 hr v;split at b
       .rename_i i;cases b;simp only[Bh0]at i;cases cls with
        |nil=>simp[SY]at hn
        |cons cl cls=>
         cases cl with
         |a js=>
          simp only[SY,t,Bh0]at hn;obtain⟨⟨l,w⟩,⟨x,y⟩,m⟩:=hn;rw[NR l]at ha;cases ha;simp only[OH,t,NR l,EY,Bn8]at hk;have d:∀q∈ids,q∈js:=λq g=>by simpa using Bh7.1 w q g
          have n:∀q,q ∉ js->q ∉ H2 (o.dst.getD 0) ids ks objs'.length:=λq g h=>g (by simpa using Bh7.1 x q h);refine⟨true,hg,?_⟩;rw[Ek rfl];refine⟨_,_,.inr (.inr (.inr (.inr ⟨js,rfl,λq g=>?_,λR2 z=>?_⟩))),hk⟩
          .rw[IW (n q g),Gr λh=>g (d q h)]
          refine⟨_,.inl ⟨c,f,_,R2,fn,as',args,objs,objs',ks,r,ids,t,u,NR l,hw,hr,(OP λj hj=>z j (d j hj)).trans v,hF,i.1,i.2,?_,rfl,rfl⟩,λq g=>OF (GW (z q g)),λq g=>(IW (n q g)).trans (Gr λh=>g (d q h))⟩;unfold X3 at m⊢;rw[Bh7]at m⊢;intro p hp;have h1:=m p hp;have h3:nid (o.dst.getD 0) p∈js:=by simpa using Bh7.1 y p hp
          rw[z _ h3];exact h1
         |_=>simp[SY]at hn
       cases b
      cases b
     cases b
    cases b
   cases b
  cases b
end
end Go.AM
namespace Go.AM
section
variable {S:U5}{P:Program}{g:Cfg}{pr:Prop}
def An5 (outs:List Nat):List Nat->List Obj->B9
 |j::js,o::os=>ins j (unO outs o) (An5 outs js os)
 |_,_=>[]
def An6:List ResultVar->List AV->Env
 |.tmp t::rs,a::l=>ins t a (An6 rs l)
 |_,_=>[]
def An7 (rs:List ResultVar)(outs:List Nat)(a:AV)(objs:List Obj):St:=
 ⟨match rs with
  |[r]=>An6 [r] [unA outs a]
  |rs=>match a with
   |.tup l=>An6 rs (unL outs l)
   |_=>[],An5 outs outs objs⟩
def Bb8 (R:B9)(outs:List Nat):List (Nat×Nat):=(outs.filter λj=>(A1 R j).isSome).map λj=>(j,j)
def kOi (hS:G6 S P)(hc:pr){n:Nat}{rs:List ResultVar}{Q:ARes->List Obj->List Bool->Prop}{a:AV}{objs:List Obj}(ids:List (Nat×Nat))(outs:List Nat)(b:Q (.ret a) objs (FH n outs):=by exact⟨rfl,rfl,rfl⟩)(hp:pr=C4 (cnd P g):=by kernel_rfl)
 (c:(Az2 (stp P g)).isSome=true:=by kernel_rfl) (hle:KLe ids (stp P g).st (An7 rs outs a objs):=by exact kl) (d:SP P (An7 rs outs a objs) rs outs=some (a,objs):=by kernel_rfl):KG S P (CF S P n rs Q) g:=
 J6 hS hc (An7 rs outs a objs) outs b hp c hle d
def kO (hS:G6 S P)(hc:pr){n:Nat}{rs:List ResultVar}{Q:ARes->List Obj->List Bool->Prop}{a:AV}{objs:List Obj}(outs:List Nat)(b:Q (.ret a) objs (FH n outs):=by exact⟨rfl,rfl,rfl⟩)(hp:pr=C4 (cnd P g):=by kernel_rfl)
 (c:(Az2 (stp P g)).isSome=true:=by kernel_rfl) (hle:KLe (Bb8 (stp P g).st.Mc outs) (stp P g).st (An7 rs outs a objs):=by exact kl) (d:SP P (An7 rs outs a objs) rs outs=some (a,objs):=by kernel_rfl):KG S P (CF S P n rs Q) g:=
 kOi hS hc _ outs b hp c hle d
end
section
variable {α : Type}
def An8 (c : α -> List PV):Nat->List α -> List (Nat×List PV)
 |_,[]=>[]
 |k,a::l=>(k,c a)::An8 c (k+1) l
def Vr (c : α -> List PV)(z:List PV):∀(l:List α) (k i:Nat) (d : α),i<l.length->G2 z (An8 c k l) (k+i)=c (l.getD i d)
 |[],k,i,d,h=>Eu h (Bi3 i)
 |a::l,k,0,d,h=>by simp[An8,G2]
 |a::l,k,i+1,d,h=>by
  have:=Vr c z l (k+1) i d (Bx7 h)
  rw[show k+1+i=k+(i+1) by omega]at this;simp only[An8,G2];rw[Et (by omega),this];rfl
def Ad2 [Inhabited α](c : α -> List PV)(l:List α)(z:List PV):(Np.fn l.length (Sl.of l).n (G2 z (An8 c 0 l)) (λi=>c ((Sl.of l).g i))).ok:=⟨rfl,λi a=>by
 have:=Vr c z l 0 i default a
 rw[Bl7]at this;exact this⟩
def X6 (c : α -> List PV)(v:Sl α)(x : α)(z:List PV):(Np.fn (v.n+1) (v.push x).n (Es v.n (λi=>c (v.g i)) (G2 z [(0,c x)])) (λi=>c ((v.push x).g i))).ok:=⟨rfl,Bf8 same rfl rfl⟩
def appS (c : α -> List PV)(v w:Sl α):(Np.fn (v.n+w.n) (v.app w).n (Es v.n (λi=>c (v.g i)) (λi=>c (w.g i))) (λi=>c ((v.app w).g i))).ok:=⟨rfl,AI6 same rfl same rfl⟩
def MD (n:Nat)(f:Nat->PV):(Np.fn n n (λi=>[(λi=>(Ef n f).getD i default) i]) (λi=>[f i])).ok:=⟨rfl,DA n f⟩
def AC4 (n:Nat)(z:PV):(Np.fn n n (λi=>[(λi=>(List.replicate n z).getD i default) i]) (λ_=>[z])).ok:=⟨rfl,OL rfl⟩
def AJ6 (c : α -> List PV)(v:Sl α)(z:List PV):(Np.fn (0+v.n) v.n (Es 0 (G2 z []) (λi=>c (v.g i))) (λi=>c (v.g i))).ok:=⟨Bl7 _,λi _=>by simp[Es]⟩
variable {ids:List (Nat×Nat)}{s t:St}{L M:Np}
def kl1 (i:Nat)(h:L.ok)(h1:(leK ids s t).map (Az7 [i] Np.src)=(leK ids s t).map (Az7 [i] Np.tgt):=by kernel_rfl)
 (a:(leK ids s t).map (λK=>[K[i]?])=some [some L]:=by kernel_rfl):KLe ids s t:=klR [(i,L)] (al1 h al0) h1 a
def kl2 (i j:Nat)(h:L.ok)(g:M.ok)(h1:(leK ids s t).map (Az7 [i,j] Np.src)=(leK ids s t).map (Az7 [i,j] Np.tgt):=by kernel_rfl)
 (a:(leK ids s t).map (λK=>[K[i]?,K[j]?])=some [some L,some M]:=by kernel_rfl):KLe ids s t:=klR [(i,L),(j,M)] (al1 h (al1 g al0)) h1 a
end
section
variable {S:U5}{P:Program}{F:M0}{g:Cfg}{pr:Prop}{sc:SC}{k:Env->B9->Prop}{κ ν : Type}
def lkC {kP : κ -> PV}{vP : ν -> PV}{cmp:PV->PV->Option Bool}{eq : κ -> κ -> Bool}(hc:∀a b,cmp (kP a) (kP b)=some (eq a b)){q : κ}{es:List (κ × ν)}{r:Option ν}(o:P1 eq q es=r):find cmp (kP q) (Dc kP vP es)=some (r.map vP):=by subst o;exact UY hc q es
def Xu (hS:G6 S P)(hc:pr)(kt e:TypeId)(kP : κ -> PV)(vP : ν -> PV)(eq : κ -> κ -> Bool){q : κ}{es:List (κ × ν)}{v : ν}(o:P1 eq q es=some v)(c:C4 (Hs P kt))(hk:KG S P F (Am0 (vP v) true (stp P g)))
 (d:∀a b,HL P kt (kP a) (kP b)=some (eq a b):=by exact λ_ _=>by kernel_rfl) (hp:pr=C4 (cnd P g):=by kernel_rfl) (f:Al9 P (stp P g)=some ⟨kt,e,kP q,Dc kP vP es⟩:=by kernel_rfl) (hx:UZ P e (some (vP v))=some (vP v,true):=by kernel_rfl):KG S P F g:=
 Zn hS hc (lkC d o) c hk hp f hx
def Xv (hS:G6 S P)(hc:pr)(kt e:TypeId)(kP : κ -> PV)(vP : ν -> PV)(eq : κ -> κ -> Bool){q : κ}{es:List (κ × ν)}(o:P1 eq q es=none)(x:PV)(c:C4 (Hs P kt))(hk:KG S P F (Am0 x false (stp P g)))
 (d:∀a b,HL P kt (kP a) (kP b)=some (eq a b):=by exact λ_ _=>by kernel_rfl) (hp:pr=C4 (cnd P g):=by kernel_rfl) (f:Al9 P (stp P g)=some ⟨kt,e,kP q,Dc kP vP es⟩:=by kernel_rfl) (hx:UZ P e none=some (x,false):=by kernel_rfl):KG S P F g:=
 Zn hS hc (lkC d o) c hk hp f hx
def Ad3 (hS:G6 S P)(hc:pr)(kt:TypeId)(kP : κ -> PV)(vP : ν -> PV)(eq : κ -> κ -> Bool)(q : κ)(y : ν)(es:List (κ × ν))(c:C4 (Hs P kt))(hk:KG S P F (Bg0 (Dc kP vP (Dd eq q y es)) (stp P g)))
 (d:∀a b,HL P kt (kP a) (kP b)=some (eq a b):=by exact λ_ _=>by kernel_rfl) (hp:pr=C4 (cnd P g):=by kernel_rfl) (f:Bf9 P (stp P g)=some (kt,kP q,vP y,Dc kP vP es):=by kernel_rfl):KG S P F g:=
 AA6 hS hc (SM d q y es) c hk hp f
def AC5 (hc:pr)(kt e:TypeId)(kP : κ -> PV)(vP : ν -> PV)(eq : κ -> κ -> Bool){q : κ}{es:List (κ × ν)}{v : ν}(o:P1 eq q es=some v)(c:C4 (Hs P kt))(hk:DG S P (Vb (vP v) true (BB P sc)) k)
 (d:∀a b,HL P kt (kP a) (kP b)=some (eq a b):=by exact λ_ _=>by kernel_rfl) (hp:pr=C4 (OC P sc):=by kernel_rfl) (f:OI P (BB P sc)=some ⟨kt,e,kP q,Dc kP vP es⟩:=by kernel_rfl) (hx:UZ P e (some (vP v))=some (vP v,true):=by kernel_rfl):DG S P sc k:=
 Zo hc (lkC d o) c hk hp f hx
def AR7 (hc:pr)(kt e:TypeId)(kP : κ -> PV)(vP : ν -> PV)(eq : κ -> κ -> Bool){q : κ}{es:List (κ × ν)}(o:P1 eq q es=none)(x:PV)(c:C4 (Hs P kt))(hk:DG S P (Vb x false (BB P sc)) k)
 (d:∀a b,HL P kt (kP a) (kP b)=some (eq a b):=by exact λ_ _=>by kernel_rfl) (hp:pr=C4 (OC P sc):=by kernel_rfl) (f:OI P (BB P sc)=some ⟨kt,e,kP q,Dc kP vP es⟩:=by kernel_rfl) (hx:UZ P e none=some (x,false):=by kernel_rfl):DG S P sc k:=
 Zo hc (lkC d o) c hk hp f hx
def SZ (hc:pr)(kt:TypeId)(kP : κ -> PV)(vP : ν -> PV)(eq : κ -> κ -> Bool)(q : κ)(y : ν)(es:List (κ × ν))(c:C4 (Hs P kt))(hk:DG S P (AA4 (Dc kP vP (Dd eq q y es)) (BB P sc)) k)
 (d:∀a b,HL P kt (kP a) (kP b)=some (eq a b):=by exact λ_ _=>by kernel_rfl) (hp:pr=C4 (OC P sc):=by kernel_rfl) (f:Vc P (BB P sc)=some (kt,kP q,vP y,Dc kP vP es):=by kernel_rfl):DG S P sc k:=
 AA7 hc (SM d q y es) c hk hp f
end
abbrev oV {α : Type}(t:TypeId)(k:Nat)(c : α -> List PV)(s:Sl α)(b:Bool):Obj:=.vec t k s.n (λi=>c (s.g i)) b
abbrev oM {κ ν : Type}(kP : κ -> PV)(vP : ν -> PV)(es:List (κ × ν)):Obj:=.map (Dc kP vP es)
end Go.AM
