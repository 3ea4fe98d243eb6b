/- What a law's walk and its plain proof need, part 4: no condition of its own. -/
import Derived.Test.YtegikiijkjlikaaGreatDoorCmC
import Derived.KernelRfl
set_option linter.defProp false
set_option linter.unusedSimpArgs false
set_option linter.unusedVariables false
set_option linter.unusedSectionVars false
set_option linter.unusedVariables false
namespace Go.AM
def AY3:=@Nat.le_of_ble_eq_true
def AZ5:=@List.mem_singleton
def Ba2:=@List.map_append
def Bb3:=@List.range_succ
def Bi7:=@List.tail_cons
def Bj7:=@List.mem_cons_self
section
variable (P:Program)
def stp (g:Cfg):Cfg:=(run P none 400 [] g).cfg
def cnd (g:Cfg):List Prop:=(run P none 400 [] g).conds
def Ot (d:Nat)(g:Cfg):Cfg:=(run P (some d) 400 [] g).cfg
def cndU (d:Nat)(g:Cfg):List Prop:=(run P (some d) 400 [] g).conds
def Cfg.st:Cfg->St
 |.code _ _ s=>s
 |.ops _ _ _ s=>s
 |.pop _ _ s=>s
def Cfg.k:Cfg->List It
 |.code _ K _=>K
 |.ops _ _ K _=>K
 |.pop _ K _=>K
def mkO {R:Type _}(env:Env)(regs:D1)(κ : Env->D1->R):R:=fE env fun env=>fR regs fun regs=>κ env regs
theorem GK {R:Type _}(env:Env)(regs:D1)(κ : Env->D1->R):mkO env regs κ = κ env regs:=by simp only[mkO,fE_eq,Az9]
def Aw9 {R:Type _}(d:Option Nat)(a:AV)(env:Env)(regs:D1)(κ : St->R):R:=match d with
 |some d=>mkO (ins d a env) regs fun env regs=>κ ⟨env,regs⟩
 |none=>mkO env regs fun env regs=>κ ⟨env,regs⟩
theorem Je {R:Type _}(d:Option Nat)(a:AV)(env:Env)(regs:D1)(κ : St->R):Aw9 d a env regs κ = κ (put ⟨env,regs⟩ d a):=by cases d<;>simp only[Aw9,GK,put]
def Ap1:Cfg->Option Bool
 |.code (.cond c _ _) _ st=>match aev st.env c with
  |.p (.bb b)=>some b
  |_=>none
 |_=>none
def AC8:Cfg->Cfg
 |.code (.cond _ t _) K st=>.code t K st
 |g=>g
def AC9:Cfg->Cfg
 |.code (.cond _ _ e) K st=>.code e K st
 |g=>g
def Wz:Cfg->Option Bool
 |.ops all (o::_) _ st=>match o.guard with
  |some (j,_)=>match AK8 all j with
   |some d=>match get st.env d with
    |.p (.bb b)=>some b
    |_=>none
   |none=>none
  |none=>none
 |_=>none
def Lr (b:Bool):Cfg->Cfg
 |.ops all (o::rest) K st=>match o.guard with
  |some (j,_)=>match AK8 all j with
   |some d=>Aw9 (some d) (.p (.v (.bool b))) st.env st.regs fun st=>.ops all (o::rest) K st
   |none=>.ops all (o::rest) K st
  |none=>.ops all (o::rest) K st
 |g=>g
def Yb (ids:List Nat):Cfg->Option (FuncId×List AV×List Obj)
 |.ops all (o::_) _ st=>match Cn all st.env o,o.op with
  |some true,.call c=>match c.callee with
   |.value f=>match MU st.regs (c.args.toList.map (aev st.env))with
    |some (as,regs)=>match TV st.env f as with
     |some (fn,as')=>match Cx ids as',J4 ids regs ids with
      |some a,some ob=>if F7 ids&&DV ob then some (fn,a,ob)else none
      |_,_=>none
     |none=>none
    |none=>none
   |_=>none
  |_,_=>none
 |_=>none
def Yc (ids:List Nat)(ks:List Bool)(n:Nat):Cfg->Bool
 |.ops _ (o::_) _ st=>match o.op with
  |.call c=>match MU st.regs (c.args.toList.map (aev st.env))with
   |some (_,regs)=>CL regs ids ks (o.dst.getD 0) n
   |none=>false
  |_=>false
 |_=>false
def Ap2 (ids:List Nat)(ks:List Bool)(r:AV)(objs' : List Obj):Cfg->Cfg
 |.ops all (o::rest) K st=>match o.op with
  |.call c=>match MU st.regs (c.args.toList.map (aev st.env))with
   |some (_,regs)=>Aw9 o.dst (unA (N9 (o.dst.getD 0) ids ks objs'.length) r) st.env
    (Zz (N9 (o.dst.getD 0) ids ks objs'.length) (N9 (o.dst.getD 0) ids ks objs'.length) objs' (O0 ids ks regs)) fun st=>.ops all rest K st
   |none=>.ops all (o::rest) K st
  |_=>.ops all (o::rest) K st
 |g=>g
structure LookI where
 kt:TypeId
 e:TypeId
 key:PV
 es:List (PV×PV)
def AD0:Cfg->Option LookI
 |.ops all (o::_) _ st=>match Cn all st.env o,o.op with
  |some true,.lookup t m k _=>match HE st.regs (aev st.env k),aev st.env m with
   |some (key,regs),.mref j=>match A2 regs j,tk P t with
    |some (.map es),some (.map kt e)=>if Kf P kt key=true then some ⟨kt,e,key,es⟩else none
    |_,_=>none
   |_,_=>none
  |_,_=>none
 |_=>none
def AN0 (e:TypeId):Option PV->Option (PV×Bool)
 |some x=>some (x,true)
 |none=>(KO P e).map fun z=>(z,false)
def AD1 (x:PV)(b:Bool):Cfg->Cfg
 |.ops all (o::rest) K st=>match o.op with
  |.lookup _ _ k ok=>match HE st.regs (aev st.env k)with
   |some (_,regs)=>Aw9 o.dst (if ok then .tup [.p x,.bool b]else .p x) st.env regs fun st=>.ops all rest K st
   |none=>.ops all (o::rest) K st
  |_=>.ops all (o::rest) K st
 |g=>g
def updE:Cfg->Option (TypeId×PV×PV×List (PV×PV))
 |.ops all (o::_) _ st=>match Cn all st.env o,o.op with
  |some true,.mapUpdate t m k x=>match aev st.env k,aev st.env m,HE st.regs (aev st.env x)with
   |.p key,.mref j,some (y,regs)=>match A2 regs j,tk P t with
    |some (.map es),some (.map kt _)=>if Kf P kt (nP key)=true then some (kt,nP key,y,es)else none
    |_,_=>none
   |_,_,_=>none
  |_,_=>none
 |_=>none
def updK (es' : List (PV×PV)):Cfg->Cfg
 |.ops all (o::rest) K st=>match o.op with
  |.mapUpdate _ m _ x=>match aev st.env m,HE st.regs (aev st.env x)with
   |.mref j,some (_,regs)=>Aw9 o.dst Xx st.env (ins j (.map es') regs) fun st=>.ops all rest K st
   |_,_=>.ops all (o::rest) K st
  |_=>.ops all (o::rest) K st
 |g=>g
def HR:Cfg->Bool
 |.code (.loop _) _ _=>true
 |_=>false
def RM:Cfg->Code
 |.code (.loop b) _ _=>b
 |_=>.skip
def popSt:Cfg->Option St
 |.pop .normal _ st=>some st
 |_=>none
def RN (M:It):Nat->List It->List It
 |0,K=>M::K
 |n+1,i::K=>i::RN M n K
 |_+1,[]=>[M]
def AN1 (n:Nat)(M:St->Prop):Cfg->Cfg
 |.code c K st=>.code c (RN (.mid M) n K) st
 |.ops all rest K st=>.ops all rest (RN (.mid M) n K) st
 |.pop e K st=>.pop e (RN (.mid M) n K) st
def Ls:Cfg->Bool
 |.ops _ (_::_) _ _=>true
 |_=>false
def opsS (st:St):Cfg->Cfg
 |.ops all rest K _=>.ops all rest K st
 |g=>g
def AD2:Cfg->Option St
 |.pop .ret [] st=>some st
 |.pop .normal [] st=>some st
 |_=>none
inductive Leaf where
 |eq (x y:PV)
 |fn (n m:Nat) (f g:Nat->List PV)
 |mp (x y:List (PV×PV))
 |yl (x y:List (List PV)) (b c:Bool)
 |nt (a b:Nat)
inductive LV where
 |eq (x:PV)
 |fn (n:Nat) (f:Nat->List PV)
 |mp (x:List (PV×PV))
 |yl (x:List (List PV)) (b:Bool)
 |nt (a:Nat)
def Leaf.src:Leaf->LV
 |.eq x _=>.eq x
 |.fn n _ f _=>.fn n f
 |.mp x _=>.mp x
 |.yl x _ b _=>.yl x b
 |.nt a _=>.nt a
def Leaf.tgt:Leaf->LV
 |.eq _ y=>.eq y
 |.fn _ m _ g=>.fn m g
 |.mp _ y=>.mp y
 |.yl _ y _ c=>.yl y c
 |.nt _ b=>.nt b
def Leaf.ok:Leaf->Prop
 |.eq x y=>x=y
 |.fn n m f g=>n=m/\∀i,i<n->f i=g i
 |.mp x y=>x=y
 |.yl x y b c=>x=y/\b=c
 |.nt a b=>a=b
theorem Leaf.ok_of {l:Leaf}(h:l.src=l.tgt):l.ok:=by
 cases l with
 |eq x y=>simp only[Leaf.src,Leaf.tgt,LV.eq.injEq]at h;exact h
 |fn n m f g=>simp only[Leaf.src,Leaf.tgt,LV.fn.injEq]at h;obtain⟨rfl,rfl⟩:=h;exact⟨rfl,fun _ _=>rfl⟩
 |mp x y=>simp only[Leaf.src,Leaf.tgt,LV.mp.injEq]at h;exact h
 |yl x y b c=>simp only[Leaf.src,Leaf.tgt,LV.yl.injEq]at h;exact h
 |nt a b=>simp only[Leaf.src,Leaf.tgt,LV.nt.injEq]at h;exact h
def AD3:PV->PV->Leaf
 |.v (.bool b),.bb c=>.eq (.bb b) (.bb c)
 |.v (.slice none 0 0),.sl false _ n f=>.fn 0 n f f
 |.sl nn k n f,.sl false l m g=>if k=l then .fn n m f g else .eq (.sl nn k n f) (.sl false l m g)
 |x,y=>.eq x y
mutual
def Jf (regs:D1)(ids:List (Nat×Nat))(a b:AV):Option (List Leaf):=
 match b with
 |.top=>some []
 |.p y=>match viewP regs a with
  |some x=>some [AD3 x y]
  |none=>none
 |.reg j off=>match a with | .reg i off'=>if lk ids j=some i/\off=off' then some []else none|_=>none
 |.vec j=>match a with
  |.vec i=>if lk ids j=some i then some []else none
  |.p (.v (.slice none 0 0))=>if lk ids j=none then some []else none
  |_=>none
 |.vecp j n=>match a with | .vecp i m=>if lk ids j=some i/\n=m then some []else none|_=>none
 |.elt j k n off=>match a with | .elt i k' n' off'=>if lk ids j=some i/\k=k' /\ n=n' /\ off=off' then some []else none|_=>none
 |.mref j=>match a with | .mref i=>if lk ids j=some i then some []else none|_=>none
 |.yf j=>match a with | .yf i=>if lk ids j=some i then some []else none|_=>none
 |.clo f x y=>match a with
  |.clo f' x' y'=>match Nb regs ids x' x,Nb regs ids y' y with|some l,some m=>some (.nt f' f::l++m)|_,_=>none
  |_=>none
 |.tup l=>match a with | .tup l'=>Nb regs ids l' l|_=>none
 |.agr l=>match a with | .agr l'=>Nb regs ids l' l|_=>none
def Nb (regs:D1)(ids:List (Nat×Nat))(a b:List AV):Option (List Leaf):=
 match b with
 |[]=>match a with | []=>some [] | _=>none
 |y::s=>match a with
  |x::r=>match Jf regs ids x y,Nb regs ids r s with|some l,some m=>some (l++m)|_,_=>none
  |[]=>none
end
def Ap3 (regs:D1)(ids:List (Nat×Nat))(env:Env):Env->Option (List Leaf)
 |[]=>some []
 |(t,b)::r=>match Jf regs ids (get env t) b,Ap3 regs ids env r with|some l,some m=>some (l++m)|_,_=>none
def RO (regs:D1)(ids:List (Nat×Nat))(o p:Obj):Option (List Leaf):=
 match p with
 |.cells cs=>match o with | .cells cs'=>Nb regs ids cs' cs|_=>none
 |.vec e k n f vw=>match o with
  |.vec e' k' m g vw'=>if e=e' /\ k=k' /\ (vw' = true->vw=true)then some [.fn m n g f]else none
  |_=>none
 |.map es=>match o with | .map es'=>some [.mp es' es] | _=>none
 |.arr n f=>match o with | .arr m g=>some [.fn m n (fun i=>[g i]) (fun i=>[f i])] | _=>none
 |.ghost cs=>match o with | .ghost cs'=>Nb regs ids cs' cs|_=>none
 |.yld r b=>match o with | .yld r' b'=>some [.yl r' r b' b] | _=>none
 |.dead=>some []
def Ap4 (regs:D1)(ids:List (Nat×Nat)):D1->Option (List Leaf)
 |[]=>some []
 |(j,p)::r=>match (match lk ids j with
  |some i=>match A2 regs i with
   |some o=>RO regs ids o p
   |none=>none
  |none=>match p with
   |.vec _ _ n f _=>some [.fn 0 n f f]
   |_=>none:Option (List Leaf)),Ap4 regs ids r with
  |some l,some m=>some (l++m)
  |_,_=>none
def leK (ids:List (Nat×Nat))(s t:St):Option (List Leaf):=
 if (wf t&&F7 (ids.map (·.2))&&Xz ids&&NR ids t.regs&&Jw ids (Al2 s.env t.env++HH ids s.regs t.regs) t.regs)=true then
  match Ap3 s.regs ids s.env t.env,Ap4 s.regs ids t.regs with
  |some l,some m=>some (l++m)
  |_,_=>none
 else none
theorem Ap5 {x y:PV}(h:(AD3 x y).ok):leP x y:=by
 unfold AD3 at h;split at h
 ·simp only[Leaf.ok,PV.bb.injEq]at h;subst h;exact .inr (.inr (.inr (.inl ⟨_,rfl,rfl⟩)))
 ·obtain⟨rfl,_⟩:=h;exact .inr (.inr (.inl ⟨_,_,rfl,rfl⟩))
 ·split at h
  ·rename_i hk;subst hk;obtain⟨rfl,h⟩:=h;exact .inr (.inl ⟨_,_,_,_,_,rfl,rfl,h⟩)
  ·exact .inl h
 ·exact .inl h
theorem Lt {l m:List Leaf}(h:∀x∈l++m,x.ok):(∀x∈l,x.ok)/\∀x∈m,x.ok:=
 ⟨fun x hx=>h x (AU2 _ hx),fun x hx=>h x (AT1 _ hx)⟩
mutual
theorem WA {regs:D1}{ids:List (Nat×Nat)}{a:AV}(b:AV){L:List Leaf}(h:Jf regs ids a b=some L)(hL:∀x∈L,x.ok):leA regs ids a b:=by
 cases b with
 |top=>unfold leA;trivial
 |p y=>
  unfold Jf at h;split at h
  ·rename_i x hx;cases h;unfold leA;exact⟨x,hx,Ap5 (hL _ (by simp))⟩
  ·cases h
 |reg j off=>
  unfold Jf at h;split at h
  ·split at h
   ·rename_i hh;obtain⟨h1,rfl⟩:=hh;exact AL1 h1
   ·cases h
  ·cases h
 |vec j=>
  unfold Jf at h;split at h
  ·split at h
   ·rename_i h1;exact AL0 h1
   ·cases h
  ·split at h
   ·rename_i h1;exact AA3 h1
   ·cases h
  ·cases h
 |vecp j n=>
  unfold Jf at h;split at h
  ·split at h
   ·rename_i hh;obtain⟨h1,rfl⟩:=hh;unfold leA;exact⟨_,h1,rfl⟩
   ·cases h
  ·cases h
 |elt j k n off=>
  unfold Jf at h;split at h
  ·split at h
   ·rename_i hh;obtain⟨h1,rfl,rfl,rfl⟩:=hh;unfold leA;exact⟨_,h1,rfl⟩
   ·cases h
  ·cases h
 |mref j=>
  unfold Jf at h;split at h
  ·split at h
   ·rename_i h1;exact ZS h1
   ·cases h
  ·cases h
 |yf j=>
  unfold Jf at h;split at h
  ·split at h
   ·rename_i h1;exact le_yf h1
   ·cases h
  ·cases h
 |clo f x y=>
  unfold Jf at h;split at h
  ·split at h
   ·rename_i l m h1 h2;cases h;have hf:=hL _ (Bj7 ..);simp only[Leaf.ok]at hf;subst hf;obtain⟨h3,h4⟩:=Lt fun x hx=>hL x (AU9 _ hx);exact AL2 (EB x h1 h3) (EB y h2 h4)
   ·cases h
  ·cases h
 |tup l=>
  unfold Jf at h;split at h
  ·exact AM8 (EB l h hL)
  ·cases h
 |agr l=>
  unfold Jf at h;split at h
  ·exact AM9 (EB l h hL)
  ·cases h
theorem EB {regs:D1}{ids:List (Nat×Nat)}{a:List AV}(b:List AV){L:List Leaf}(h:Nb regs ids a b=some L)(hL:∀x∈L,x.ok):leL regs ids a b:=by
 cases b with
 |nil=>
  unfold Nb at h;split at h
  ·exact AA4
  ·cases h
 |cons y s=>
  unfold Nb at h;split at h
  ·split at h
   ·rename_i l m h1 h2;cases h;obtain⟨h3,h4⟩:=Lt hL;exact Al7 (WA y h1 h3) (EB s h2 h4)
   ·cases h
  ·cases h
end
theorem WB {regs:D1}{ids:List (Nat×Nat)}{env:Env}:∀(t:Env) {L:List Leaf},Ap3 regs ids env t=some L->(∀x∈L,x.ok)->KT regs ids env t
 |[],_,_,_=>trivial
 |(t,b)::r,L,h,hL=>by
  simp only[Ap3]at h;split at h
  ·rename_i l m h1 h2;cases h;obtain⟨h3,h4⟩:=Lt hL;exact⟨WA b h1 h3,WB r h2 h4⟩
  ·cases h
theorem Ap6 {regs:D1}{ids:List (Nat×Nat)}{o p:Obj}{L:List Leaf}(h:RO regs ids o p=some L)(hL:∀x∈L,x.ok):leO regs ids o p:=by
 cases p with
 |cells cs=>
  simp only[RO]at h;split at h
  ·exact Al8 (EB cs h hL)
  ·cases h
 |vec e k n f vw=>
  simp only[RO]at h;split at h
  ·split at h
   ·rename_i hh;obtain⟨rfl,rfl,hv⟩:=hh;cases h;obtain⟨rfl,h1⟩:=hL _ (AZ5.2 rfl);exact⟨_,_,rfl,h1,hv⟩
   ·cases h
  ·cases h
 |map es=>
  simp only[RO]at h;split at h
  ·cases h
   have:=hL _ (AZ5.2 rfl)
   simp only[Leaf.ok]at this;subst this;rfl
  ·cases h
 |arr n f=>
  simp only[RO]at h;split at h
  ·cases h;obtain⟨rfl,h1⟩:=hL _ (AZ5.2 rfl);exact⟨_,rfl,fun i hi=>by simpa using h1 i hi⟩
  ·cases h
 |ghost cs=>
  simp only[RO]at h;split at h
  ·exact⟨_,rfl,EB cs h hL⟩
  ·cases h
 |yld r b=>
  simp only[RO]at h;split at h
  ·cases h;obtain⟨rfl,rfl⟩:=hL _ (AZ5.2 rfl);rfl
  ·cases h
 |dead=>trivial
theorem WC {regs:D1}{ids:List (Nat×Nat)}:∀(t:D1) {L:List Leaf},Ap4 regs ids t=some L->(∀x∈L,x.ok)->Re regs ids t
 |[],_,_,_=>trivial
 |(j,p)::r,L,h,hL=>by
  simp only[Ap4]at h;split at h
  ·rename_i l m h1 h2;cases h;obtain⟨h3,h4⟩:=Lt hL;refine⟨?_,WC r h2 h4⟩;split at h1
   ·rename_i i hi;split at h1
    ·rename_i o ho;exact .inl ⟨i,o,hi,ho,Ap6 h1 h3⟩
    ·cases h1
   ·rename_i hi;split at h1
    ·cases h1;obtain⟨rfl,_⟩:=h3 _ (AZ5.2 rfl);exact .inr ⟨hi,_,_,_,_,rfl⟩
    ·cases h1
  ·cases h
theorem Ax0 {ids:List (Nat×Nat)}{s t:St}{L:List Leaf}(h:leK ids s t=some L)(hL:∀x∈L,x.ok):Le ids s t:=by
 unfold leK at h;split at h
 ·rename_i hw;split at h
  ·rename_i l m h1 h2;cases h;obtain⟨h3,h4⟩:=Lt hL;exact le_mk hw (WB _ h1 h3) (WC _ h2 h4)
  ·cases h
 ·cases h
theorem kle {ids:List (Nat×Nat)}{s t:St}(h:(leK ids s t).map (·.map Leaf.src)=(leK ids s t).map (·.map Leaf.tgt):=by kernel_rfl)(h1:(leK ids s t).isSome=true:=by kernel_rfl):Le ids s t:=by
 obtain⟨L,hL⟩:=AU0.1 h1;rw[hL]at h;simp only[AT0,AS0]at h;refine Ax0 hL fun x hx=>?_;obtain⟨i,hi,rfl⟩:=Ba9.1 hx
 have:=congrArg (·[i]?) h
 simp only[AS5,AS2 hi,AT0,AS0]at this;exact Leaf.ok_of this
def AN2 (is:List Nat)(f:Leaf->LV)(L:List Leaf):List (Option LV):=L.zipIdx.map fun q=>if is.contains q.2=true then none else some (f q.1)
theorem kleR {ids:List (Nat×Nat)}{s t:St}(rs:List (Nat×Leaf))(hr:∀q∈rs,q.2.ok)(h:(leK ids s t).map (AN2 (rs.map (·.1)) Leaf.src)=(leK ids s t).map (AN2 (rs.map (·.1)) Leaf.tgt):=by kernel_rfl)
 (h2:(leK ids s t).map (fun L=>rs.map fun q=>L[q.1]?)=some (rs.map fun q=>some q.2):=by kernel_rfl):Le ids s t:=by
 cases hL:leK ids s t with
 |none=>rw[hL]at h2;cases h2
 |some L=>
  rw[hL]at h h2;simp only[AT0,AS0]at h h2;refine Ax0 hL fun x hx=>?_;obtain⟨i,hi,rfl⟩:=Ba9.1 hx;by_cases hm:(rs.map (·.1)).contains i=true
  ·simp only[AV2,decide_eq_true_eq,AY4]at hm;obtain⟨q,hq,rfl⟩:=hm;obtain⟨k,hk,rfl⟩:=Ba9.1 hq
   have:=congrArg (·[k]?) h2
   simp only[AS5,AS2 hk,AT0,AS0,AS2 hi]at this;rw[this];exact hr _ hq
  ·have:=congrArg (·[i]?) h
   simp only[AN2,AS5,List.getElem?_zipIdx,AS2 hi,AT0,AV3,hm,AS0]at this;exact Leaf.ok_of (by simpa using this)
end
section
variable {P:Program}
variable {S:Br}{F:J3}{g:Cfg}{pr:Prop}
theorem Fd (hS:G9 S P)(hc:pr)(h:G S P F (stp P g))(hp:pr=D9 (cnd P g):=by kernel_rfl):G S P F g:=
 (KV (F:=F) hS 400 [] g (by subst hp;exact hc)).2 h
theorem AN3 (hS:G9 S P)(hc:pr){b:Bool}(ht:b=true->G S P F (AC8 (stp P g)))(hf:b=false->G S P F (AC9 (stp P g)))(hp:pr=D9 (cnd P g):=by kernel_rfl)(hb:Ap1 (stp P g)=some b:=by kernel_rfl):G S P F g:=by
 refine Fd hS hc ?_ hp;generalize stp P g=g' at hb ht hf;unfold Ap1 at hb;split at hb
 ·split at hb
  ·rename_i hc;cases hb;exact AK7 hc ht hf
  ·cases hb
 ·cases hb
theorem AD4 (hS:G9 S P)(hc:pr){b:Bool}(ht:b=true->G S P F (Lr true (stp P g)))(hf:b=false->G S P F (Lr false (stp P g)))(hp:pr=D9 (cnd P g):=by kernel_rfl)(hb:Wz (stp P g)=some b:=by kernel_rfl):G S P F g:=by
 refine Fd hS hc ?_ hp;generalize stp P g=g' at hb ht hf;unfold Wz at hb;split at hb
 ·split at hb
  ·rename_i hg;split at hb
   ·rename_i hd;split at hb
    ·rename_i hbb;cases hb;simp only[Lr,hg,hd,Je,put]at ht hf;exact AA1 hS hg hd hbb ht hf
    ·cases hb
   ·cases hb
  ·cases hb
 ·cases hb
theorem AN4 (hS:G9 S P)(ids:List Nat)(hc:pr){fn:FuncId}{args:List AV}{objs objs' : List Obj}{r:AV}{ks:List Bool}(hF:FunO S fn args objs r objs' ks)
 (hk:G S P F (Ap2 ids ks r objs' (stp P g))) (hp:pr=D9 (cnd P g):=by kernel_rfl) (he:Yb ids (stp P g)=some (fn,args,objs):=by kernel_rfl) (hn:Yc ids ks objs'.length (stp P g)=true:=by kernel_rfl):G S P F g:=by
 refine Fd hS hc ?_ hp;generalize stp P g=g' at he hn hk;unfold Yb at he;split at he
 ·split at he
  ·rename_i hg ho;split at he
   ·rename_i hcl;split at he
    ·rename_i ha;split at he
     ·rename_i hw;split at he
      ·rename_i hr hob;split at he
       ·rename_i hdy;cases he;simp only[AS3]at hdy;simp only[Ap2,Yc,ho,ha,Je]at hk hn;exact AA2 hS ids hg ho hcl ha hw hr hob hF hdy.1 hdy.2 hn hk
       ·cases he
      ·cases he
     ·cases he
    ·cases he
   ·cases he
  ·cases he
 ·cases he
theorem Ap7 (hS:G9 S P)(hc:pr){kt e:TypeId}{key:PV}{es:List (PV×PV)}{x:PV}{b:Bool}{fd:Option PV}
 (hf:find (MX P kt) key es=some fd) (hcc:D9 (Pw P kt))
 (hk:G S P F (AD1 x b (stp P g))) (hp:pr=D9 (cnd P g):=by kernel_rfl) (he:AD0 P (stp P g)=some ⟨kt,e,key,es⟩:=by kernel_rfl) (hx:AN0 P e fd=some (x,b):=by kernel_rfl):G S P F g:=by
 refine Fd hS hc ?_ hp;generalize stp P g=g' at he hk;unfold AD0 at he;split at he
 ·split at he
  ·rename_i hg ho;split at he
   ·rename_i hv hm;split at he
    ·rename_i hr ht;split at he
     ·rename_i hko;simp only[AS0,LookI.mk.injEq]at he;obtain⟨rfl,rfl,rfl,rfl⟩:=he;simp only[AD1,ho,hv,Je]at hk;cases fd with
      |some y=>exact Wy (fd:=some y) hS hg ho hv hm hr ht hko hf hx hcc hk
      |none=>exact Wy (fd:=none) hS hg ho hv hm hr ht hko hf hx hcc hk
     ·cases he
    ·cases he
   ·cases he
  ·cases he
 ·cases he
theorem Ap8 (hS:G9 S P)(hc:pr){kt:TypeId}{key y:PV}{es es' : List (PV×PV)}
 (hu:upd (MX P kt) key y es=some es') (hcc:D9 (Pw P kt)) (hk:G S P F (updK es' (stp P g))) (hp:pr=D9 (cnd P g):=by kernel_rfl) (he:updE P (stp P g)=some (kt,key,y,es):=by kernel_rfl):G S P F g:=by
 refine Fd hS hc ?_ hp;generalize stp P g=g' at he hk;unfold updE at he;split at he
 ·split at he
  ·rename_i hg ho;split at he
   ·rename_i h1 h2 hv;split at he
    ·rename_i hr ht;split at he
     ·rename_i hko;simp only[AS0,AU5]at he;obtain⟨rfl,rfl,rfl,rfl⟩:=he;simp only[updK,ho,h2,hv,Je]at hk;exact Ur hS hg ho h1 hv h2 hr ht hko hu hcc hk
     ·cases he
    ·cases he
   ·cases he
  ·cases he
 ·cases he
theorem AN5 (hS:G9 S P)(hc:pr)(st:St){ids:List (Nat×Nat)}(hk:G S P F (opsS st (stp P g)))(hp:pr=D9 (cnd P g):=by kernel_rfl)(ho:Ls (stp P g)=true:=by kernel_rfl)(hle:Le ids (stp P g).st st:=by exact kle):G S P F g:=by
 refine Fd hS hc ?_ hp;generalize stp P g=g' at ho hle hk;unfold Ls at ho;split at ho
 ·exact Ac1 hS st ids hle hk
 ·cases ho
end
section
variable {S:Br}{P:Program}{F:J3}{g:Cfg}{pr:Prop}
theorem HS (hS:G9 S P){K1 K2:List It}(h:∀e s,kp S P K1 F e s->kp S P K2 F e s):∀(K:List It) (e:KP) (s:St),kp S P (K++K1) F e s->kp S P (K++K2) F e s
 |[],e,s,hk=>h e s hk
 |.code c::K,e,s,hk=>by simp only[AV9,kp]at hk⊢;exact PS hS (fun t=>Bc hS c (HS hS h K)) (HS hS h K) e s hk
 |.blk id::K,e,s,hk=>by
  simp only[AV9,kp]at hk⊢;cases e with
  |exit i=>
   simp only[blk]at hk⊢;split at hk
   ·rename_i hi;rw[if_pos hi];exact HS hS h K _ _ hk
   ·rename_i hi;rw[if_neg hi];exact HS hS h K _ _ hk
  |_=>exact HS hS h K _ _ hk
 |.lp X s' J m n::K,e,s,hk=>by
  simp only[AV9,kp]at hk⊢;cases e with
  |normal=>exact hk
  |_=>exact HS hS h K _ _ hk
 |.mid M::K,e,s,hk=>by simp only[AV9,kp]at hk⊢;exact PS hS (fun t h=>h) (HS hS h K) e s hk
 |.scp::K,e,s,hk=>by
  simp only[AV9,kp]at hk⊢;cases e with
  |goto l=>exact hk
  |_=>exact HS hS h K _ _ hk
theorem WD (M:It):∀(n:Nat) (K:List It),n<=K.length->RN M n K=K.take n++M::K.drop n
 |0,K,_=>by simp[RN]
 |n+1,i::K,h=>by simp only[RN,Bb5,List.drop_succ_cons,AV9,WD M n K (by simpa using h)]
 |n+1,[],h=>by simp at h
theorem Ax1 (hS:G9 S P)(hF:∀s,S.up s (F .normal)->F .normal s)(n:Nat)(hn:n<=g.k.length){M:St->Prop}(hM:∀t,M t->G S P F (.pop .normal (g.k.drop n) t))(h:G S P F (AN1 n M g)):G S P F g:=by
 have hk:∀e s,kp S P (RN (.mid M) n g.k) F e s->kp S P g.k F e s:=by
  intro e s;rw[WD _ _ _ hn]
  conv=>rhs;rw[<- Bc3 n g.k]
  exact HS hS (AM6 hS hF hM) _ e s
 cases g with
 |code c K st=>exact Bc hS c hk h
 |ops all rest K st=>exact Fx hS hk rest h
 |pop e K st=>exact hk e st h
theorem J_cut (hS:G9 S P)(hc:pr)(hF:∀s,S.up s (F .normal)->F .normal s)(n:Nat)(s:St)
 (h1:∀(M:St->Prop),(∀(g' : Cfg) (ids:List (Nat×Nat)) (pr:Prop),pr->(hp:pr=D9 (cnd P g'):=by kernel_rfl)->(he:stp P g' = .pop .normal (.mid M::(stp P g).k.drop n) (stp P g').st:=by kernel_rfl)->(hle:Le ids (stp P g').st s:=by exact kle)->G S P F g')->G S P F (AN1 n M (stp P g)))
 (h2:G S P F (.pop .normal ((stp P g).k.drop n) s)) (hp:pr=D9 (cnd P g):=by kernel_rfl) (hn:Nat.ble n (stp P g).k.length=true:=by kernel_rfl):G S P F g:=by
 refine Fd hS hc ?_ hp;refine Ax1 hS hF n (AY3 hn) (M:=fun t=>t=s) (fun t ht=>by subst ht;exact h2) (h1 _ fun g' ids pr hc hp he hle=>?_);refine Fd hS hc ?_ hp;rw[he];exact hS.le ids _ _ _ hle rfl
theorem J_lt (hS:G9 S P)(hc:pr)(hF:∀s,S.up s (F .normal)->F .normal s){R A:Type}{f:(A->Option R)->Option R}{k0:A->Option R}{r:R}(h:lt k0 f=some r)(n:Nat)(s:A->St)
 (h1:∀(M:St->Prop) (k:A->Option R),(∀(g' : Cfg) (ids:List (Nat×Nat)) (pr:Prop) (a:A),pr->k a=some r->(hp:pr=D9 (cnd P g'):=by kernel_rfl)->(he:stp P g' = .pop .normal (.mid M::(stp P g).k.drop n) (stp P g').st:=by kernel_rfl)->(hle:Le ids (stp P g').st (s a):=by exact kle)->G S P F g')->f k=some r->G S P F (AN1 n M (stp P g)))
 (h2:∀a,k0 a=some r->G S P F (.pop .normal ((stp P g).k.drop n) (s a))) (hp:pr=D9 (cnd P g):=by kernel_rfl) (hn:Nat.ble n (stp P g).k.length=true:=by kernel_rfl):G S P F g:=by
 refine Fd hS hc ?_ hp;refine Ax1 hS hF n (AY3 hn) (M:=fun t=>∃a,t=s a/\k0 a=some r) (fun t ⟨a,ht,hk⟩=>by subst ht;exact h2 a hk) (h1 _ k0 (fun g' ids pr a hc hk hp he hle=>?_) h);refine Fd hS hc ?_ hp;rw[he];exact hS.le ids _ _ _ hle ⟨a,rfl,hk⟩
theorem Ac3 {g:Cfg}(h:HR g=true):g=.code (.loop (RM g)) g.k g.st:=by
 unfold HR at h;split at h
 ·rfl
 ·cases h
theorem AN6 (hS:G9 S P)(hc:pr){R A:Type}{body:(A->Option R)->A->Option R}{N:Nat}{a0:A}{r:R}(h:U3 N body a0=some r)(s:A->St){ids:List (Nat×Nat)}
 (hr:∀(X:Type) (s' : X->St) (J:X->Prop) (m:X->Nat) (n:Nat) (self:A->Option R) (a:A),
  (∀(g' : Cfg) (ids:List (Nat×Nat)) (pr:Prop) (a:A),pr->self a=some r->(hp:pr=D9 (cnd P g'):=by kernel_rfl)->(he:stp P g' = .pop .normal (.lp X s' J m n::(stp P g).k) (stp P g').st:=by kernel_rfl)->(hle:Le ids (stp P g').st (s a):=by exact kle)->G S P F g') ->
  body self a=some r->G S P F (.code (RM (stp P g)) (.lp X s' J m n::(stp P g).k) (s a))) (hp:pr=D9 (cnd P g):=by kernel_rfl) (hl:HR (stp P g)=true:=by kernel_rfl) (hle:Le ids (stp P g).st (s a0):=by exact kle):G S P F g:=by
 refine Fd hS hc ?_ hp;rw[Ac3 hl];refine AM7 hS h s ids hle fun X s' J m n self a hb hbody=>hr X s' J m n self a (fun g' ids pr a hc hself hp he hle=>?_) hbody;refine Fd hS hc ?_ hp;rw[he];exact hb _ _ _ hle hself
def Ut (P:Program)(st:St)(rs:List ResultVar)(outs:List Nat):Option (AV×List Obj):=match Fq P st rs with
 |some l=>match QU outs (one l),J4 outs st.regs outs with
  |some a,some o=>if F7 outs=true then some (a,o)else none
  |_,_=>none
 |none=>none
theorem J_ret (hS:G9 S P)(hc:pr){n:Nat}{rs:List ResultVar}{Q:KQ->List Obj->List Bool->Prop}{a:AV}{objs:List Obj}(outs:List Nat)(hQ:Q (.ret a) objs (EY n outs))(hp:pr=D9 (cnd P g):=by kernel_rfl)(he:(AD2 (stp P g)).bind (fun st=>Ut P st rs outs)=some (a,objs):=by kernel_rfl) :G S P (BP S P n rs Q) g:=by
 refine Fd hS hc ?_ hp;generalize stp P g=g' at he;obtain⟨st,h1,h2⟩:=AZ8.1 he;unfold Ut at h2;split at h2
 ·rename_i l hl;split at h2
  ·rename_i hr ho;split at h2
   ·rename_i hd;cases h2;unfold AD2 at h1;split at h1
    ·cases h1;exact hS.refl _ _ ⟨l,outs,a,objs,hl,hd,hr,ho,hQ⟩
    ·cases h1;exact hS.refl _ _ ⟨l,outs,a,objs,hl,hd,hr,ho,hQ⟩
    ·cases h1
   ·cases h2
  ·cases h2
 ·cases h2
theorem AN7 (hS:G9 S P)(hc:pr){n:Nat}{rs:List ResultVar}{Q:KQ->List Obj->List Bool->Prop}{a:AV}{objs:List Obj}(st:St)(outs:List Nat){ids:List (Nat×Nat)}(hQ:Q (.ret a) objs (EY n outs))(hp:pr=D9 (cnd P g):=by kernel_rfl)(he:(AD2 (stp P g)).isSome=true:=by kernel_rfl)(hle:Le ids (stp P g).st st:=by exact kle)(hr:Ut P st rs outs=some (a,objs):=by kernel_rfl) :G S P (BP S P n rs Q) g:=by
 refine Fd hS hc ?_ hp;generalize stp P g=g' at he hle;have h2:=hr;unfold Ut at h2;split at h2
 ·rename_i l hl;split at h2
  ·rename_i hr ho;split at h2
   ·rename_i hd;cases h2;unfold AD2 at he;split at he
    ·exact hS.le ids _ _ _ hle ⟨l,outs,a,objs,hl,hd,hr,ho,hQ⟩
    ·exact hS.le ids _ _ _ hle ⟨l,outs,a,objs,hl,hd,hr,ho,hQ⟩
    ·cases he
   ·cases h2
  ·cases h2
 ·cases h2
theorem AD5 (hS:G9 S P){f:FuncId}{fn:Func}{args:List AV}{objs objs' : List Obj}{ks:List Bool}{r:AV}(hf:P.funcs[f]? = some fn)
 (h:G S P (BP S P objs.length fn.results.toList fun res o k=>res=.ret r/\o=objs' /\ k=ks) (.code (fn.body.getD .skip) [] { env:=argEnv args,regs:=objRegs objs }))
 (hc:fn.body.isSome=true:=by kernel_rfl) (hn:Nat.ble args.length fn.ntmps=true:=by kernel_rfl) (ho:Nat.blt objs.length 1000=true:=by kernel_rfl)
 (hco:Af fn.ntmps (fn.body.getD .skip)=true:=by kernel_rfl) (hnm:(fn.name == "runtime.NumGoroutine")=false:=by kernel_rfl):FunO S f args objs r objs' ks:=by
 obtain⟨code,hcode⟩:=AU0.1 hc;rw[hcode,AS8]at hco h;exact ZT hS hf hcode (AY3 hn) (by simpa[Bb2]using ho) rfl hco hnm h
theorem al0:∀q∈([]:List (Nat×Leaf)),q.2.ok:=fun _ h=>by cases h
theorem al1 {i:Nat}{l:Leaf}{rs:List (Nat×Leaf)}(h:l.ok)(t:∀q∈rs,q.2.ok):∀q∈(i,l)::rs,q.2.ok:=fun q hq=>by
 rcases AW0.1 hq with rfl|hq
 ·exact h
 ·exact t q hq
structure SC where
 all:List Oper
 cls:List Cls
 rest:List Oper
 env:Env
 regs:D1
 kn:List Nat
def SG (S:Br)(P:Program)(sc:SC)(k:Env->D1->Prop):Prop:=MV S P sc.all sc.cls sc.rest sc.env sc.regs k
def Fn (P:Program)(sc:SC):SC:=match MW P sc.kn sc.all sc.cls sc.rest [] sc.env sc.regs with
 |⟨_,cls,rest,env,regs⟩=>⟨sc.all,cls,rest,env,regs,sc.kn⟩
def ZB (P:Program)(sc:SC):List Prop:=(MW P sc.kn sc.all sc.cls sc.rest [] sc.env sc.regs).conds
def CS:Cfg->Bool
 |.code (.region _ _ true) _ _=>true
 |_=>false
def Hr:Cfg->SC
 |.code (.region _ ops true) _ st=>⟨ops.toList,ops.toList.map fun o=>AR0 o.op,ops.toList,st.env,st.regs,[]⟩
 |_=>⟨[],[],[],[],[],[]⟩
theorem AD6 (hS:G9 S P)(hc:pr)
 (h:SG S P (Hr (stp P g)) fun env regs=>G S P F (.pop .normal (stp P g).k ⟨env,regs⟩)) (hp:pr=D9 (cnd P g):=by kernel_rfl) (hd:CS (stp P g)=true:=by kernel_rfl) (hmix:P.follows .mixedOrders=true:=by kernel_rfl) (hok:JC (Hr (stp P g)).all (Hr (stp P g)).cls=true:=by kernel_rfl):G S P F g:=by
 refine Fd hS hc ?_ hp;generalize stp P g=g' at hd hok h;unfold CS at hd;split at hd
 ·exact Ao3 hS hmix rfl hok h
 ·cases hd
section
variable {sc:SC}{k:Env->D1->Prop}
theorem AN8 (hc:pr)(h:SG S P (Fn P sc) k)(hp:pr=D9 (ZB P sc):=by kernel_rfl):SG S P sc k:=by subst hp;unfold Fn at h;unfold ZB at hc;unfold SG at *;generalize hr:MW P sc.kn sc.all sc.cls sc.rest [] sc.env sc.regs=r at h hc;obtain⟨c,cls,rest,env,regs⟩:=r;exact s_go hr hc h
theorem C_end (hc:pr)(h:k (Fn P sc).env (Fn P sc).regs)(hp:pr=D9 (ZB P sc):=by kernel_rfl)(he:(Fn P sc).rest.isEmpty=true:=by kernel_rfl):SG S P sc k:=by
 refine AN8 hc ?_ hp;generalize Fn P sc=s at he h;obtain⟨all,cls,rest,env,regs,kn⟩:=s;cases rest with
 |nil=>exact s_end h
 |cons=>simp at he
def AN9 {R:Type _}(d:Option Nat)(a:AV)(env:Env)(regs:D1)(κ : Env->D1->R):R:=match d with
 |some d=>mkO (ins d a env) regs κ
 |none=>mkO env regs κ
theorem Uu {R:Type _}(d:Option Nat)(a:AV)(env:Env)(regs:D1)(κ : Env->D1->R):AN9 d a env regs κ = κ (Oj d a env) regs:=by cases d<;>simp only[AN9,GK,Oj]
theorem Ax2:∀{env:Env}{i d:Nat}{b:AV},Al1 ((i,b)::env)=true->get env d ≠ .top->d<i
 |[],_,_,_,_,h=>absurd rfl h
 |(j,c)::r,i,d,b,hd,h=>by
  simp only[Al1,AS3,decide_eq_true_eq]at hd;by_cases e:j=d
  ·subst e;exact hd.1
  ·simp only[get,e,if_false]at h;exact Nat.lt_trans (Ax2 hd.2 h) hd.1
theorem PU:∀{env:Env}{d:Nat}{a:AV},Al1 env=true->get env d=a->a ≠ .top->ins d a env=env
 |[],_,_,_,h,hn=>absurd h.symm hn
 |(i,b)::r,d,a,hd,h,hn=>by
  by_cases e:i=d
  ·subst e;simp only[get,if_true]at h;subst h;simp[ins]
  ·simp only[get,e,if_false]at h;have hlt:=Ax2 hd (by rw[h];exact hn);have hr:Al1 r=true:=by
    cases r with
    |nil=>rfl
    |cons p r=>simp only[Al1,AS3]at hd;exact hd.2
   simp only[ins,show ¬i<d by omega,e,if_false,PU hr h hn]
def PW (sc:SC):Option Bool:=match sc.rest with
 |o::_=>match o.guard with
  |some (j,_)=>match AK8 sc.all j with
   |some d=>match get sc.env d with
    |.p (.bb b)=>if Al1 sc.env=true then some b else none
    |_=>none
   |none=>none
  |none=>none
 |[]=>none
def Lu (v:Bool)(sc:SC):SC:=match sc.rest with
 |o::_=>match o.guard with
  |some (j,_)=>match AK8 sc.all j with
   |some d=>mkO (ins d (.p (.bb v)) sc.env) sc.regs fun env regs=>⟨sc.all,sc.cls,sc.rest,env,regs,j::sc.kn⟩
   |none=>sc
  |none=>sc
 |[]=>sc
theorem AD7 (hc:pr){b:Bool}(ht:b=true->SG S P (Lu true (Fn P sc)) k)(hf:b=false->SG S P (Lu false (Fn P sc)) k)(hp:pr=D9 (ZB P sc))(hb:PW (Fn P sc)=some b):SG S P sc k:=by
 refine AN8 hc ?_ hp;generalize Fn P sc=s at hb ht hf;obtain⟨all,cls,rest,env,regs,kn⟩:=s;cases rest with
 |nil=>simp[PW]at hb
 |cons o rest=>
  simp only[PW]at hb;split at hb
  ·rename_i j w hg;split at hb
   ·rename_i d hd;split at hb
    ·rename_i b' hbb;split at hb
     ·rename_i hds;simp only[AS0]at hb;subst hb;simp only[Lu,hg,hd,GK]at ht hf;cases b' with
      |true=>have:=ht rfl;rwa [PU hds hbb (by simp)]at this
      |false=>have:=hf rfl;rwa [PU hds hbb (by simp)]at this
     ·cases hb
    ·cases hb
   ·cases hb
  ·cases hb
def WE (ids:List Nat)(sc:SC):Option (FuncId×List AV×List Obj):=match sc.rest with
 |o::_=>match Dr sc.all sc.env o,o.op with
  |some true,.call c=>match c.callee with
   |.value f=>match MU sc.regs (c.args.toList.map (aev sc.env))with
    |some (as,regs)=>match TV sc.env f as with
     |some (fn,as')=>match Cx ids as',J4 ids regs ids with
      |some a,some ob=>if F7 ids&&DV ob then some (fn,a,ob)else none
      |_,_=>none
     |none=>none
    |none=>none
   |_=>none
  |_,_=>none
 |[]=>none
def RQ (ids:List Nat)(ks:List Bool)(n:Nat)(sc:SC):Bool:=match sc.cls,sc.rest with
 |.w::_,o::_=>match o.op with
  |.call c=>match MU sc.regs (c.args.toList.map (aev sc.env))with
   |some (_,regs)=>CL regs ids ks (o.dst.getD 0) n
   |none=>false
  |_=>false
 |_,_=>false
def Ac4 (ids:List Nat)(ks:List Bool)(r:AV)(objs' : List Obj)(sc:SC):SC:=match sc.rest with
 |o::rest=>match o.op with
  |.call c=>match MU sc.regs (c.args.toList.map (aev sc.env))with
   |some (_,regs)=>AN9 o.dst (unA (N9 (o.dst.getD 0) ids ks objs'.length) r) sc.env
    (Zz (N9 (o.dst.getD 0) ids ks objs'.length) (N9 (o.dst.getD 0) ids ks objs'.length) objs' (O0 ids ks regs)) fun env regs=>⟨sc.all,sc.cls.tail,rest,env,regs,sc.kn⟩
   |none=>sc
  |_=>sc
 |[]=>sc
theorem AO0 (ids:List Nat)(hc:pr){fn:FuncId}{args:List AV}{objs objs' : List Obj}{r:AV}{ks:List Bool}(hF:FunO S fn args objs r objs' ks)
 (hk:SG S P (Ac4 ids ks r objs' (Fn P sc)) k) (hp:pr=D9 (ZB P sc):=by kernel_rfl) (he:WE ids (Fn P sc)=some (fn,args,objs):=by kernel_rfl) (hn:RQ ids ks objs'.length (Fn P sc)=true:=by kernel_rfl):SG S P sc k:=by
 refine AN8 hc ?_ hp;generalize Fn P sc=s at he hn hk;obtain⟨all,cls,rest,env,regs,kn⟩:=s;cases rest with
 |nil=>simp[WE]at he
 |cons o rest=>
  simp only[WE]at he;split at he
  ·rename_i c hg ho;split at he
   ·rename_i hcl;split at he
    ·rename_i ha;split at he
     ·rename_i hw;split at he
      ·rename_i hr hob;split at he
       ·rename_i hdy;cases he;simp only[AS3]at hdy;cases cls with
        |nil=>simp[RQ]at hn
        |cons cl cls=>
         cases cl with
         |w=>simp only[RQ,ho,ha]at hn;simp only[Ac4,ho,ha,Uu,Bi7]at hk;exact AC2 ids hg ho hcl ha hw hr hob hF hdy.1 hdy.2 hn hk
         |_=>simp[RQ]at hn
       ·cases he
      ·cases he
     ·cases he
    ·cases he
   ·cases he
  ·cases he
def WF (sc:SC):Bool:=match sc.cls,sc.rest with
 |_::_,o::_=>match o.op with
  |.call c=>(c.args.toList.map (aev sc.env)).all Ab5
  |_=>false
 |_,_=>false
def WG (sc:SC):Option (FuncId×List AV):=match sc.rest with
 |o::_=>match Dr sc.all sc.env o,o.op with
  |some true,.call c=>match c.callee with
   |.value f=>match TV sc.env f (c.args.toList.map (aev sc.env))with
    |some (fn,as')=>match Cx [] as' with
     |some a=>some (fn,a)
     |none=>none
    |none=>none
   |_=>none
  |_,_=>none
 |[]=>none
def Ac5 (r:AV)(sc:SC):SC:=match sc.rest with
 |o::rest=>AN9 o.dst (unA [] r) sc.env sc.regs fun env regs=>⟨sc.all,sc.cls.tail,rest,env,regs,sc.kn⟩
 |[]=>sc
theorem AO1 (hc:pr){fn:FuncId}{args:List AV}{r:AV}(hF:FunO S fn args [] r [] [])
 (hk:SG S P (Ac5 r (Fn P sc)) k) (hp:pr=D9 (ZB P sc):=by kernel_rfl) (he:WG (Fn P sc)=some (fn,args):=by kernel_rfl) (hn:WF (Fn P sc)=true:=by kernel_rfl):SG S P sc k:=by
 refine AN8 hc ?_ hp;generalize Fn P sc=s at he hn hk;obtain⟨all,cls,rest,env,regs,kn⟩:=s;cases rest with
 |nil=>simp[WG]at he
 |cons o rest=>
  cases cls with
  |nil=>simp[WF]at hn
  |cons cl cls=>
   simp only[WG]at he;split at he
   ·rename_i c hg ho;split at he
    ·rename_i hcl;split at he
     ·rename_i hw;split at he
      ·rename_i hr;cases he;simp only[WF,ho]at hn;simp only[Ac5,Uu,Bi7]at hk;exact AM3 hg ho hcl hn hw hr hF hk
      ·cases he
     ·cases he
    ·cases he
   ·cases he
def EC (P:Program)(sc:SC):Option (List Prop×PV):=match sc.cls,sc.rest with
 |_::_,o::_=>match Dr sc.all sc.env o with
  |some true=>Rb P sc.env o.op
  |_=>none
 |_,_=>none
def Uv (x:PV)(sc:SC):SC:=match sc.rest with
 |o::rest=>AN9 o.dst (.p x) sc.env sc.regs fun env regs=>⟨sc.all,sc.cls.tail,rest,env,regs,sc.kn⟩
 |[]=>sc
theorem AD8 (hc:pr){x:PV}(hk:SG S P (Uv x (Fn P sc)) k)(hp:pr=D9 (ZB P sc):=by kernel_rfl)(he:(EC P (Fn P sc)).map (·.2)=some x:=by kernel_rfl)(hc2:((EC P (Fn P sc)).map fun q=>D9 q.1)=some (true=true):=by kernel_rfl):SG S P sc k:=by
 refine AN8 hc ?_ hp;generalize Fn P sc=s at he hc2 hk;obtain⟨all,cls,rest,env,regs,kn⟩:=s;cases rest with
 |nil=>cases cls<;>simp[EC]at he
 |cons o rest=>
  cases cls with
  |nil=>simp[EC]at he
  |cons cl cls=>
   cases hg:Dr all env o with
   |none=>simp[EC,hg]at he
   |some bb=>
    cases bb with
    |false=>simp[EC,hg]at he
    |true=>
     simp only[EC,hg]at he hc2;cases ha:Rb P env o.op with
     |none=>rw[ha]at he;cases he
     |some q=>obtain⟨c,y⟩:=q;rw[ha]at he hc2;simp only[AT0,AS0]at he hc2;subst he;simp only[Uv,Uu,Bi7]at hk;exact Ao2 hg ha (by rw[hc2];trivial) hk
end
end
structure KG (S:Br) (P:Program) (F:J3) (g:Cfg):Prop where
 out:G S P F g
structure DG (S:Br) (P:Program) (sc:SC) (k:Env->D1->Prop):Prop where
 out:SG S P sc k
structure KLe (ids:List (Nat×Nat)) (s t:St):Prop where
 out:Le ids s t
section
variable {S:Br}{P:Program}{F:J3}{g:Cfg}{pr:Prop}
theorem kl {ids:List (Nat×Nat)}{s t:St}(h:(leK ids s t).map (·.map Leaf.src)=(leK ids s t).map (·.map Leaf.tgt):=by kernel_rfl)(h1:(leK ids s t).isSome=true:=by kernel_rfl):KLe ids s t:=⟨kle h h1⟩
theorem klR {ids:List (Nat×Nat)}{s t:St}(rs:List (Nat×Leaf))(hr:∀q∈rs,q.2.ok)(h:(leK ids s t).map (AN2 (rs.map (·.1)) Leaf.src)=(leK ids s t).map (AN2 (rs.map (·.1)) Leaf.tgt):=by kernel_rfl)
 (h2:(leK ids s t).map (fun L=>rs.map fun q=>L[q.1]?)=some (rs.map fun q=>some q.2):=by kernel_rfl):KLe ids s t:=⟨kleR rs hr h h2⟩
theorem D0 (hS:G9 S P)(hc:pr){b:Bool}(ht:b=true->KG S P F (AC8 (stp P g)))(hf:b=false->KG S P F (AC9 (stp P g)))(hp:pr=D9 (cnd P g):=by kernel_rfl)(hb:Ap1 (stp P g)=some b:=by kernel_rfl):KG S P F g:=
 ⟨AN3 hS hc (fun h=>(ht h).out) (fun h=>(hf h).out) hp hb⟩
theorem CT (hS:G9 S P)(hc:pr){b:Bool}(ht:b=true->KG S P F (Lr true (stp P g)))(hf:b=false->KG S P F (Lr false (stp P g)))(hp:pr=D9 (cnd P g):=by kernel_rfl)(hb:Wz (stp P g)=some b:=by kernel_rfl):KG S P F g:=
 ⟨AD4 hS hc (fun h=>(ht h).out) (fun h=>(hf h).out) hp hb⟩
theorem B8 (hS:G9 S P)(ids:List Nat)(hc:pr){fn:FuncId}{args:List AV}{objs objs' : List Obj}{r:AV}{ks:List Bool}(hF:FunO S fn args objs r objs' ks)(hk:KG S P F (Ap2 ids ks r objs' (stp P g)))
 (hp:pr=D9 (cnd P g):=by kernel_rfl) (he:Yb ids (stp P g)=some (fn,args,objs):=by kernel_rfl) (hn:Yc ids ks objs'.length (stp P g)=true:=by kernel_rfl):KG S P F g:=⟨AN4 hS ids hc hF hk.out hp he hn⟩
theorem KD (hS:G9 S P)(hc:pr){kt e:TypeId}{key:PV}{es:List (PV×PV)}{x:PV}{b:Bool}{fd:Option PV}(hf:find (MX P kt) key es=some fd)(hcc:D9 (Pw P kt))(hk:KG S P F (AD1 x b (stp P g)))
 (hp:pr=D9 (cnd P g):=by kernel_rfl) (he:AD0 P (stp P g)=some ⟨kt,e,key,es⟩:=by kernel_rfl) (hx:AN0 P e fd=some (x,b):=by kernel_rfl):KG S P F g:=⟨Ap7 hS hc hf hcc hk.out hp he hx⟩
theorem PX (hS:G9 S P)(hc:pr){kt:TypeId}{key y:PV}{es es' : List (PV×PV)}(hu:upd (MX P kt) key y es=some es')(hcc:D9 (Pw P kt))(hk:KG S P F (updK es' (stp P g)))
 (hp:pr=D9 (cnd P g):=by kernel_rfl) (he:updE P (stp P g)=some (kt,key,y,es):=by kernel_rfl):KG S P F g:=⟨Ap8 hS hc hu hcc hk.out hp he⟩
theorem Z5 (hS:G9 S P)(hc:pr)(st:St){ids:List (Nat×Nat)}(hk:KG S P F (opsS st (stp P g)))(hp:pr=D9 (cnd P g):=by kernel_rfl)(ho:Ls (stp P g)=true:=by kernel_rfl)(hle:KLe ids (stp P g).st st:=by exact kl):KG S P F g:=
 ⟨AN5 hS hc st hk.out hp ho hle.out⟩
theorem RR (hS:G9 S P)(hc:pr)(hF:∀s,S.up s (F .normal)->F .normal s)(n:Nat)(s:St)
 (h1:∀(M:St->Prop),(∀(g' : Cfg) (ids:List (Nat×Nat)) (pr:Prop),pr->(hp:pr=D9 (cnd P g'):=by kernel_rfl)->(he:stp P g' = .pop .normal (.mid M::(stp P g).k.drop n) (stp P g').st:=by kernel_rfl)->(hle:KLe ids (stp P g').st s:=by exact kl)->KG S P F g')->KG S P F (AN1 n M (stp P g)))
 (h2:KG S P F (.pop .normal ((stp P g).k.drop n) s)) (hp:pr=D9 (cnd P g):=by kernel_rfl) (hn:Nat.ble n (stp P g).k.length=true:=by kernel_rfl):KG S P F g:=
 ⟨J_cut hS hc hF n s (fun M hb=>(h1 M fun g' ids pr hc hp he hle=>⟨hb g' ids pr hc hp he hle.out⟩).out) h2.out hp hn⟩
theorem HF (hS:G9 S P)(hc:pr)(hF:∀s,S.up s (F .normal)->F .normal s){R A:Type}{f:(A->Option R)->Option R}{k0:A->Option R}{r:R}(h:lt k0 f=some r)(n:Nat)(s:A->St)
 (h1:∀(M:St->Prop) (k:A->Option R),(∀(g' : Cfg) (ids:List (Nat×Nat)) (pr:Prop) (a:A),pr->k a=some r->(hp:pr=D9 (cnd P g'):=by kernel_rfl)->(he:stp P g' = .pop .normal (.mid M::(stp P g).k.drop n) (stp P g').st:=by kernel_rfl)->(hle:KLe ids (stp P g').st (s a):=by exact kl)->KG S P F g')->f k=some r->KG S P F (AN1 n M (stp P g)))
 (h2:∀a,k0 a=some r->KG S P F (.pop .normal ((stp P g).k.drop n) (s a))) (hp:pr=D9 (cnd P g):=by kernel_rfl) (hn:Nat.ble n (stp P g).k.length=true:=by kernel_rfl):KG S P F g:=
 ⟨J_lt hS hc hF h n s (fun M k hb hf=>(h1 M k (fun g' ids pr a hc hk hp he hle=>⟨hb g' ids pr a hc hk hp he hle.out⟩) hf).out) (fun a hk=>(h2 a hk).out) hp hn⟩
theorem K4 (hS:G9 S P)(hc:pr){R A:Type}{body:(A->Option R)->A->Option R}{N:Nat}{a0:A}{r:R}(h:U3 N body a0=some r)(s:A->St){ids:List (Nat×Nat)}
 (hr:∀(X:Type) (s' : X->St) (J:X->Prop) (m:X->Nat) (n:Nat) (self:A->Option R) (a:A),
  (∀(g' : Cfg) (ids:List (Nat×Nat)) (pr:Prop) (a:A),pr->self a=some r->(hp:pr=D9 (cnd P g'):=by kernel_rfl)->(he:stp P g' = .pop .normal (.lp X s' J m n::(stp P g).k) (stp P g').st:=by kernel_rfl)->(hle:KLe ids (stp P g').st (s a):=by exact kl)->KG S P F g') ->
  body self a=some r->KG S P F (.code (RM (stp P g)) (.lp X s' J m n::(stp P g).k) (s a))) (hp:pr=D9 (cnd P g):=by kernel_rfl) (hl:HR (stp P g)=true:=by kernel_rfl) (hle:KLe ids (stp P g).st (s a0):=by exact kl):KG S P F g:=
 ⟨AN6 hS hc h s (fun X s' J m n self a hb hbody=>(hr X s' J m n self a (fun g' ids pr a hc hself hp he hle=>⟨hb g' ids pr a hc hself hp he hle.out⟩) hbody).out) hp hl hle.out⟩
theorem G0 (hS:G9 S P)(hc:pr){R A B:Type}{body:(A->B->Option R)->A->B->Option R}{N:Nat}{a0:A}{b0:B}{r:R}(h:P6 N body a0 b0=some r)(s:A->B->St){ids:List (Nat×Nat)}
 (hr:∀(X:Type) (s' : X->St) (J:X->Prop) (m:X->Nat) (n:Nat) (self:A->B->Option R) (a:A) (b:B),
  (∀(g' : Cfg) (ids:List (Nat×Nat)) (pr:Prop) (a:A) (b:B),pr->self a b=some r->(hp:pr=D9 (cnd P g'):=by kernel_rfl)->(he:stp P g' = .pop .normal (.lp X s' J m n::(stp P g).k) (stp P g').st:=by kernel_rfl)->(hle:KLe ids (stp P g').st (s a b):=by exact kl)->KG S P F g') ->
  body self a b=some r->KG S P F (.code (RM (stp P g)) (.lp X s' J m n::(stp P g).k) (s a b))) (hp:pr=D9 (cnd P g):=by kernel_rfl) (hl:HR (stp P g)=true:=by kernel_rfl) (hle:KLe ids (stp P g).st (s a0 b0):=by exact kl):KG S P F g:=
 K4 hS hc h (fun x=>s x.1 x.2) (fun X s' J m n self a hb=>hr X s' J m n (fun a b=>self (a,b)) a.1 a.2 fun g' ids pr a b h1 h2 h3 h4 h5=>hb g' ids pr (a,b) h1 h2 h3 h4 h5) hp hl hle
theorem RU (hS:G9 S P)(hc:pr){R A B C:Type}{body:(A->B->C->Option R)->A->B->C->Option R}{N:Nat}{a0:A}{b0:B}{c0:C}{r:R}(h:AC6 N body a0 b0 c0=some r)(s:A->B->C->St){ids:List (Nat×Nat)}
 (hr:∀(X:Type) (s' : X->St) (J:X->Prop) (m:X->Nat) (n:Nat) (self:A->B->C->Option R) (a:A) (b:B) (c:C),
  (∀(g' : Cfg) (ids:List (Nat×Nat)) (pr:Prop) (a:A) (b:B) (c:C),pr->self a b c=some r->(hp:pr=D9 (cnd P g'):=by kernel_rfl)->(he:stp P g' = .pop .normal (.lp X s' J m n::(stp P g).k) (stp P g').st:=by kernel_rfl)->(hle:KLe ids (stp P g').st (s a b c):=by exact kl)->KG S P F g') ->
  body self a b c=some r->KG S P F (.code (RM (stp P g)) (.lp X s' J m n::(stp P g).k) (s a b c))) (hp:pr=D9 (cnd P g):=by kernel_rfl) (hl:HR (stp P g)=true:=by kernel_rfl) (hle:KLe ids (stp P g).st (s a0 b0 c0):=by exact kl):KG S P F g:=
 K4 hS hc h (fun x=>s x.1 x.2.1 x.2.2) (fun X s' J m n self a hb=>hr X s' J m n (fun a b c=>self (a,b,c)) a.1 a.2.1 a.2.2 fun g' ids pr a b c h1 h2 h3 h4 h5=>hb g' ids pr (a,b,c) h1 h2 h3 h4 h5) hp hl hle
theorem Ac6 (hS:G9 S P)(hc:pr){R A B C D:Type}{body:(A->B->C->D->Option R)->A->B->C->D->Option R}{N:Nat}{a0:A}{b0:B}{c0:C}{d0:D}{r:R}(h:Ak6 N body a0 b0 c0 d0=some r)(s:A->B->C->D->St){ids:List (Nat×Nat)}
 (hr:∀(X:Type) (s' : X->St) (J:X->Prop) (m:X->Nat) (n:Nat) (self:A->B->C->D->Option R) (a:A) (b:B) (c:C) (d:D),
  (∀(g' : Cfg) (ids:List (Nat×Nat)) (pr:Prop) (a:A) (b:B) (c:C) (d:D),pr->self a b c d=some r->(hp:pr=D9 (cnd P g'):=by kernel_rfl)->(he:stp P g' = .pop .normal (.lp X s' J m n::(stp P g).k) (stp P g').st:=by kernel_rfl)->(hle:KLe ids (stp P g').st (s a b c d):=by exact kl)->KG S P F g') ->
  body self a b c d=some r->KG S P F (.code (RM (stp P g)) (.lp X s' J m n::(stp P g).k) (s a b c d))) (hp:pr=D9 (cnd P g):=by kernel_rfl) (hl:HR (stp P g)=true:=by kernel_rfl) (hle:KLe ids (stp P g).st (s a0 b0 c0 d0):=by exact kl):KG S P F g:=
 K4 hS hc h (fun x=>s x.1 x.2.1 x.2.2.1 x.2.2.2) (fun X s' J m n self a hb=>hr X s' J m n (fun a b c d=>self (a,b,c,d)) a.1 a.2.1 a.2.2.1 a.2.2.2 fun g' ids pr a b c d h1 h2 h3 h4 h5=>hb g' ids pr (a,b,c,d) h1 h2 h3 h4 h5) hp hl hle
theorem Ap9 (hS:G9 S P)(hc:pr){n:Nat}{rs:List ResultVar}{Q:KQ->List Obj->List Bool->Prop}{a:AV}{objs:List Obj}(outs:List Nat)(hQ:Q (.ret a) objs (EY n outs))(hp:pr=D9 (cnd P g):=by kernel_rfl)
 (he:(AD2 (stp P g)).bind (fun st=>Ut P st rs outs)=some (a,objs):=by kernel_rfl):KG S P (BP S P n rs Q) g:=⟨J_ret hS hc outs hQ hp he⟩
theorem A6 (hS:G9 S P)(hc:pr){n:Nat}{rs:List ResultVar}{Q:KQ->List Obj->List Bool->Prop}{a:AV}{objs:List Obj}(st:St)(outs:List Nat){ids:List (Nat×Nat)}(hQ:Q (.ret a) objs (EY n outs))(hp:pr=D9 (cnd P g):=by kernel_rfl)
 (he:(AD2 (stp P g)).isSome=true:=by kernel_rfl) (hle:KLe ids (stp P g).st st:=by exact kl) (hr:Ut P st rs outs=some (a,objs):=by kernel_rfl):KG S P (BP S P n rs Q) g:=⟨AN7 hS hc st outs hQ hp he hle.out hr⟩
theorem A1 (hS:G9 S P){f:FuncId}{fn:Func}{args:List AV}{objs objs' : List Obj}{ks:List Bool}{r:AV}(hf:P.funcs[f]? = some fn)
 (h:KG S P (BP S P objs.length fn.results.toList fun res o k=>res=.ret r/\o=objs' /\ k=ks) (.code (fn.body.getD .skip) [] { env:=argEnv args,regs:=objRegs objs }))
 (hc:fn.body.isSome=true:=by kernel_rfl) (hn:Nat.ble args.length fn.ntmps=true:=by kernel_rfl) (ho:Nat.blt objs.length 1000=true:=by kernel_rfl)
 (hco:Af fn.ntmps (fn.body.getD .skip)=true:=by kernel_rfl) (hnm:(fn.name == "runtime.NumGoroutine")=false:=by kernel_rfl):FunO S f args objs r objs' ks:=AD5 hS hf h.out hc hn ho hco hnm
theorem Lw (hS:G9 S P)(hc:pr)(h:DG S P (Hr (stp P g)) fun env regs=>KG S P F (.pop .normal (stp P g).k ⟨env,regs⟩))(hp:pr=D9 (cnd P g):=by kernel_rfl)(hd:CS (stp P g)=true:=by kernel_rfl)(hmix:P.follows .mixedOrders=true:=by kernel_rfl)
 (hok:JC (Hr (stp P g)).all (Hr (stp P g)).cls=true:=by kernel_rfl):KG S P F g:=by
 have e:(fun env regs=>KG S P F (.pop .normal (stp P g).k ⟨env,regs⟩))=fun env regs=>G S P F (.pop .normal (stp P g).k ⟨env,regs⟩):=by funext env regs;exact propext ⟨fun h=>h.out,fun h=>⟨h⟩⟩
 rw[e]at h;exact⟨AD6 hS hc h.out hp hd hmix hok⟩
section
variable {sc:SC}{k:Env->D1->Prop}
theorem I3 (hc:pr)(h:k (Fn P sc).env (Fn P sc).regs)(hp:pr=D9 (ZB P sc):=by kernel_rfl)(he:(Fn P sc).rest.isEmpty=true:=by kernel_rfl):DG S P sc k:=⟨C_end hc h hp he⟩
theorem Uw (hc:pr){b:Bool}(ht:b=true->DG S P (Lu true (Fn P sc)) k)(hf:b=false->DG S P (Lu false (Fn P sc)) k)(hp:pr=D9 (ZB P sc):=by kernel_rfl)(hb:PW (Fn P sc)=some b:=by kernel_rfl):DG S P sc k:=
 ⟨AD7 hc (fun h=>(ht h).out) (fun h=>(hf h).out) hp hb⟩
theorem Ou (ids:List Nat)(hc:pr){fn:FuncId}{args:List AV}{objs objs' : List Obj}{r:AV}{ks:List Bool}(hF:FunO S fn args objs r objs' ks)(hk:DG S P (Ac4 ids ks r objs' (Fn P sc)) k)
 (hp:pr=D9 (ZB P sc):=by kernel_rfl) (he:WE ids (Fn P sc)=some (fn,args,objs):=by kernel_rfl) (hn:RQ ids ks objs'.length (Fn P sc)=true:=by kernel_rfl):DG S P sc k:=⟨AO0 ids hc hF hk.out hp he hn⟩
theorem S7 (hc:pr){fn:FuncId}{args:List AV}{r:AV}(hF:FunO S fn args [] r [] [])(hk:DG S P (Ac5 r (Fn P sc)) k)(hp:pr=D9 (ZB P sc):=by kernel_rfl)(he:WG (Fn P sc)=some (fn,args):=by kernel_rfl)(hn:WF (Fn P sc)=true:=by kernel_rfl):DG S P sc k:=
 ⟨AO1 hc hF hk.out hp he hn⟩
theorem Fz (hc:pr){x:PV}(hk:DG S P (Uv x (Fn P sc)) k)(hp:pr=D9 (ZB P sc):=by kernel_rfl)(he:(EC P (Fn P sc)).map (·.2)=some x:=by kernel_rfl)(hc2:((EC P (Fn P sc)).map fun q=>D9 q.1)=some (true=true):=by kernel_rfl):DG S P sc k:=⟨AD8 hc hk.out hp he hc2⟩
end
end
end Go.AM
set_option linter.unusedVariables false
namespace Go.AM
section
variable {S:Br}{P:Program}{F:J3}{g:Cfg}{pr:Prop}
def yldE:Cfg->Option (List PV×List (List PV))
 |.ops all (o::_) _ st=>match Cn all st.env o,o.op with
  |some true,.call c=>match c.callee with
   |.value f=>match aev st.env f,IP st.regs (c.args.toList.map (aev st.env))with
    |.yf j,some (xs,regs)=>match A2 regs j with
     |some (.yld (ys::rest) true)=>if Ex j regs=true/\xs.length=ys.length then some (xs,ys::rest)else none
     |_=>none
    |_,_=>none
   |_=>none
  |_,_=>none
 |_=>none
def AO2 (b:Bool)(rest:List (List PV)):Cfg->Cfg
 |.ops all (o::ops) K st=>match o.op with
  |.call c=>match c.callee with
   |.value f=>match aev st.env f,IP st.regs (c.args.toList.map (aev st.env))with
    |.yf j,some (_,regs)=>Aw9 o.dst (.p (.bb b)) st.env (ins j (.yld rest b) regs) fun st=>.ops all ops K st
    |_,_=>.ops all (o::ops) K st
   |_=>.ops all (o::ops) K st
  |_=>.ops all (o::ops) K st
 |g=>g
theorem RV:∀l:List PV,Az7 l l
 |[]=>trivial
 |x::l=>⟨.inl rfl,RV l⟩
theorem AD9 (hS:G9 S P)(hc:pr){ys:List PV}{rest:List (List PV)}(ht:G S P F (AO2 true rest (stp P g)))(hf:G S P F (AO2 false [] (stp P g)))(hp:pr=D9 (cnd P g))(he:yldE (stp P g)=some (ys,ys::rest)):G S P F g:=by
 refine Fd hS hc ?_ hp;generalize stp P g=g' at he ht hf;unfold yldE at he;split at he
 ·split at he
  ·rename_i hg ho;split at he
   ·rename_i hcl;split at he
    ·rename_i hy hv;split at he
     ·rename_i hr;split at he
      ·rename_i ho2;simp only[AS0,AU5,Ba1]at he;obtain⟨rfl,rfl,rfl⟩:=he;simp only[AO2,ho,hcl,hy,hv,Je]at ht hf;refine AC3 hS hg ho hcl hy hv hr ho2.1 (RV _) fun b=>?_;cases b
       ·exact hf
       ·exact ht
      ·cases he
     ·cases he
    ·cases he
   ·cases he
  ·cases he
 ·cases he
theorem CU (hS:G9 S P)(hc:pr){ys:List PV}{rest:List (List PV)}(ht:KG S P F (AO2 true rest (stp P g)))(hf:KG S P F (AO2 false [] (stp P g)))(hp:pr=D9 (cnd P g):=by kernel_rfl)(he:yldE (stp P g)=some (ys,ys::rest):=by kernel_rfl):KG S P F g:=
 ⟨AD9 hS hc ht.out hf.out hp he⟩
def U5 {T:Type}(x:T)(o:Option (List T)):Option (List T):=o.map (x :: ·)
theorem Lx {T:Type}{x:T}{o:Option (List T)}{L:List T}(h:U5 x o=some L):∃L',L=x::L' /\ o=some L':=by simp only[U5,AT9]at h;obtain⟨l,h1,h2⟩:=h;exact⟨l,h2.symm,h1⟩
theorem ED (hS:G9 S P)(hc:pr){R A:Type}{body:(A->Option R)->A->Option R}{N:Nat}{a0:A}{r0:R}(h:U3 N body a0=some r0)(s:A->R->St){ids:List (Nat×Nat)}
 (hr:∀(X:Type) (s' : X->St) (J:X->Prop) (m:X->Nat) (n:Nat) (self:A->Option R) (a:A) (r:R),
  (∀(g' : Cfg) (ids:List (Nat×Nat)) (pr:Prop) (a:A) (r:R),pr->self a=some r->(hp:pr=D9 (cnd P g'):=by kernel_rfl)->(he:stp P g' = .pop .normal (.lp X s' J m n::(stp P g).k) (stp P g').st:=by kernel_rfl)->(hle:KLe ids (stp P g').st (s a r):=by exact kl)->KG S P F g') ->
  body self a=some r->KG S P F (.code (RM (stp P g)) (.lp X s' J m n::(stp P g).k) (s a r))) (hp:pr=D9 (cnd P g):=by kernel_rfl) (hl:HR (stp P g)=true:=by kernel_rfl) (hle:KLe ids (stp P g).st (s a0 r0):=by exact kl):KG S P F g:=by
 refine⟨Fd hS hc ?_ hp⟩;rw[Ac3 hl];refine Aw2 hS (X:=Nat×A×R) (fun x=>s x.2.1 x.2.2) (fun x=>U3 x.1 body x.2.1=some x.2.2) (fun x=>x.1) (N,a0,r0) ids hle.out h ?_;rintro⟨n,a,r⟩ hx;cases n with
 |zero=>cases hx
 |succ n=>exact (hr _ _ _ _ _ (U3 n body) a r (fun g' ids pr a r hc hself hp he hle=>⟨Fd hS hc (by rw[he];exact ZR hS (n,a,r) ids hle.out hself (Nat.lt_succ_self n)) hp⟩) hx).out
theorem PY (hS:G9 S P)(hc:pr){R A B:Type}{body:(A->B->Option R)->A->B->Option R}{N:Nat}{a0:A}{b0:B}{r0:R}(h:P6 N body a0 b0=some r0)(s:A->B->R->St){ids:List (Nat×Nat)}
 (hr:∀(X:Type) (s' : X->St) (J:X->Prop) (m:X->Nat) (n:Nat) (self:A->B->Option R) (a:A) (b:B) (r:R),
  (∀(g' : Cfg) (ids:List (Nat×Nat)) (pr:Prop) (a:A) (b:B) (r:R),pr->self a b=some r->(hp:pr=D9 (cnd P g'):=by kernel_rfl)->(he:stp P g' = .pop .normal (.lp X s' J m n::(stp P g).k) (stp P g').st:=by kernel_rfl)->(hle:KLe ids (stp P g').st (s a b r):=by exact kl)->KG S P F g') ->
  body self a b=some r->KG S P F (.code (RM (stp P g)) (.lp X s' J m n::(stp P g).k) (s a b r))) (hp:pr=D9 (cnd P g):=by kernel_rfl) (hl:HR (stp P g)=true:=by kernel_rfl) (hle:KLe ids (stp P g).st (s a0 b0 r0):=by exact kl):KG S P F g:=
 ED hS hc h (fun x r=>s x.1 x.2 r) (fun X s' J m n self a r hb=>hr X s' J m n (fun a b=>self (a,b)) a.1 a.2 r fun g' ids pr a b r h1 h2 h3 h4 h5=>hb g' ids pr (a,b) r h1 h2 h3 h4 h5) hp hl hle
theorem EE (hS:G9 S P){f:FuncId}{fn:Func}{first caps:List AV}{objs:List Obj}{L:List (List PV)}(hf:P.funcs[f]? = some fn)
 (h:KG S P (BP S P (objs++[Obj.yld L true]).length fn.results.toList fun r objs' ks=>∃b,objs'[objs.length]? = some (.yld [] b)/\ks[objs.length]? = some true/\∃a,r=.ret a) (.code (fn.body.getD .skip) [] { env:=argEnv (first ++ .yf objs.length::caps),regs:=objRegs (objs++[Obj.yld L true]) }))
 (hc:fn.body.isSome=true:=by kernel_rfl) (hn:Nat.ble (first ++ .yf objs.length::caps).length fn.ntmps=true:=by kernel_rfl) (ho:Nat.blt (objs++[Obj.yld L true]).length 1000=true:=by kernel_rfl)
 (hco:Af fn.ntmps (fn.body.getD .skip)=true:=by kernel_rfl) (hnm:(fn.name == "runtime.NumGoroutine")=false:=by kernel_rfl):Dn S f first caps objs L:=by
 obtain⟨code,hcode⟩:=AU0.1 hc;rw[hcode,AS8]at hco h;exact Jc hS hf hcode (AY3 hn) (by simpa[Bb2]using ho) rfl hco hnm h.out
def RW (P:Program)(ids:List Nat):Cfg->Option (FuncId×List AV×List AV×List Obj)
 |.code (.rangeFunc op _ _ _) _ st=>match DC st.env op with
  |some (f,first,caps)=>match P.funcs[f]?,J4 ids st.regs ids,Cx ids first,Cx ids caps with
   |some fn,some objs,some as,some bs=>if (fn.body.isSome && !(fn.name == "runtime.NumGoroutine")&&DV objs&&F7 ids&&(objs.length==ids.length)&&Nat.blt ids.length 1000)=true then some (f,as,bs,objs)else none
   |_,_,_,_=>none
  |none=>none
 |_=>none
def GL:Cfg->Array Tmp
 |.code (.rangeFunc _ ps _ _) _ _=>ps
 |_=>#[]
def RX:Cfg->Code
 |.code (.rangeFunc _ _ a _) _ _=>a
 |_=>.skip
def RY:Cfg->Code
 |.code (.rangeFunc _ _ _ b) _ _=>b
 |_=>.skip
def RZ (ids ts:List Nat)(g:Cfg):St:=⟨V4 ts (ts.map (get g.st.env)),O0 ids (ids.map fun _=>false) g.st.regs⟩
def rst (gh:Nat)(t:St):St:=⟨[],ins gh (.ghost (t.env.map (·.2))) t.regs⟩
def Sa (gh:Nat)(ps:Array Tmp)(ys:List PV)(t:St):St:=⟨HG ps.toList ys t.env,ins gh (.ghost (t.env.map (·.2))) t.regs⟩
def exitE:Cfg->KP
 |.pop e _ _=>e
 |_=>.normal
def Ax3:Cfg->Bool
 |.pop .ret [] _=>true
 |.pop (.exit _) [] _=>true
 |_=>false
theorem Ac7 (regs:D1)(d:Nat)(x:Obj):A2 (ins d x regs) d=some x:=by
 induction regs with
 |nil=>simp[ins,A2]
 |cons p r ih=>
  obtain⟨i,b⟩:=p;simp only[ins];split
  ·simp[A2]
  split
  ·simp[A2]
  ·rename_i h1 h2;simp only[A2,h2,if_false,ih]
theorem FA (gh:Nat)(t:St):A2 (rst gh t).regs gh=some (.ghost (t.env.map fun p=>p.2)):=by unfold rst;exact Ac7 _ _ _
def Ly (ids:List Nat):Cfg->Option (FuncId×List AV×List AV×List Obj)
 |.code (.rangeFunc op _ _ _) _ st=>match DC st.env op with
  |some (f,first,caps)=>match J4 ids st.regs ids,Cx ids first,Cx ids caps with
   |some objs,some as,some bs=>if (DV objs&&F7 ids&&(objs.length==ids.length)&&Nat.blt ids.length 1000)=true then some (f,as,bs,objs)else none
   |_,_,_=>none
  |none=>none
 |_=>none
theorem Gl {ids:List Nat}{g:Cfg}{q:FuncId×List AV×List AV×List Obj}(h:RW P ids g=some q):Ly ids g=some q/\∃fn,P.funcs[q.1]? = some fn/\fn.body.isSome=true/\(fn.name == "runtime.NumGoroutine")=false:=by
 unfold RW at h;split at h
 ·split at h
  ·rename_i hpo;split at h
   ·rename_i fn objs' as' bs' h1 h2 h3 h4;split at h
    ·rename_i hh;cases h;simp only[AS3,AU3,beq_iff_eq]at hh;obtain⟨⟨⟨⟨⟨e1,e2⟩,e3⟩,e4⟩,e5⟩,e6⟩:=hh;refine⟨?_,fn,h1,e1,by simpa using e2⟩;simp only[Ly,hpo,h2,h3,h4,e3,e4,e5,e6,beq_self_eq_true,Bf2,if_true]
    ·cases h
   ·cases h
  ·cases h
 ·cases h
theorem HT (hS:G9 S P)(hc:pr){f:FuncId}{as bs:List AV}{objs:List Obj}{R T A:Type}{enc:T->List PV}{L:List T}{mb:(A->Option R)->T->A->Option R}{mk:A->Option R}{a0:A}{r:R}(hfn:∃fn,P.funcs[f]? = some fn/\fn.body.isSome=true/\(fn.name == "runtime.NumGoroutine")=false)
 (ids ts:List Nat) (gh:Nat) (s:A->St) {idl:List (Nat×Nat)}(h:K0 L mb mk a0=some r) (hF:Dn S f as bs objs (L.map enc))
 (hlen:∀t:T,(enc t).length=(GL (stp P g)).size) (hk:∀a,(s a).env.map (·.1)=ts) (hn:∀a,A2 (s a).regs gh=none) (hb0:∀a,(⟨V4 ts ((s a).env.map (·.2)),del gh (ins gh (.ghost ((s a).env.map (·.2))) (s a).regs)⟩:St)=s a)
 (hround:∀(t:T) (next:St->Prop) (self:A->Option R) (a:A),
  (∀(g' : Cfg) (ids:List (Nat×Nat)) (pr:Prop) (a:A),pr->self a=some r->(hp:pr=D9 (cnd P g'):=by kernel_rfl)->(he:stp P g' = .pop .normal [] (stp P g').st:=by kernel_rfl)->(hle:KLe ids (stp P g').st (rst gh (s a)):=by exact kl)->KG S P (DE S gh ts next (kp S P (stp P g).k F)) g') ->
  mb self t a=some r->KG S P (Bb S P (RY (stp P g)) gh ts next (kp S P (stp P g).k F)) (.code (RX (stp P g)) [] (Sa gh (GL (stp P g)) (enc t) (s a))))
 (hend:∀a,mk a=some r->KG S P F (.pop .normal (stp P g).k (s a)))
 (hp:pr=D9 (cnd P g):=by kernel_rfl) (he:Ly ids (stp P g)=some (f,as,bs,objs):=by kernel_rfl) (hgh:Nat.blt gh 1000=true:=by kernel_rfl) (hng:A2 (stp P g).st.regs gh=none:=by kernel_rfl) (hts:F7 ts=true:=by kernel_rfl)
 (hle:KLe idl (RZ ids ts (stp P g)) (s a0):=by exact kl):KG S P F g:=by
 refine⟨Fd hS hc ?_ hp⟩;generalize stp P g=g1 at hlen hround hend he hng hle;unfold Ly at he;split at he
 ·rename_i op ps asg body K st;split at he
  ·rename_i f' first caps hpo
   split at he
   ·rename_i objs' as' bs' h2 h3 h4;split at he
    ·rename_i hh;simp only[AS0,AU5]at he;obtain⟨rfl,rfl,rfl,rfl⟩:=he;simp only[AS3,AU3,beq_iff_eq]at hh;obtain⟨⟨⟨e3,e4⟩,e5⟩,e6⟩:=hh;refine AC7 hS ids ts gh s idl h hF hpo hfn h2 e3 e4 h3 h4 e5 hgh hng e6 hts hlen hle.out hk hn (fun t next self a hb hm=>?_) (fun a hm=>(hend a hm).out);refine (hround t next self a (fun g' ids' pr a hc hself hp he hle=>⟨Fd hS hc ?_ hp⟩) hm).out;rw[he];have hl:((s a).env.map (·.2)).length=ts.length:=by rw[<- hk a];simp
     refine hb _ (rst gh (s a)) ((s a).env.map fun p=>p.2) ids' a hle.out (FA gh (s a)) hl ?_ (hb0 a) hself
     have:=congrArg St.regs (hb0 a)
     simp only at this;show A2 (del gh (ins gh _ _)) gh=none;rw[this];exact hn a
    ·cases he
   ·cases he
  ·cases he
 ·cases he
theorem FB (hS:G9 S P)(hc:pr){f:FuncId}{as bs:List AV}{objs:List Obj}{R T A:Type}{enc:T->List PV}{L:List T}{mb:(A->Option R)->T->A->Option R}{mk:A->Option R}{a0:A}{r:R}
 (ids ts:List Nat) (gh:Nat) (s:A->St) {idl:List (Nat×Nat)}(h:K0 L mb mk a0=some r) (hF:Dn S f as bs objs (L.map enc))
 (hlen:∀t:T,(enc t).length=(GL (stp P g)).size) (hk:∀a,(s a).env.map (·.1)=ts) (hn:∀a,A2 (s a).regs gh=none) (hb0:∀a,(⟨V4 ts ((s a).env.map (·.2)),del gh (ins gh (.ghost ((s a).env.map (·.2))) (s a).regs)⟩:St)=s a)
 (hround:∀(t:T) (next:St->Prop) (self:A->Option R) (a:A),
  (∀(g' : Cfg) (ids:List (Nat×Nat)) (pr:Prop) (a:A),pr->self a=some r->(hp:pr=D9 (cnd P g'):=by kernel_rfl)->(he:stp P g' = .pop .normal [] (stp P g').st:=by kernel_rfl)->(hle:KLe ids (stp P g').st (rst gh (s a)):=by exact kl)->KG S P (DE S gh ts next (kp S P (stp P g).k F)) g') ->
  mb self t a=some r->KG S P (Bb S P (RY (stp P g)) gh ts next (kp S P (stp P g).k F)) (.code (RX (stp P g)) [] (Sa gh (GL (stp P g)) (enc t) (s a))))
 (hend:∀a,mk a=some r->KG S P F (.pop .normal (stp P g).k (s a)))
 (hp:pr=D9 (cnd P g):=by kernel_rfl) (he:RW P ids (stp P g)=some (f,as,bs,objs):=by kernel_rfl) (hgh:Nat.blt gh 1000=true:=by kernel_rfl) (hng:A2 (stp P g).st.regs gh=none:=by kernel_rfl) (hts:F7 ts=true:=by kernel_rfl)
 (hle:KLe idl (RZ ids ts (stp P g)) (s a0):=by exact kl):KG S P F g:=
 HT hS hc (Gl he).2 ids ts gh s h hF hlen hk hn hb0 hround hend hp (Gl he).1 hgh hng hts hle
theorem Ac8 (hS:G9 S P)(hc:pr){f:FuncId}{as bs:List AV}{objs:List Obj}{R T A:Type}{enc:T->List PV}{L:List T}{mb:(A->Option R)->T->A->Option R}{mk:A->Option R}{a0:A}{r0:R}(hfn:∃fn,P.funcs[f]? = some fn/\fn.body.isSome=true/\(fn.name == "runtime.NumGoroutine")=false)
 (ids ts:List Nat) (gh:Nat) (s:A->R->St) {idl:List (Nat×Nat)}(h:K0 L mb mk a0=some r0) (hF:Dn S f as bs objs (L.map enc))
 (hlen:∀t:T,(enc t).length=(GL (stp P g)).size) (hk:∀a r,(s a r).env.map (·.1)=ts) (hn:∀a r,A2 (s a r).regs gh=none) (hb0:∀a r,(⟨V4 ts ((s a r).env.map (·.2)),del gh (ins gh (.ghost ((s a r).env.map (·.2))) (s a r).regs)⟩:St)=s a r)
 (hround:∀(t:T) (next:St->Prop) (self:A->Option R) (a:A) (r:R),
  (∀(g' : Cfg) (ids:List (Nat×Nat)) (pr:Prop) (a:A) (r:R),pr->self a=some r->(hp:pr=D9 (cnd P g'):=by kernel_rfl)->(he:stp P g' = .pop .normal [] (stp P g').st:=by kernel_rfl)->(hle:KLe ids (stp P g').st (rst gh (s a r)):=by exact kl)->KG S P (DE S gh ts next (kp S P (stp P g).k F)) g') ->
  mb self t a=some r->KG S P (Bb S P (RY (stp P g)) gh ts next (kp S P (stp P g).k F)) (.code (RX (stp P g)) [] (Sa gh (GL (stp P g)) (enc t) (s a r))))
 (hend:∀a r,mk a=some r->KG S P F (.pop .normal (stp P g).k (s a r)))
 (hp:pr=D9 (cnd P g):=by kernel_rfl) (he:Ly ids (stp P g)=some (f,as,bs,objs):=by kernel_rfl) (hgh:Nat.blt gh 1000=true:=by kernel_rfl) (hng:A2 (stp P g).st.regs gh=none:=by kernel_rfl) (hts:F7 ts=true:=by kernel_rfl)
 (hle:KLe idl (RZ ids ts (stp P g)) (s a0 r0):=by exact kl):KG S P F g:=by
 refine⟨Fd hS hc ?_ hp⟩;generalize stp P g=g1 at hlen hround hend he hng hle;unfold Ly at he;split at he
 ·rename_i op ps asg body K st;split at he
  ·rename_i f' first caps hpo
   split at he
   ·rename_i objs' as' bs' h2 h3 h4;split at he
    ·rename_i hh;simp only[AS0,AU5]at he;obtain⟨rfl,rfl,rfl,rfl⟩:=he;simp only[AS3,AU3,beq_iff_eq]at hh;obtain⟨⟨⟨e3,e4⟩,e5⟩,e6⟩:=hh;refine Ap0 hS ids ts gh s idl h hF hpo hfn h2 e3 e4 h3 h4 e5 hgh hng e6 hts hlen hle.out hk hn (fun t next self a r hb hm=>?_) (fun a r hm=>(hend a r hm).out);refine (hround t next self a r (fun g' ids' pr a r hc hself hp he hle=>⟨Fd hS hc ?_ hp⟩) hm).out;rw[he];have hl:((s a r).env.map (·.2)).length=ts.length:=by rw[<- hk a r];simp
     refine hb _ (rst gh (s a r)) ((s a r).env.map fun p=>p.2) ids' a r hle.out (FA gh (s a r)) hl ?_ (hb0 a r) hself
     have:=congrArg St.regs (hb0 a r)
     simp only at this;show A2 (del gh (ins gh _ _)) gh=none;rw[this];exact hn a r
    ·cases he
   ·cases he
  ·cases he
 ·cases he
theorem Aq0 (hS:G9 S P)(hc:pr){f:FuncId}{as bs:List AV}{objs:List Obj}{R T A:Type}{enc:T->List PV}{L:List T}{mb:(A->Option R)->T->A->Option R}{mk:A->Option R}{a0:A}{r0:R}
 (ids ts:List Nat) (gh:Nat) (s:A->R->St) {idl:List (Nat×Nat)}(h:K0 L mb mk a0=some r0) (hF:Dn S f as bs objs (L.map enc))
 (hlen:∀t:T,(enc t).length=(GL (stp P g)).size) (hk:∀a r,(s a r).env.map (·.1)=ts) (hn:∀a r,A2 (s a r).regs gh=none) (hb0:∀a r,(⟨V4 ts ((s a r).env.map (·.2)),del gh (ins gh (.ghost ((s a r).env.map (·.2))) (s a r).regs)⟩:St)=s a r)
 (hround:∀(t:T) (next:St->Prop) (self:A->Option R) (a:A) (r:R),
  (∀(g' : Cfg) (ids:List (Nat×Nat)) (pr:Prop) (a:A) (r:R),pr->self a=some r->(hp:pr=D9 (cnd P g'):=by kernel_rfl)->(he:stp P g' = .pop .normal [] (stp P g').st:=by kernel_rfl)->(hle:KLe ids (stp P g').st (rst gh (s a r)):=by exact kl)->KG S P (DE S gh ts next (kp S P (stp P g).k F)) g') ->
  mb self t a=some r->KG S P (Bb S P (RY (stp P g)) gh ts next (kp S P (stp P g).k F)) (.code (RX (stp P g)) [] (Sa gh (GL (stp P g)) (enc t) (s a r))))
 (hend:∀a r,mk a=some r->KG S P F (.pop .normal (stp P g).k (s a r)))
 (hp:pr=D9 (cnd P g):=by kernel_rfl) (he:RW P ids (stp P g)=some (f,as,bs,objs):=by kernel_rfl) (hgh:Nat.blt gh 1000=true:=by kernel_rfl) (hng:A2 (stp P g).st.regs gh=none:=by kernel_rfl) (hts:F7 ts=true:=by kernel_rfl)
 (hle:KLe idl (RZ ids ts (stp P g)) (s a0 r0):=by exact kl):KG S P F g:=
 Ac8 hS hc (Gl he).2 ids ts gh s h hF hlen hk hn hb0 hround hend hp (Gl he).1 hgh hng hts hle
def AR2 (t:Nat)(a:AV):Cfg->Cfg
 |.ops all rest K st=>mkO (ins t a st.env) st.regs fun env regs=>.ops all rest K ⟨env,regs⟩
 |g=>g
theorem AE0 (hS:G9 S P)(hc:pr)(t:Nat){k n:Nat}{f:Nat->List PV}(h0:n=0->KG S P F (AR2 t (.p (.v (.slice none 0 0))) (stp P g)))(h1:KG S P F (AR2 t (.p (.sl true k n f)) (stp P g)))
 (hp:pr=D9 (cnd P g):=by kernel_rfl) (ho:Ls (stp P g)=true:=by kernel_rfl) (hg:get (stp P g).st.env t=.p (.sl false k n f):=by kernel_rfl):KG S P F g:=by
 refine⟨Fd hS hc ?_ hp⟩;generalize stp P g=g1 at h0 h1 ho hg;unfold Ls at ho;split at ho
 ·refine AK9 hS t hg (fun h=>?_) ?_
  ·have:=(h0 h).out
   simpa only[AR2,GK]using this
  ·have:=h1.out
   simpa only[AR2,GK]using this
 ·cases ho
def frzC (j:Nat)(ps:List PV):Cfg->Cfg
 |.code c K st=>mkO (Ak5 j ps st.env) (ins j .dead st.regs) fun env regs=>.code c K ⟨env,regs⟩
 |g=>g
theorem AE1 (hS:G9 S P)(hc:pr)(j:Nat)(ps:List PV)(hk:KG S P F (frzC j ps (stp P g)))(hp:pr=D9 (cnd P g):=by kernel_rfl)(hd:CS (stp P g)=true:=by kernel_rfl)(hmix:P.follows .mixedOrders=true:=by kernel_rfl)
 (hdep:GG (Hr (stp P g)).all=true:=by kernel_rfl) (hr:A2 (stp P g).st.regs j=some (.cells (ps.map .p)):=by kernel_rfl):KG S P F g:=by
 refine⟨Fd hS hc ?_ hp⟩;generalize stp P g=g1 at hk hd hdep hr;unfold CS at hd;split at hd
 ·rename_i id ops K st;have hk:=hk.out;simp only[frzC,GK]at hk;show awp S P (.region id ops true) (kp S P K F) st;simp only[awp,if_true];have hk' : Xy S P ops.toList (kp S P K F) ⟨Ak5 j ps st.env,ins j .dead st.regs⟩:=by
   have:awp S P (.region id ops true) (kp S P K F) ⟨Ak5 j ps st.env,ins j .dead st.regs⟩:=hk
   simpa only[awp,if_true]using this
  exact Ao7 hS hmix hdep (hS.frz st j ps _ hr hk')
 ·cases hd
def clsN (js:List Nat):Nat->List Oper->List Cls
 |_,[]=>[]
 |i,o::r=>(if js.contains i then .n else if js.contains (i+1000)then .w else AR0 o.op)::clsN js (i+1) r
def PZ (js:List Nat):Cfg->SC
 |.code (.region _ ops true) _ st=>⟨ops.toList,clsN js 0 ops.toList,ops.toList,st.env,st.regs,[]⟩
 |_=>⟨[],[],[],[],[],[]⟩
theorem E1 (hS:G9 S P)(hc:pr)(js:List Nat)(h:DG S P (PZ js (stp P g)) fun env regs=>KG S P F (.pop .normal (stp P g).k ⟨env,regs⟩))(hp:pr=D9 (cnd P g):=by kernel_rfl)(hd:CS (stp P g)=true:=by kernel_rfl)(hmix:P.follows .mixedOrders=true:=by kernel_rfl)
 (hok:JC (PZ js (stp P g)).all (PZ js (stp P g)).cls=true:=by kernel_rfl):KG S P F g:=by
 have e:(fun env regs=>KG S P F (.pop .normal (stp P g).k ⟨env,regs⟩))=fun env regs=>G S P F (.pop .normal (stp P g).k ⟨env,regs⟩):=by funext env regs;exact propext ⟨fun h=>h.out,fun h=>⟨h⟩⟩
 rw[e]at h;refine⟨Fd hS hc ?_ hp⟩;have h:=h.out;generalize stp P g=g' at hd hok h;unfold CS at hd;split at hd
 ·exact Wu hS _ hmix hok h
 ·cases hd
def AR3 (ls:List (Nat×Cls)):Nat->List Oper->List Cls
 |_,[]=>[]
 |i,o::r=>(match ls.find? (fun q=>q.1==i)with|some q=>q.2|none=>AR0 o.op)::AR3 ls (i+1) r
def Qa (ls:List (Nat×Cls)):Cfg->SC
 |.code (.region _ ops true) _ st=>⟨ops.toList,AR3 ls 0 ops.toList,ops.toList,st.env,st.regs,[]⟩
 |_=>⟨[],[],[],[],[],[]⟩
theorem X7 (hS:G9 S P)(hc:pr)(ls:List (Nat×Cls))(h:DG S P (Qa ls (stp P g)) fun env regs=>KG S P F (.pop .normal (stp P g).k ⟨env,regs⟩))(hp:pr=D9 (cnd P g):=by kernel_rfl)(hd:CS (stp P g)=true:=by kernel_rfl)(hmix:P.follows .mixedOrders=true:=by kernel_rfl)
 (hok:JC (Qa ls (stp P g)).all (Qa ls (stp P g)).cls=true:=by kernel_rfl):KG S P F g:=by
 have e:(fun env regs=>KG S P F (.pop .normal (stp P g).k ⟨env,regs⟩))=fun env regs=>G S P F (.pop .normal (stp P g).k ⟨env,regs⟩):=by funext env regs;exact propext ⟨fun h=>h.out,fun h=>⟨h⟩⟩
 rw[e]at h;refine⟨Fd hS hc ?_ hp⟩;have h:=h.out;generalize stp P g=g' at hd hok h;unfold CS at hd;split at hd
 ·exact Wu hS _ hmix hok h
 ·cases hd
theorem Hs (hS:G9 S P)(hc:pr){body:Code}{gh:Nat}{ts:List Nat}{next:St->Prop}{Q:J3}(h:KG S P (DE S gh ts next Q) (.code body [] (stp P g).st))(hp:pr=D9 (cnd P g):=by kernel_rfl)(he:stp P g=.pop .normal [] (stp P g).st:=by kernel_rfl):KG S P (Bb S P body gh ts next Q) g:=by refine⟨Fd hS hc ?_ hp⟩;rw[he];exact G_asg hS h.out
theorem KE (hS:G9 S P)(hc:pr){K:List It}{gh:Nat}{ts:List Nat}{next:St->Prop}(t:St){ids:List (Nat×Nat)}(hk:KG S P F (.pop (exitE (stp P g)) K t))(hp:pr=D9 (cnd P g):=by kernel_rfl)(he:Ax3 (stp P g)=true:=by kernel_rfl)
 (hle:KLe ids (stp P g).st (rst gh t):=by exact kl) (h1:t.env.map (·.1)=ts:=by kernel_rfl) (h2:A2 t.regs gh=none:=by kernel_rfl) (h3:(⟨V4 ts (t.env.map (·.2)),del gh (ins gh (.ghost (t.env.map (·.2))) t.regs)⟩:St)=t:=by kernel_rfl):KG S P (DE S gh ts next (kp S P K F)) g:=by
 refine⟨Fd hS hc ?_ hp⟩;generalize stp P g=g1 at hk he hle;have hl:(t.env.map (·.2)).length=ts.length:=by rw[<- h1];simp
 have hd:A2 (del gh (ins gh (.ghost (t.env.map (·.2))) t.regs)) gh=none:=by
  have:=congrArg St.regs h3
  simp only at this;rw[this];exact h2
 unfold Ax3 at he;split at he
 ·exact Ww hS trivial (rst gh t) ids hle.out (FA gh t) hl hd (by rw[show (⟨V4 ts (t.env.map (·.2)),del gh (rst gh t).regs⟩:St)=t from h3];exact hk.out)
 ·exact Ww hS trivial (rst gh t) ids hle.out (FA gh t) hl hd (by rw[show (⟨V4 ts (t.env.map (·.2)),del gh (rst gh t).regs⟩:St)=t from h3];exact hk.out)
 ·cases he
end
end Go.AM
set_option linter.unusedVariables false
namespace Go.AM
section
variable {S:Br}{P:Program}{F:J3}{g:Cfg}{pr:Prop}
def AO3 (j:Nat)(ps:List PV):Cfg->Cfg
 |.ops all rest K st=>mkO (Ak5 j ps st.env) (ins j .dead st.regs) fun env regs=>.ops all rest K ⟨env,regs⟩
 |g=>g
end
section
variable {S:Br}{P:Program}{F:J3}{g:Cfg}{pr:Prop}
theorem I6 (hS:G9 S P)(hc:pr)(d:Nat)(st:St){ids:List (Nat×Nat)}(hk:KG S P F (opsS st (Ot P d g)))(hp:pr=D9 (cndU P d g):=by kernel_rfl)(ho:Ls (Ot P d g)=true:=by kernel_rfl)(hle:KLe ids (Ot P d g).st st:=by exact kl):KG S P F g:=by
 refine⟨(KV (u:=some d) (F:=F) hS 400 [] g (by subst hp;exact hc)).2 ?_⟩;have hk:=hk.out;have hle:=hle.out;show G S P F (Ot P d g);generalize Ot P d g=g' at ho hle hk;unfold Ls at ho;split at ho
 ·exact Ac1 hS st ids hle hk
 ·cases ho
end
end Go.AM
set_option linter.unusedVariables false
namespace Go.AM
section
variable {S:Br}{P:Program}{F:J3}{g:Cfg}{pr:Prop}
def AO4 (S:Br)(P:Program)(pv:PV)(m:String)(as:List AV)(r:AV):Prop:=∃t y fn,pv=.iface t y/\Rd P t m=some fn/\Al6 S fn (.p (nP y)::as) r
def invE:Cfg->Option (PV×String×List AV)
 |.ops all (o::_) _ st=>match Cn all st.env o,o.op with
  |some true,.call c=>match c.callee with
   |.invoke rv m=>match MU st.regs (c.args.toList.map (aev st.env)),aev st.env rv with
    |some (as,_),.p pv=>match Cx [] as with
     |some as'=>some (pv,m,as')
     |none=>none
    |_,_=>none
   |_=>none
  |_,_=>none
 |_=>none
def invK (r:AV):Cfg->Cfg
 |.ops all (o::rest) K st=>match o.op with
  |.call c=>match MU st.regs (c.args.toList.map (aev st.env))with
   |some (_,regs)=>Aw9 o.dst (unA [] r) st.env regs fun st=>.ops all rest K st
   |none=>.ops all (o::rest) K st
  |_=>.ops all (o::rest) K st
 |g=>g
theorem KF (hS:G9 S P)(hc:pr){pv:PV}{m:String}{as:List AV}{r:AV}(hF:AO4 S P pv m as r)(hk:KG S P F (invK r (stp P g)))
 (hp:pr=D9 (cnd P g):=by kernel_rfl) (he:invE (stp P g)=some (pv,m,as):=by kernel_rfl):KG S P F g:=by
 obtain⟨t,y,fn,rfl,hm,hF⟩:=hF;refine⟨Fd hS hc ?_ hp⟩;have hk:=hk.out;generalize stp P g=g' at he hk;unfold invE at he;split at he
 ·split at he
  ·rename_i hg ho;split at he
   ·rename_i hcl;split at he
    ·rename_i ha hrv;split at he
     ·rename_i hr;cases he;simp only[invK,ho,ha,Je]at hk;refine Ao4 hS hg ho hcl ha hrv hm (args:=.p (nP y)::_) ?_ hF hk;simp only[Cx,QU,hr]
     ·cases he
    ·cases he
   ·cases he
  ·cases he
 ·cases he
theorem N3 (hS:G9 S P)(hc:pr)(d j:Nat)(ps:List PV)(hk:KG S P F (AO3 j ps (Ot P d g)))(hp:pr=D9 (cndU P d g):=by kernel_rfl)(ho:Ls (Ot P d g)=true:=by kernel_rfl)
 (hr:A2 (Ot P d g).st.regs j=some (.cells (ps.map .p)):=by kernel_rfl):KG S P F g:=by
 refine⟨(KV (u:=some d) (F:=F) hS 400 [] g (by subst hp;exact hc)).2 ?_⟩;have hk:=hk.out;show G S P F (Ot P d g);generalize Ot P d g=g' at ho hr hk;unfold Ls at ho;split at ho
 ·simp only[AO3,GK]at hk;exact ZQ hS (hS.frz _ j ps _ hr hk)
 ·cases ho
def Aq1 (j j' : Nat):AV->AV
 |.vecp i m=>if i=j then .vec j' else .vecp i m
 |a=>a
def Aq2 (j j' : Nat):List AV->List AV
 |[]=>[]
 |a::r=>Aq1 j j' a::Aq2 j j' r
def Aq3 (j j' : Nat):Env->Env
 |[]=>[]
 |(t,a)::r=>(t,Aq1 j j' a)::Aq3 j j' r
def Yd (j j' : Nat):D1->D1
 |[]=>[]
 |(t,.cells cs)::r=>(t,.cells (Aq2 j j' cs))::Yd j j' r
 |(t,o)::r=>(t,o)::Yd j j' r
def msA (j:Nat)(r:List Nat):AV->List Nat
 |.vecp i m=>if i=j then m::r else r
 |_=>r
def msL (j:Nat):List AV->List Nat
 |[]=>[]
 |a::r=>msA j (msL j r) a
def msE (j:Nat):Env->List Nat
 |[]=>[]
 |(_,a)::r=>msA j (msE j r) a
def msR (j:Nat):D1->List Nat
 |[]=>[]
 |(_,.cells cs)::r=>msL j cs++msR j r
 |_::r=>msR j r
theorem Ac9 {j:Nat}{r:List Nat}{a:AV}:∀x∈r,x∈msA j r a:=by
 intro x hx;unfold msA;split
 ·split
  ·exact AU9 _ hx
  ·exact hx
 ·exact hx
theorem WH {j n j' : Nat}{r:List Nat}{a:AV}(h:∀m∈msA j r a,m=n):Al3 j n j' a=Aq1 j j' a:=by
 cases a with
 |vecp i m=>
  simp only[Al3,Aq1];by_cases e:i=j
  ·have:m=n:=h m (by simp[msA,e])
   simp[e,this]
  ·simp[e]
 |_=>rfl
theorem WI {j n j' : Nat}:∀{l:List AV},(∀m∈msL j l,m=n)->Av9 j n j' l=Aq2 j j' l
 |[],_=>rfl
 |a::r,h=>by simp only[Av9,Aq2,WH (r:=msL j r) h,WI fun m hm=>h m (Ac9 m hm)]
theorem WJ {j n j' : Nat}:∀{l:Env},(∀m∈msE j l,m=n)->Av8 j n j' l=Aq3 j j' l
 |[],_=>rfl
 |(t,a)::r,h=>by simp only[Av8,Aq3,WH (r:=msE j r) h,WJ fun m hm=>h m (Ac9 m hm)]
theorem Qb {j n j' : Nat}:∀{l:D1},(∀m∈msR j l,m=n)->Wb j n j' l=Yd j j' l
 |[],_=>rfl
 |(t,o)::r,h=>by
  cases o with
  |cells cs=>simp only[Wb,Yd,AJ4,WI fun m hm=>h m (AU2 _ hm),Qb fun m hm=>h m (AT1 _ hm)]
  |_=>simp only[Wb,Yd,AJ4,Qb (l:=r) h]
def truC (j j' : Nat)(e:TypeId)(k n:Nat)(f:Nat->List PV):Cfg->Cfg
 |.ops all rest K st=>mkO (Aq3 j j' st.env) (ins j' (.vec e k n f false) (ins j .dead (Yd j j' st.regs))) fun env regs=>.ops all rest K ⟨env,regs⟩
 |g=>g
theorem AO5 (hS:G9 S P)(hc:pr)(d j n j' : Nat){e:TypeId}{k N:Nat}{f:Nat->List PV}(hn:n<=N)(hk:KG S P F (truC j j' e k n f (Ot P d g)))(hp:pr=D9 (cndU P d g):=by kernel_rfl)(ho:Ls (Ot P d g)=true:=by kernel_rfl)
 (hr:A2 (Ot P d g).st.regs j=some (.vec e k N f false):=by kernel_rfl) (hf:A2 (Ot P d g).st.regs j' = none:=by kernel_rfl) (h1:Nat.ble 1000 j' = true:=by kernel_rfl)
 (hm:(msE j (Ot P d g).st.env++msR j (Ot P d g).st.regs)=List.replicate (msE j (Ot P d g).st.env++msR j (Ot P d g).st.regs).length n:=by kernel_rfl):KG S P F g:=by
 refine⟨(KV (u:=some d) (F:=F) hS 400 [] g (by subst hp;exact hc)).2 ?_⟩;have hk:=hk.out;show G S P F (Ot P d g);generalize Ot P d g=g' at ho hr hf hk hm;unfold Ls at ho;split at ho
 ·rename_i st;have hall:∀m∈msE j st.env++msR j st.regs,m=n:=fun m h=>by rw[show msE j st.env++msR j st.regs=_ from hm]at h;exact (List.mem_replicate.1 h).2
  simp only[truC,GK]at hk;refine ZQ hS (hS.trunc _ j j' n N k e f _ hr hn hf (AY3 h1) ?_);rw[WJ fun m h=>hall m (AU2 _ h),Qb fun m h=>hall m (AT1 _ h)];exact hk
 ·cases ho
end
abbrev cA {α : Type}(n:Nat)(c : α -> PV)(f:Nat -> α):List PV:=Cj n (fun i=>c (f i))
theorem F1 (n:Nat)(f:Nat->PV):(Cj n f).length=n:=by simp[Cj]
theorem D7 (n:Nat)(f:Nat->PV):∀i,i<n->[(Cj n f).getD i default]=[f i]:=by intro i hi;simp[Cj,AR7,hi]
theorem Bd {n:Nat}{z:PV}{ps:List PV}(h:ps=List.replicate n z):∀i,i<n->[ps.getD i default]=[z]:=by intro i hi;subst h;simp[AR7,hi]
theorem Ye {n:Nat}{f g:Nat->PV}(h:∀i,i<n->[f i]=[g i]):Cj n f=Cj n g:=by unfold Cj;exact AU6 fun i hi=>by have:=h i (AW2.1 hi);injection this
abbrev IM {α : Type}(f:Nat -> α)(k:Nat)(x : α):Nat -> α:=fun i=>if i=k then x else f i
theorem Ax4 {α : Type}{c : α -> PV}{n k:Nat}{v:Nat -> α}{f:Nat->PV}{e:PV}{x : α}(h:∀i,i<n->[f i]=[c (v i)])(hx:e=c x):∀i,i<n->[if i=k then e else f i]=[c (if i=k then x else v i)]:=by
 intro i hi;by_cases h1:i=k
 ·rw[if_pos h1,if_pos h1,hx]
 ·rw[if_neg h1,if_neg h1];exact h i hi
theorem app1H {α : Type}{c : α -> List PV}{n:Nat}{v:Sl α}{f g:Nat->List PV}{z : α}(h:∀i,i<n->f i=c (v.g i))(hn:n=v.n):∀i,i<n+1->i≠v.n->R9 n f g i=c ((v.push z).g i):=by
 subst hn;intro i hi hne;have hl:i<v.n:=by omega
 show (if i<v.n then f i else g (i-v.n))=c (if i<v.n then v.g i else z);rw[if_pos hl,if_pos hl];exact h i hl
theorem setH {α : Type}{c : α -> List PV}{n k:Nat}{v:Sl α}{f e:Nat->List PV}{x : α}(h:∀i,i<n->i≠k->f i=c (v.g i))(hx:k<n->e k=c x):∀i,i<n->(fun l=>if l=k then e l else f l) i=c ((v.upd k x).g i):=by
 intro i hi;show (if i=k then e i else f i)=c (if i=k then x else v.g i);split
 ·subst_vars;exact hx hi
 ·exact h i hi ‹_›
end Go.AM
set_option linter.unusedVariables false
namespace Go.AM
section
variable {S:Br}{P:Program}{F:J3}{g:Cfg}{R X:Type}{A B:Option R}{r:R}{b:Bool}
theorem kI (hS:G9 S P)(h:(if b=true then A else B)=some r)(ht:A=some r->KG S P F (AC8 (stp P g)))(hf:B=some r->KG S P F (AC9 (stp P g)))
 (hp:True=D9 (cnd P g):=by kernel_rfl) (hb:Ap1 (stp P g)=some b:=by kernel_rfl):KG S P F g:=
 D0 hS trivial (fun c=>ht (itT c h)) (fun c=>hf (itF c h)) hp hb
theorem kG (hS:G9 S P)(h:(if b=true then A else B)=some r)(ht:A=some r->KG S P F (Lr true (stp P g)))(hf:B=some r->KG S P F (Lr false (stp P g)))
 (hp:True=D9 (cnd P g):=by kernel_rfl) (hb:Wz (stp P g)=some b:=by kernel_rfl):KG S P F g:=
 CT hS trivial (fun c=>ht (itT c h)) (fun c=>hf (itF c h)) hp hb
theorem kR (hS:G9 S P){n:Nat}{rs:List ResultVar}{Q:KQ->List Obj->List Bool->Prop}{a:AV}{objs:List Obj}(hQ:Q (.ret a) objs (EY n []):=by exact⟨rfl,rfl,rfl⟩)
 (hp:True=D9 (cnd P g):=by kernel_rfl) (he:(AD2 (stp P g)).bind (fun st=>Ut P st rs [])=some (a,objs):=by kernel_rfl):KG S P (BP S P n rs Q) g:=
 Ap9 hS trivial [] hQ hp he
theorem kC (hS:G9 S P){x:Option X}{f:X->Option R}(h:x.bind f=some r){fn:FuncId}{args:List AV}{objs:List Obj}{objs' : X->List Obj}{rr:X->AV}{ks:List Bool}
 (hF:∀{y},x=some y->FunO S fn args objs (rr y) (objs' y) ks) (hk:∀y,f y=some r->KG S P F (Ap2 [] ks (rr y) (objs' y) (stp P g)))
 (hp:True=D9 (cnd P g):=by kernel_rfl) (he:Yb [] (stp P g)=some (fn,args,objs):=by kernel_rfl) (hn:∀y,Yc [] ks (objs' y).length (stp P g)=true:=by intro y;kernel_rfl):KG S P F g:=by
 obtain⟨y,e,h⟩:=B7 h;exact B8 hS [] trivial (hF e) (hk y h) hp he (hn y)
end
end Go.AM
set_option linter.unusedVariables false
namespace Go.AM
inductive BT where
 |l (b:Bool)
 |n (b:Bool) (t f:BT)
def BT.ev:BT->Bool
 |.l b=>b
 |.n b t f=>if b=true then t.ev else f.ev
inductive BE where
 |a (b:Bool)
 |n (x y:BE)
 |o (x y:BE)
def BE.den:BE->Bool
 |.a b=>b
 |.n x y=>x.den&&y.den
 |.o x y=>x.den||y.den
def BE.tr:BE->BT->BT->BT
 |.a b,t,f=>.n b t f
 |.n x y,t,f=>x.tr (y.tr t f) f
 |.o x y,t,f=>x.tr t (y.tr t f)
def BE.top:BE->BT
 |.a b=>.l b
 |.n x y=>x.tr y.top (.l false)
 |.o x y=>x.tr (.l true) y.top
theorem BE.tr_ev:∀(e:BE) (t f:BT),(e.tr t f).ev=if e.den=true then t.ev else f.ev
 |.a b,t,f=>rfl
 |.n x y,t,f=>by simp only[tr,den,x.tr_ev,y.tr_ev];by_cases h:x.den=true<;>simp[h]
 |.o x y,t,f=>by simp only[tr,den,x.tr_ev,y.tr_ev];by_cases h:x.den=true<;>simp[h]
theorem BE.top_ev:∀e:BE,e.top.ev=e.den
 |.a b=>rfl
 |.n x y=>by simp only[top,den,x.tr_ev,y.top_ev,BT.ev];by_cases h:x.den=true<;>simp[h]
 |.o x y=>by simp only[top,den,x.tr_ev,y.top_ev,BT.ev];by_cases h:x.den=true<;>simp[h]
def keeps:Op->Bool
 |.move _ | .assign _ | .pick .. | .load .. | .nilCheck _ | .binOp .. | .unOp .. | .convert .. | .fieldAddr .. | .field .. | .indexAddr .. | .index .. | .extract ..=>true
 |.call { callee:=.builtin .len,.. } | .call { callee:=.builtin .min,.. } | .call { callee:=.builtin .max,.. }=>true
 |_=>false
theorem Yf {P:Program}{env:Env}{regs:D1}{d:Nat}{o:Op}{out:Out}(hk:keeps o=true)(h:aop P env regs d o=some out):out.regs=regs:=by unfold keeps at hk;split at hk<;>first|(cases hk;done)|(simp only[aop]at h;(repeat' split at h)<;>first|(cases h;rfl)|cases h)
theorem Ov {o:Op}(hk:keeps o=true):Aw0 o=true:=by unfold keeps at hk;split at hk<;>first|cases hk;done|rfl
def Aq4:List Prop->List Prop
 |[]=>[]
 |c=>[D9 c]
def bgo (P:Program)(regs:D1)(o:Oper)(last:Bool)(rec:List Prop->Env->Option (BT×List Prop))(c:List Prop)(env:Env)(runs:Bool):Option (BT×List Prop):=match runs with
 |true=>match keeps o.op,o.dst with
  |true,some d=>match aop P env regs d o.op with
   |some ⟨p,v,_⟩=>match last with
    |true=>match KR v with
     |some b=>some (.l b,Aq4 (p++c))
     |none=>none
    |false=>fA v fun v=>ZM d v env fun env=>rec (p++c) env
   |none=>none
  |_,_=>none
 |false=>match last,o.dst with
  |false,some d=>ZM d AY env fun env=>rec c env
  |_,_=>none
def bev (P:Program)(all:List Oper)(regs:D1):List Oper->List Prop->Env->Option (BT×List Prop)
 |[],_,_=>none
 |o::rest,c,env=>
  match o.guard with
  |none=>bgo P regs o rest.isEmpty (fun c env=>bev P all regs rest c env) c env true
  |some (j,want)=>match get env (DD all j)with
   |.p (.v (.bool b))=>bgo P regs o rest.isEmpty (fun c env=>bev P all regs rest c env) c env (b==want)
   |.p (.v (.tuple _))=>bgo P regs o rest.isEmpty (fun c env=>bev P all regs rest c env) c env false
   |.p (.bb b)=>match ZM (DD all j) (.p (.v (.bool true))) env fun env=>bgo P regs o rest.isEmpty (fun c env=>bev P all regs rest c env) [] env want,
    ZM (DD all j) (.p (.v (.bool false))) env fun env=>bgo P regs o rest.isEmpty (fun c env=>bev P all regs rest c env) [] env !want with
    |some (t,ct),some (f,cf)=>some (.n b t f,Aq4 c++(ct.map (fun p=>b=true->p)++cf.map (fun p=>b=false->p)))
    |_,_=>none
   |_=>none
def ZC (l:List Oper):List Nat:=l.filterMap (·.dst)
def AE2 (ks:List Nat)(env:Env):Env:=env.filter fun q=>!ks.contains q.1
theorem WK (ks:List Nat)(env:Env)(x:Nat):get (AE2 ks env) x=if x∈ks then .top else get env x:=by
 induction env with
 |nil=>simp[AE2,get]
 |cons q r ih=>
  obtain⟨i,a⟩:=q;simp only[AE2,List.filter_cons];by_cases hi:i∈ks
  ·rw[if_neg (by simpa using hi)]
   have:=ih
   simp only[AE2]at this;rw[this];by_cases hx:x∈ks
   ·simp[hx]
   ·have:i≠x:=fun e=>hx (e ▸ hi)
    simp[hx,get,this]
  ·rw[if_pos (by simpa using hi)];simp only[get]
   have:=ih
   simp only[AE2]at this;rw[this];by_cases hx:i=x
   ·subst hx;simp[hi]
   ·simp[hx]
def Ux:List Oper->Option Nat
 |[]=>none
 |[o]=>o.dst
 |_::r=>Ux r
section
variable {S:Br}{P:Program}
theorem Ow {c:List Prop}(h:∀p∈Aq4 c,p):D9 c:=by
 cases c with
 |nil=>trivial
 |cons p r=>exact h _ (by simp[Aq4])
theorem AO6 (hS:G9 S P){all:List Oper}{regs:D1}{Q:J3}{post:List Oper}{envF:Env}{V:Bool}{d:Nat}(hQ:∀s,S.up s (Gx S P all post Q)->Gx S P all post Q s)(hV:get envF d=.p (.bb V))
 (hw:Gx S P all post Q ⟨envF,regs⟩) :
 ∀(L:List Oper) (c:List Prop) (env:Env) (T:BT) (C:List Prop),bev P all regs L c env=some (T,C)->(∀p∈C,p)->T.ev=V->Ux L=some d ->
  (∀x,x≠d->Py (get envF x) (get env x) \/ (x∈ZC L/\get envF x=.top))->(∀x∈ZC L,x≠d->get envF x=.top)->D9 c/\Gx S P all (L++post) Q ⟨env,regs⟩:=by
 intro L
 induction L with
 |nil=>intro c env T C h;cases h
 |cons o rest ih=>
  intro c env T C h hC hT hd hl ht;simp only[bev,Hj]at h;have key:∀(c:List Prop) (env:Env) (runs:Bool) (T:BT) (C:List Prop),bgo P regs o rest.isEmpty (fun c env=>bev P all regs rest c env) c env runs=some (T,C)->(∀p∈C,p)->T.ev=V ->
   (∀x,x≠d->Py (get envF x) (get env x) \/ (x∈ZC (o::rest)/\get envF x=.top)) ->
   D9 c/\(if runs=true then wOp S P o (Gx S P all (rest++post) Q) Q ⟨env,regs⟩else Gx S P all (rest++post) Q (put ⟨env,regs⟩ o.dst AY)):=by
   intro c env runs T C h hC hT hl;have hlast:rest.isEmpty=false->Ux rest=some d:=by
    intro hr;cases rest with
    |nil=>cases hr
    |cons a r=>simpa[Ux]using hd
   have hds:∀{d'},o.dst=some d' -> ZC (o::rest)=d' :: ZC rest:=fun ho=>by simp[ZC,ho]
   have hnext:∀d' (v:AV),o.dst=some d' -> ∀x,x≠d->Py (get envF x) (get (ins d' v env) x) \/ (x∈ZC rest/\get envF x=.top):=by
    intro d' v ho x hx;rw[Ct];by_cases hx2:d' = x
    ·subst hx2;exact .inl (.inl (ht _ (by rw[hds ho];exact Bj7 ..) hx))
    ·rw[if_neg hx2];rcases hl x hx with h|⟨h1,h2⟩
     ·exact .inl h
     ·exact .inl (.inl h2)
   cases runs with
   |true=>
    simp only[bgo,ZN,Hj,if_true]at h⊢;split at h
    ·rename_i d' hk ho;split at h
     ·rename_i p v regs' ha;have hr:regs' = regs:=Yf hk ha;subst hr;have ha' : aop P env regs' (o.dst.getD 0) o.op=some ⟨p,v,regs'⟩:=by rw[ho];exact ha
      split at h
      ·rename_i hre;split at h
       ·rename_i b hb;cases h;have hcp:=Ow hC;obtain⟨hc,hp⟩:=(CM _ _).1 hcp;refine⟨hc,Ky (Ov hk) ha' hp ?_⟩;obtain rfl:rest=[]:=List.isEmpty_iff.1 hre;simp only[Ux]at hd;have e:d' = d:=by rw[ho]at hd;exact AU4 hd
        subst e;refine hQ _ (hS.less _ ⟨envF,regs'⟩ _ (fun x=>?_) (fun _=>by rw[ho];rfl) (by simpa using hw));rw[ho];show Py (get envF x) (get (ins d' v env) x);rw[Ct];by_cases hx:d' = x
        ·subst hx;rw[if_pos rfl,hV];have hT:b=V:=hT;subst hT;unfold KR at hb;split at hb
         ·cases hb;exact .inr (.inr ⟨_,rfl,rfl⟩)
         ·cases hb;exact .inr (.inl rfl)
         ·cases hb
        ·rw[if_neg hx];rcases hl x (fun e=>hx e.symm)with h|⟨_,h⟩
         ·exact h
         ·exact .inl h
       ·cases h
      ·rename_i hre;have hn:∀x,x≠d->Py (get envF x) (get (ins d' v env) x) \/ (x∈ZC rest/\get envF x=.top):=hnext d' v ho;obtain⟨hcp,hk2⟩:=ih _ _ _ _ h hC hT (hlast (by simpa using hre)) hn (fun x hx=>ht x (by rw[hds ho];exact AU9 _ hx));obtain⟨hc,hp⟩:=(CM _ _).1 hcp;exact⟨hc,Ky (Ov hk) ha' hp (by rw[ho];exact hk2)⟩
     ·cases h
    ·cases h
   |false=>
    simp only[bgo,Hj,AS6,if_false]at h⊢;split at h
    ·rename_i d' hre ho;have hn:∀x,x≠d->Py (get envF x) (get (ins d' AY env) x) \/ (x∈ZC rest/\get envF x=.top):=hnext d' _ ho;obtain⟨hc,hk2⟩:=ih _ _ _ _ h hC hT (hlast (by simpa using hre)) hn (fun x hx=>ht x (by rw[hds ho];exact AU9 _ hx));exact⟨hc,by rw[ho];exact hk2⟩
    ·cases h
  simp only[AV9,Gx];cases hg:o.guard with
  |none=>simp only[hg]at h;obtain⟨hc,hk⟩:=key _ _ _ _ _ h hC hT hl;exact⟨hc,hS.refl _ _ (by simpa[hg]using hk)⟩
  |some q=>
   obtain⟨j,want⟩:=q;simp only[hg]at h;split at h
   ·rename_i b hb;obtain⟨hc,hk⟩:=key _ _ _ _ _ h hC hT hl;refine⟨hc,hS.refl _ _ ⟨some b,by rw[hb];rfl,?_⟩⟩;have e:(some b=some want)↔(b==want)=true:=by simp
    by_cases hbw:(b==want)=true
    ·rw[if_pos (e.2 hbw)];simpa[hbw]using hk
    ·rw[if_neg (fun x=>hbw (e.1 x))];simpa[hbw]using hk
   ·rename_i tt hb;obtain⟨hc,hk⟩:=key _ _ _ _ _ h hC hT hl;refine⟨hc,hS.refl _ _ ⟨none,by rw[hb];rfl,?_⟩⟩;rw[if_neg (by simp)];simpa using hk
   ·rename_i b hb;split at h
    ·rename_i t ct f cf h1 h2;cases h;have hc:D9 c:=Ow fun p hp=>hC p (AU2 _ hp);refine⟨hc,hS.bool _ _ b _ hb ?_⟩;have hl2:∀x,x≠d->Py (get envF x) (get (ins (DD all j) (.p (.v (.bool b))) env) x) \/ (x∈ZC (o::rest)/\get envF x=.top):=by
      intro x hx;rw[Ct];by_cases hx2:DD all j=x
      ·subst hx2;rw[if_pos rfl];rcases hl _ hx with h|h
       ·rw[hb]at h;rcases h with h|h|⟨y,h1,h2⟩
        ·exact .inl (.inl h)
        ·exact .inl (.inr (.inr ⟨b,h,rfl⟩))
        ·cases h2
       ·exact .inr h
      ·rw[if_neg hx2];exact hl x hx
     cases b with
     |true=>
      obtain⟨_,hk⟩:=key _ _ _ _ _ h1 (fun p hp=>hC (true=true->p) (AT1 _ (AU2 _ (AY4.2 ⟨p,hp,rfl⟩))) rfl) hT hl2;refine⟨some true,by show yv (get (ins _ _ _) _)=_;rw[Ct,if_pos rfl];rfl,?_⟩;cases want with
      |true=>simpa using hk
      |false=>simpa using hk
     |false=>
      obtain⟨_,hk⟩:=key _ _ _ _ _ h2 (fun p hp=>hC (false=false->p) (AT1 _ (AT1 _ (AY4.2 ⟨p,hp,rfl⟩))) rfl) hT hl2;refine⟨some false,by show yv (get (ins _ _ _) _)=_;rw[Ct,if_pos rfl];rfl,?_⟩;cases want with
      |true=>simpa using hk
      |false=>simpa using hk
    ·cases h
   ·cases h
end
def AE3 (P:Program)(m:Nat):Cfg->Option (BT×List Prop)
 |.ops all rest K st=>bev P all st.regs (rest.take m) [] st.env
 |_=>none
def AO7 (m:Nat)(b:Bool):Cfg->Cfg
 |.ops all rest K st=>match Ux (rest.take m)with
  |some d=>mkO (ins d (.p (.bb b)) (AE2 (ZC (rest.take m)) st.env)) st.regs fun env regs=>.ops all (rest.drop m) K ⟨env,regs⟩
  |none=>.ops all rest K st
 |g=>g
def AO8 (m:Nat):Cfg->Bool
 |.ops all rest K st=>(Ux (rest.take m)).isSome
 |_=>false
def AO9:List Prop->Prop
 |[]=>True
 |p::r=>r.foldl And p
theorem Aq5 {l:List Prop}(h:AO9 l):∀p∈l,p:=by
 have:∀(r:List Prop) (p:Prop),r.foldl And p->p/\∀q∈r,q:=by
  intro r
  induction r with
  |nil=>intro p h;exact⟨h,fun q hq=>by cases hq⟩
  |cons a r ih=>intro p h;obtain⟨⟨h1,h2⟩,h3⟩:=ih _ h;exact⟨h1,fun q hq=>by rcases AW0.1 hq with rfl|hq;exact h2;exact h3 q hq⟩
 cases l with
 |nil=>intro p hp;cases hp
 |cons a r=>obtain⟨h1,h2⟩:=this _ _ h;exact fun q hq=>by rcases AW0.1 hq with rfl|hq;exact h1;exact h2 q hq
section
variable {S:Br}{P:Program}{F:J3}{g:Cfg}{pr pc:Prop}
theorem kB (hS:G9 S P)(hF:∀s,S.up s (F .normal)->F .normal s)(hc:pr)(hcc:pc)(m:Nat)(E:BE)(hk:KG S P F (AO7 m E.den (stp P g)))
 (hp:pr=D9 (cnd P g):=by kernel_rfl) (hT:(AE3 P m (stp P g)).map (·.1)=some E.top:=by kernel_rfl) (hC:(AE3 P m (stp P g)).map (fun x=>AO9 x.2)=some pc:=by kernel_rfl) (hD:AO8 m (stp P g)=true:=by kernel_rfl):KG S P F g:=by
 refine⟨Fd hS hc ?_ hp⟩;have hk:=hk.out;generalize stp P g=g' at hk hT hC hD;unfold AE3 at hT hC;split at hT
 ·rename_i all rest K st;simp only[AO8,AU0]at hD;obtain⟨d,hd⟩:=hD;simp only[AO7,hd,GK]at hk;cases hb:bev P all st.regs (rest.take m) [] st.env with
  |none=>rw[hb]at hT;cases hT
  |some q=>
   obtain⟨T,C⟩:=q;simp only[hb]at hT hC;simp only[AT0,AS0]at hT hC;subst hT
   have:=(AO6 hS (Q:=kp S P K F) (post:=rest.drop m) (envF:=ins d (.p (.bb E.den)) (AE2 (ZC (rest.take m)) st.env)) (V:=E.den) (d:=d) ?_ (by rw[Ct,if_pos rfl]) hk (rest.take m) [] st.env E.top C hb
    (Aq5 (hC ▸ hcc)) E.top_ev hd (fun x hx=>?_) (fun x hx hxd=>?_)).2
   ·rwa [Bc3]at this
   ·intro s h;cases hr:rest.drop m with
    |nil=>rw[hr]at h;exact Ao8 hS hF K s h
    |cons o r=>rw[hr]at h;exact hS.trans _ _ h
   ·rw[Ct,if_neg (fun e=>hx e.symm),WK];split
    ·exact .inl (.inl rfl)
    ·exact .inl (.inr (.inl rfl))
   ·rw[Ct,if_neg (fun e=>hxd e.symm),WK,if_pos hx]
 ·cases hT
end
end Go.AM
set_option linter.unusedVariables false
namespace Go.AM
theorem Sb {P:Program}{f:FuncId}{vw:Bool}{args:List PV}{e:TypeId}{k n:Nat}{g:Nat->List PV}(hent:∀as w,(callFunc f as).run P w=.ok (.enter f as) w)(hk:∀i,i<n->(g i).length=k)
 (h:∀(w:World) (Pi:Nat->Nat->Prop) (vs:Array Value),(∀b off,Pi b off->b<w.heap.size)->vs.size=args.length->(∀i,i<args.length->RepP w Pi (vs.getD i undef) (args.getD i default)) ->
  Calls P f vs w fun x w'=>∃v,x=.returned v/\RowKit.Below w.heap.size w w' /\ ((v=.slice none 0 0/\n=0) \/ ∃b cap c,v=.slice (some ⟨b,0,none⟩) n cap/\w.heap.size<=b/\w'.heap[b]? = some (.cells c e (0,0))/\n<=cap/\c.size=cap*k/\cap<=maxLen /\
   ∀i j,i<n->j<k->RepP w Pi (c.getD (i*k+j) undef) ((g i).getD j default)/\(c.getD (i*k+j) undef).oneCell' = true)):FunO (GD P) f (args.map .p) [] (.vec 0) [.vec e k n g vw] []:=by
 intro 𝒢 C w vs rho hG hs hsz;have hno0:∀j,A2 (objRegs []) j=none:=fun j=>by simp[objRegs,objRegs.go,A2]
 have h0:=h w (Prv C.X (A2 (objRegs [])) rho) vs (fun b off hp=>by
  rcases hp with hp|⟨j,o,hj,_⟩
  ·exact hs.hp.bound b off hp
  ·simp[hno0]at hj) (by simpa using hsz) (fun i hi=>by
  have:=hs.env i
  rw[AJ]at this;have e:(args.map AV.p).getD i .top=.p (args.getD i default):=by simp[hi]
  rw[e]at this;exact this.toP)
 refine⟨_,_,hent _ _,callsIn_wide.2 (h0.mono ?_)⟩;rintro x w' ⟨v,rfl,hb,hv⟩;have hR:∀j o,A2 (objRegs [Obj.vec e k n g vw]) j=some o->j=0/\o=.vec e k n g vw:=fun j o hj=>by
  simp only[objRegs,objRegs.go,A2]at hj;split at hj
  ·rename_i hj0;cases hj;exact⟨hj0.symm,rfl⟩
  ·cases hj
 have hR0:A2 (objRegs [Obj.vec e k n g vw]) 0=some (.vec e k n g vw):=rfl
 let rho' : Nat->Value:=fun j=>if j=0 then v else rho j
 have hr0:rho' 0=v:=rfl;have hblk:∀b,G5 v (.vec e k n g vw)=some b->w.heap.size<=b/\b<w'.heap.size:=by
  intro b hbv;rcases hv with⟨rfl,_⟩ | ⟨b',cap,c,rfl,h1,h2,_⟩
  ·cases hbv
  ·cases hbv;exact⟨h1,(AS7.1 h2).1⟩
 have hprv:∀b o,Prv C.X (A2 (objRegs [Obj.vec e k n g vw])) rho' b o->C.X b o \/ w.heap.size<=b:=by
  rintro b o (hX|⟨j,o',hj,hbo,_⟩)
  ·exact .inl hX
  ·obtain⟨rfl,rfl⟩:=hR j o' hj;exact .inr (hblk b hbo).1
 have hkeep:Keeps w (Prv C.X (A2 (objRegs [])) rho) w' (Prv C.X (A2 (objRegs [Obj.vec e k n g vw])) rho'):=fun b o u hp hc=>by
  have hlt:=AZ7 w ⟨b,o,none⟩ hc;refine⟨by rw[<- hc];exact AW1 (hb.block b hlt),fun hpp=>?_⟩;rcases hprv b o hpp with hX|hge
  ·exact hp (.inl hX)
  ·have:b<w.heap.size:=hlt
   omega
 refine⟨C,.ret (.vec 0),[.vec e k n g vw],[],rho',hG,⟨rfl,rfl,rfl⟩,?_,⟨v,rfl,?_⟩,fun i hi=>by simp at hi⟩
 ·refine⟨⟨fun j o hj=>?_,fun i j oi oj b hi hj _ _=>by rw[(hR i oi hi).1,(hR j oj hj).1],fun j o b off hj hbo hX=>?_,fun b off hp=>AT8 (hs.hp.bound b off hp) hb.size⟩,hs.ext.trans ⟨hb.os,hb.output⟩,AX0 hs.size hb.size,fun b hlt hE=>?_,hs.keep.trans hkeep,fun b hbo=>?_,fun j r b hj=>by cases (hR j _ hj).2⟩
  ·obtain⟨rfl,rfl⟩:=hR j o hj;rw[hr0];rcases hv with hn|⟨b,cap,c,rfl,h1,h2,h3,h4,h5,h6⟩
   ·exact .inl hn
   ·exact .inr ⟨b,cap,c,rfl,h2,h3,h4,h5,hk,fun i j hi hj=>⟨(h6 i j hi hj).1.keeps hkeep,(h6 i j hi hj).2⟩⟩
  ·obtain⟨rfl,rfl⟩:=hR j o hj;have h1:=(hblk b hbo).1;have h2:=hs.hp.bound b off hX;omega
  ·rw[hb.block b (AT8 hlt hs.size)];exact hs.same b hlt hE
  ·obtain⟨j,o,hj,hbo⟩:=hbo;obtain⟨rfl,rfl⟩:=hR j o hj;exact .inr (AX0 hs.size (hblk b hbo).1)
 ·rcases hv with⟨rfl,_⟩ | ⟨b,cap,c,rfl,_⟩
  ·exact .vec 0 none 0 0 (by simp[Lv,hR0]) rfl
  ·exact .vec 0 _ n cap (by simp[Lv,hR0]) rfl
end Go.AM
set_option linter.unusedVariables false
namespace Go.AM
open Go.RowKit Go.ChangeShapes
end Go.AM
set_option linter.unusedVariables false
namespace Go.AM
section
variable {S:Br}{P:Program}{F:J3}{K:List It}{st:St}{g:Cfg}{pr:Prop}
def AE4 (p:Option PV)(r:KQ):Prop:=match p with
 |none=>∃a,r=.ret a
 |some x=>r=.panic x
def Lz (S:Br)(f:FuncId)(first caps:List AV)(objs:List Obj)(L:List (List PV))(p:Option PV):Prop:=
 S.F f (first ++ .yf objs.length::caps) (objs++[.yld L true]) fun r objs' ks=>∃b,objs'[objs.length]? = some (.yld [] b)/\ks[objs.length]? = some true/\(b=true->AE4 p r)/\(b=false->∃a,r=.ret a)
def endP:Option PV->KP
 |none=>.normal
 |some x=>.panic x
theorem Aq6 (hS:G9 S P){g:Operand}{ps:Array Tmp}{asg body:Code}{f:FuncId}{first caps as bs:List AV}{objs:List Obj}(ids ts:List Nat)(gh:Nat)(L:List (List PV)){p:Option PV}{X:Type}(s:X->St)(J:List (List PV)->X->Prop)(x0:X)(idl:List (Nat×Nat))
 (hp:DC st.env g=some (f,first,caps)) (hfn:∃fn,P.funcs[f]? = some fn/\fn.body.isSome=true/\(fn.name == "runtime.NumGoroutine")=false) (hob:J4 ids st.regs ids=some objs) (hny:DV objs=true) (hd:F7 ids=true) (hr1:Cx ids first=some as) (hr2:Cx ids caps=some bs) (hol:objs.length=ids.length)
 (hgh:gh<1000) (hng:A2 st.regs gh=none) (hil:ids.length<1000) (hts:F7 ts=true) (hlen:∀ys∈L,ys.length=ps.size)
 (hF:Lz S f as bs objs L p) (hle:Le idl ⟨V4 ts (ts.map (get st.env)),O0 ids (ids.map fun _=>false) st.regs⟩ (s x0)) (h0:J L x0) (hk:∀x,(s x).env.map (·.1)=ts) (hn:∀x,A2 (s x).regs gh=none)
 (hround:∀ys rest x,J (ys::rest) x->G S P (Bb S P body gh ts (Ao5 s J rest) (kp S P K F)) (.code asg [] ⟨HG ps.toList ys (s x).env,ins gh (.ghost ((s x).env.map (·.2))) (s x).regs⟩))
 (hend:∀x,J [] x->G S P F (.pop (endP p) K (s x))):G S P F (.code (.rangeFunc g ps asg body) K st):=by
 have hdup:∀{l:List Nat},F7 l=true->l.Nodup:=by
  intro l
  induction l with
  |nil=>intro _;exact Ba8
  |cons a r ih=>intro h;simp only[F7,AS3,AU3,AV2,decide_eq_false_iff_not]at h;exact AX4.2 ⟨h.1,ih h.2⟩
 refine⟨f,first,caps,as,bs,objs,ids,ts,gh,L,Ao5 s J,fun b r=>b=true->AE4 p r,hp,hfn,hny,hd,hr1,hr2,hob,hgh,hng,hil,hdup hts,hlen,hS.le idl _ _ _ hle ⟨hk x0,hn x0,x0,rfl,h0⟩,?_,?_,?_⟩
 ·rintro ys rest _ _ _ ⟨x,rfl,hJ⟩;have h:=hround ys rest x hJ;have e:Bb S P body gh ts (Ao5 s J rest) (kp S P K F)=fun e s'=>match e with
   |.normal=>S.up s' fun s'=>awp S P body (DE S gh ts (Ao5 s J rest) (kp S P K F)) s'
   |_=>False:=by funext e s';cases e<;>rfl
  rw[e]at h;exact h
 ·rintro _ r _ _ ⟨x,rfl,hJ⟩ hf;have h1:=hf rfl;have h2:=hend x hJ;cases p with
  |none=>obtain⟨a,rfl⟩:=h1;exact h2
  |some y=>cases h1;exact h2
 ·rw[<- hol];refine hS.monoF _ _ _ _ _ ?_ hF;rintro r o ks ⟨b,h1,h2,h3,h4⟩;exact⟨b,h1,h2,h3,h4⟩
theorem Aq7 (hS:G9 S P){g:Operand}{ps:Array Tmp}{asg body:Code}{f:FuncId}{first caps as bs:List AV}{objs:List Obj}{R T A:Type}{enc:T->List PV}{L:List T}{p:Option PV}{mb:(A->Option R)->T->A->Option R}{mk:A->Option R}{a0:A}{r:R}
 (ids ts:List Nat) (gh:Nat) (s:A->St) (idl:List (Nat×Nat)) (h:K0 L mb mk a0=some r) (hF:Lz S f as bs objs (L.map enc) p)
 (hp:DC st.env g=some (f,first,caps)) (hfn:∃fn,P.funcs[f]? = some fn/\fn.body.isSome=true/\(fn.name == "runtime.NumGoroutine")=false) (hob:J4 ids st.regs ids=some objs) (hny:DV objs=true) (hd:F7 ids=true) (hr1:Cx ids first=some as) (hr2:Cx ids caps=some bs) (hol:objs.length=ids.length)
 (hgh:Nat.blt gh 1000=true) (hng:A2 st.regs gh=none) (hil:Nat.blt ids.length 1000=true) (hts:F7 ts=true) (hlen:∀t:T,(enc t).length=ps.size)
 (hle:Le idl ⟨V4 ts (ts.map (get st.env)),O0 ids (ids.map fun _=>false) st.regs⟩ (s a0)) (hk:∀a,(s a).env.map (·.1)=ts) (hn:∀a,A2 (s a).regs gh=none)
 (hround:∀(t:T) (next:St->Prop) (self:A->Option R) (a:A),(∀(st st1:St) (cs:List AV) (idl:List (Nat×Nat)) (a:A),Le idl st st1->A2 st1.regs gh=some (.ghost cs)->cs.length=ts.length->A2 (del gh st1.regs) gh=none->(⟨V4 ts cs,del gh st1.regs⟩:St)=s a->self a=some r->G S P (DE S gh ts next (kp S P K F)) (.pop .normal [] st)) ->
  mb self t a=some r->G S P (Bb S P body gh ts next (kp S P K F)) (.code asg [] ⟨HG ps.toList (enc t) (s a).env,ins gh (.ghost ((s a).env.map (·.2))) (s a).regs⟩))
 (hend:∀a,mk a=some r->G S P F (.pop (endP p) K (s a))):G S P F (.code (.rangeFunc g ps asg body) K st):=by
 refine Aq6 hS ids ts gh (L.map enc) s (fun rest a=>∃L',rest=L'.map enc/\K0 L' mb mk a=some r) a0 idl hp hfn hob hny hd hr1 hr2 hol (by simpa[Bb2]using hgh) hng (by simpa[Bb2]using hil) hts (fun ys hy=>?_) hF hle ⟨L,rfl,h⟩ hk hn ?_ ?_
 ·obtain⟨t,_,rfl⟩:=AY4.1 hy;exact hlen t
 ·rintro ys rest a ⟨L',hL,hx⟩;cases L' with
  |nil=>cases hL
  |cons t L'=>simp only[AU8,Ba1]at hL;obtain⟨rfl,rfl⟩:=hL;refine hround t _ (K0 L' mb mk) a (fun st st1 cs idl a hle h1 h2 h3 h4 h5=>?_) hx;exact Up hS st1 a idl hle h1 h2 h3 h4 ⟨L',rfl,h5⟩
 ·rintro a ⟨L',hL,hx⟩;cases L' with
  |nil=>exact hend a hx
  |cons t L'=>cases hL
theorem WL (hS:G9 S P)(hc:pr){f:FuncId}{as bs:List AV}{objs:List Obj}{R T A:Type}{enc:T->List PV}{L:List T}{p:Option PV}{mb:(A->Option R)->T->A->Option R}{mk:A->Option R}{a0:A}{r:R}
 (ids ts:List Nat) (gh:Nat) (s:A->St) {idl:List (Nat×Nat)}(h:K0 L mb mk a0=some r) (hF:Lz S f as bs objs (L.map enc) p)
 (hlen:∀t:T,(enc t).length=(GL (stp P g)).size) (hk:∀a,(s a).env.map (·.1)=ts) (hn:∀a,A2 (s a).regs gh=none) (hb0:∀a,(⟨V4 ts ((s a).env.map (·.2)),del gh (ins gh (.ghost ((s a).env.map (·.2))) (s a).regs)⟩:St)=s a)
 (hround:∀(t:T) (next:St->Prop) (self:A->Option R) (a:A),
  (∀(g' : Cfg) (ids:List (Nat×Nat)) (pr:Prop) (a:A),pr->self a=some r->(hp:pr=D9 (cnd P g'):=by kernel_rfl)->(he:stp P g' = .pop .normal [] (stp P g').st:=by kernel_rfl)->(hle:KLe ids (stp P g').st (rst gh (s a)):=by exact kl)->KG S P (DE S gh ts next (kp S P (stp P g).k F)) g') ->
  mb self t a=some r->KG S P (Bb S P (RY (stp P g)) gh ts next (kp S P (stp P g).k F)) (.code (RX (stp P g)) [] (Sa gh (GL (stp P g)) (enc t) (s a))))
 (hend:∀a,mk a=some r->KG S P F (.pop (endP p) (stp P g).k (s a)))
 (hp:pr=D9 (cnd P g):=by kernel_rfl) (he:RW P ids (stp P g)=some (f,as,bs,objs):=by kernel_rfl) (hgh:Nat.blt gh 1000=true:=by kernel_rfl) (hng:A2 (stp P g).st.regs gh=none:=by kernel_rfl) (hts:F7 ts=true:=by kernel_rfl)
 (hle:KLe idl (RZ ids ts (stp P g)) (s a0):=by exact kl):KG S P F g:=by
 refine⟨Fd hS hc ?_ hp⟩;have hfn:=(Gl he).2;replace he:=(Gl he).1;generalize stp P g=g1 at hlen hround hend he hng hle;unfold Ly at he;split at he
 ·rename_i op ps asg body K st;split at he
  ·rename_i f' first caps hpo
   split at he
   ·rename_i objs' as' bs' h2 h3 h4;split at he
    ·rename_i hh;simp only[AS0,AU5]at he;obtain⟨rfl,rfl,rfl,rfl⟩:=he;simp only[AS3,AU3,beq_iff_eq]at hh;obtain⟨⟨⟨e3,e4⟩,e5⟩,e6⟩:=hh;refine Aq7 hS ids ts gh s idl h hF hpo hfn h2 e3 e4 h3 h4 e5 hgh hng e6 hts hlen hle.out hk hn (fun t next self a hb hm=>?_) (fun a hm=>(hend a hm).out);refine (hround t next self a (fun g' ids' pr a hc hself hp he hle=>⟨Fd hS hc ?_ hp⟩) hm).out;rw[he];have hl:((s a).env.map (·.2)).length=ts.length:=by rw[<- hk a];simp
     refine hb _ (rst gh (s a)) ((s a).env.map fun p=>p.2) ids' a hle.out (FA gh (s a)) hl ?_ (hb0 a) hself
     have:=congrArg St.regs (hb0 a)
     simp only at this;show A2 (del gh (ins gh _ _)) gh=none;rw[this];exact hn a
    ·cases he
   ·cases he
  ·cases he
 ·cases he
theorem Ad0 (hS:G9 S P){f:FuncId}{fn:Func}{first caps:List AV}{objs:List Obj}{L:List (List PV)}{p:Option PV}(hf:P.funcs[f]? = some fn)
 (h:KG S P (BP S P (objs++[Obj.yld L true]).length fn.results.toList fun r objs' ks=>∃b,objs'[objs.length]? = some (.yld [] b)/\ks[objs.length]? = some true/\(b=true->AE4 p r)/\(b=false->∃a,r=.ret a)) (.code (fn.body.getD .skip) [] { env:=argEnv (first ++ .yf objs.length::caps),regs:=objRegs (objs++[Obj.yld L true]) }))
 (hc:fn.body.isSome=true:=by kernel_rfl) (hn:Nat.ble (first ++ .yf objs.length::caps).length fn.ntmps=true:=by kernel_rfl) (ho:Nat.blt (objs++[Obj.yld L true]).length 1000=true:=by kernel_rfl)
 (hco:Af fn.ntmps (fn.body.getD .skip)=true:=by kernel_rfl) (hnm:(fn.name == "runtime.NumGoroutine")=false:=by kernel_rfl):Lz S f first caps objs L p:=by
 obtain⟨code,hcode⟩:=AU0.1 hc;rw[hcode,AS8]at hco h;exact Jc hS hf hcode (AY3 hn) (by simpa[Bb2]using ho) rfl hco hnm h.out
theorem Aq8 (hS:G9 S P){f:FuncId}{fn:Func}{args:List AV}{objs:List Obj}{Q:KQ->List Obj->List Bool->Prop}(hf:P.funcs[f]? = some fn)
 (h:KG S P (BP S P objs.length fn.results.toList Q) (.code (fn.body.getD .skip) [] { env:=argEnv args,regs:=objRegs objs }))
 (hc:fn.body.isSome=true:=by kernel_rfl) (hn:Nat.ble args.length fn.ntmps=true:=by kernel_rfl) (ho:Nat.blt objs.length 1000=true:=by kernel_rfl)
 (hco:Af fn.ntmps (fn.body.getD .skip)=true:=by kernel_rfl) (hnm:(fn.name == "runtime.NumGoroutine")=false:=by kernel_rfl):S.F f args objs Q:=by
 obtain⟨code,hcode⟩:=AU0.1 hc;rw[hcode,AS8]at hco h;exact Jc hS hf hcode (AY3 hn) (by simpa[Bb2]using ho) rfl hco hnm h.out
def panE:Cfg->Option PV
 |.ops all (o::_) _ st=>match Cn all st.env o,o.op with
  |some true,.panic x=>match aev st.env x with
   |.p (.iface t y)=>some (.iface t y)
   |_=>none
  |_,_=>none
 |_=>none
def panC (x:PV):Cfg->Cfg
 |.ops _ _ K st=>.pop (.panic x) K st
 |g=>g
theorem AE5 (hS:G9 S P)(hc:pr){x:PV}(hk:KG S P F (panC x (stp P g)))(hp:pr=D9 (cnd P g):=by kernel_rfl)(he:panE (stp P g)=some x:=by kernel_rfl):KG S P F g:=by
 refine⟨Fd hS hc ?_ hp⟩;have hk:=hk.out;generalize stp P g=g1 at hk he;unfold panE at he;split at he
 ·rename_i all o rest K st;split at he
  ·rename_i y hg ho;split at he
   ·rename_i t z hx;cases he;exact AC4 hS hg ho hx hk
   ·cases he
  ·cases he
 ·cases he
def Aq9:Cfg->Option PV
 |.pop (.panic x) [] _=>some x
 |_=>none
theorem Ax5 (hS:G9 S P)(hc:pr){n:Nat}{rs:List ResultVar}{Q:KQ->List Obj->List Bool->Prop}{x:PV}{objs:List Obj}(outs:List Nat)(hQ:Q (.panic x) objs (EY n outs))(hp:pr=D9 (cnd P g):=by kernel_rfl)
 (he:Aq9 (stp P g)=some x:=by kernel_rfl) (hd:F7 outs=true:=by kernel_rfl) (hr:J4 outs (stp P g).st.regs outs=some objs:=by kernel_rfl):KG S P (BP S P n rs Q) g:=by
 refine⟨Fd hS hc ?_ hp⟩;generalize stp P g=g1 at he hr;unfold Aq9 at he;split at he
 ·cases he;exact⟨outs,objs,hd,hr,hQ⟩
 ·cases he
theorem Ad1 {k:Nat}{g:Nat->List PV}:AV.p (.v (.slice none 0 0))=.p (.sl false k 0 g) \/ ∃x y,AV.p (.v (.slice none 0 0))=.p x/\AV.p (.sl false k 0 g)=.p y/\leP x y:=
 .inr ⟨_,_,rfl,rfl,.inr (.inr (.inl ⟨_,_,rfl,rfl⟩))⟩
theorem AE6 (hS:G9 S P){all rest:List Oper}{o:Oper}{c:Call}{f:Operand}{as:List AV}{regs:D1}{fn:FuncId}{as' args:List AV}{objs objs' : List Obj}{ks:List Bool}{x:PV}(ids:List Nat)
 (hg:Cn all st.env o=some true) (ho:o.op=.call c) (hf:c.callee=.value f) (ha:MU st.regs (c.args.toList.map (aev st.env))=some (as,regs))
 (hw:TV st.env f as=some (fn,as')) (hr:Cx ids as' = some args) (hob:J4 ids regs ids=some objs) (hF:S.F fn args objs fun res o k=>res=.panic x/\o=objs' /\ k=ks)
 (hd:F7 ids=true) (hy:DV objs=true) (hn:CL regs ids ks (o.dst.getD 0) objs'.length=true)
 (hk:G S P F (.pop (.panic x) K { env:=st.env,regs:=Zz (N9 (o.dst.getD 0) ids ks objs'.length) (N9 (o.dst.getD 0) ids ks objs'.length) objs' (O0 ids ks regs) })) :
 G S P F (.ops all (o::rest) K st):=by
 refine DW hS hg ?_;unfold wOp;obtain⟨callee,cargs,types⟩:=c;simp only at hf ha;subst hf;rw[ho];refine .inl ⟨as,regs,_,_,.inl ha,hw,ids,args,objs,hd,hr,hob,hy,hS.monoF _ _ _ _ _ ?_ hF⟩;rintro _ _ _ ⟨rfl,rfl,rfl⟩;exact⟨hn,hk⟩
def Ax6 (ids:List Nat)(ks:List Bool)(x:PV)(objs' : List Obj):Cfg->Cfg
 |.ops all (o::rest) K st=>match o.op with
  |.call c=>match MU st.regs (c.args.toList.map (aev st.env))with
   |some (_,regs)=>mkO st.env (Zz (N9 (o.dst.getD 0) ids ks objs'.length) (N9 (o.dst.getD 0) ids ks objs'.length) objs' (O0 ids ks regs)) fun env regs=>.pop (.panic x) K ⟨env,regs⟩
   |none=>.ops all (o::rest) K st
  |_=>.ops all (o::rest) K st
 |g=>g
theorem AE7 (hS:G9 S P)(ids:List Nat)(hc:pr){fn:FuncId}{args:List AV}{objs objs' : List Obj}{x:PV}{ks:List Bool}(hF:S.F fn args objs fun res o k=>res=.panic x/\o=objs' /\ k=ks)
 (hk:KG S P F (Ax6 ids ks x objs' (stp P g))) (hp:pr=D9 (cnd P g):=by kernel_rfl) (he:Yb ids (stp P g)=some (fn,args,objs):=by kernel_rfl) (hn:Yc ids ks objs'.length (stp P g)=true:=by kernel_rfl):KG S P F g:=by
 refine⟨Fd hS hc ?_ hp⟩;replace hk:=hk.out;generalize stp P g=g' at he hn hk;unfold Yb at he;split at he
 ·split at he
  ·rename_i hg ho;split at he
   ·rename_i hcl;split at he
    ·rename_i ha;split at he
     ·rename_i hw;split at he
      ·rename_i hr hob;split at he
       ·rename_i hdy;cases he;simp only[AS3]at hdy;simp only[Ax6,Yc,ho,ha,GK]at hk hn;exact AE6 hS ids hg ho hcl ha hw hr hob hF hdy.1 hdy.2 hn hk
       ·cases he
      ·cases he
     ·cases he
    ·cases he
   ·cases he
  ·cases he
 ·cases he
def Ox (S:Br)(R:St->Prop)(X:PV->St->Prop):J3
 |.normal,st=>S.up st R
 |.panic x,st=>X x st
 |_,_=>False
theorem K_upN (hS:G9 S P)(hc:pr){R:St->Prop}{X:PV->St->Prop}(st:St){ids:List (Nat×Nat)}(hR:R st)(hp:pr=D9 (cnd P g):=by kernel_rfl)(he:stp P g=.pop .normal [] (stp P g).st:=by kernel_rfl)
 (hle:KLe ids (stp P g).st st:=by exact kl):KG S P (Ox S R X) g:=by
 refine⟨Fd hS hc ?_ hp⟩;rw[he];exact hS.le ids _ _ R hle.out hR
theorem K_upP (hS:G9 S P)(hc:pr){R:St->Prop}{X:PV->St->Prop}{x:PV}(hX:X x (stp P g).st)(hp:pr=D9 (cnd P g):=by kernel_rfl)(he:Aq9 (stp P g)=some x:=by kernel_rfl):KG S P (Ox S R X) g:=by
 refine⟨Fd hS hc ?_ hp⟩;generalize stp P g=g1 at he hX;unfold Aq9 at he;split at he
 ·cases he;exact hX
 ·cases he
end
end Go.AM
set_option linter.unusedVariables false
namespace Go.AM
section
variable {S:Br}{P:Program}{F:J3}{K:List It}{g:Cfg}{pr:Prop}
theorem Uy (hS:G9 S P){all:List Oper}{o:Oper}{k k' : St->Prop}{Q Q' : J3}(hk:∀s,k s->k' s)(hq:∀x s,Q (.panic x) s->Q' (.panic x) s){st:St}(h:Fm S P all o k Q st):Fm S P all o k' Q' st:=by
 have e:∀st,wOp S P o k Q st->wOp S P o k' Q' st:=by
  intro st h;have hcall:∀d ids f args st,TU S d ids f args st (GF o.dst k Q)->TU S d ids f args st (GF o.dst k' Q'):=by
   rintro d ids f args st ⟨a,ob,h1,h2,h3,h4,h5⟩;refine⟨a,ob,h1,h2,h3,h4,hS.monoF _ _ _ _ _ (fun r o ks ⟨h6,h7⟩=>⟨h6,?_⟩) h5⟩;cases r with
   |ret a=>exact hk _ h7
   |panic x=>exact hq _ _ h7
  unfold wOp at h⊢;split at h
  ·rcases h with⟨as,regs,f',as',h1,h2,ids,h3⟩ | ⟨j,xs,regs,ys,rest,h1,h2,h3,h4,h5,h6⟩
   ·exact .inl ⟨as,regs,f',as',h1,h2,ids,hcall _ _ _ _ _ h3⟩
   ·exact .inr ⟨j,xs,regs,ys,rest,h1,h2,h3,h4,h5,fun b=>hk _ (h6 b)⟩
  ·obtain⟨as,regs,t,y,f',h1,h2,h3,ids,h4⟩:=h;exact⟨as,regs,t,y,f',h1,h2,h3,ids,hcall _ _ _ _ _ h4⟩
  ·obtain⟨t,y,h1,h2⟩:=h;exact⟨t,y,h1,hq _ _ h2⟩
  ·rcases h with⟨out,h1,h2,h3⟩ | ⟨c,x,h1,h2,h3⟩
   ·exact .inl ⟨out,h1,h2,hk _ h3⟩
   ·exact .inr ⟨c,x,h1,h2,hk _ h3⟩
 unfold Fm at h⊢;refine hS.mono _ _ _ (fun t h=>?_) h;split at h
 ·exact e _ h
 ·obtain⟨b,h1,h2⟩:=h;refine⟨b,h1,?_⟩;split
  ·rename_i hb;rw[if_pos hb]at h2;exact e _ h2
  ·rename_i hb;rw[if_neg hb]at h2;exact hk _ h2
def AE8 (all:List Oper)(n:Nat):Bool:=
 Nat.blt n all.length&&(List.range all.length).all fun i=>Nat.blt i n||(List.range i).all fun j=>((AM1 all).getD i []).contains j
def Uz (all:List Oper)(n:Nat):Bool:=(all.take n).all fun o=>match o.guard with
 |some (j,_)=>Nat.blt j n
 |none=>true
theorem Yg (all:List Oper){n:Nat}(hg:Uz all n=true){o:Oper}(ho:o∈all.take n){k:St->Prop}{Q:J3}{s:St}(h:Fm S P (all.take n) o k Q s):Fm S P all o k Q s:=by
 have h1:=AT4.1 hg o ho;unfold Fm at h⊢;cases hgd:o.guard with
 |none=>simpa only[hgd]using h
 |some q=>
  obtain⟨j,want⟩:=q;simp only[hgd,Bb2]at h1 h⊢;have e:DD (all.take n) j=DD all j:=by unfold DD;rw[AZ4,if_pos h1]
  rw[e]at h;exact h
theorem Sc (hS:G9 S P){all:List Oper}{n:Nat}{Q:J3}{st:St}(hdep:GG all=true)(hB:AE8 all n=true)(hg:Uz all n=true)
 (h:Xy S P (all.take n) (fun e s=>match e with | .normal=>Gx S P all (all.drop n) Q s | .panic x=>Q (.panic x) s|_=>False) st):Xy S P all Q st:=by
 obtain⟨hmix,hdp,Inv,h0,hstep,hend⟩:=h;simp only[AE8,AS3,Bb2,AT4,AW2,AT6,AV2,decide_eq_true_eq]at hB;obtain⟨hn,hB⟩:=hB
 let down:(Nat->Bool)->Prop:=fun D=>∀i o,D i=true->all[i]? = some o->∀e∈o.after.toList,CN e=true->D e.on=true
 let Inv' : (Nat->Bool)->St->Prop:=fun D s=>down D/\(((∀i,n<=i->D i=false)/\Inv D s) \/ ∃j,n<=j/\j<=all.length/\(∀i,i<all.length->(D i=true↔i<j))/\Gx S P all (all.drop j) Q s)
 refine⟨hmix,hdep,Inv',⟨fun i o hi=>(by cases hi),.inl ⟨fun _ _=>rfl,h0⟩⟩,?_,?_⟩
 ·intro D i s o ⟨hD,hc⟩ ho hDi hready;have hin:i<all.length:=(AS9.1 ho).1;have hanc:=Jb hdep hD i o ho hready;have hdown:down fun j=>if j=i then true else D j:=by
   intro j oj hj hoj e he hbe;show (if e.on=i then true else D e.on)=true;by_cases e1:j=i
   ·subst e1;rw[ho]at hoj;cases hoj;split
    ·rfl
    ·exact hready e he hbe
   ·have hj:(if j=i then true else D j)=true:=hj;rw[if_neg e1]at hj;split
    ·rfl
    ·exact hD j oj hj hoj e he hbe
  have hclose:(∀j,j<i->D j=true)->(∀j,i<j->j<all.length->D j=false)->n<=i->S.up s (Gx S P all (all.drop i) Q)->Fm S P all o (Inv' fun j=>if j=i then true else D j) Q s:=by
   intro hlo hhi hni h2;have hd:all.drop i=o::all.drop (i+1):=by rw[Ba7 hin];congr 1;exact (AS9.1 ho).2
   rw[hd]at h2;have h3:Fm S P all o (Gx S P all (all.drop (i+1)) Q) Q s:=hS.trans _ _ h2;refine Jd hS (fun s' hs'=>?_) (fun e s h=>h) h3;refine⟨hdown,.inr ⟨i+1,by omega,hin,fun i' hi'=>?_,hs'⟩⟩;by_cases e:i' = i
   ·simp[e]
   ·simp only[e,if_false];constructor
    ·intro h4;by_cases h5:i<i'
     ·rw[hhi i' h5 hi']at h4;cases h4
     ·omega
    ·intro h4;exact hlo i' (by omega)
  rcases hc with⟨hlo,hI⟩ | ⟨j,hj1,hj2,hDj,hw⟩
  ·by_cases hi:i<n
   ·have ho' : (all.take n)[i]? = some o:=by rw[AZ4,if_pos hi];exact ho
    have h1:=Yg all hg (AT7 ho') (hstep D i s o hI ho' hDi hready);refine Uy hS (fun s' hs'=>?_) (fun x s' h=>h) h1;refine⟨hdown,.inl ⟨fun i' h'=>?_,hs'⟩⟩
    have:i' ≠ i:=by omega
    show (if i' = i then true else D i')=false;rw[if_neg this];exact hlo i' h'
   ·have hall:∀j,j<i->D j=true:=fun j hj=>hanc j ((hB i hin).resolve_left hi j hj);have e:i=n:=by
     by_cases h4:n<i
     ·have:=hall n h4;rw[hlo n (AS4 _)]at this;cases this
     ·omega
    subst e;refine hclose hall (fun j hj _=>hlo j (by omega)) (AS4 _) ?_;exact hend D s hI fun j hj=>hall j (by simp at hj;omega)
  ·have e:i=j:=by
    by_cases h4:i<j
    ·have:=(hDj i hin).2 h4;rw[hDi]at this;cases this
    ·by_cases h5:j<i
     ·have hall:D j=true:=hanc j ((hB i hin).resolve_left (by omega) j h5)
      have:=(hDj j (by omega)).1 hall;omega
     ·omega
   subst e;refine hclose (fun j hj=>(hDj j (by omega)).2 hj) (fun j h1 h2=>?_) hj1 (hS.refl _ _ hw);cases hh:D j with
   |false=>rfl
   |true=>have:=(hDj j h2).1 hh;omega
 ·rintro D s ⟨hD,hc⟩ hall;rcases hc with⟨hlo,hI⟩ | ⟨j,hj1,hj2,hDj,hw⟩
  ·have:=hall n hn;rw[hlo n (AS4 _)]at this;cases this
  ·have e:j=all.length:=by
    by_cases h4:j<all.length
    ·have:=(hDj j h4).1 (hall j h4);omega
    ·omega
   subst e;rw[List.drop_length]at hw;exact hS.refl _ _ hw
def KH (n:Nat)(ls:List (Nat×Cls)):Cfg->SC
 |.code (.region _ ops true) _ st=>⟨ops.toList.take n,AR3 ls 0 (ops.toList.take n),ops.toList.take n,st.env,st.regs,[]⟩
 |_=>⟨[],[],[],[],[],[]⟩
def Ad2 (n:Nat)(env:Env)(regs:D1):Cfg->Cfg
 |.code (.region _ ops true) K _=>.ops ops.toList (ops.toList.drop n) K ⟨env,regs⟩
 |g=>g
def Ad3 (n:Nat):Cfg->Bool
 |.code (.region _ ops true) _ _=>GG ops.toList&&AE8 ops.toList n&&Uz ops.toList n
 |_=>false
theorem Ar0 (hS:G9 S P)(hc:pr)(n:Nat)(ls:List (Nat×Cls))(h:DG S P (KH n ls (stp P g)) fun env regs=>KG S P F (Ad2 n env regs (stp P g)))(hp:pr=D9 (cnd P g):=by kernel_rfl)(hd:CS (stp P g)=true:=by kernel_rfl)(hmix:P.follows .mixedOrders=true:=by kernel_rfl)
 (hok:JC (KH n ls (stp P g)).all (KH n ls (stp P g)).cls=true:=by kernel_rfl) (hb:Ad3 n (stp P g)=true:=by kernel_rfl):KG S P F g:=by
 have e:(fun env regs=>KG S P F (Ad2 n env regs (stp P g)))=fun env regs=>G S P F (Ad2 n env regs (stp P g)):=by funext env regs;exact propext ⟨fun h=>h.out,fun h=>⟨h⟩⟩
 rw[e]at h;refine⟨Fd hS hc ?_ hp⟩;have h:=h.out;generalize stp P g=g' at hd hok h hb;unfold CS at hd;split at hd
 ·rename_i id ops K st;simp only[Ad3,AS3]at hb;show awp S P (.region id ops true) (kp S P K F) st;simp only[awp,if_true];refine Sc hS hb.1.1 hb.1.2 hb.2 ?_;have h2:(ops.toList.take n).toArray.toList=ops.toList.take n:=rfl
  have:=Wu hS (F:=fun e s=>match e with | .normal=>Gx S P ops.toList (ops.toList.drop n) (kp S P K F) s | .panic x=>kp S P K F (.panic x) s|_=>False) (K:=[]) (id:=id) (ops:=(ops.toList.take n).toArray) (AR3 ls 0 (ops.toList.take n)) hmix hok h
  simpa only[G,awp,if_true,kp,KH]using this
 ·cases hd
end
end Go.AM
set_option linter.unusedVariables false
namespace Go.AM
open Go.RowKit Go.ChangeShapes Go.Deep
mutual
inductive LeD:PV->PV->Prop
 |refl (x:PV):LeD x x
 |sl {k n:Nat}{f g:Nat->List PV}(h:∀i,i<n->LeDs (f i) (g i)):LeD (.sl false k n f) (.sl false k n g)
inductive LeDs:List PV->List PV->Prop
 |nil:LeDs [] []
 |cons {x y:PV}{l r:List PV}(h:LeD x y) (h' : LeDs l r):LeDs (x::l) (y::r)
end
theorem LeDs.refl:∀l:List PV,LeDs l l
 |[]=>.nil
 |x::l=>.cons (.refl x) (LeDs.refl l)
theorem LeDs.length {l r:List PV}(h:LeDs l r):l.length=r.length:=by
 induction l generalizing r with
 |nil=>cases h;rfl
 |cons x l ih=>cases h with|cons _ h'=>simp[ih h']
theorem LeDs.get {l r:List PV}(h:LeDs l r):∀i,LeD (l.getD i default) (r.getD i default):=by
 induction l generalizing r with
 |nil=>cases h;exact fun i=>.refl _
 |cons x l ih=>
  cases h with
  |cons h h'=>
   intro i;cases i with
   |zero=>exact h
   |succ i=>simpa using ih h' i
theorem LeDs.append {a b c d:List PV}(h:LeDs a b)(h' : LeDs c d):LeDs (a++c) (b++d):=by
 induction a generalizing b with
 |nil=>cases h;exact h'
 |cons x l ih=>cases h with|cons h1 h2=>exact .cons h1 (ih h2)
theorem RepP.leD {w:World}{Pi:Nat->Nat->Prop}{v:Value}{x:PV}(h:RepP w Pi v x):∀{y:PV},LeD x y->RepP w Pi v y:=by
 induction h with
 |slnil k f=>intro y hy;cases hy with
  |refl=>exact .slnil _ _
  |sl h=>exact .slnil _ _
 |sl nn b off cap k n f c hn hk hc h sp hsp ih=>
  intro y hy;cases hy with
  |refl=>exact .sl nn b off cap k n f c hn hk hc h sp hsp
  |sl h'=>exact .sl false b off cap k n _ c hn (fun i hi=>by rw[<- (h' i hi).length];exact hk i hi) hc (fun i j hi hj=>ih i j hi hj ((h' i hi).get j)) sp hsp
 |v x=>intro y hy;cases hy;exact .v x
 |bb b=>intro y hy;cases hy;exact .bb b
 |str l=>intro y hy;cases hy;exact .str l
 |agg vs cs hs h1 h ih=>intro y hy;cases hy;exact .agg vs cs hs h1 h
 |ptr b off cs c hc h ih=>intro y hy;cases hy;exact .ptr b off cs c hc h
 |iface t x a h ih=>intro y hy;cases hy;exact .iface t x a h
 |fn f x y a b hx hy ha hb iha ihb=>intro y hy;cases hy;exact .fn f x _ a b hx ‹_› ha hb
theorem CRep.leD {W:World}{cs:List Value}{p q:List PV}(h:CRep W cs p)(hl:LeDs p q):CRep W cs q:=
 ⟨by rw[h.1,hl.length],fun i hi=>⟨(h.2 i (by rw[hl.length];exact hi)).1.leD (hl.get i),(h.2 i (by rw[hl.length];exact hi)).2⟩⟩
section
variable {P:Program}{t e:TypeId}{m:Nat}{pvs:List PV}
def Fo (f:Nat->Nat):Nat->Nat
 |0=>0
 |k+1=>Fo f k+f k
theorem AE9 (f:Nat->Nat){k n:Nat}(h:k<=n):Fo f k<=Fo f n:=by
 induction h with
 |refl=>exact AS4 _
 |step _ ih=>simp only[Fo];omega
theorem Qc (f:Nat->Nat){k n:Nat}(h:k<n):f k<=Fo f n:=by
 have:=AE9 f (show k+1<=n from h)
 simp only[Fo]at this;omega
theorem Sd {f g:Nat->Nat}:∀{n:Nat},(∀i,i<n->f i<=g i)->Fo f n<=Fo g n
 |0,_=>AS4 _
 |n+1,h=>by have h1:=Sd (n:=n) fun i hi=>h i (by omega);have h2:=h n (by omega);simp only[Fo];omega
theorem Oy (f:Nat->Nat):∀n,TR ((List.range n).map f)=Fo f n:=by
 have app:∀a b:List Nat,TR (a++b)=TR a+TR b:=by
  intro a b
  induction a with
  |nil=>simp[TR]
  |cons x r ih=>simp only[AV9,RH,ih];omega
 intro n
 induction n with
 |zero=>rfl
 |succ n ih=>rw[Bb3,Ba2,app,ih];simp[Fo,TR]
def Ki (P:Program)(t:TypeId){T:Type}(c:T->List PV)(W:T->Prop)(sz:T->Nat):Prop:=
 ∀(m:Nat) (pvs:List PV),Gz P m t pvs->∃x:T,LeDs pvs (c x)/\W x/\sz x<=m
theorem Q5 {k:IntKind}(ht:P.underlying t=some (.int k)):Ki P t (cI k) (fun n=>(Lit.int k n).wf=true) (fun _=>1):=by
 intro m pvs h;cases h with
 |bool ht'=>rw[ht]at ht';cases ht'
 |str ht'=>rw[ht]at ht';cases ht'
 |slice _ ht'=>rw[ht]at ht';cases ht'
 |arr ht'=>rw[ht]at ht';cases ht'
 |struct ht'=>rw[ht]at ht';cases ht'
 |int ht' hw hm=>rw[ht]at ht';cases ht';exact⟨_,LeDs.refl _,hw,hm⟩
theorem Yh (ht:P.underlying t=some .bool):Ki P t cB (fun _=>True) (fun _=>1):=by
 intro m pvs h;cases h with
 |int ht'=>rw[ht]at ht';cases ht'
 |str ht'=>rw[ht]at ht';cases ht'
 |slice _ ht'=>rw[ht]at ht';cases ht'
 |arr ht'=>rw[ht]at ht';cases ht'
 |struct ht'=>rw[ht]at ht';cases ht'
 |bool ht' hm=>exact⟨_,LeDs.refl _,trivial,hm⟩
theorem Se (ht:P.underlying t=some .string):Ki P t cS (fun _=>True) (fun l=>l.length+1):=by
 intro m pvs h;cases h with
 |int ht'=>rw[ht]at ht';cases ht'
 |bool ht'=>rw[ht]at ht';cases ht'
 |slice _ ht'=>rw[ht]at ht';cases ht'
 |arr ht'=>rw[ht]at ht';cases ht'
 |struct ht'=>rw[ht]at ht';cases ht'
 |str ht' hm=>exact⟨_,LeDs.refl _,trivial,hm⟩
theorem V6 {T:Type}[Inhabited T]{c:T->List PV}{W:T->Prop}{sz:T->Nat}{k:Nat}(ht:P.underlying t=some (.slice e))(hk:P.cellsOf e=k)(h:Ki P e c W sz) :Ki P t (cL k c) (fun s=>∀i,i<s.n->W (s.g i)) (fun s=>Fo (fun i=>sz (s.g i)) s.n+1):=by
 intro m pvs hs;cases hs with
 |int ht'=>rw[ht]at ht';cases ht'
 |bool ht'=>rw[ht]at ht';cases ht'
 |str ht'=>rw[ht]at ht';cases ht'
 |arr ht'=>rw[ht]at ht';cases ht'
 |struct ht'=>rw[ht]at ht';cases ht'
 | @slice _ _ e' n f ms ht' hl hel hm=>
  rw[ht]at ht';cases ht';obtain⟨g,hg⟩:=choose_lt (α:=T) (p:=fun i x=>LeDs (f i) (c x)/\W x/\sz x<=ms i) fun i hi=>h _ _ (hel i hi);refine⟨⟨n,g⟩,?_,fun i hi=>(hg i hi).2.1,?_⟩
  ·subst hk;exact .cons (.sl fun i hi=>(hg i hi).1) .nil
  ·have h1:=Sd (n:=n) fun i hi=>(hg i hi).2.2;rw[Oy]at hm;show Fo (fun i=>sz (g i)) n+1<=m;omega
theorem AK {fs:Array Field}(ht:P.underlying t=some (.struct fs))(h:Gz P m t pvs):∃m',Fb P m' (fs.toList.map (·.type)) pvs/\m' + 1<=m:=by
 cases h with
 |int ht'=>rw[ht]at ht';cases ht'
 |bool ht'=>rw[ht]at ht';cases ht'
 |str ht'=>rw[ht]at ht';cases ht'
 |slice _ ht'=>rw[ht]at ht';cases ht'
 |arr ht'=>rw[ht]at ht';cases ht'
 |struct ht' h hm=>rw[ht]at ht';cases ht';exact⟨_,h,hm⟩
theorem Ad4 {n:Nat}(ht:P.underlying t=some (.array n e))(h:Gz P m t pvs):∃m',Fb P m' (List.replicate n e) pvs/\m' + 1<=m:=by
 cases h with
 |int ht'=>rw[ht]at ht';cases ht'
 |bool ht'=>rw[ht]at ht';cases ht'
 |str ht'=>rw[ht]at ht';cases ht'
 |slice _ ht'=>rw[ht]at ht';cases ht'
 |struct ht'=>rw[ht]at ht';cases ht'
 |arr ht' h hm=>rw[ht]at ht';cases ht';exact⟨_,h,hm⟩
theorem C7 {ts:List TypeId}(h:Fb P m (t::ts) pvs):∃a b p q,pvs=p++q/\Gz P a t p/\Fb P b ts q/\a+b<=m:=by
 cases h with
 |cons h h' hm=>exact⟨_,_,_,_,rfl,h,h',hm⟩
theorem By (h:Fb P m [] pvs):pvs=[]:=by cases h;rfl
end
end Go.AM
