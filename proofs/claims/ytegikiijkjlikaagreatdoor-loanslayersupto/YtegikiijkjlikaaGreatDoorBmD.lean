/- What a law's walk and its plain proof need, part 4: no condition of its own. -/
import Derived.Test.YtegikiijkjlikaaGreatDoorBmC
import Derived.KernelRfl
set_option linter.unusedSimpArgs false
set_option linter.unusedVariables false
set_option linter.unusedSectionVars false
set_option linter.unusedVariables false
namespace Go.AM
section
variable (P:Program)
def stp (g:Cfg):Cfg:=(run P none 400 [] g).cfg
def cnd (g:Cfg):List Prop:=(run P none 400 [] g).conds
def Bj3 (d:Nat) (g:Cfg):Cfg:=(run P (some d) 400 [] g).cfg
def cndU (d:Nat) (g:Cfg):List Prop:=(run P (some d) 400 [] g).conds
def Cfg.st:Cfg->St
 | .code _ _ s=>s
 | .ops _ _ _ s=>s
 | .pop _ _ s=>s
def Cfg.k:Cfg->List It
 | .code _ K _=>K
 | .ops _ _ K _=>K
 | .pop _ K _=>K
def mkO {R:Type _} (env:Env) (regs:D2) (κ : Env->D2->R):R:=fE env fun env=>fR regs fun regs=>κ env regs
theorem AG8 {R:Type _} (env:Env) (regs:D2) (κ : Env->D2->R):mkO env regs κ = κ env regs:=by simp only [mkO,fE_eq,CF0]
def CN2 {R:Type _} (d:Option Nat) (a:AV) (env:Env) (regs:D2) (κ : St->R):R:=match d with
 | some d=>mkO (ins d a env) regs fun env regs=>κ ⟨env,regs⟩
 | none=>mkO env regs fun env regs=>κ ⟨env,regs⟩
theorem Bp3 {R:Type _} (d:Option Nat) (a:AV) (env:Env) (regs:D2) (κ : St->R):CN2 d a env regs κ = κ (put ⟨env,regs⟩ d a):=by
 cases d <;> simp only [CN2,AG8,put]
def CI1:Cfg->Option Bool
 | .code (.cond c _ _) _ st=>match aev st.env c with
  | .p (.bb b)=>some b
  | _=>none
 | _=>none
def CQ5:Cfg->Cfg
 | .code (.cond _ t _) K st=>.code t K st
 | g=>g
def CQ6:Cfg->Cfg
 | .code (.cond _ _ e) K st=>.code e K st
 | g=>g
def Ck4:Cfg->Option Bool
 | .ops all (o :: _) _ st=>match o.guard with
  | some (j,_)=>match CO2 all j with
   | some d=>match get st.env d with
    | .p (.bb b)=>some b
    | _=>none
   | none=>none
  | none=>none
 | _=>none
def By0 (b:Bool):Cfg->Cfg
 | .ops all (o :: rest) K st=>match o.guard with
  | some (j,_)=>match CO2 all j with
   | some d=>CN2 (some d) (.p (.v (.bool b))) st.env st.regs fun st=>.ops all (o :: rest) K st
   | none=>.ops all (o :: rest) K st
  | none=>.ops all (o :: rest) K st
 | g=>g
def Ck5 (ids:List Nat):Cfg->Option (FuncId × List AV × List Obj)
 | .ops all (o :: _) _ st=>match Au4 all st.env o,o.op with
  | some true, .call c=>match c.callee with
   | .value f=>match Bd3 st.regs (c.args.toList.map (aev st.env)) with
    | some (as,regs)=>match BH3 st.env f as with
     | some (fn,as')=>match Aj5 ids as',I7 ids regs ids with
      | some a,some ob=>if F7 ids && Ap3 ob then some (fn,a,ob) else none
      | _,_=>none
     | none=>none
    | none=>none
   | _=>none
  | _,_=>none
 | _=>none
def Ck6 (ids:List Nat) (ks:List Bool) (n:Nat):Cfg->Bool
 | .ops _ (o :: _) _ st=>match o.op with
  | .call c=>match Bd3 st.regs (c.args.toList.map (aev st.env)) with
   | some (_,regs)=>Ak4 regs ids ks (o.dst.getD 0) n
   | none=>false
  | _=>false
 | _=>false
def CI2 (ids:List Nat) (ks:List Bool) (r:AV) (objs' : List Obj):Cfg->Cfg
 | .ops all (o :: rest) K st=>match o.op with
  | .call c=>match Bd3 st.regs (c.args.toList.map (aev st.env)) with
   | some (_,regs)=>CN2 o.dst (unA (N4 (o.dst.getD 0) ids ks objs'.length) r) st.env
    (Cg1 (N4 (o.dst.getD 0) ids ks objs'.length) (N4 (o.dst.getD 0) ids ks objs'.length) objs' (N5 ids ks regs)) fun st=>.ops all rest K st
   | none=>.ops all (o :: rest) K st
  | _=>.ops all (o :: rest) K st
 | g=>g
structure LookI where
 kt:TypeId
 e:TypeId
 key:PV
 es:List (PV × PV)
def lookE:Cfg->Option LookI
 | .ops all (o :: _) _ st=>match Au4 all st.env o,o.op with
  | some true, .lookup t m k _=>match AR4 st.regs (aev st.env k),aev st.env m with
   | some (key,regs), .mref j=>match A5 regs j,tk P t with
    | some (.map es),some (.map kt e)=>if Bn2 P kt key=true then some ⟨kt,e,key,es⟩ else none
    | _,_=>none
   | _,_=>none
  | _,_=>none
 | _=>none
def lookV (e:TypeId):Option PV->Option (PV × Bool)
 | some x=>some (x,true)
 | none=>(Bu3 P e).map fun z=>(z,false)
def AG9:Cfg->Bool
 | .code (.loop _) _ _=>true
 | _=>false
def By1:Cfg->Code
 | .code (.loop b) _ _=>b
 | _=>.skip
def popSt:Cfg->Option St
 | .pop .normal _ st=>some st
 | _=>none
def By2 (M:It):Nat->List It->List It
 | 0,K=>M :: K
 | n+1,i :: K=>i :: By2 M n K
 | _+1, []=>[M]
def CQ7 (n:Nat) (M:St->Prop):Cfg->Cfg
 | .code c K st=>.code c (By2 (.mid M) n K) st
 | .ops all rest K st=>.ops all rest (By2 (.mid M) n K) st
 | .pop e K st=>.pop e (By2 (.mid M) n K) st
def AW0:Cfg->Bool
 | .ops _ (_ :: _) _ _=>true
 | _=>false
def opsS (st:St):Cfg->Cfg
 | .ops all rest K _=>.ops all rest K st
 | g=>g
def CN3:Cfg->Option St
 | .pop .ret [] st=>some st
 | .pop .normal [] st=>some st
 | _=>none
inductive Leaf where
 | eq (x y:PV)
 | fn (n m:Nat) (f g:Nat->List PV)
 | mp (x y:List (PV × PV))
 | yl (x y:List (List PV)) (b c:Bool)
 | nt (a b:Nat)
inductive LV where
 | eq (x:PV)
 | fn (n:Nat) (f:Nat->List PV)
 | mp (x:List (PV × PV))
 | yl (x:List (List PV)) (b:Bool)
 | nt (a:Nat)
def Leaf.src:Leaf->LV
 | .eq x _=>.eq x
 | .fn n _ f _=>.fn n f
 | .mp x _=>.mp x
 | .yl x _ b _=>.yl x b
 | .nt a _=>.nt a
def Leaf.tgt:Leaf->LV
 | .eq _ y=>.eq y
 | .fn _ m _ g=>.fn m g
 | .mp _ y=>.mp y
 | .yl _ y _ c=>.yl y c
 | .nt _ b=>.nt b
def Leaf.ok:Leaf->Prop
 | .eq x y=>x=y
 | .fn n m f g=>n=m/\∀ i,i < n->f i=g i
 | .mp x y=>x=y
 | .yl x y b c=>x=y/\b=c
 | .nt a b=>a=b
theorem Leaf.ok_of {l:Leaf} (h:l.src=l.tgt):l.ok:=by
 cases l with
 | eq x y=>simp only [Leaf.src,Leaf.tgt,LV.eq.injEq] at h;exact h
 | fn n m f g=>simp only [Leaf.src,Leaf.tgt,LV.fn.injEq] at h;obtain ⟨rfl,rfl⟩:=h;exact ⟨rfl,fun _ _=>rfl⟩
 | mp x y=>simp only [Leaf.src,Leaf.tgt,LV.mp.injEq] at h;exact h
 | yl x y b c=>simp only [Leaf.src,Leaf.tgt,LV.yl.injEq] at h;exact h
 | nt a b=>simp only [Leaf.src,Leaf.tgt,LV.nt.injEq] at h;exact h
def CI3:PV->PV->Leaf
 | .v (.bool b), .bb c=>.eq (.bb b) (.bb c)
 | .v (.slice none 0 0), .sl false _ n f=>.fn 0 n f f
 | .sl nn k n f, .sl false l m g=>if k=l then .fn n m f g else .eq (.sl nn k n f) (.sl false l m g)
 | x,y=>.eq x y
mutual
def AL4 (regs:D2) (ids:List (Nat × Nat)) (a b:AV):Option (List Leaf):=
 match b with
 | .top=>some []
 | .p y=>match viewP regs a with
  | some x=>some [CI3 x y]
  | none=>none
 | .reg j off=>match a with | .reg i off'=>if lk ids j=some i/\off=off' then some [] else none | _=>none
 | .vec j=>match a with
  | .vec i=>if lk ids j=some i then some [] else none
  | .p (.v (.slice none 0 0))=>if lk ids j=none then some [] else none
  | _=>none
 | .vecp j n=>match a with | .vecp i m=>if lk ids j=some i/\n=m then some [] else none | _=>none
 | .elt j k n off=>match a with | .elt i k' n' off'=>if lk ids j=some i/\k=k' /\ n=n' /\ off=off' then some [] else none | _=>none
 | .mref j=>match a with | .mref i=>if lk ids j=some i then some [] else none | _=>none
 | .yf j=>match a with | .yf i=>if lk ids j=some i then some [] else none | _=>none
 | .clo f x y=>match a with
  | .clo f' x' y'=>match Bd9 regs ids x' x,Bd9 regs ids y' y with | some l,some m=>some (.nt f' f :: (l ++ m)) | _,_=>none
  | _=>none
 | .tup l=>match a with | .tup l'=>Bd9 regs ids l' l | _=>none
 | .agr l=>match a with | .agr l'=>Bd9 regs ids l' l | _=>none
def Bd9 (regs:D2) (ids:List (Nat × Nat)) (a b:List AV):Option (List Leaf):=
 match b with
 | []=>match a with | []=>some [] | _=>none
 | y :: s=>match a with
  | x :: r=>match AL4 regs ids x y,Bd9 regs ids r s with | some l,some m=>some (l ++ m) | _,_=>none
  | []=>none
end
def Cw6 (regs:D2) (ids:List (Nat × Nat)) (env:Env):Env->Option (List Leaf)
 | []=>some []
 | (t,b) :: r=>match AL4 regs ids (get env t) b,Cw6 regs ids env r with | some l,some m=>some (l ++ m) | _,_=>none
def By3 (regs:D2) (ids:List (Nat × Nat)) (o p:Obj):Option (List Leaf):=
 match p with
 | .cells cs=>match o with | .cells cs'=>Bd9 regs ids cs' cs | _=>none
 | .vec e k n f vw=>match o with
  | .vec e' k' m g vw'=>if e=e' /\ k=k' /\ (vw' = true->vw=true) then some [.fn m n g f] else none
  | _=>none
 | .map es=>match o with | .map es'=>some [.mp es' es] | _=>none
 | .arr n f=>match o with | .arr m g=>some [.fn m n (fun i=>[g i]) (fun i=>[f i])] | _=>none
 | .ghost cs=>match o with | .ghost cs'=>Bd9 regs ids cs' cs | _=>none
 | .yld r b=>match o with | .yld r' b'=>some [.yl r' r b' b] | _=>none
 | .dead=>some []
def Cw7 (regs:D2) (ids:List (Nat × Nat)):D2->Option (List Leaf)
 | []=>some []
 | (j,p) :: r=>match (match lk ids j with
  | some i=>match A5 regs i with
   | some o=>By3 regs ids o p
   | none=>none
  | none=>match p with
   | .vec _ _ n f _=>some [.fn 0 n f f]
   | _=>none:Option (List Leaf)),Cw7 regs ids r with
  | some l,some m=>some (l ++ m)
  | _,_=>none
def leK (ids:List (Nat × Nat)) (s t:St):Option (List Leaf):=
 if (wf t && F7 (ids.map (·.2)) && BX6 ids && Bh1 ids t.regs && AN7 ids (Cs7 s.env t.env ++ AF7 ids s.regs t.regs) t.regs)=true then
  match Cw6 s.regs ids s.env t.env,Cw7 s.regs ids t.regs with
  | some l,some m=>some (l ++ m)
  | _,_=>none
 else none
theorem Cw8 {x y:PV} (h:(CI3 x y).ok):leP x y:=by
 unfold CI3 at h
 split at h
 ·simp only [Leaf.ok,PV.bb.injEq] at h;subst h;exact .inr (.inr (.inr (.inl ⟨_,rfl,rfl⟩)))
 ·obtain ⟨rfl,_⟩:=h;exact .inr (.inr (.inl ⟨_,_,rfl,rfl⟩))
 ·split at h
  ·rename_i hk;subst hk;obtain ⟨rfl,h⟩:=h;exact .inr (.inl ⟨_,_,_,_,_,rfl,rfl,h⟩)
  ·exact .inl h
 ·exact .inl h
theorem AW1 {l m:List Leaf} (h:∀ x ∈ l ++ m,x.ok):(∀ x ∈ l,x.ok)/\∀ x ∈ m,x.ok:=
 ⟨fun x hx=>h x (List.mem_append_left _ hx),fun x hx=>h x (List.mem_append_right _ hx)⟩
mutual
theorem BT8 {regs:D2} {ids:List (Nat × Nat)} {a:AV} (b:AV) {L:List Leaf} (h:AL4 regs ids a b=some L) (hL:∀ x ∈ L,x.ok):leA regs ids a b:=by
 cases b with
 | top=>unfold leA;trivial
 | p y=>
  unfold AL4 at h
  split at h
  ·rename_i x hx;cases h;unfold leA;exact ⟨x,hx,Cw8 (hL _ (by simp))⟩
  ·cases h
 | reg j off=>
  unfold AL4 at h
  split at h
  ·split at h
   ·rename_i hh;obtain ⟨h1,rfl⟩:=hh;exact CO5 h1
   ·cases h
  ·cases h
 | vec j=>
  unfold AL4 at h
  split at h
  ·split at h
   ·rename_i h1;exact CO4 h1
   ·cases h
  ·split at h
   ·rename_i h1;exact CF5 h1
   ·cases h
  ·cases h
 | vecp j n=>
  unfold AL4 at h
  split at h
  ·split at h
   ·rename_i hh;obtain ⟨h1,rfl⟩:=hh;unfold leA;exact ⟨_,h1,rfl⟩
   ·cases h
  ·cases h
 | elt j k n off=>
  unfold AL4 at h
  split at h
  ·split at h
   ·rename_i hh;obtain ⟨h1,rfl,rfl,rfl⟩:=hh;unfold leA;exact ⟨_,h1,rfl⟩
   ·cases h
  ·cases h
 | mref j=>
  unfold AL4 at h
  split at h
  ·split at h
   ·rename_i h1;exact Ch4 h1
   ·cases h
  ·cases h
 | yf j=>
  unfold AL4 at h
  split at h
  ·split at h
   ·rename_i h1;exact le_yf h1
   ·cases h
  ·cases h
 | clo f x y=>
  unfold AL4 at h
  split at h
  ·split at h
   ·rename_i l m h1 h2
    cases h
    have hf:=hL _ (List.mem_cons_self ..)
    simp only [Leaf.ok] at hf
    subst hf
    obtain ⟨h3,h4⟩:=AW1 fun x hx=>hL x (List.mem_cons_of_mem _ hx)
    exact CO6 (As4 x h1 h3) (As4 y h2 h4)
   ·cases h
  ·cases h
 | tup l=>
  unfold AL4 at h
  split at h
  ·exact CQ3 (As4 l h hL)
  ·cases h
 | agr l=>
  unfold AL4 at h
  split at h
  ·exact CQ4 (As4 l h hL)
  ·cases h
theorem As4 {regs:D2} {ids:List (Nat × Nat)} {a:List AV} (b:List AV) {L:List Leaf} (h:Bd9 regs ids a b=some L) (hL:∀ x ∈ L,x.ok):leL regs ids a b:=by
 cases b with
 | nil=>
  unfold Bd9 at h
  split at h
  ·exact CF6
  ·cases h
 | cons y s=>
  unfold Bd9 at h
  split at h
  ·split at h
   ·rename_i l m h1 h2
    cases h
    obtain ⟨h3,h4⟩:=AW1 hL
    exact Ct3 (BT8 y h1 h3) (As4 s h2 h4)
   ·cases h
  ·cases h
end
theorem BT9 {regs:D2} {ids:List (Nat × Nat)} {env:Env}:∀ (t:Env) {L:List Leaf},Cw6 regs ids env t=some L->(∀ x ∈ L,x.ok)->AT7 regs ids env t
 | [],_,_,_=>trivial
 | (t,b) :: r,L,h,hL=>by
  simp only [Cw6] at h
  split at h
  ·rename_i l m h1 h2
   cases h
   obtain ⟨h3,h4⟩:=AW1 hL
   exact ⟨BT8 b h1 h3,BT9 r h2 h4⟩
  ·cases h
theorem Cw9 {regs:D2} {ids:List (Nat × Nat)} {o p:Obj} {L:List Leaf} (h:By3 regs ids o p=some L) (hL:∀ x ∈ L,x.ok):leO regs ids o p:=by
 cases p with
 | cells cs=>
  simp only [By3] at h
  split at h
  ·exact Ct4 (As4 cs h hL)
  ·cases h
 | vec e k n f vw=>
  simp only [By3] at h
  split at h
  ·split at h
   ·rename_i hh
    obtain ⟨rfl,rfl,hv⟩:=hh
    cases h
    obtain ⟨rfl,h1⟩:=hL _ (List.mem_singleton.2 rfl)
    exact ⟨_,_,rfl,h1,hv⟩
   ·cases h
  ·cases h
 | map es=>
  simp only [By3] at h
  split at h
  ·cases h
   have:=hL _ (List.mem_singleton.2 rfl)
   simp only [Leaf.ok] at this
   subst this;rfl
  ·cases h
 | arr n f=>
  simp only [By3] at h
  split at h
  ·cases h
   obtain ⟨rfl,h1⟩:=hL _ (List.mem_singleton.2 rfl)
   exact ⟨_,rfl,fun i hi=>by simpa using h1 i hi⟩
  ·cases h
 | ghost cs=>
  simp only [By3] at h
  split at h
  ·exact ⟨_,rfl,As4 cs h hL⟩
  ·cases h
 | yld r b=>
  simp only [By3] at h
  split at h
  ·cases h
   obtain ⟨rfl,rfl⟩:=hL _ (List.mem_singleton.2 rfl)
   rfl
  ·cases h
 | dead=>trivial
theorem BU0 {regs:D2} {ids:List (Nat × Nat)}:∀ (t:D2) {L:List Leaf},Cw7 regs ids t=some L->(∀ x ∈ L,x.ok)->Bu8 regs ids t
 | [],_,_,_=>trivial
 | (j,p) :: r,L,h,hL=>by
  simp only [Cw7] at h
  split at h
  ·rename_i l m h1 h2
   cases h
   obtain ⟨h3,h4⟩:=AW1 hL
   refine ⟨?_,BU0 r h2 h4⟩
   split at h1
   ·rename_i i hi
    split at h1
    ·rename_i o ho;exact .inl ⟨i,o,hi,ho,Cw9 h1 h3⟩
    ·cases h1
   ·rename_i hi
    split at h1
    ·cases h1
     obtain ⟨rfl,_⟩:=h3 _ (List.mem_singleton.2 rfl)
     exact .inr ⟨hi,_,_,_,_,rfl⟩
    ·cases h1
  ·cases h
theorem CC6 {ids:List (Nat × Nat)} {s t:St} {L:List Leaf} (h:leK ids s t=some L) (hL:∀ x ∈ L,x.ok):Le ids s t:=by
 unfold leK at h
 split at h
 ·rename_i hw
  split at h
  ·rename_i l m h1 h2
   cases h
   obtain ⟨h3,h4⟩:=AW1 hL
   exact le_mk hw (BT9 _ h1 h3) (BU0 _ h2 h4)
  ·cases h
 ·cases h
theorem kle {ids:List (Nat × Nat)} {s t:St} (h:(leK ids s t).map (·.map Leaf.src)=(leK ids s t).map (·.map Leaf.tgt):=by kernel_rfl) (h1:(leK ids s t).isSome=true:=by kernel_rfl):Le ids s t:=by
 obtain ⟨L,hL⟩:=Option.isSome_iff_exists.1 h1
 rw [hL] at h
 simp only [Option.map_some,Option.some.injEq] at h
 refine CC6 hL fun x hx=>?_
 obtain ⟨i,hi,rfl⟩:=List.mem_iff_getElem.1 hx
 have:=congrArg (·[i]?) h
 simp only [List.getElem?_map,List.getElem?_eq_getElem hi,Option.map_some,Option.some.injEq] at this
 exact Leaf.ok_of this
def CQ8 (is:List Nat) (f:Leaf->LV) (L:List Leaf):List (Option LV):=L.zipIdx.map fun q=>if is.contains q.2=true then none else some (f q.1)
theorem kleR {ids:List (Nat × Nat)} {s t:St} (rs:List (Nat × Leaf)) (hr:∀ q ∈ rs,q.2.ok) (h:(leK ids s t).map (CQ8 (rs.map (·.1)) Leaf.src)=(leK ids s t).map (CQ8 (rs.map (·.1)) Leaf.tgt):=by kernel_rfl)
 (h2:(leK ids s t).map (fun L=>rs.map fun q=>L[q.1]?)=some (rs.map fun q=>some q.2):=by kernel_rfl):Le ids s t:=by
 cases hL:leK ids s t with
 | none=>rw [hL] at h2;cases h2
 | some L=>
  rw [hL] at h h2
  simp only [Option.map_some,Option.some.injEq] at h h2
  refine CC6 hL fun x hx=>?_
  obtain ⟨i,hi,rfl⟩:=List.mem_iff_getElem.1 hx
  by_cases hm:(rs.map (·.1)).contains i=true
  ·simp only [List.contains_eq_mem,decide_eq_true_eq,List.mem_map] at hm
   obtain ⟨q,hq,rfl⟩:=hm
   obtain ⟨k,hk,rfl⟩:=List.mem_iff_getElem.1 hq
   have:=congrArg (·[k]?) h2
   simp only [List.getElem?_map,List.getElem?_eq_getElem hk,Option.map_some,Option.some.injEq,List.getElem?_eq_getElem hi] at this
   rw [this]
   exact hr _ hq
  ·have:=congrArg (·[i]?) h
   simp only [CQ8,List.getElem?_map,List.getElem?_zipIdx,List.getElem?_eq_getElem hi,Option.map_some,Nat.zero_add,hm,Option.some.injEq] at this
   exact Leaf.ok_of (by simpa using this)
end
section
variable {P:Program}
variable {S:Ag9} {F:J1} {g:Cfg} {pr:Prop}
theorem Ax0 (hS:I2 S P) (hc:pr) (h:G S P F (stp P g)) (hp:pr=E9 (cnd P g):=by kernel_rfl):G S P F g:=
 (AT9 (F:=F) hS 400 [] g (by subst hp;exact hc)).2 h
theorem CQ9 (hS:I2 S P) (hc:pr) {b:Bool} (ht:b=true->G S P F (CQ5 (stp P g))) (hf:b=false->G S P F (CQ6 (stp P g))) (hp:pr=E9 (cnd P g):=by kernel_rfl) (hb:CI1 (stp P g)=some b:=by kernel_rfl):G S P F g:=by
 refine Ax0 hS hc ?_ hp
 generalize stp P g=g' at hb ht hf
 unfold CI1 at hb
 split at hb
 ·split at hb
  ·rename_i hc;cases hb;exact CO1 hc ht hf
  ·cases hb
 ·cases hb
theorem CI4 (hS:I2 S P) (hc:pr) {b:Bool} (ht:b=true->G S P F (By0 true (stp P g))) (hf:b=false->G S P F (By0 false (stp P g))) (hp:pr=E9 (cnd P g):=by kernel_rfl) (hb:Ck4 (stp P g)=some b:=by kernel_rfl):G S P F g:=by
 refine Ax0 hS hc ?_ hp
 generalize stp P g=g' at hb ht hf
 unfold Ck4 at hb
 split at hb
 ·split at hb
  ·rename_i hg
   split at hb
   ·rename_i hd
    split at hb
    ·rename_i hbb
     cases hb
     simp only [By0,hg,hd,Bp3,put] at ht hf
     exact CF3 hS hg hd hbb ht hf
    ·cases hb
   ·cases hb
  ·cases hb
 ·cases hb
theorem CR0 (hS:I2 S P) (ids:List Nat) (hc:pr) {fn:FuncId} {args:List AV} {objs objs' : List Obj} {r:AV} {ks:List Bool} (hF:FunO S fn args objs r objs' ks)
 (hk:G S P F (CI2 ids ks r objs' (stp P g))) (hp:pr=E9 (cnd P g):=by kernel_rfl) (he:Ck5 ids (stp P g)=some (fn,args,objs):=by kernel_rfl) (hn:Ck6 ids ks objs'.length (stp P g)=true:=by kernel_rfl):G S P F g:=by
 refine Ax0 hS hc ?_ hp
 generalize stp P g=g' at he hn hk
 unfold Ck5 at he
 split at he
 ·split at he
  ·rename_i hg ho
   split at he
   ·rename_i hcl
    split at he
    ·rename_i ha
     split at he
     ·rename_i hw
      split at he
      ·rename_i hr hob
       split at he
       ·rename_i hdy
        cases he
        simp only [Bool.and_eq_true] at hdy
        simp only [CI2,Ck6,ho,ha,Bp3] at hk hn
        exact CF4 hS ids hg ho hcl ha hw hr hob hF hdy.1 hdy.2 hn hk
       ·cases he
      ·cases he
     ·cases he
    ·cases he
   ·cases he
  ·cases he
 ·cases he
theorem CR1 (hS:I2 S P) (hc:pr) (st:St) {ids:List (Nat × Nat)} (hk:G S P F (opsS st (stp P g))) (hp:pr=E9 (cnd P g):=by kernel_rfl) (ho:AW0 (stp P g)=true:=by kernel_rfl) (hle:Le ids (stp P g).st st:=by exact kle):G S P F g:=by
 refine Ax0 hS hc ?_ hp
 generalize stp P g=g' at ho hle hk
 unfold AW0 at ho
 split at ho
 ·exact Ck3 hS st ids hle hk
 ·cases ho
end
section
variable {S:Ag9} {P:Program} {F:J1} {g:Cfg} {pr:Prop}
theorem AH0 (hS:I2 S P) {K1 K2:List It} (h:∀ e s,kp S P K1 F e s->kp S P K2 F e s):∀ (K:List It) (e:AT5) (s:St),kp S P (K ++ K1) F e s->kp S P (K ++ K2) F e s
 | [],e,s,hk=>h e s hk
 | .code c :: K,e,s,hk=>by
  simp only [List.cons_append,kp] at hk ⊢
  exact Bp2 hS (fun t=>Ad0 hS c (AH0 hS h K)) (AH0 hS h K) e s hk
 | .blk id :: K,e,s,hk=>by
  simp only [List.cons_append,kp] at hk ⊢
  cases e with
  | exit i=>
   simp only [blk] at hk ⊢
   split at hk
   ·rename_i hi;rw [if_pos hi];exact AH0 hS h K _ _ hk
   ·rename_i hi;rw [if_neg hi];exact AH0 hS h K _ _ hk
  | _=>exact AH0 hS h K _ _ hk
 | .lp X s' J m n :: K,e,s,hk=>by
  simp only [List.cons_append,kp] at hk ⊢
  cases e with
  | normal=>exact hk
  | _=>exact AH0 hS h K _ _ hk
 | .mid M :: K,e,s,hk=>by
  simp only [List.cons_append,kp] at hk ⊢
  exact Bp2 hS (fun t h=>h) (AH0 hS h K) e s hk
 | .scp :: K,e,s,hk=>by
  simp only [List.cons_append,kp] at hk ⊢
  cases e with
  | goto l=>exact hk
  | _=>exact AH0 hS h K _ _ hk
theorem BU1 (M:It):∀ (n:Nat) (K:List It),n<=K.length->By2 M n K=K.take n ++ M :: K.drop n
 | 0,K,_=>by simp [By2]
 | n+1,i :: K,h=>by simp only [By2,List.take_succ_cons,List.drop_succ_cons,List.cons_append,BU1 M n K (by simpa using h)]
 | n+1, [],h=>by simp at h
theorem CC7 (hS:I2 S P) (hF:∀ s,S.up s (F .normal)->F .normal s) (n:Nat) (hn:n<=g.k.length) {M:St->Prop} (hM:∀ t,M t->G S P F (.pop .normal (g.k.drop n) t)) (h:G S P F (CQ7 n M g)):G S P F g:=by
 have hk:∀ e s,kp S P (By2 (.mid M) n g.k) F e s->kp S P g.k F e s:=by
  intro e s
  rw [BU1 _ _ _ hn]
  conv=>rhs;rw [<- List.take_append_drop n g.k]
  exact AH0 hS (CQ1 hS hF hM) _ e s
 cases g with
 | code c K st=>exact Ad0 hS c hk h
 | ops all rest K st=>exact Aw8 hS hk rest h
 | pop e K st=>exact hk e st h
theorem J_cut (hS:I2 S P) (hc:pr) (hF:∀ s,S.up s (F .normal)->F .normal s) (n:Nat) (s:St)
 (h1:∀ (M:St->Prop),(∀ (g' : Cfg) (ids:List (Nat × Nat)) (pr:Prop),pr->(hp:pr=E9 (cnd P g'):=by kernel_rfl)->(he:stp P g' = .pop .normal (.mid M :: (stp P g).k.drop n) (stp P g').st:=by kernel_rfl)->(hle:Le ids (stp P g').st s:=by exact kle)->G S P F g')->G S P F (CQ7 n M (stp P g)))
 (h2:G S P F (.pop .normal ((stp P g).k.drop n) s)) (hp:pr=E9 (cnd P g):=by kernel_rfl) (hn:Nat.ble n (stp P g).k.length=true:=by kernel_rfl):G S P F g:=by
 refine Ax0 hS hc ?_ hp
 refine CC7 hS hF n (Nat.le_of_ble_eq_true hn) (M:=fun t=>t=s) (fun t ht=>by subst ht;exact h2) (h1 _ fun g' ids pr hc hp he hle=>?_)
 refine Ax0 hS hc ?_ hp
 rw [he]
 exact hS.le ids _ _ _ hle rfl
theorem J_lt (hS:I2 S P) (hc:pr) (hF:∀ s,S.up s (F .normal)->F .normal s) {R A:Type} {f:(A->Option R)->Option R} {k0:A->Option R} {r:R} (h:lt k0 f=some r) (n:Nat) (s:A->St)
 (h1:∀ (M:St->Prop) (k:A->Option R),(∀ (g' : Cfg) (ids:List (Nat × Nat)) (pr:Prop) (a:A),pr->k a=some r->(hp:pr=E9 (cnd P g'):=by kernel_rfl)->(he:stp P g' = .pop .normal (.mid M :: (stp P g).k.drop n) (stp P g').st:=by kernel_rfl)->(hle:Le ids (stp P g').st (s a):=by exact kle)->G S P F g')->f k=some r->G S P F (CQ7 n M (stp P g)))
 (h2:∀ a,k0 a=some r->G S P F (.pop .normal ((stp P g).k.drop n) (s a))) (hp:pr=E9 (cnd P g):=by kernel_rfl) (hn:Nat.ble n (stp P g).k.length=true:=by kernel_rfl):G S P F g:=by
 refine Ax0 hS hc ?_ hp
 refine CC7 hS hF n (Nat.le_of_ble_eq_true hn) (M:=fun t=>∃ a,t=s a/\k0 a=some r) (fun t ⟨a,ht,hk⟩=>by subst ht;exact h2 a hk) (h1 _ k0 (fun g' ids pr a hc hk hp he hle=>?_) h)
 refine Ax0 hS hc ?_ hp
 rw [he]
 exact hS.le ids _ _ _ hle ⟨a,rfl,hk⟩
theorem Ck7 {g:Cfg} (h:AG9 g=true):g=.code (.loop (By1 g)) g.k g.st:=by
 unfold AG9 at h
 split at h
 ·rfl
 ·cases h
theorem CR2 (hS:I2 S P) (hc:pr) {R A:Type} {body:(A->Option R)->A->Option R} {N:Nat} {a0:A} {r:R} (h:Ae3 N body a0=some r) (s:A->St) {ids:List (Nat × Nat)}
 (hr:∀ (X:Type) (s' : X->St) (J:X->Prop) (m:X->Nat) (n:Nat) (self:A->Option R) (a:A),
  (∀ (g' : Cfg) (ids:List (Nat × Nat)) (pr:Prop) (a:A),pr->self a=some r->(hp:pr=E9 (cnd P g'):=by kernel_rfl)->(he:stp P g' = .pop .normal (.lp X s' J m n :: (stp P g).k) (stp P g').st:=by kernel_rfl)->(hle:Le ids (stp P g').st (s a):=by exact kle)->G S P F g') ->
  body self a=some r->G S P F (.code (By1 (stp P g)) (.lp X s' J m n :: (stp P g).k) (s a))) (hp:pr=E9 (cnd P g):=by kernel_rfl) (hl:AG9 (stp P g)=true:=by kernel_rfl) (hle:Le ids (stp P g).st (s a0):=by exact kle):G S P F g:=by
 refine Ax0 hS hc ?_ hp
 rw [Ck7 hl]
 refine CQ2 hS h s ids hle fun X s' J m n self a hb hbody=>hr X s' J m n self a (fun g' ids pr a hc hself hp he hle=>?_) hbody
 refine Ax0 hS hc ?_ hp
 rw [he]
 exact hb _ _ _ hle hself
def Ca3 (P:Program) (st:St) (rs:List ResultVar) (outs:List Nat):Option (AV × List Obj):=match Av8 P st rs with
 | some l=>match Bt7 outs (one l),I7 outs st.regs outs with
  | some a,some o=>if F7 outs=true then some (a,o) else none
  | _,_=>none
 | none=>none
theorem J_ret (hS:I2 S P) (hc:pr) {n:Nat} {rs:List ResultVar} {Q:Bd2->List Obj->List Bool->Prop} {a:AV} {objs:List Obj} (outs:List Nat) (hQ:Q (.ret a) objs (Av9 n outs)) (hp:pr=E9 (cnd P g):=by kernel_rfl) (he:(CN3 (stp P g)).bind (fun st=>Ca3 P st rs outs)=some (a,objs):=by kernel_rfl) :
 G S P (Ai9 S P n rs Q) g:=by
 refine Ax0 hS hc ?_ hp
 generalize stp P g=g' at he
 obtain ⟨st,h1,h2⟩:=Option.bind_eq_some_iff.1 he
 unfold Ca3 at h2
 split at h2
 ·rename_i l hl
  split at h2
  ·rename_i hr ho
   split at h2
   ·rename_i hd
    cases h2
    unfold CN3 at h1
    split at h1
    ·cases h1;exact hS.refl _ _ ⟨l,outs,a,objs,hl,hd,hr,ho,hQ⟩
    ·cases h1;exact hS.refl _ _ ⟨l,outs,a,objs,hl,hd,hr,ho,hQ⟩
    ·cases h1
   ·cases h2
  ·cases h2
 ·cases h2
theorem CR3 (hS:I2 S P) (hc:pr) {n:Nat} {rs:List ResultVar} {Q:Bd2->List Obj->List Bool->Prop} {a:AV} {objs:List Obj} (st:St) (outs:List Nat) {ids:List (Nat × Nat)} (hQ:Q (.ret a) objs (Av9 n outs)) (hp:pr=E9 (cnd P g):=by kernel_rfl) (he:(CN3 (stp P g)).isSome=true:=by kernel_rfl) (hle:Le ids (stp P g).st st:=by exact kle) (hr:Ca3 P st rs outs=some (a,objs):=by kernel_rfl) :
 G S P (Ai9 S P n rs Q) g:=by
 refine Ax0 hS hc ?_ hp
 generalize stp P g=g' at he hle
 have h2:=hr
 unfold Ca3 at h2
 split at h2
 ·rename_i l hl
  split at h2
  ·rename_i hr ho
   split at h2
   ·rename_i hd
    cases h2
    unfold CN3 at he
    split at he
    ·exact hS.le ids _ _ _ hle ⟨l,outs,a,objs,hl,hd,hr,ho,hQ⟩
    ·exact hS.le ids _ _ _ hle ⟨l,outs,a,objs,hl,hd,hr,ho,hQ⟩
    ·cases he
   ·cases h2
  ·cases h2
 ·cases h2
theorem CI5 (hS:I2 S P) {f:FuncId} {fn:Func} {args:List AV} {objs objs' : List Obj} {ks:List Bool} {r:AV} (hf:P.funcs[f]? = some fn)
 (h:G S P (Ai9 S P objs.length fn.results.toList fun res o k=>res=.ret r/\o=objs' /\ k=ks) (.code (fn.body.getD .skip) [] { env:=argEnv args,regs:=objRegs objs }))
 (hc:fn.body.isSome=true:=by kernel_rfl) (hn:Nat.ble args.length fn.ntmps=true:=by kernel_rfl) (ho:Nat.blt objs.length 1000=true:=by kernel_rfl)
 (hco:Y6 fn.ntmps (fn.body.getD .skip)=true:=by kernel_rfl) (hnm:(fn.name == "runtime.NumGoroutine")=false:=by kernel_rfl):FunO S f args objs r objs' ks:=by
 obtain ⟨code,hcode⟩:=Option.isSome_iff_exists.1 hc
 rw [hcode,Option.getD_some] at hco h
 exact Ch5 hS hf hcode (Nat.le_of_ble_eq_true hn) (by simpa [Nat.blt_eq] using ho) rfl hco hnm h
theorem al0:∀ q ∈ ([]:List (Nat × Leaf)),q.2.ok:=fun _ h=>by cases h
theorem al1 {i:Nat} {l:Leaf} {rs:List (Nat × Leaf)} (h:l.ok) (t:∀ q ∈ rs,q.2.ok):∀ q ∈ (i,l) :: rs,q.2.ok:=fun q hq=>by
 rcases List.mem_cons.1 hq with rfl | hq
 ·exact h
 ·exact t q hq
structure SC where
 all:List Oper
 cls:List Cls
 rest:List Oper
 env:Env
 regs:D2
 kn:List Nat
def SG (S:Ag9) (P:Program) (sc:SC) (k:Env->D2->Prop):Prop:=Bd4 S P sc.all sc.cls sc.rest sc.env sc.regs k
def Av6 (P:Program) (sc:SC):SC:=match Bd5 P sc.kn sc.all sc.cls sc.rest [] sc.env sc.regs with
 | ⟨_,cls,rest,env,regs⟩=>⟨sc.all,cls,rest,env,regs,sc.kn⟩
def Cg3 (P:Program) (sc:SC):List Prop:=(Bd5 P sc.kn sc.all sc.cls sc.rest [] sc.env sc.regs).conds
def Ak9:Cfg->Bool
 | .code (.region _ _ true) _ _=>true
 | _=>false
def AE7:Cfg->SC
 | .code (.region _ ops true) _ st=>⟨ops.toList,ops.toList.map fun o=>CU2 o.op,ops.toList,st.env,st.regs, []⟩
 | _=>⟨[], [], [], [], [], []⟩
theorem CI6 (hS:I2 S P) (hc:pr)
 (h:SG S P (AE7 (stp P g)) fun env regs=>G S P F (.pop .normal (stp P g).k ⟨env,regs⟩)) (hp:pr=E9 (cnd P g):=by kernel_rfl) (hd:Ak9 (stp P g)=true:=by kernel_rfl) (hmix:P.follows .mixedOrders=true:=by kernel_rfl) (hok:AO3 (AE7 (stp P g)).all (AE7 (stp P g)).cls=true:=by kernel_rfl):G S P F g:=by
 refine Ax0 hS hc ?_ hp
 generalize stp P g=g' at hd hok h
 unfold Ak9 at hd
 split at hd
 ·exact Cw0 hS hmix rfl hok h
 ·cases hd
section
variable {sc:SC} {k:Env->D2->Prop}
theorem CR4 (hc:pr) (h:SG S P (Av6 P sc) k) (hp:pr=E9 (Cg3 P sc):=by kernel_rfl):SG S P sc k:=by
 subst hp
 unfold Av6 at h
 unfold Cg3 at hc
 unfold SG at *
 generalize hr:Bd5 P sc.kn sc.all sc.cls sc.rest [] sc.env sc.regs=r at h hc
 obtain ⟨c,cls,rest,env,regs⟩:=r
 exact s_go hr hc h
theorem C_end (hc:pr) (h:k (Av6 P sc).env (Av6 P sc).regs) (hp:pr=E9 (Cg3 P sc):=by kernel_rfl) (he:(Av6 P sc).rest.isEmpty=true:=by kernel_rfl):SG S P sc k:=by
 refine CR4 hc ?_ hp
 generalize Av6 P sc=s at he h
 obtain ⟨all,cls,rest,env,regs,kn⟩:=s
 cases rest with
 | nil=>exact s_end h
 | cons=>simp at he
def CR5 {R:Type _} (d:Option Nat) (a:AV) (env:Env) (regs:D2) (κ : Env->D2->R):R:=match d with
 | some d=>mkO (ins d a env) regs κ
 | none=>mkO env regs κ
theorem BJ6 {R:Type _} (d:Option Nat) (a:AV) (env:Env) (regs:D2) (κ : Env->D2->R):CR5 d a env regs κ = κ (Bi8 d a env) regs:=by
 cases d <;> simp only [CR5,AG8,Bi8]
theorem CC8:∀ {env:Env} {i d:Nat} {b:AV},Cs6 ((i,b) :: env)=true->get env d ≠ .top->d < i
 | [],_,_,_,_,h=>absurd rfl h
 | (j,c) :: r,i,d,b,hd,h=>by
  simp only [Cs6,Bool.and_eq_true,decide_eq_true_eq] at hd
  by_cases e:j=d
  ·subst e;exact hd.1
  ·simp only [get,e,if_false] at h
   exact Nat.lt_trans (CC8 hd.2 h) hd.1
theorem Bp4:∀ {env:Env} {d:Nat} {a:AV},Cs6 env=true->get env d=a->a ≠ .top->ins d a env=env
 | [],_,_,_,h,hn=>absurd h.symm hn
 | (i,b) :: r,d,a,hd,h,hn=>by
  by_cases e:i=d
  ·subst e
   simp only [get,if_true] at h
   subst h
   simp [ins]
  ·simp only [get,e,if_false] at h
   have hlt:=CC8 hd (by rw [h];exact hn)
   have hr:Cs6 r=true:=by
    cases r with
    | nil=>rfl
    | cons p r=>simp only [Cs6,Bool.and_eq_true] at hd;exact hd.2
   simp only [ins,show ¬ i < d by omega,e,if_false,Bp4 hr h hn]
def Bp5 (sc:SC):Option Bool:=match sc.rest with
 | o :: _=>match o.guard with
  | some (j,_)=>match CO2 sc.all j with
   | some d=>match get sc.env d with
    | .p (.bb b)=>if Cs6 sc.env=true then some b else none
    | _=>none
   | none=>none
  | none=>none
 | []=>none
def AW2 (v:Bool) (sc:SC):SC:=match sc.rest with
 | o :: _=>match o.guard with
  | some (j,_)=>match CO2 sc.all j with
   | some d=>mkO (ins d (.p (.bb v)) sc.env) sc.regs fun env regs=>⟨sc.all,sc.cls,sc.rest,env,regs,j :: sc.kn⟩
   | none=>sc
  | none=>sc
 | []=>sc
theorem CI7 (hc:pr) {b:Bool} (ht:b=true->SG S P (AW2 true (Av6 P sc)) k) (hf:b=false->SG S P (AW2 false (Av6 P sc)) k) (hp:pr=E9 (Cg3 P sc)) (hb:Bp5 (Av6 P sc)=some b):SG S P sc k:=by
 refine CR4 hc ?_ hp
 generalize Av6 P sc=s at hb ht hf
 obtain ⟨all,cls,rest,env,regs,kn⟩:=s
 cases rest with
 | nil=>simp [Bp5] at hb
 | cons o rest=>
  simp only [Bp5] at hb
  split at hb
  ·rename_i j w hg
   split at hb
   ·rename_i d hd
    split at hb
    ·rename_i b' hbb
     split at hb
     ·rename_i hds
      simp only [Option.some.injEq] at hb
      subst hb
      simp only [AW2,hg,hd,AG8] at ht hf
      cases b' with
      | true=>have:=ht rfl;rwa [Bp4 hds hbb (by simp)] at this
      | false=>have:=hf rfl;rwa [Bp4 hds hbb (by simp)] at this
     ·cases hb
    ·cases hb
   ·cases hb
  ·cases hb
def BU2 (ids:List Nat) (sc:SC):Option (FuncId × List AV × List Obj):=match sc.rest with
 | o :: _=>match Am8 sc.all sc.env o,o.op with
  | some true, .call c=>match c.callee with
   | .value f=>match Bd3 sc.regs (c.args.toList.map (aev sc.env)) with
    | some (as,regs)=>match BH3 sc.env f as with
     | some (fn,as')=>match Aj5 ids as',I7 ids regs ids with
      | some a,some ob=>if F7 ids && Ap3 ob then some (fn,a,ob) else none
      | _,_=>none
     | none=>none
    | none=>none
   | _=>none
  | _,_=>none
 | []=>none
def By4 (ids:List Nat) (ks:List Bool) (n:Nat) (sc:SC):Bool:=match sc.cls,sc.rest with
 | .w :: _,o :: _=>match o.op with
  | .call c=>match Bd3 sc.regs (c.args.toList.map (aev sc.env)) with
   | some (_,regs)=>Ak4 regs ids ks (o.dst.getD 0) n
   | none=>false
  | _=>false
 | _,_=>false
def Ck8 (ids:List Nat) (ks:List Bool) (r:AV) (objs' : List Obj) (sc:SC):SC:=match sc.rest with
 | o :: rest=>match o.op with
  | .call c=>match Bd3 sc.regs (c.args.toList.map (aev sc.env)) with
   | some (_,regs)=>CR5 o.dst (unA (N4 (o.dst.getD 0) ids ks objs'.length) r) sc.env
    (Cg1 (N4 (o.dst.getD 0) ids ks objs'.length) (N4 (o.dst.getD 0) ids ks objs'.length) objs' (N5 ids ks regs)) fun env regs=>⟨sc.all,sc.cls.tail,rest,env,regs,sc.kn⟩
   | none=>sc
  | _=>sc
 | []=>sc
theorem CR6 (ids:List Nat) (hc:pr) {fn:FuncId} {args:List AV} {objs objs' : List Obj} {r:AV} {ks:List Bool} (hF:FunO S fn args objs r objs' ks)
 (hk:SG S P (Ck8 ids ks r objs' (Av6 P sc)) k) (hp:pr=E9 (Cg3 P sc):=by kernel_rfl) (he:BU2 ids (Av6 P sc)=some (fn,args,objs):=by kernel_rfl) (hn:By4 ids ks objs'.length (Av6 P sc)=true:=by kernel_rfl):SG S P sc k:=by
 refine CR4 hc ?_ hp
 generalize Av6 P sc=s at he hn hk
 obtain ⟨all,cls,rest,env,regs,kn⟩:=s
 cases rest with
 | nil=>simp [BU2] at he
 | cons o rest=>
  simp only [BU2] at he
  split at he
  ·rename_i c hg ho
   split at he
   ·rename_i hcl
    split at he
    ·rename_i ha
     split at he
     ·rename_i hw
      split at he
      ·rename_i hr hob
       split at he
       ·rename_i hdy
        cases he
        simp only [Bool.and_eq_true] at hdy
        cases cls with
        | nil=>simp [By4] at hn
        | cons cl cls=>
         cases cl with
         | w=>
          simp only [By4,ho,ha] at hn
          simp only [Ck8,ho,ha,BJ6,List.tail_cons] at hk
          exact CH4 ids hg ho hcl ha hw hr hob hF hdy.1 hdy.2 hn hk
         | _=>simp [By4] at hn
       ·cases he
      ·cases he
     ·cases he
    ·cases he
   ·cases he
  ·cases he
def BU3 (sc:SC):Bool:=match sc.cls,sc.rest with
 | _ :: _,o :: _=>match o.op with
  | .call c=>(c.args.toList.map (aev sc.env)).all Cj7
  | _=>false
 | _,_=>false
def BU4 (sc:SC):Option (FuncId × List AV):=match sc.rest with
 | o :: _=>match Am8 sc.all sc.env o,o.op with
  | some true, .call c=>match c.callee with
   | .value f=>match BH3 sc.env f (c.args.toList.map (aev sc.env)) with
    | some (fn,as')=>match Aj5 [] as' with
     | some a=>some (fn,a)
     | none=>none
    | none=>none
   | _=>none
  | _,_=>none
 | []=>none
def Ck9 (r:AV) (sc:SC):SC:=match sc.rest with
 | o :: rest=>CR5 o.dst (unA [] r) sc.env sc.regs fun env regs=>⟨sc.all,sc.cls.tail,rest,env,regs,sc.kn⟩
 | []=>sc
theorem CR7 (hc:pr) {fn:FuncId} {args:List AV} {r:AV} (hF:FunO S fn args [] r [] [])
 (hk:SG S P (Ck9 r (Av6 P sc)) k) (hp:pr=E9 (Cg3 P sc):=by kernel_rfl) (he:BU4 (Av6 P sc)=some (fn,args):=by kernel_rfl) (hn:BU3 (Av6 P sc)=true:=by kernel_rfl):SG S P sc k:=by
 refine CR4 hc ?_ hp
 generalize Av6 P sc=s at he hn hk
 obtain ⟨all,cls,rest,env,regs,kn⟩:=s
 cases rest with
 | nil=>simp [BU4] at he
 | cons o rest=>
  cases cls with
  | nil=>simp [BU3] at hn
  | cons cl cls=>
   simp only [BU4] at he
   split at he
   ·rename_i c hg ho
    split at he
    ·rename_i hcl
     split at he
     ·rename_i hw
      split at he
      ·rename_i hr
       cases he
       simp only [BU3,ho] at hn
       simp only [Ck9,BJ6,List.tail_cons] at hk
       exact CP8 hg ho hcl hn hw hr hF hk
      ·cases he
     ·cases he
    ·cases he
   ·cases he
def As5 (P:Program) (sc:SC):Option (List Prop × PV):=match sc.cls,sc.rest with
 | _ :: _,o :: _=>match Am8 sc.all sc.env o with
  | some true=>Bu4 P sc.env o.op
  | _=>none
 | _,_=>none
def BJ7 (x:PV) (sc:SC):SC:=match sc.rest with
 | o :: rest=>CR5 o.dst (.p x) sc.env sc.regs fun env regs=>⟨sc.all,sc.cls.tail,rest,env,regs,sc.kn⟩
 | []=>sc
theorem CI8 (hc:pr) {x:PV} (hk:SG S P (BJ7 x (Av6 P sc)) k) (hp:pr=E9 (Cg3 P sc):=by kernel_rfl) (he:(As5 P (Av6 P sc)).map (·.2)=some x:=by kernel_rfl) (hc2:((As5 P (Av6 P sc)).map fun q=>E9 q.1)=some (true=true):=by kernel_rfl):SG S P sc k:=by
 refine CR4 hc ?_ hp
 generalize Av6 P sc=s at he hc2 hk
 obtain ⟨all,cls,rest,env,regs,kn⟩:=s
 cases rest with
 | nil=>cases cls <;> simp [As5] at he
 | cons o rest=>
  cases cls with
  | nil=>simp [As5] at he
  | cons cl cls=>
   cases hg:Am8 all env o with
   | none=>simp [As5,hg] at he
   | some bb=>
    cases bb with
    | false=>simp [As5,hg] at he
    | true=>
     simp only [As5,hg] at he hc2
     cases ha:Bu4 P env o.op with
     | none=>rw [ha] at he;cases he
     | some q=>
      obtain ⟨c,y⟩:=q
      rw [ha] at he hc2
      simp only [Option.map_some,Option.some.injEq] at he hc2
      subst he
      simp only [BJ7,BJ6,List.tail_cons] at hk
      exact Cv9 hg ha (by rw [hc2];trivial) hk
end
end
structure KG (S:Ag9) (P:Program) (F:J1) (g:Cfg):Prop where
 out:G S P F g
structure DG (S:Ag9) (P:Program) (sc:SC) (k:Env->D2->Prop):Prop where
 out:SG S P sc k
structure KLe (ids:List (Nat × Nat)) (s t:St):Prop where
 out:Le ids s t
section
variable {S:Ag9} {P:Program} {F:J1} {g:Cfg} {pr:Prop}
theorem kl {ids:List (Nat × Nat)} {s t:St} (h:(leK ids s t).map (·.map Leaf.src)=(leK ids s t).map (·.map Leaf.tgt):=by kernel_rfl) (h1:(leK ids s t).isSome=true:=by kernel_rfl):KLe ids s t:=⟨kle h h1⟩
theorem klR {ids:List (Nat × Nat)} {s t:St} (rs:List (Nat × Leaf)) (hr:∀ q ∈ rs,q.2.ok) (h:(leK ids s t).map (CQ8 (rs.map (·.1)) Leaf.src)=(leK ids s t).map (CQ8 (rs.map (·.1)) Leaf.tgt):=by kernel_rfl)
 (h2:(leK ids s t).map (fun L=>rs.map fun q=>L[q.1]?)=some (rs.map fun q=>some q.2):=by kernel_rfl):KLe ids s t:=⟨kleR rs hr h h2⟩
theorem A1 (hS:I2 S P) (hc:pr) {b:Bool} (ht:b=true->KG S P F (CQ5 (stp P g))) (hf:b=false->KG S P F (CQ6 (stp P g))) (hp:pr=E9 (cnd P g):=by kernel_rfl) (hb:CI1 (stp P g)=some b:=by kernel_rfl):KG S P F g:=
 ⟨CQ9 hS hc (fun h=>(ht h).out) (fun h=>(hf h).out) hp hb⟩
theorem A7 (hS:I2 S P) (hc:pr) {b:Bool} (ht:b=true->KG S P F (By0 true (stp P g))) (hf:b=false->KG S P F (By0 false (stp P g))) (hp:pr=E9 (cnd P g):=by kernel_rfl) (hb:Ck4 (stp P g)=some b:=by kernel_rfl):KG S P F g:=
 ⟨CI4 hS hc (fun h=>(ht h).out) (fun h=>(hf h).out) hp hb⟩
theorem A2 (hS:I2 S P) (ids:List Nat) (hc:pr) {fn:FuncId} {args:List AV} {objs objs' : List Obj} {r:AV} {ks:List Bool} (hF:FunO S fn args objs r objs' ks) (hk:KG S P F (CI2 ids ks r objs' (stp P g)))
 (hp:pr=E9 (cnd P g):=by kernel_rfl) (he:Ck5 ids (stp P g)=some (fn,args,objs):=by kernel_rfl) (hn:Ck6 ids ks objs'.length (stp P g)=true:=by kernel_rfl):KG S P F g:=⟨CR0 hS ids hc hF hk.out hp he hn⟩
theorem Ac1 (hS:I2 S P) (hc:pr) (st:St) {ids:List (Nat × Nat)} (hk:KG S P F (opsS st (stp P g))) (hp:pr=E9 (cnd P g):=by kernel_rfl) (ho:AW0 (stp P g)=true:=by kernel_rfl) (hle:KLe ids (stp P g).st st:=by exact kl):KG S P F g:=
 ⟨CR1 hS hc st hk.out hp ho hle.out⟩
theorem S9 (hS:I2 S P) (hc:pr) (hF:∀ s,S.up s (F .normal)->F .normal s) (n:Nat) (s:St)
 (h1:∀ (M:St->Prop),(∀ (g' : Cfg) (ids:List (Nat × Nat)) (pr:Prop),pr->(hp:pr=E9 (cnd P g'):=by kernel_rfl)->(he:stp P g' = .pop .normal (.mid M :: (stp P g).k.drop n) (stp P g').st:=by kernel_rfl)->(hle:KLe ids (stp P g').st s:=by exact kl)->KG S P F g')->KG S P F (CQ7 n M (stp P g)))
 (h2:KG S P F (.pop .normal ((stp P g).k.drop n) s)) (hp:pr=E9 (cnd P g):=by kernel_rfl) (hn:Nat.ble n (stp P g).k.length=true:=by kernel_rfl):KG S P F g:=
 ⟨J_cut hS hc hF n s (fun M hb=>(h1 M fun g' ids pr hc hp he hle=>⟨hb g' ids pr hc hp he hle.out⟩).out) h2.out hp hn⟩
theorem AH1 (hS:I2 S P) (hc:pr) (hF:∀ s,S.up s (F .normal)->F .normal s) {R A:Type} {f:(A->Option R)->Option R} {k0:A->Option R} {r:R} (h:lt k0 f=some r) (n:Nat) (s:A->St)
 (h1:∀ (M:St->Prop) (k:A->Option R),(∀ (g' : Cfg) (ids:List (Nat × Nat)) (pr:Prop) (a:A),pr->k a=some r->(hp:pr=E9 (cnd P g'):=by kernel_rfl)->(he:stp P g' = .pop .normal (.mid M :: (stp P g).k.drop n) (stp P g').st:=by kernel_rfl)->(hle:KLe ids (stp P g').st (s a):=by exact kl)->KG S P F g')->f k=some r->KG S P F (CQ7 n M (stp P g)))
 (h2:∀ a,k0 a=some r->KG S P F (.pop .normal ((stp P g).k.drop n) (s a))) (hp:pr=E9 (cnd P g):=by kernel_rfl) (hn:Nat.ble n (stp P g).k.length=true:=by kernel_rfl):KG S P F g:=
 ⟨J_lt hS hc hF h n s (fun M k hb hf=>(h1 M k (fun g' ids pr a hc hk hp he hle=>⟨hb g' ids pr a hc hk hp he hle.out⟩) hf).out) (fun a hk=>(h2 a hk).out) hp hn⟩
theorem U1 (hS:I2 S P) (hc:pr) {R A:Type} {body:(A->Option R)->A->Option R} {N:Nat} {a0:A} {r:R} (h:Ae3 N body a0=some r) (s:A->St) {ids:List (Nat × Nat)}
 (hr:∀ (X:Type) (s' : X->St) (J:X->Prop) (m:X->Nat) (n:Nat) (self:A->Option R) (a:A),
  (∀ (g' : Cfg) (ids:List (Nat × Nat)) (pr:Prop) (a:A),pr->self a=some r->(hp:pr=E9 (cnd P g'):=by kernel_rfl)->(he:stp P g' = .pop .normal (.lp X s' J m n :: (stp P g).k) (stp P g').st:=by kernel_rfl)->(hle:KLe ids (stp P g').st (s a):=by exact kl)->KG S P F g') ->
  body self a=some r->KG S P F (.code (By1 (stp P g)) (.lp X s' J m n :: (stp P g).k) (s a))) (hp:pr=E9 (cnd P g):=by kernel_rfl) (hl:AG9 (stp P g)=true:=by kernel_rfl) (hle:KLe ids (stp P g).st (s a0):=by exact kl):KG S P F g:=
 ⟨CR2 hS hc h s (fun X s' J m n self a hb hbody=>(hr X s' J m n self a (fun g' ids pr a hc hself hp he hle=>⟨hb g' ids pr a hc hself hp he hle.out⟩) hbody).out) hp hl hle.out⟩
theorem H9 (hS:I2 S P) (hc:pr) {R A B:Type} {body:(A->B->Option R)->A->B->Option R} {N:Nat} {a0:A} {b0:B} {r:R} (h:V9 N body a0 b0=some r) (s:A->B->St) {ids:List (Nat × Nat)}
 (hr:∀ (X:Type) (s' : X->St) (J:X->Prop) (m:X->Nat) (n:Nat) (self:A->B->Option R) (a:A) (b:B),
  (∀ (g' : Cfg) (ids:List (Nat × Nat)) (pr:Prop) (a:A) (b:B),pr->self a b=some r->(hp:pr=E9 (cnd P g'):=by kernel_rfl)->(he:stp P g' = .pop .normal (.lp X s' J m n :: (stp P g).k) (stp P g').st:=by kernel_rfl)->(hle:KLe ids (stp P g').st (s a b):=by exact kl)->KG S P F g') ->
  body self a b=some r->KG S P F (.code (By1 (stp P g)) (.lp X s' J m n :: (stp P g).k) (s a b))) (hp:pr=E9 (cnd P g):=by kernel_rfl) (hl:AG9 (stp P g)=true:=by kernel_rfl) (hle:KLe ids (stp P g).st (s a0 b0):=by exact kl):KG S P F g:=
 U1 hS hc h (fun x=>s x.1 x.2) (fun X s' J m n self a hb=>hr X s' J m n (fun a b=>self (a,b)) a.1 a.2 fun g' ids pr a b h1 h2 h3 h4 h5=>hb g' ids pr (a,b) h1 h2 h3 h4 h5) hp hl hle
theorem BU5 (hS:I2 S P) (hc:pr) {R A B C:Type} {body:(A->B->C->Option R)->A->B->C->Option R} {N:Nat} {a0:A} {b0:B} {c0:C} {r:R} (h:CN1 N body a0 b0 c0=some r) (s:A->B->C->St) {ids:List (Nat × Nat)}
 (hr:∀ (X:Type) (s' : X->St) (J:X->Prop) (m:X->Nat) (n:Nat) (self:A->B->C->Option R) (a:A) (b:B) (c:C),
  (∀ (g' : Cfg) (ids:List (Nat × Nat)) (pr:Prop) (a:A) (b:B) (c:C),pr->self a b c=some r->(hp:pr=E9 (cnd P g'):=by kernel_rfl)->(he:stp P g' = .pop .normal (.lp X s' J m n :: (stp P g).k) (stp P g').st:=by kernel_rfl)->(hle:KLe ids (stp P g').st (s a b c):=by exact kl)->KG S P F g') ->
  body self a b c=some r->KG S P F (.code (By1 (stp P g)) (.lp X s' J m n :: (stp P g).k) (s a b c))) (hp:pr=E9 (cnd P g):=by kernel_rfl) (hl:AG9 (stp P g)=true:=by kernel_rfl) (hle:KLe ids (stp P g).st (s a0 b0 c0):=by exact kl):KG S P F g:=
 U1 hS hc h (fun x=>s x.1 x.2.1 x.2.2) (fun X s' J m n self a hb=>hr X s' J m n (fun a b c=>self (a,b,c)) a.1 a.2.1 a.2.2 fun g' ids pr a b c h1 h2 h3 h4 h5=>hb g' ids pr (a,b,c) h1 h2 h3 h4 h5) hp hl hle
theorem Cl0 (hS:I2 S P) (hc:pr) {R A B C D:Type} {body:(A->B->C->D->Option R)->A->B->C->D->Option R} {N:Nat} {a0:A} {b0:B} {c0:C} {d0:D} {r:R} (h:Cs2 N body a0 b0 c0 d0=some r) (s:A->B->C->D->St) {ids:List (Nat × Nat)}
 (hr:∀ (X:Type) (s' : X->St) (J:X->Prop) (m:X->Nat) (n:Nat) (self:A->B->C->D->Option R) (a:A) (b:B) (c:C) (d:D),
  (∀ (g' : Cfg) (ids:List (Nat × Nat)) (pr:Prop) (a:A) (b:B) (c:C) (d:D),pr->self a b c d=some r->(hp:pr=E9 (cnd P g'):=by kernel_rfl)->(he:stp P g' = .pop .normal (.lp X s' J m n :: (stp P g).k) (stp P g').st:=by kernel_rfl)->(hle:KLe ids (stp P g').st (s a b c d):=by exact kl)->KG S P F g') ->
  body self a b c d=some r->KG S P F (.code (By1 (stp P g)) (.lp X s' J m n :: (stp P g).k) (s a b c d))) (hp:pr=E9 (cnd P g):=by kernel_rfl) (hl:AG9 (stp P g)=true:=by kernel_rfl) (hle:KLe ids (stp P g).st (s a0 b0 c0 d0):=by exact kl):KG S P F g:=
 U1 hS hc h (fun x=>s x.1 x.2.1 x.2.2.1 x.2.2.2) (fun X s' J m n self a hb=>hr X s' J m n (fun a b c d=>self (a,b,c,d)) a.1 a.2.1 a.2.2.1 a.2.2.2 fun g' ids pr a b c d h1 h2 h3 h4 h5=>hb g' ids pr (a,b,c,d) h1 h2 h3 h4 h5) hp hl hle
theorem B1 (hS:I2 S P) (hc:pr) {n:Nat} {rs:List ResultVar} {Q:Bd2->List Obj->List Bool->Prop} {a:AV} {objs:List Obj} (outs:List Nat) (hQ:Q (.ret a) objs (Av9 n outs)) (hp:pr=E9 (cnd P g):=by kernel_rfl)
 (he:(CN3 (stp P g)).bind (fun st=>Ca3 P st rs outs)=some (a,objs):=by kernel_rfl):KG S P (Ai9 S P n rs Q) g:=⟨J_ret hS hc outs hQ hp he⟩
theorem B4 (hS:I2 S P) (hc:pr) {n:Nat} {rs:List ResultVar} {Q:Bd2->List Obj->List Bool->Prop} {a:AV} {objs:List Obj} (st:St) (outs:List Nat) {ids:List (Nat × Nat)} (hQ:Q (.ret a) objs (Av9 n outs)) (hp:pr=E9 (cnd P g):=by kernel_rfl)
 (he:(CN3 (stp P g)).isSome=true:=by kernel_rfl) (hle:KLe ids (stp P g).st st:=by exact kl) (hr:Ca3 P st rs outs=some (a,objs):=by kernel_rfl):KG S P (Ai9 S P n rs Q) g:=⟨CR3 hS hc st outs hQ hp he hle.out hr⟩
theorem A6 (hS:I2 S P) {f:FuncId} {fn:Func} {args:List AV} {objs objs' : List Obj} {ks:List Bool} {r:AV} (hf:P.funcs[f]? = some fn)
 (h:KG S P (Ai9 S P objs.length fn.results.toList fun res o k=>res=.ret r/\o=objs' /\ k=ks) (.code (fn.body.getD .skip) [] { env:=argEnv args,regs:=objRegs objs }))
 (hc:fn.body.isSome=true:=by kernel_rfl) (hn:Nat.ble args.length fn.ntmps=true:=by kernel_rfl) (ho:Nat.blt objs.length 1000=true:=by kernel_rfl)
 (hco:Y6 fn.ntmps (fn.body.getD .skip)=true:=by kernel_rfl) (hnm:(fn.name == "runtime.NumGoroutine")=false:=by kernel_rfl):FunO S f args objs r objs' ks:=CI5 hS hf h.out hc hn ho hco hnm
theorem BJ8 (hS:I2 S P) (hc:pr) (h:DG S P (AE7 (stp P g)) fun env regs=>KG S P F (.pop .normal (stp P g).k ⟨env,regs⟩)) (hp:pr=E9 (cnd P g):=by kernel_rfl) (hd:Ak9 (stp P g)=true:=by kernel_rfl) (hmix:P.follows .mixedOrders=true:=by kernel_rfl)
 (hok:AO3 (AE7 (stp P g)).all (AE7 (stp P g)).cls=true:=by kernel_rfl):KG S P F g:=by
 have e:(fun env regs=>KG S P F (.pop .normal (stp P g).k ⟨env,regs⟩))=fun env regs=>G S P F (.pop .normal (stp P g).k ⟨env,regs⟩):=by
  funext env regs
  exact propext ⟨fun h=>h.out,fun h=>⟨h⟩⟩
 rw [e] at h
 exact ⟨CI6 hS hc h.out hp hd hmix hok⟩
section
variable {sc:SC} {k:Env->D2->Prop}
theorem M0 (hc:pr) (h:k (Av6 P sc).env (Av6 P sc).regs) (hp:pr=E9 (Cg3 P sc):=by kernel_rfl) (he:(Av6 P sc).rest.isEmpty=true:=by kernel_rfl):DG S P sc k:=⟨C_end hc h hp he⟩
theorem BJ9 (hc:pr) {b:Bool} (ht:b=true->DG S P (AW2 true (Av6 P sc)) k) (hf:b=false->DG S P (AW2 false (Av6 P sc)) k) (hp:pr=E9 (Cg3 P sc):=by kernel_rfl) (hb:Bp5 (Av6 P sc)=some b:=by kernel_rfl):DG S P sc k:=
 ⟨CI7 hc (fun h=>(ht h).out) (fun h=>(hf h).out) hp hb⟩
theorem Bj4 (ids:List Nat) (hc:pr) {fn:FuncId} {args:List AV} {objs objs' : List Obj} {r:AV} {ks:List Bool} (hF:FunO S fn args objs r objs' ks) (hk:DG S P (Ck8 ids ks r objs' (Av6 P sc)) k)
 (hp:pr=E9 (Cg3 P sc):=by kernel_rfl) (he:BU2 ids (Av6 P sc)=some (fn,args,objs):=by kernel_rfl) (hn:By4 ids ks objs'.length (Av6 P sc)=true:=by kernel_rfl):DG S P sc k:=⟨CR6 ids hc hF hk.out hp he hn⟩
theorem U2 (hc:pr) {fn:FuncId} {args:List AV} {r:AV} (hF:FunO S fn args [] r [] []) (hk:DG S P (Ck9 r (Av6 P sc)) k) (hp:pr=E9 (Cg3 P sc):=by kernel_rfl) (he:BU4 (Av6 P sc)=some (fn,args):=by kernel_rfl) (hn:BU3 (Av6 P sc)=true:=by kernel_rfl):DG S P sc k:=
 ⟨CR7 hc hF hk.out hp he hn⟩
theorem AE8 (hc:pr) {x:PV} (hk:DG S P (BJ7 x (Av6 P sc)) k) (hp:pr=E9 (Cg3 P sc):=by kernel_rfl) (he:(As5 P (Av6 P sc)).map (·.2)=some x:=by kernel_rfl) (hc2:((As5 P (Av6 P sc)).map fun q=>E9 q.1)=some (true=true):=by kernel_rfl):DG S P sc k:=⟨CI8 hc hk.out hp he hc2⟩
end
end
end Go.AM
set_option linter.unusedVariables false
namespace Go.AM
section
variable {S:Ag9} {P:Program} {F:J1} {g:Cfg} {pr:Prop}
def yldE:Cfg->Option (List PV × List (List PV))
 | .ops all (o :: _) _ st=>match Au4 all st.env o,o.op with
  | some true, .call c=>match c.callee with
   | .value f=>match aev st.env f,AK0 st.regs (c.args.toList.map (aev st.env)) with
    | .yf j,some (xs,regs)=>match A5 regs j with
     | some (.yld (ys :: rest) true)=>if Ar7 j regs=true/\xs.length=ys.length then some (xs,ys :: rest) else none
     | _=>none
    | _,_=>none
   | _=>none
  | _,_=>none
 | _=>none
def CR8 (b:Bool) (rest:List (List PV)):Cfg->Cfg
 | .ops all (o :: ops) K st=>match o.op with
  | .call c=>match c.callee with
   | .value f=>match aev st.env f,AK0 st.regs (c.args.toList.map (aev st.env)) with
    | .yf j,some (_,regs)=>CN2 o.dst (.p (.bb b)) st.env (ins j (.yld rest b) regs) fun st=>.ops all ops K st
    | _,_=>.ops all (o :: ops) K st
   | _=>.ops all (o :: ops) K st
  | _=>.ops all (o :: ops) K st
 | g=>g
theorem By5:∀ l:List PV,CE7 l l
 | []=>trivial
 | x :: l=>⟨.inl rfl,By5 l⟩
theorem CI9 (hS:I2 S P) (hc:pr) {ys:List PV} {rest:List (List PV)} (ht:G S P F (CR8 true rest (stp P g))) (hf:G S P F (CR8 false [] (stp P g))) (hp:pr=E9 (cnd P g)) (he:yldE (stp P g)=some (ys,ys :: rest)):G S P F g:=by
 refine Ax0 hS hc ?_ hp
 generalize stp P g=g' at he ht hf
 unfold yldE at he
 split at he
 ·split at he
  ·rename_i hg ho
   split at he
   ·rename_i hcl
    split at he
    ·rename_i hy hv
     split at he
     ·rename_i hr
      split at he
      ·rename_i ho2
       simp only [Option.some.injEq,Prod.mk.injEq,List.cons.injEq] at he
       obtain ⟨rfl,rfl,rfl⟩:=he
       simp only [CR8,ho,hcl,hy,hv,Bp3] at ht hf
       refine CH5 hS hg ho hcl hy hv hr ho2.1 (By5 _) fun b=>?_
       cases b
       ·exact hf
       ·exact ht
      ·cases he
     ·cases he
    ·cases he
   ·cases he
  ·cases he
 ·cases he
theorem Ao3 (hS:I2 S P) (hc:pr) {ys:List PV} {rest:List (List PV)} (ht:KG S P F (CR8 true rest (stp P g))) (hf:KG S P F (CR8 false [] (stp P g))) (hp:pr=E9 (cnd P g):=by kernel_rfl) (he:yldE (stp P g)=some (ys,ys :: rest):=by kernel_rfl):KG S P F g:=
 ⟨CI9 hS hc ht.out hf.out hp he⟩
def Ad1 {T:Type} (x:T) (o:Option (List T)):Option (List T):=o.map (x :: ·)
theorem Be0 {T:Type} {x:T} {o:Option (List T)} {L:List T} (h:Ad1 x o=some L):∃ L',L=x :: L' /\ o=some L':=by
 simp only [Ad1,Option.map_eq_some_iff] at h
 obtain ⟨l,h1,h2⟩:=h
 exact ⟨l,h2.symm,h1⟩
theorem Ax1 (hS:I2 S P) (hc:pr) {R A:Type} {body:(A->Option R)->A->Option R} {N:Nat} {a0:A} {r0:R} (h:Ae3 N body a0=some r0) (s:A->R->St) {ids:List (Nat × Nat)}
 (hr:∀ (X:Type) (s' : X->St) (J:X->Prop) (m:X->Nat) (n:Nat) (self:A->Option R) (a:A) (r:R),
  (∀ (g' : Cfg) (ids:List (Nat × Nat)) (pr:Prop) (a:A) (r:R),pr->self a=some r->(hp:pr=E9 (cnd P g'):=by kernel_rfl)->(he:stp P g' = .pop .normal (.lp X s' J m n :: (stp P g).k) (stp P g').st:=by kernel_rfl)->(hle:KLe ids (stp P g').st (s a r):=by exact kl)->KG S P F g') ->
  body self a=some r->KG S P F (.code (By1 (stp P g)) (.lp X s' J m n :: (stp P g).k) (s a r))) (hp:pr=E9 (cnd P g):=by kernel_rfl) (hl:AG9 (stp P g)=true:=by kernel_rfl) (hle:KLe ids (stp P g).st (s a0 r0):=by exact kl):KG S P F g:=by
 refine ⟨Ax0 hS hc ?_ hp⟩
 rw [Ck7 hl]
 refine CB9 hS (X:=Nat × A × R) (fun x=>s x.2.1 x.2.2) (fun x=>Ae3 x.1 body x.2.1=some x.2.2) (fun x=>x.1) (N,a0,r0) ids hle.out h ?_
 rintro ⟨n,a,r⟩ hx
 cases n with
 | zero=>cases hx
 | succ n=>
  exact (hr _ _ _ _ _ (Ae3 n body) a r (fun g' ids pr a r hc hself hp he hle=>⟨Ax0 hS hc (by rw [he];exact Ch3 hS (n,a,r) ids hle.out hself (Nat.lt_succ_self n)) hp⟩) hx).out
theorem BK0 (hS:I2 S P) (hc:pr) {R A B:Type} {body:(A->B->Option R)->A->B->Option R} {N:Nat} {a0:A} {b0:B} {r0:R} (h:V9 N body a0 b0=some r0) (s:A->B->R->St) {ids:List (Nat × Nat)}
 (hr:∀ (X:Type) (s' : X->St) (J:X->Prop) (m:X->Nat) (n:Nat) (self:A->B->Option R) (a:A) (b:B) (r:R),
  (∀ (g' : Cfg) (ids:List (Nat × Nat)) (pr:Prop) (a:A) (b:B) (r:R),pr->self a b=some r->(hp:pr=E9 (cnd P g'):=by kernel_rfl)->(he:stp P g' = .pop .normal (.lp X s' J m n :: (stp P g).k) (stp P g').st:=by kernel_rfl)->(hle:KLe ids (stp P g').st (s a b r):=by exact kl)->KG S P F g') ->
  body self a b=some r->KG S P F (.code (By1 (stp P g)) (.lp X s' J m n :: (stp P g).k) (s a b r))) (hp:pr=E9 (cnd P g):=by kernel_rfl) (hl:AG9 (stp P g)=true:=by kernel_rfl) (hle:KLe ids (stp P g).st (s a0 b0 r0):=by exact kl):KG S P F g:=
 Ax1 hS hc h (fun x r=>s x.1 x.2 r) (fun X s' J m n self a r hb=>hr X s' J m n (fun a b=>self (a,b)) a.1 a.2 r fun g' ids pr a b r h1 h2 h3 h4 h5=>hb g' ids pr (a,b) r h1 h2 h3 h4 h5) hp hl hle
theorem AA1 (hS:I2 S P) {f:FuncId} {fn:Func} {first caps:List AV} {objs:List Obj} {L:List (List PV)} (hf:P.funcs[f]? = some fn)
 (h:KG S P (Ai9 S P (objs ++ [Obj.yld L true]).length fn.results.toList fun r objs' ks=>∃ b,objs'[objs.length]? = some (.yld [] b)/\ks[objs.length]? = some true/\∃ a,r=.ret a) (.code (fn.body.getD .skip) [] { env:=argEnv (first ++ .yf objs.length :: caps),regs:=objRegs (objs ++ [Obj.yld L true]) }))
 (hc:fn.body.isSome=true:=by kernel_rfl) (hn:Nat.ble (first ++ .yf objs.length :: caps).length fn.ntmps=true:=by kernel_rfl) (ho:Nat.blt (objs ++ [Obj.yld L true]).length 1000=true:=by kernel_rfl)
 (hco:Y6 fn.ntmps (fn.body.getD .skip)=true:=by kernel_rfl) (hnm:(fn.name == "runtime.NumGoroutine")=false:=by kernel_rfl):Ao2 S f first caps objs L:=by
 obtain ⟨code,hcode⟩:=Option.isSome_iff_exists.1 hc
 rw [hcode,Option.getD_some] at hco h
 exact AL1 hS hf hcode (Nat.le_of_ble_eq_true hn) (by simpa [Nat.blt_eq] using ho) rfl hco hnm h.out
def By6 (P:Program) (ids:List Nat):Cfg->Option (FuncId × List AV × List AV × List Obj)
 | .code (.rangeFunc op _ _ _) _ st=>match Ao0 st.env op with
  | some (f,first,caps)=>match P.funcs[f]?,I7 ids st.regs ids,Aj5 ids first,Aj5 ids caps with
   | some fn,some objs,some as,some bs=>if (fn.body.isSome && !(fn.name == "runtime.NumGoroutine") && Ap3 objs && F7 ids && (objs.length == ids.length) && Nat.blt ids.length 1000)=true then some (f,as,bs,objs) else none
   | _,_,_,_=>none
  | none=>none
 | _=>none
def AB9:Cfg->Array Tmp
 | .code (.rangeFunc _ ps _ _) _ _=>ps
 | _=>#[]
def By7:Cfg->Code
 | .code (.rangeFunc _ _ a _) _ _=>a
 | _=>.skip
def By8:Cfg->Code
 | .code (.rangeFunc _ _ _ b) _ _=>b
 | _=>.skip
def By9 (ids ts:List Nat) (g:Cfg):St:=⟨T9 ts (ts.map (get g.st.env)),N5 ids (ids.map fun _=>false) g.st.regs⟩
def rst (gh:Nat) (t:St):St:=⟨[],ins gh (.ghost (t.env.map (·.2))) t.regs⟩
def Bz0 (gh:Nat) (ps:Array Tmp) (ys:List PV) (t:St):St:=⟨AF6 ps.toList ys t.env,ins gh (.ghost (t.env.map (·.2))) t.regs⟩
def exitE:Cfg->AT5
 | .pop e _ _=>e
 | _=>.normal
def CC9:Cfg->Bool
 | .pop .ret [] _=>true
 | .pop (.exit _) [] _=>true
 | _=>false
theorem Cl1 (regs:D2) (d:Nat) (x:Obj):A5 (ins d x regs) d=some x:=by
 induction regs with
 | nil=>simp [ins,A5]
 | cons p r ih=>
  obtain ⟨i,b⟩:=p
  simp only [ins]
  split
  ·simp [A5]
  split
  ·simp [A5]
  ·rename_i h1 h2
   simp only [A5,h2,if_false,ih]
theorem Ax2 (gh:Nat) (t:St):A5 (rst gh t).regs gh=some (.ghost (t.env.map fun p=>p.2)):=by unfold rst;exact Cl1 _ _ _
def AW3 (ids:List Nat):Cfg->Option (FuncId × List AV × List AV × List Obj)
 | .code (.rangeFunc op _ _ _) _ st=>match Ao0 st.env op with
  | some (f,first,caps)=>match I7 ids st.regs ids,Aj5 ids first,Aj5 ids caps with
   | some objs,some as,some bs=>if (Ap3 objs && F7 ids && (objs.length == ids.length) && Nat.blt ids.length 1000)=true then some (f,as,bs,objs) else none
   | _,_,_=>none
  | none=>none
 | _=>none
theorem AA2 {ids:List Nat} {g:Cfg} {q:FuncId × List AV × List AV × List Obj} (h:By6 P ids g=some q):AW3 ids g=some q/\∃ fn,P.funcs[q.1]? = some fn/\fn.body.isSome=true/\(fn.name == "runtime.NumGoroutine")=false:=by
 unfold By6 at h
 split at h
 ·split at h
  ·rename_i hpo
   split at h
   ·rename_i fn objs' as' bs' h1 h2 h3 h4
    split at h
    ·rename_i hh
     cases h
     simp only [Bool.and_eq_true,Bool.not_eq_true',beq_iff_eq] at hh
     obtain ⟨⟨⟨⟨⟨e1,e2⟩,e3⟩,e4⟩,e5⟩,e6⟩:=hh
     refine ⟨?_,fn,h1,e1,by simpa using e2⟩
     simp only [AW3,hpo,h2,h3,h4,e3,e4,e5,e6,beq_self_eq_true,Bool.and_true,if_true]
    ·cases h
   ·cases h
  ·cases h
 ·cases h
theorem AH2 (hS:I2 S P) (hc:pr) {f:FuncId} {as bs:List AV} {objs:List Obj} {R T A:Type} {enc:T->List PV} {L:List T} {mb:(A->Option R)->T->A->Option R} {mk:A->Option R} {a0:A} {r:R} (hfn:∃ fn,P.funcs[f]? = some fn/\fn.body.isSome=true/\(fn.name == "runtime.NumGoroutine")=false)
 (ids ts:List Nat) (gh:Nat) (s:A->St) {idl:List (Nat × Nat)} (h:K4 L mb mk a0=some r) (hF:Ao2 S f as bs objs (L.map enc))
 (hlen:∀ t:T,(enc t).length=(AB9 (stp P g)).size) (hk:∀ a,(s a).env.map (·.1)=ts) (hn:∀ a,A5 (s a).regs gh=none) (hb0:∀ a,(⟨T9 ts ((s a).env.map (·.2)),del gh (ins gh (.ghost ((s a).env.map (·.2))) (s a).regs)⟩:St)=s a)
 (hround:∀ (t:T) (next:St->Prop) (self:A->Option R) (a:A),
  (∀ (g' : Cfg) (ids:List (Nat × Nat)) (pr:Prop) (a:A),pr->self a=some r->(hp:pr=E9 (cnd P g'):=by kernel_rfl)->(he:stp P g' = .pop .normal [] (stp P g').st:=by kernel_rfl)->(hle:KLe ids (stp P g').st (rst gh (s a)):=by exact kl)->KG S P (Ao1 S gh ts next (kp S P (stp P g).k F)) g') ->
  mb self t a=some r->KG S P (Ac9 S P (By8 (stp P g)) gh ts next (kp S P (stp P g).k F)) (.code (By7 (stp P g)) [] (Bz0 gh (AB9 (stp P g)) (enc t) (s a))))
 (hend:∀ a,mk a=some r->KG S P F (.pop .normal (stp P g).k (s a)))
 (hp:pr=E9 (cnd P g):=by kernel_rfl) (he:AW3 ids (stp P g)=some (f,as,bs,objs):=by kernel_rfl) (hgh:Nat.blt gh 1000=true:=by kernel_rfl) (hng:A5 (stp P g).st.regs gh=none:=by kernel_rfl) (hts:F7 ts=true:=by kernel_rfl)
 (hle:KLe idl (By9 ids ts (stp P g)) (s a0):=by exact kl):KG S P F g:=by
 refine ⟨Ax0 hS hc ?_ hp⟩
 generalize stp P g=g1 at hlen hround hend he hng hle
 unfold AW3 at he
 split at he
 ·rename_i op ps asg body K st
  split at he
  ·rename_i f' first caps hpo
   split at he
   ·rename_i objs' as' bs' h2 h3 h4
    split at he
    ·rename_i hh
     simp only [Option.some.injEq,Prod.mk.injEq] at he
     obtain ⟨rfl,rfl,rfl,rfl⟩:=he
     simp only [Bool.and_eq_true,Bool.not_eq_true',beq_iff_eq] at hh
     obtain ⟨⟨⟨e3,e4⟩,e5⟩,e6⟩:=hh
     refine CI0 hS ids ts gh s idl h hF hpo hfn h2 e3 e4 h3 h4 e5 hgh hng e6 hts hlen hle.out hk hn (fun t next self a hb hm=>?_) (fun a hm=>(hend a hm).out)
     refine (hround t next self a (fun g' ids' pr a hc hself hp he hle=>⟨Ax0 hS hc ?_ hp⟩) hm).out
     rw [he]
     have hl:((s a).env.map (·.2)).length=ts.length:=by rw [<- hk a];simp
     refine hb _ (rst gh (s a)) ((s a).env.map fun p=>p.2) ids' a hle.out (Ax2 gh (s a)) hl ?_ (hb0 a) hself
     have:=congrArg St.regs (hb0 a)
     simp only at this
     show A5 (del gh (ins gh _ _)) gh=none
     rw [this];exact hn a
    ·cases he
   ·cases he
  ·cases he
 ·cases he
theorem AL5 (hS:I2 S P) (hc:pr) {f:FuncId} {as bs:List AV} {objs:List Obj} {R T A:Type} {enc:T->List PV} {L:List T} {mb:(A->Option R)->T->A->Option R} {mk:A->Option R} {a0:A} {r:R}
 (ids ts:List Nat) (gh:Nat) (s:A->St) {idl:List (Nat × Nat)} (h:K4 L mb mk a0=some r) (hF:Ao2 S f as bs objs (L.map enc))
 (hlen:∀ t:T,(enc t).length=(AB9 (stp P g)).size) (hk:∀ a,(s a).env.map (·.1)=ts) (hn:∀ a,A5 (s a).regs gh=none) (hb0:∀ a,(⟨T9 ts ((s a).env.map (·.2)),del gh (ins gh (.ghost ((s a).env.map (·.2))) (s a).regs)⟩:St)=s a)
 (hround:∀ (t:T) (next:St->Prop) (self:A->Option R) (a:A),
  (∀ (g' : Cfg) (ids:List (Nat × Nat)) (pr:Prop) (a:A),pr->self a=some r->(hp:pr=E9 (cnd P g'):=by kernel_rfl)->(he:stp P g' = .pop .normal [] (stp P g').st:=by kernel_rfl)->(hle:KLe ids (stp P g').st (rst gh (s a)):=by exact kl)->KG S P (Ao1 S gh ts next (kp S P (stp P g).k F)) g') ->
  mb self t a=some r->KG S P (Ac9 S P (By8 (stp P g)) gh ts next (kp S P (stp P g).k F)) (.code (By7 (stp P g)) [] (Bz0 gh (AB9 (stp P g)) (enc t) (s a))))
 (hend:∀ a,mk a=some r->KG S P F (.pop .normal (stp P g).k (s a)))
 (hp:pr=E9 (cnd P g):=by kernel_rfl) (he:By6 P ids (stp P g)=some (f,as,bs,objs):=by kernel_rfl) (hgh:Nat.blt gh 1000=true:=by kernel_rfl) (hng:A5 (stp P g).st.regs gh=none:=by kernel_rfl) (hts:F7 ts=true:=by kernel_rfl)
 (hle:KLe idl (By9 ids ts (stp P g)) (s a0):=by exact kl):KG S P F g:=
 AH2 hS hc (AA2 he).2 ids ts gh s h hF hlen hk hn hb0 hround hend hp (AA2 he).1 hgh hng hts hle
theorem Cl2 (hS:I2 S P) (hc:pr) {f:FuncId} {as bs:List AV} {objs:List Obj} {R T A:Type} {enc:T->List PV} {L:List T} {mb:(A->Option R)->T->A->Option R} {mk:A->Option R} {a0:A} {r0:R} (hfn:∃ fn,P.funcs[f]? = some fn/\fn.body.isSome=true/\(fn.name == "runtime.NumGoroutine")=false)
 (ids ts:List Nat) (gh:Nat) (s:A->R->St) {idl:List (Nat × Nat)} (h:K4 L mb mk a0=some r0) (hF:Ao2 S f as bs objs (L.map enc))
 (hlen:∀ t:T,(enc t).length=(AB9 (stp P g)).size) (hk:∀ a r,(s a r).env.map (·.1)=ts) (hn:∀ a r,A5 (s a r).regs gh=none) (hb0:∀ a r,(⟨T9 ts ((s a r).env.map (·.2)),del gh (ins gh (.ghost ((s a r).env.map (·.2))) (s a r).regs)⟩:St)=s a r)
 (hround:∀ (t:T) (next:St->Prop) (self:A->Option R) (a:A) (r:R),
  (∀ (g' : Cfg) (ids:List (Nat × Nat)) (pr:Prop) (a:A) (r:R),pr->self a=some r->(hp:pr=E9 (cnd P g'):=by kernel_rfl)->(he:stp P g' = .pop .normal [] (stp P g').st:=by kernel_rfl)->(hle:KLe ids (stp P g').st (rst gh (s a r)):=by exact kl)->KG S P (Ao1 S gh ts next (kp S P (stp P g).k F)) g') ->
  mb self t a=some r->KG S P (Ac9 S P (By8 (stp P g)) gh ts next (kp S P (stp P g).k F)) (.code (By7 (stp P g)) [] (Bz0 gh (AB9 (stp P g)) (enc t) (s a r))))
 (hend:∀ a r,mk a=some r->KG S P F (.pop .normal (stp P g).k (s a r)))
 (hp:pr=E9 (cnd P g):=by kernel_rfl) (he:AW3 ids (stp P g)=some (f,as,bs,objs):=by kernel_rfl) (hgh:Nat.blt gh 1000=true:=by kernel_rfl) (hng:A5 (stp P g).st.regs gh=none:=by kernel_rfl) (hts:F7 ts=true:=by kernel_rfl)
 (hle:KLe idl (By9 ids ts (stp P g)) (s a0 r0):=by exact kl):KG S P F g:=by
 refine ⟨Ax0 hS hc ?_ hp⟩
 generalize stp P g=g1 at hlen hround hend he hng hle
 unfold AW3 at he
 split at he
 ·rename_i op ps asg body K st
  split at he
  ·rename_i f' first caps hpo
   split at he
   ·rename_i objs' as' bs' h2 h3 h4
    split at he
    ·rename_i hh
     simp only [Option.some.injEq,Prod.mk.injEq] at he
     obtain ⟨rfl,rfl,rfl,rfl⟩:=he
     simp only [Bool.and_eq_true,Bool.not_eq_true',beq_iff_eq] at hh
     obtain ⟨⟨⟨e3,e4⟩,e5⟩,e6⟩:=hh
     refine Cw5 hS ids ts gh s idl h hF hpo hfn h2 e3 e4 h3 h4 e5 hgh hng e6 hts hlen hle.out hk hn (fun t next self a r hb hm=>?_) (fun a r hm=>(hend a r hm).out)
     refine (hround t next self a r (fun g' ids' pr a r hc hself hp he hle=>⟨Ax0 hS hc ?_ hp⟩) hm).out
     rw [he]
     have hl:((s a r).env.map (·.2)).length=ts.length:=by rw [<- hk a r];simp
     refine hb _ (rst gh (s a r)) ((s a r).env.map fun p=>p.2) ids' a r hle.out (Ax2 gh (s a r)) hl ?_ (hb0 a r) hself
     have:=congrArg St.regs (hb0 a r)
     simp only at this
     show A5 (del gh (ins gh _ _)) gh=none
     rw [this];exact hn a r
    ·cases he
   ·cases he
  ·cases he
 ·cases he
theorem Cx0 (hS:I2 S P) (hc:pr) {f:FuncId} {as bs:List AV} {objs:List Obj} {R T A:Type} {enc:T->List PV} {L:List T} {mb:(A->Option R)->T->A->Option R} {mk:A->Option R} {a0:A} {r0:R}
 (ids ts:List Nat) (gh:Nat) (s:A->R->St) {idl:List (Nat × Nat)} (h:K4 L mb mk a0=some r0) (hF:Ao2 S f as bs objs (L.map enc))
 (hlen:∀ t:T,(enc t).length=(AB9 (stp P g)).size) (hk:∀ a r,(s a r).env.map (·.1)=ts) (hn:∀ a r,A5 (s a r).regs gh=none) (hb0:∀ a r,(⟨T9 ts ((s a r).env.map (·.2)),del gh (ins gh (.ghost ((s a r).env.map (·.2))) (s a r).regs)⟩:St)=s a r)
 (hround:∀ (t:T) (next:St->Prop) (self:A->Option R) (a:A) (r:R),
  (∀ (g' : Cfg) (ids:List (Nat × Nat)) (pr:Prop) (a:A) (r:R),pr->self a=some r->(hp:pr=E9 (cnd P g'):=by kernel_rfl)->(he:stp P g' = .pop .normal [] (stp P g').st:=by kernel_rfl)->(hle:KLe ids (stp P g').st (rst gh (s a r)):=by exact kl)->KG S P (Ao1 S gh ts next (kp S P (stp P g).k F)) g') ->
  mb self t a=some r->KG S P (Ac9 S P (By8 (stp P g)) gh ts next (kp S P (stp P g).k F)) (.code (By7 (stp P g)) [] (Bz0 gh (AB9 (stp P g)) (enc t) (s a r))))
 (hend:∀ a r,mk a=some r->KG S P F (.pop .normal (stp P g).k (s a r)))
 (hp:pr=E9 (cnd P g):=by kernel_rfl) (he:By6 P ids (stp P g)=some (f,as,bs,objs):=by kernel_rfl) (hgh:Nat.blt gh 1000=true:=by kernel_rfl) (hng:A5 (stp P g).st.regs gh=none:=by kernel_rfl) (hts:F7 ts=true:=by kernel_rfl)
 (hle:KLe idl (By9 ids ts (stp P g)) (s a0 r0):=by exact kl):KG S P F g:=
 Cl2 hS hc (AA2 he).2 ids ts gh s h hF hlen hk hn hb0 hround hend hp (AA2 he).1 hgh hng hts hle
def CU4 (t:Nat) (a:AV):Cfg->Cfg
 | .ops all rest K st=>mkO (ins t a st.env) st.regs fun env regs=>.ops all rest K ⟨env,regs⟩
 | g=>g
theorem K_nil (hS:I2 S P) (hc:pr) (t:Nat) {k n:Nat} {f:Nat->List PV} (h0:n=0->KG S P F (CU4 t (.p (.v (.slice none 0 0))) (stp P g))) (h1:KG S P F (CU4 t (.p (.sl true k n f)) (stp P g)))
 (hp:pr=E9 (cnd P g):=by kernel_rfl) (ho:AW0 (stp P g)=true:=by kernel_rfl) (hg:get (stp P g).st.env t=.p (.sl false k n f):=by kernel_rfl):KG S P F g:=by
 refine ⟨Ax0 hS hc ?_ hp⟩
 generalize stp P g=g1 at h0 h1 ho hg
 unfold AW0 at ho
 split at ho
 ·refine CO3 hS t hg (fun h=>?_) ?_
  ·have:=(h0 h).out
   simpa only [CU4,AG8] using this
  ·have:=h1.out
   simpa only [CU4,AG8] using this
 ·cases ho
def frzC (j:Nat) (ps:List PV):Cfg->Cfg
 | .code c K st=>mkO (Cs1 j ps st.env) (ins j .dead st.regs) fun env regs=>.code c K ⟨env,regs⟩
 | g=>g
theorem CJ0 (hS:I2 S P) (hc:pr) (j:Nat) (ps:List PV) (hk:KG S P F (frzC j ps (stp P g))) (hp:pr=E9 (cnd P g):=by kernel_rfl) (hd:Ak9 (stp P g)=true:=by kernel_rfl) (hmix:P.follows .mixedOrders=true:=by kernel_rfl)
 (hdep:AB5 (AE7 (stp P g)).all=true:=by kernel_rfl) (hr:A5 (stp P g).st.regs j=some (.cells (ps.map .p)):=by kernel_rfl):KG S P F g:=by
 refine ⟨Ax0 hS hc ?_ hp⟩
 generalize stp P g=g1 at hk hd hdep hr
 unfold Ak9 at hd
 split at hd
 ·rename_i id ops K st
  have hk:=hk.out
  simp only [frzC,AG8] at hk
  show awp S P (.region id ops true) (kp S P K F) st
  simp only [awp,if_true]
  have hk' : BX5 S P ops.toList (kp S P K F) ⟨Cs1 j ps st.env,ins j .dead st.regs⟩:=by
   have:awp S P (.region id ops true) (kp S P K F) ⟨Cs1 j ps st.env,ins j .dead st.regs⟩:=hk
   simpa only [awp,if_true] using this
  exact Cw4 hS hmix hdep (hS.frz st j ps _ hr hk')
 ·cases hd
def clsN (js:List Nat):Nat->List Oper->List Cls
 | _, []=>[]
 | i,o :: r=>(if js.contains i then .n else if js.contains (i+1000) then .w else CU2 o.op) :: clsN js (i+1) r
def Bp6 (js:List Nat):Cfg->SC
 | .code (.region _ ops true) _ st=>⟨ops.toList,clsN js 0 ops.toList,ops.toList,st.env,st.regs, []⟩
 | _=>⟨[], [], [], [], [], []⟩
theorem F0 (hS:I2 S P) (hc:pr) (js:List Nat) (h:DG S P (Bp6 js (stp P g)) fun env regs=>KG S P F (.pop .normal (stp P g).k ⟨env,regs⟩)) (hp:pr=E9 (cnd P g):=by kernel_rfl) (hd:Ak9 (stp P g)=true:=by kernel_rfl) (hmix:P.follows .mixedOrders=true:=by kernel_rfl)
 (hok:AO3 (Bp6 js (stp P g)).all (Bp6 js (stp P g)).cls=true:=by kernel_rfl):KG S P F g:=by
 have e:(fun env regs=>KG S P F (.pop .normal (stp P g).k ⟨env,regs⟩))=fun env regs=>G S P F (.pop .normal (stp P g).k ⟨env,regs⟩):=by
  funext env regs
  exact propext ⟨fun h=>h.out,fun h=>⟨h⟩⟩
 rw [e] at h
 refine ⟨Ax0 hS hc ?_ hp⟩
 have h:=h.out
 generalize stp P g=g' at hd hok h
 unfold Ak9 at hd
 split at hd
 ·exact BT4 hS _ hmix hok h
 ·cases hd
def CU5 (ls:List (Nat × Cls)):Nat->List Oper->List Cls
 | _, []=>[]
 | i,o :: r=>(match ls.find? (fun q=>q.1 == i) with | some q=>q.2 | none=>CU2 o.op) :: CU5 ls (i+1) r
def Bp7 (ls:List (Nat × Cls)):Cfg->SC
 | .code (.region _ ops true) _ st=>⟨ops.toList,CU5 ls 0 ops.toList,ops.toList,st.env,st.regs, []⟩
 | _=>⟨[], [], [], [], [], []⟩
theorem T2 (hS:I2 S P) (hc:pr) (ls:List (Nat × Cls)) (h:DG S P (Bp7 ls (stp P g)) fun env regs=>KG S P F (.pop .normal (stp P g).k ⟨env,regs⟩)) (hp:pr=E9 (cnd P g):=by kernel_rfl) (hd:Ak9 (stp P g)=true:=by kernel_rfl) (hmix:P.follows .mixedOrders=true:=by kernel_rfl)
 (hok:AO3 (Bp7 ls (stp P g)).all (Bp7 ls (stp P g)).cls=true:=by kernel_rfl):KG S P F g:=by
 have e:(fun env regs=>KG S P F (.pop .normal (stp P g).k ⟨env,regs⟩))=fun env regs=>G S P F (.pop .normal (stp P g).k ⟨env,regs⟩):=by
  funext env regs
  exact propext ⟨fun h=>h.out,fun h=>⟨h⟩⟩
 rw [e] at h
 refine ⟨Ax0 hS hc ?_ hp⟩
 have h:=h.out
 generalize stp P g=g' at hd hok h
 unfold Ak9 at hd
 split at hd
 ·exact BT4 hS _ hmix hok h
 ·cases hd
theorem AL6 (hS:I2 S P) (hc:pr) {body:Code} {gh:Nat} {ts:List Nat} {next:St->Prop} {Q:J1} (h:KG S P (Ao1 S gh ts next Q) (.code body [] (stp P g).st)) (hp:pr=E9 (cnd P g):=by kernel_rfl) (he:stp P g=.pop .normal [] (stp P g).st:=by kernel_rfl):KG S P (Ac9 S P body gh ts next Q) g:=by
 refine ⟨Ax0 hS hc ?_ hp⟩
 rw [he]
 exact G_asg hS h.out
theorem Bp8 (hS:I2 S P) (hc:pr) {K:List It} {gh:Nat} {ts:List Nat} {next:St->Prop} (t:St) {ids:List (Nat × Nat)} (hk:KG S P F (.pop (exitE (stp P g)) K t)) (hp:pr=E9 (cnd P g):=by kernel_rfl) (he:CC9 (stp P g)=true:=by kernel_rfl)
 (hle:KLe ids (stp P g).st (rst gh t):=by exact kl) (h1:t.env.map (·.1)=ts:=by kernel_rfl) (h2:A5 t.regs gh=none:=by kernel_rfl) (h3:(⟨T9 ts (t.env.map (·.2)),del gh (ins gh (.ghost (t.env.map (·.2))) t.regs)⟩:St)=t:=by kernel_rfl):KG S P (Ao1 S gh ts next (kp S P K F)) g:=by
 refine ⟨Ax0 hS hc ?_ hp⟩
 generalize stp P g=g1 at hk he hle
 have hl:(t.env.map (·.2)).length=ts.length:=by rw [<- h1];simp
 have hd:A5 (del gh (ins gh (.ghost (t.env.map (·.2))) t.regs)) gh=none:=by
  have:=congrArg St.regs h3
  simp only at this
  rw [this];exact h2
 unfold CC9 at he
 split at he
 ·exact BT6 hS trivial (rst gh t) ids hle.out (Ax2 gh t) hl hd (by rw [show (⟨T9 ts (t.env.map (·.2)),del gh (rst gh t).regs⟩:St)=t from h3];exact hk.out)
 ·exact BT6 hS trivial (rst gh t) ids hle.out (Ax2 gh t) hl hd (by rw [show (⟨T9 ts (t.env.map (·.2)),del gh (rst gh t).regs⟩:St)=t from h3];exact hk.out)
 ·cases he
end
end Go.AM
set_option linter.unusedVariables false
namespace Go.AM
section
variable {S:Ag9} {P:Program} {F:J1} {g:Cfg} {pr:Prop}
def CR9 (j:Nat) (ps:List PV):Cfg->Cfg
 | .ops all rest K st=>mkO (Cs1 j ps st.env) (ins j .dead st.regs) fun env regs=>.ops all rest K ⟨env,regs⟩
 | g=>g
end
section
variable {S:Ag9} {P:Program} {F:J1} {g:Cfg} {pr:Prop}
theorem J7 (hS:I2 S P) (hc:pr) (d:Nat) (st:St) {ids:List (Nat × Nat)} (hk:KG S P F (opsS st (Bj3 P d g))) (hp:pr=E9 (cndU P d g):=by kernel_rfl) (ho:AW0 (Bj3 P d g)=true:=by kernel_rfl) (hle:KLe ids (Bj3 P d g).st st:=by exact kl):KG S P F g:=by
 refine ⟨(AT9 (u:=some d) (F:=F) hS 400 [] g (by subst hp;exact hc)).2 ?_⟩
 have hk:=hk.out
 have hle:=hle.out
 show G S P F (Bj3 P d g)
 generalize Bj3 P d g=g' at ho hle hk
 unfold AW0 at ho
 split at ho
 ·exact Ck3 hS st ids hle hk
 ·cases ho
end
end Go.AM
set_option linter.unusedVariables false
namespace Go.AM
section
variable {S:Ag9} {P:Program} {F:J1} {g:Cfg} {pr:Prop}
def CS0 (S:Ag9) (P:Program) (pv:PV) (m:String) (as:List AV) (r:AV):Prop:=∃ t y fn,pv=.iface t y/\Bu7 P t m=some fn/\Ct2 S fn (.p (nP y) :: as) r
def invE:Cfg->Option (PV × String × List AV)
 | .ops all (o :: _) _ st=>match Au4 all st.env o,o.op with
  | some true, .call c=>match c.callee with
   | .invoke rv m=>match Bd3 st.regs (c.args.toList.map (aev st.env)),aev st.env rv with
    | some (as,_), .p pv=>match Aj5 [] as with
     | some as'=>some (pv,m,as')
     | none=>none
    | _,_=>none
   | _=>none
  | _,_=>none
 | _=>none
def invK (r:AV):Cfg->Cfg
 | .ops all (o :: rest) K st=>match o.op with
  | .call c=>match Bd3 st.regs (c.args.toList.map (aev st.env)) with
   | some (_,regs)=>CN2 o.dst (unA [] r) st.env regs fun st=>.ops all rest K st
   | none=>.ops all (o :: rest) K st
  | _=>.ops all (o :: rest) K st
 | g=>g
theorem AS9 (hS:I2 S P) (hc:pr) {pv:PV} {m:String} {as:List AV} {r:AV} (hF:CS0 S P pv m as r) (hk:KG S P F (invK r (stp P g)))
 (hp:pr=E9 (cnd P g):=by kernel_rfl) (he:invE (stp P g)=some (pv,m,as):=by kernel_rfl):KG S P F g:=by
 obtain ⟨t,y,fn,rfl,hm,hF⟩:=hF
 refine ⟨Ax0 hS hc ?_ hp⟩
 have hk:=hk.out
 generalize stp P g=g' at he hk
 unfold invE at he
 split at he
 ·split at he
  ·rename_i hg ho
   split at he
   ·rename_i hcl
    split at he
    ·rename_i ha hrv
     split at he
     ·rename_i hr
      cases he
      simp only [invK,ho,ha,Bp3] at hk
      refine Cw1 hS hg ho hcl ha hrv hm (args:=.p (nP y) :: _) ?_ hF hk
      simp only [Aj5,Bt7,hr]
     ·cases he
    ·cases he
   ·cases he
  ·cases he
 ·cases he
theorem R7 (hS:I2 S P) (hc:pr) (d j:Nat) (ps:List PV) (hk:KG S P F (CR9 j ps (Bj3 P d g))) (hp:pr=E9 (cndU P d g):=by kernel_rfl) (ho:AW0 (Bj3 P d g)=true:=by kernel_rfl)
 (hr:A5 (Bj3 P d g).st.regs j=some (.cells (ps.map .p)):=by kernel_rfl):KG S P F g:=by
 refine ⟨(AT9 (u:=some d) (F:=F) hS 400 [] g (by subst hp;exact hc)).2 ?_⟩
 have hk:=hk.out
 show G S P F (Bj3 P d g)
 generalize Bj3 P d g=g' at ho hr hk
 unfold AW0 at ho
 split at ho
 ·simp only [CR9,AG8] at hk
  exact Ch2 hS (hS.frz _ j ps _ hr hk)
 ·cases ho
def Cx1 (j j' : Nat):AV->AV
 | .vecp i m=>if i=j then .vec j' else .vecp i m
 | a=>a
def Cx2 (j j' : Nat):List AV->List AV
 | []=>[]
 | a :: r=>Cx1 j j' a :: Cx2 j j' r
def Cx3 (j j' : Nat):Env->Env
 | []=>[]
 | (t,a) :: r=>(t,Cx1 j j' a) :: Cx3 j j' r
def Ca4 (j j' : Nat):D2->D2
 | []=>[]
 | (t, .cells cs) :: r=>(t, .cells (Cx2 j j' cs)) :: Ca4 j j' r
 | (t,o) :: r=>(t,o) :: Ca4 j j' r
def msA (j:Nat) (r:List Nat):AV->List Nat
 | .vecp i m=>if i=j then m :: r else r
 | _=>r
def msL (j:Nat):List AV->List Nat
 | []=>[]
 | a :: r=>msA j (msL j r) a
def msE (j:Nat):Env->List Nat
 | []=>[]
 | (_,a) :: r=>msA j (msE j r) a
def msR (j:Nat):D2->List Nat
 | []=>[]
 | (_, .cells cs) :: r=>msL j cs ++ msR j r
 | _ :: r=>msR j r
theorem Cl3 {j:Nat} {r:List Nat} {a:AV}:∀ x ∈ r,x ∈ msA j r a:=by
 intro x hx
 unfold msA
 split
 ·split
  ·exact List.mem_cons_of_mem _ hx
  ·exact hx
 ·exact hx
theorem BU6 {j n j' : Nat} {r:List Nat} {a:AV} (h:∀ m ∈ msA j r a,m=n):Cs8 j n j' a=Cx1 j j' a:=by
 cases a with
 | vecp i m=>
  simp only [Cs8,Cx1]
  by_cases e:i=j
  ·have:m=n:=h m (by simp [msA,e])
   simp [e,this]
  ·simp [e]
 | _=>rfl
theorem BU7 {j n j' : Nat}:∀ {l:List AV},(∀ m ∈ msL j l,m=n)->CB8 j n j' l=Cx2 j j' l
 | [],_=>rfl
 | a :: r,h=>by simp only [CB8,Cx2,BU6 (r:=msL j r) h,BU7 fun m hm=>h m (Cl3 m hm)]
theorem BU8 {j n j' : Nat}:∀ {l:Env},(∀ m ∈ msE j l,m=n)->CB7 j n j' l=Cx3 j j' l
 | [],_=>rfl
 | (t,a) :: r,h=>by simp only [CB7,Cx3,BU6 (r:=msE j r) h,BU8 fun m hm=>h m (Cl3 m hm)]
theorem Bp9 {j n j' : Nat}:∀ {l:D2},(∀ m ∈ msR j l,m=n)->BR3 j n j' l=Ca4 j j' l
 | [],_=>rfl
 | (t,o) :: r,h=>by
  cases o with
  | cells cs=>simp only [BR3,Ca4,CM9,BU7 fun m hm=>h m (List.mem_append_left _ hm),Bp9 fun m hm=>h m (List.mem_append_right _ hm)]
  | _=>simp only [BR3,Ca4,CM9,Bp9 (l:=r) h]
def truC (j j' : Nat) (e:TypeId) (k n:Nat) (f:Nat->List PV):Cfg->Cfg
 | .ops all rest K st=>mkO (Cx3 j j' st.env) (ins j' (.vec e k n f false) (ins j .dead (Ca4 j j' st.regs))) fun env regs=>.ops all rest K ⟨env,regs⟩
 | g=>g
theorem CS1 (hS:I2 S P) (hc:pr) (d j n j' : Nat) {e:TypeId} {k N:Nat} {f:Nat->List PV} (hn:n<=N) (hk:KG S P F (truC j j' e k n f (Bj3 P d g))) (hp:pr=E9 (cndU P d g):=by kernel_rfl) (ho:AW0 (Bj3 P d g)=true:=by kernel_rfl)
 (hr:A5 (Bj3 P d g).st.regs j=some (.vec e k N f false):=by kernel_rfl) (hf:A5 (Bj3 P d g).st.regs j' = none:=by kernel_rfl) (h1:Nat.ble 1000 j' = true:=by kernel_rfl)
 (hm:(msE j (Bj3 P d g).st.env ++ msR j (Bj3 P d g).st.regs)=List.replicate (msE j (Bj3 P d g).st.env ++ msR j (Bj3 P d g).st.regs).length n:=by kernel_rfl):KG S P F g:=by
 refine ⟨(AT9 (u:=some d) (F:=F) hS 400 [] g (by subst hp;exact hc)).2 ?_⟩
 have hk:=hk.out
 show G S P F (Bj3 P d g)
 generalize Bj3 P d g=g' at ho hr hf hk hm
 unfold AW0 at ho
 split at ho
 ·rename_i st
  have hall:∀ m ∈ msE j st.env ++ msR j st.regs,m=n:=fun m h=>by
   rw [show msE j st.env ++ msR j st.regs=_ from hm] at h
   exact (List.mem_replicate.1 h).2
  simp only [truC,AG8] at hk
  refine Ch2 hS (hS.trunc _ j j' n N k e f _ hr hn hf (Nat.le_of_ble_eq_true h1) ?_)
  rw [BU8 fun m h=>hall m (List.mem_append_left _ h),Bp9 fun m h=>hall m (List.mem_append_right _ h)]
  exact hk
 ·cases ho
end
abbrev cA {α : Type} (n:Nat) (c : α -> PV) (f:Nat -> α):List PV:=Ai6 n (fun i=>c (f i))
theorem E7 (n:Nat) (f:Nat->PV):(Ai6 n f).length=n:=by simp [Ai6]
theorem D7 (n:Nat) (f:Nat->PV):∀ i,i < n->[(Ai6 n f).getD i default]=[f i]:=by
 intro i hi
 simp [Ai6,List.getD_eq_getElem?_getD,hi]
theorem Af0 {n:Nat} {z:PV} {ps:List PV} (h:ps=List.replicate n z):∀ i,i < n->[ps.getD i default]=[z]:=by
 intro i hi
 subst h
 simp [List.getD_eq_getElem?_getD,hi]
theorem Ca5 {n:Nat} {f g:Nat->PV} (h:∀ i,i < n->[f i]=[g i]):Ai6 n f=Ai6 n g:=by
 unfold Ai6
 exact List.map_congr_left fun i hi=>by have:=h i (List.mem_range.1 hi);injection this
abbrev AW4 {α : Type} (f:Nat -> α) (k:Nat) (x : α):Nat -> α:=fun i=>if i=k then x else f i
theorem CJ1 {α : Type} {c : α -> PV} {n k:Nat} {v:Nat -> α} {f:Nat->PV} {e:PV} {x : α} (h:∀ i,i < n->[f i]=[c (v i)]) (hx:e=c x):∀ i,i < n->[if i=k then e else f i]=[c (if i=k then x else v i)]:=by
 intro i hi
 by_cases h1:i=k
 ·rw [if_pos h1,if_pos h1,hx]
 ·rw [if_neg h1,if_neg h1];exact h i hi
theorem app1H {α : Type} {c : α -> List PV} {n:Nat} {v:Sl α} {f g:Nat->List PV} {z : α} (h:∀ i,i < n->f i=c (v.g i)) (hn:n=v.n):∀ i,i < n+1->i ≠ v.n->T4 n f g i=c ((v.push z).g i):=by
 subst hn
 intro i hi hne
 have hl:i < v.n:=by omega
 show (if i < v.n then f i else g (i - v.n))=c (if i < v.n then v.g i else z)
 rw [if_pos hl,if_pos hl];exact h i hl
theorem setH {α : Type} {c : α -> List PV} {n k:Nat} {v:Sl α} {f e:Nat->List PV} {x : α} (h:∀ i,i < n->i ≠ k->f i=c (v.g i)) (hx:k < n->e k=c x):∀ i,i < n->(fun l=>if l=k then e l else f l) i=c ((v.upd k x).g i):=by
 intro i hi
 show (if i=k then e i else f i)=c (if i=k then x else v.g i)
 split
 ·subst_vars;exact hx hi
 ·exact h i hi ‹_›
end Go.AM
set_option linter.unusedVariables false
namespace Go.AM
theorem Bz1 {P:Program} {f:FuncId} {vw:Bool} {args:List PV} {e:TypeId} {k n:Nat} {g:Nat->List PV} (hent:∀ as w,(callFunc f as).run P w=.ok (.enter f as) w) (hk:∀ i,i < n->(g i).length=k)
 (h:∀ (w:World) (Pi:Nat->Nat->Prop) (vs:Array Value),(∀ b off,Pi b off->b < w.heap.size)->vs.size=args.length->(∀ i,i < args.length->RepP w Pi (vs.getD i undef) (args.getD i default)) ->
  Calls P f vs w fun x w'=>∃ v,x=.returned v/\RowKit.Below w.heap.size w w' /\ ((v=.slice none 0 0/\n=0) \/ ∃ b cap c,v=.slice (some ⟨b,0,none⟩) n cap/\w.heap.size<=b/\w'.heap[b]? = some (.cells c e (0,0))/\n<=cap/\c.size=cap * k/\cap<=maxLen /\
   ∀ i j,i < n->j < k->RepP w Pi (c.getD (i * k+j) undef) ((g i).getD j default)/\(c.getD (i * k+j) undef).oneCell' = true)):FunO (AA0 P) f (args.map .p) [] (.vec 0) [.vec e k n g vw] []:=by
 intro 𝒢 C w vs rho hG hs hsz
 have hno0:∀ j,A5 (objRegs []) j=none:=fun j=>by simp [objRegs,objRegs.go,A5]
 have h0:=h w (Prv C.X (A5 (objRegs [])) rho) vs (fun b off hp=>by
  rcases hp with hp | ⟨j,o,hj,_⟩
  ·exact hs.hp.bound b off hp
  ·simp [hno0] at hj) (by simpa using hsz) (fun i hi=>by
  have:=hs.env i
  rw [Ab9] at this
  have e:(args.map AV.p).getD i .top=.p (args.getD i default):=by simp [hi]
  rw [e] at this
  exact this.toP)
 refine ⟨_,_,hent _ _,callsIn_wide.2 (h0.mono ?_)⟩
 rintro x w' ⟨v,rfl,hb,hv⟩
 have hR:∀ j o,A5 (objRegs [Obj.vec e k n g vw]) j=some o->j=0/\o=.vec e k n g vw:=fun j o hj=>by
  simp only [objRegs,objRegs.go,A5] at hj
  split at hj
  ·rename_i hj0;cases hj;exact ⟨hj0.symm,rfl⟩
  ·cases hj
 have hR0:A5 (objRegs [Obj.vec e k n g vw]) 0=some (.vec e k n g vw):=rfl
 let rho' : Nat->Value:=fun j=>if j=0 then v else rho j
 have hr0:rho' 0=v:=rfl
 have hblk:∀ b,G8 v (.vec e k n g vw)=some b->w.heap.size<=b/\b < w'.heap.size:=by
  intro b hbv
  rcases hv with ⟨rfl,_⟩ | ⟨b',cap,c,rfl,h1,h2,_⟩
  ·cases hbv
  ·cases hbv;exact ⟨h1,(Array.getElem?_eq_some_iff.1 h2).1⟩
 have hprv:∀ b o,Prv C.X (A5 (objRegs [Obj.vec e k n g vw])) rho' b o->C.X b o \/ w.heap.size<=b:=by
  rintro b o (hX | ⟨j,o',hj,hbo,_⟩)
  ·exact .inl hX
  ·obtain ⟨rfl,rfl⟩:=hR j o' hj;exact .inr (hblk b hbo).1
 have hkeep:Keeps w (Prv C.X (A5 (objRegs [])) rho) w' (Prv C.X (A5 (objRegs [Obj.vec e k n g vw])) rho'):=fun b o u hp hc=>by
  have hlt:=World.block_lt_of_cell? w ⟨b,o,none⟩ hc
  refine ⟨by rw [<- hc];exact World.cell?_of_block (hb.block b hlt),fun hpp=>?_⟩
  rcases hprv b o hpp with hX | hge
  ·exact hp (.inl hX)
  ·have:b < w.heap.size:=hlt
   omega
 refine ⟨C, .ret (.vec 0), [.vec e k n g vw], [],rho',hG,⟨rfl,rfl,rfl⟩, ?_,⟨v,rfl, ?_⟩,fun i hi=>by simp at hi⟩
 ·refine ⟨⟨fun j o hj=>?_,fun i j oi oj b hi hj _ _=>by rw [(hR i oi hi).1,(hR j oj hj).1],fun j o b off hj hbo hX=>?_,fun b off hp=>Nat.lt_of_lt_of_le (hs.hp.bound b off hp) hb.size⟩,hs.ext.trans ⟨hb.os,hb.output⟩,Nat.le_trans hs.size hb.size,fun b hlt hE=>?_,hs.keep.trans hkeep,fun b hbo=>?_,fun j r b hj=>by cases (hR j _ hj).2⟩
  ·obtain ⟨rfl,rfl⟩:=hR j o hj
   rw [hr0]
   rcases hv with hn | ⟨b,cap,c,rfl,h1,h2,h3,h4,h5,h6⟩
   ·exact .inl hn
   ·exact .inr ⟨b,cap,c,rfl,h2,h3,h4,h5,hk,fun i j hi hj=>⟨(h6 i j hi hj).1.keeps hkeep,(h6 i j hi hj).2⟩⟩
  ·obtain ⟨rfl,rfl⟩:=hR j o hj
   have h1:=(hblk b hbo).1
   have h2:=hs.hp.bound b off hX
   omega
  ·rw [hb.block b (Nat.lt_of_lt_of_le hlt hs.size)];exact hs.same b hlt hE
  ·obtain ⟨j,o,hj,hbo⟩:=hbo
   obtain ⟨rfl,rfl⟩:=hR j o hj
   exact .inr (Nat.le_trans hs.size (hblk b hbo).1)
 ·rcases hv with ⟨rfl,_⟩ | ⟨b,cap,c,rfl,_⟩
  ·exact .vec 0 none 0 0 (by simp [Lv,hR0]) rfl
  ·exact .vec 0 _ n cap (by simp [Lv,hR0]) rfl
end Go.AM
set_option linter.unusedVariables false
namespace Go.AM
open Go.RowKit Go.ChangeShapes
end Go.AM
set_option linter.unusedVariables false
namespace Go.AM
section
variable {S:Ag9} {P:Program} {F:J1} {K:List It} {st:St} {g:Cfg} {pr:Prop}
def CJ2 (p:Option PV) (r:Bd2):Prop:=match p with
 | none=>∃ a,r=.ret a
 | some x=>r=.panic x
def AW5 (S:Ag9) (f:FuncId) (first caps:List AV) (objs:List Obj) (L:List (List PV)) (p:Option PV):Prop:=
 S.F f (first ++ .yf objs.length :: caps) (objs ++ [.yld L true]) fun r objs' ks=>∃ b,objs'[objs.length]? = some (.yld [] b)/\ks[objs.length]? = some true/\(b=true->CJ2 p r)/\(b=false->∃ a,r=.ret a)
def endP:Option PV->AT5
 | none=>.normal
 | some x=>.panic x
theorem Cx4 (hS:I2 S P) {g:Operand} {ps:Array Tmp} {asg body:Code} {f:FuncId} {first caps as bs:List AV} {objs:List Obj} (ids ts:List Nat) (gh:Nat) (L:List (List PV)) {p:Option PV} {X:Type} (s:X->St) (J:List (List PV)->X->Prop) (x0:X) (idl:List (Nat × Nat))
 (hp:Ao0 st.env g=some (f,first,caps)) (hfn:∃ fn,P.funcs[f]? = some fn/\fn.body.isSome=true/\(fn.name == "runtime.NumGoroutine")=false) (hob:I7 ids st.regs ids=some objs) (hny:Ap3 objs=true) (hd:F7 ids=true) (hr1:Aj5 ids first=some as) (hr2:Aj5 ids caps=some bs) (hol:objs.length=ids.length)
 (hgh:gh < 1000) (hng:A5 st.regs gh=none) (hil:ids.length < 1000) (hts:F7 ts=true) (hlen:∀ ys ∈ L,ys.length=ps.size)
 (hF:AW5 S f as bs objs L p) (hle:Le idl ⟨T9 ts (ts.map (get st.env)),N5 ids (ids.map fun _=>false) st.regs⟩ (s x0)) (h0:J L x0) (hk:∀ x,(s x).env.map (·.1)=ts) (hn:∀ x,A5 (s x).regs gh=none)
 (hround:∀ ys rest x,J (ys :: rest) x->G S P (Ac9 S P body gh ts (Cw2 s J rest) (kp S P K F)) (.code asg [] ⟨AF6 ps.toList ys (s x).env,ins gh (.ghost ((s x).env.map (·.2))) (s x).regs⟩))
 (hend:∀ x,J [] x->G S P F (.pop (endP p) K (s x))):G S P F (.code (.rangeFunc g ps asg body) K st):=by
 have hdup:∀ {l:List Nat},F7 l=true->l.Nodup:=by
  intro l
  induction l with
  | nil=>intro _;exact List.nodup_nil
  | cons a r ih=>
   intro h
   simp only [F7,Bool.and_eq_true,Bool.not_eq_true',List.contains_eq_mem,decide_eq_false_iff_not] at h
   exact List.nodup_cons.2 ⟨h.1,ih h.2⟩
 refine ⟨f,first,caps,as,bs,objs,ids,ts,gh,L,Cw2 s J,fun b r=>b=true->CJ2 p r,hp,hfn,hny,hd,hr1,hr2,hob,hgh,hng,hil,hdup hts,hlen,hS.le idl _ _ _ hle ⟨hk x0,hn x0,x0,rfl,h0⟩, ?_, ?_, ?_⟩
 ·rintro ys rest _ _ _ ⟨x,rfl,hJ⟩
  have h:=hround ys rest x hJ
  have e:Ac9 S P body gh ts (Cw2 s J rest) (kp S P K F)=fun e s'=>match e with
   | .normal=>S.up s' fun s'=>awp S P body (Ao1 S gh ts (Cw2 s J rest) (kp S P K F)) s'
   | _=>False:=by funext e s';cases e <;> rfl
  rw [e] at h
  exact h
 ·rintro _ r _ _ ⟨x,rfl,hJ⟩ hf
  have h1:=hf rfl
  have h2:=hend x hJ
  cases p with
  | none=>obtain ⟨a,rfl⟩:=h1;exact h2
  | some y=>cases h1;exact h2
 ·rw [<- hol]
  refine hS.monoF _ _ _ _ _ ?_ hF
  rintro r o ks ⟨b,h1,h2,h3,h4⟩
  exact ⟨b,h1,h2,h3,h4⟩
theorem Cx5 (hS:I2 S P) {g:Operand} {ps:Array Tmp} {asg body:Code} {f:FuncId} {first caps as bs:List AV} {objs:List Obj} {R T A:Type} {enc:T->List PV} {L:List T} {p:Option PV} {mb:(A->Option R)->T->A->Option R} {mk:A->Option R} {a0:A} {r:R}
 (ids ts:List Nat) (gh:Nat) (s:A->St) (idl:List (Nat × Nat)) (h:K4 L mb mk a0=some r) (hF:AW5 S f as bs objs (L.map enc) p)
 (hp:Ao0 st.env g=some (f,first,caps)) (hfn:∃ fn,P.funcs[f]? = some fn/\fn.body.isSome=true/\(fn.name == "runtime.NumGoroutine")=false) (hob:I7 ids st.regs ids=some objs) (hny:Ap3 objs=true) (hd:F7 ids=true) (hr1:Aj5 ids first=some as) (hr2:Aj5 ids caps=some bs) (hol:objs.length=ids.length)
 (hgh:Nat.blt gh 1000=true) (hng:A5 st.regs gh=none) (hil:Nat.blt ids.length 1000=true) (hts:F7 ts=true) (hlen:∀ t:T,(enc t).length=ps.size)
 (hle:Le idl ⟨T9 ts (ts.map (get st.env)),N5 ids (ids.map fun _=>false) st.regs⟩ (s a0)) (hk:∀ a,(s a).env.map (·.1)=ts) (hn:∀ a,A5 (s a).regs gh=none)
 (hround:∀ (t:T) (next:St->Prop) (self:A->Option R) (a:A),(∀ (st st1:St) (cs:List AV) (idl:List (Nat × Nat)) (a:A),Le idl st st1->A5 st1.regs gh=some (.ghost cs)->cs.length=ts.length->A5 (del gh st1.regs) gh=none->(⟨T9 ts cs,del gh st1.regs⟩:St)=s a->self a=some r->G S P (Ao1 S gh ts next (kp S P K F)) (.pop .normal [] st)) ->
  mb self t a=some r->G S P (Ac9 S P body gh ts next (kp S P K F)) (.code asg [] ⟨AF6 ps.toList (enc t) (s a).env,ins gh (.ghost ((s a).env.map (·.2))) (s a).regs⟩))
 (hend:∀ a,mk a=some r->G S P F (.pop (endP p) K (s a))):G S P F (.code (.rangeFunc g ps asg body) K st):=by
 refine Cx4 hS ids ts gh (L.map enc) s (fun rest a=>∃ L',rest=L'.map enc/\K4 L' mb mk a=some r) a0 idl hp hfn hob hny hd hr1 hr2 hol (by simpa [Nat.blt_eq] using hgh) hng (by simpa [Nat.blt_eq] using hil) hts (fun ys hy=>?_) hF hle ⟨L,rfl,h⟩ hk hn ?_ ?_
 ·obtain ⟨t,_,rfl⟩:=List.mem_map.1 hy;exact hlen t
 ·rintro ys rest a ⟨L',hL,hx⟩
  cases L' with
  | nil=>cases hL
  | cons t L'=>
   simp only [List.map_cons,List.cons.injEq] at hL
   obtain ⟨rfl,rfl⟩:=hL
   refine hround t _ (K4 L' mb mk) a (fun st st1 cs idl a hle h1 h2 h3 h4 h5=>?_) hx
   exact BJ3 hS st1 a idl hle h1 h2 h3 h4 ⟨L',rfl,h5⟩
 ·rintro a ⟨L',hL,hx⟩
  cases L' with
  | nil=>exact hend a hx
  | cons t L'=>cases hL
theorem BU9 (hS:I2 S P) (hc:pr) {f:FuncId} {as bs:List AV} {objs:List Obj} {R T A:Type} {enc:T->List PV} {L:List T} {p:Option PV} {mb:(A->Option R)->T->A->Option R} {mk:A->Option R} {a0:A} {r:R}
 (ids ts:List Nat) (gh:Nat) (s:A->St) {idl:List (Nat × Nat)} (h:K4 L mb mk a0=some r) (hF:AW5 S f as bs objs (L.map enc) p)
 (hlen:∀ t:T,(enc t).length=(AB9 (stp P g)).size) (hk:∀ a,(s a).env.map (·.1)=ts) (hn:∀ a,A5 (s a).regs gh=none) (hb0:∀ a,(⟨T9 ts ((s a).env.map (·.2)),del gh (ins gh (.ghost ((s a).env.map (·.2))) (s a).regs)⟩:St)=s a)
 (hround:∀ (t:T) (next:St->Prop) (self:A->Option R) (a:A),
  (∀ (g' : Cfg) (ids:List (Nat × Nat)) (pr:Prop) (a:A),pr->self a=some r->(hp:pr=E9 (cnd P g'):=by kernel_rfl)->(he:stp P g' = .pop .normal [] (stp P g').st:=by kernel_rfl)->(hle:KLe ids (stp P g').st (rst gh (s a)):=by exact kl)->KG S P (Ao1 S gh ts next (kp S P (stp P g).k F)) g') ->
  mb self t a=some r->KG S P (Ac9 S P (By8 (stp P g)) gh ts next (kp S P (stp P g).k F)) (.code (By7 (stp P g)) [] (Bz0 gh (AB9 (stp P g)) (enc t) (s a))))
 (hend:∀ a,mk a=some r->KG S P F (.pop (endP p) (stp P g).k (s a)))
 (hp:pr=E9 (cnd P g):=by kernel_rfl) (he:By6 P ids (stp P g)=some (f,as,bs,objs):=by kernel_rfl) (hgh:Nat.blt gh 1000=true:=by kernel_rfl) (hng:A5 (stp P g).st.regs gh=none:=by kernel_rfl) (hts:F7 ts=true:=by kernel_rfl)
 (hle:KLe idl (By9 ids ts (stp P g)) (s a0):=by exact kl):KG S P F g:=by
 refine ⟨Ax0 hS hc ?_ hp⟩
 have hfn:=(AA2 he).2
 replace he:=(AA2 he).1
 generalize stp P g=g1 at hlen hround hend he hng hle
 unfold AW3 at he
 split at he
 ·rename_i op ps asg body K st
  split at he
  ·rename_i f' first caps hpo
   split at he
   ·rename_i objs' as' bs' h2 h3 h4
    split at he
    ·rename_i hh
     simp only [Option.some.injEq,Prod.mk.injEq] at he
     obtain ⟨rfl,rfl,rfl,rfl⟩:=he
     simp only [Bool.and_eq_true,Bool.not_eq_true',beq_iff_eq] at hh
     obtain ⟨⟨⟨e3,e4⟩,e5⟩,e6⟩:=hh
     refine Cx5 hS ids ts gh s idl h hF hpo hfn h2 e3 e4 h3 h4 e5 hgh hng e6 hts hlen hle.out hk hn (fun t next self a hb hm=>?_) (fun a hm=>(hend a hm).out)
     refine (hround t next self a (fun g' ids' pr a hc hself hp he hle=>⟨Ax0 hS hc ?_ hp⟩) hm).out
     rw [he]
     have hl:((s a).env.map (·.2)).length=ts.length:=by rw [<- hk a];simp
     refine hb _ (rst gh (s a)) ((s a).env.map fun p=>p.2) ids' a hle.out (Ax2 gh (s a)) hl ?_ (hb0 a) hself
     have:=congrArg St.regs (hb0 a)
     simp only at this
     show A5 (del gh (ins gh _ _)) gh=none
     rw [this];exact hn a
    ·cases he
   ·cases he
  ·cases he
 ·cases he
theorem Cl4 (hS:I2 S P) {f:FuncId} {fn:Func} {first caps:List AV} {objs:List Obj} {L:List (List PV)} {p:Option PV} (hf:P.funcs[f]? = some fn)
 (h:KG S P (Ai9 S P (objs ++ [Obj.yld L true]).length fn.results.toList fun r objs' ks=>∃ b,objs'[objs.length]? = some (.yld [] b)/\ks[objs.length]? = some true/\(b=true->CJ2 p r)/\(b=false->∃ a,r=.ret a)) (.code (fn.body.getD .skip) [] { env:=argEnv (first ++ .yf objs.length :: caps),regs:=objRegs (objs ++ [Obj.yld L true]) }))
 (hc:fn.body.isSome=true:=by kernel_rfl) (hn:Nat.ble (first ++ .yf objs.length :: caps).length fn.ntmps=true:=by kernel_rfl) (ho:Nat.blt (objs ++ [Obj.yld L true]).length 1000=true:=by kernel_rfl)
 (hco:Y6 fn.ntmps (fn.body.getD .skip)=true:=by kernel_rfl) (hnm:(fn.name == "runtime.NumGoroutine")=false:=by kernel_rfl):AW5 S f first caps objs L p:=by
 obtain ⟨code,hcode⟩:=Option.isSome_iff_exists.1 hc
 rw [hcode,Option.getD_some] at hco h
 exact AL1 hS hf hcode (Nat.le_of_ble_eq_true hn) (by simpa [Nat.blt_eq] using ho) rfl hco hnm h.out
theorem Cx6 (hS:I2 S P) {f:FuncId} {fn:Func} {args:List AV} {objs:List Obj} {Q:Bd2->List Obj->List Bool->Prop} (hf:P.funcs[f]? = some fn)
 (h:KG S P (Ai9 S P objs.length fn.results.toList Q) (.code (fn.body.getD .skip) [] { env:=argEnv args,regs:=objRegs objs }))
 (hc:fn.body.isSome=true:=by kernel_rfl) (hn:Nat.ble args.length fn.ntmps=true:=by kernel_rfl) (ho:Nat.blt objs.length 1000=true:=by kernel_rfl)
 (hco:Y6 fn.ntmps (fn.body.getD .skip)=true:=by kernel_rfl) (hnm:(fn.name == "runtime.NumGoroutine")=false:=by kernel_rfl):S.F f args objs Q:=by
 obtain ⟨code,hcode⟩:=Option.isSome_iff_exists.1 hc
 rw [hcode,Option.getD_some] at hco h
 exact AL1 hS hf hcode (Nat.le_of_ble_eq_true hn) (by simpa [Nat.blt_eq] using ho) rfl hco hnm h.out
def panE:Cfg->Option PV
 | .ops all (o :: _) _ st=>match Au4 all st.env o,o.op with
  | some true, .panic x=>match aev st.env x with
   | .p (.iface t y)=>some (.iface t y)
   | _=>none
  | _,_=>none
 | _=>none
def panC (x:PV):Cfg->Cfg
 | .ops _ _ K st=>.pop (.panic x) K st
 | g=>g
theorem CJ3 (hS:I2 S P) (hc:pr) {x:PV} (hk:KG S P F (panC x (stp P g))) (hp:pr=E9 (cnd P g):=by kernel_rfl) (he:panE (stp P g)=some x:=by kernel_rfl):KG S P F g:=by
 refine ⟨Ax0 hS hc ?_ hp⟩
 have hk:=hk.out
 generalize stp P g=g1 at hk he
 unfold panE at he
 split at he
 ·rename_i all o rest K st
  split at he
  ·rename_i y hg ho
   split at he
   ·rename_i t z hx
    cases he
    exact CH6 hS hg ho hx hk
   ·cases he
  ·cases he
 ·cases he
def Cx7:Cfg->Option PV
 | .pop (.panic x) [] _=>some x
 | _=>none
theorem CD0 (hS:I2 S P) (hc:pr) {n:Nat} {rs:List ResultVar} {Q:Bd2->List Obj->List Bool->Prop} {x:PV} {objs:List Obj} (outs:List Nat) (hQ:Q (.panic x) objs (Av9 n outs)) (hp:pr=E9 (cnd P g):=by kernel_rfl)
 (he:Cx7 (stp P g)=some x:=by kernel_rfl) (hd:F7 outs=true:=by kernel_rfl) (hr:I7 outs (stp P g).st.regs outs=some objs:=by kernel_rfl):KG S P (Ai9 S P n rs Q) g:=by
 refine ⟨Ax0 hS hc ?_ hp⟩
 generalize stp P g=g1 at he hr
 unfold Cx7 at he
 split at he
 ·cases he
  exact ⟨outs,objs,hd,hr,hQ⟩
 ·cases he
theorem CD1 {k:Nat} {g:Nat->List PV}:AV.p (.v (.slice none 0 0))=.p (.sl false k 0 g) \/ ∃ x y,AV.p (.v (.slice none 0 0))=.p x/\AV.p (.sl false k 0 g)=.p y/\leP x y:=
 .inr ⟨_,_,rfl,rfl, .inr (.inr (.inl ⟨_,_,rfl,rfl⟩))⟩
theorem CJ4 (hS:I2 S P) {all rest:List Oper} {o:Oper} {c:Call} {f:Operand} {as:List AV} {regs:D2} {fn:FuncId} {as' args:List AV} {objs objs' : List Obj} {ks:List Bool} {x:PV} (ids:List Nat)
 (hg:Au4 all st.env o=some true) (ho:o.op=.call c) (hf:c.callee=.value f) (ha:Bd3 st.regs (c.args.toList.map (aev st.env))=some (as,regs))
 (hw:BH3 st.env f as=some (fn,as')) (hr:Aj5 ids as' = some args) (hob:I7 ids regs ids=some objs) (hF:S.F fn args objs fun res o k=>res=.panic x/\o=objs' /\ k=ks)
 (hd:F7 ids=true) (hy:Ap3 objs=true) (hn:Ak4 regs ids ks (o.dst.getD 0) objs'.length=true)
 (hk:G S P F (.pop (.panic x) K { env:=st.env,regs:=Cg1 (N4 (o.dst.getD 0) ids ks objs'.length) (N4 (o.dst.getD 0) ids ks objs'.length) objs' (N5 ids ks regs) })) :
 G S P F (.ops all (o :: rest) K st):=by
 refine Aw0 hS hg ?_
 unfold wOp
 obtain ⟨callee,cargs,types⟩:=c
 simp only at hf ha
 subst hf
 rw [ho]
 refine .inl ⟨as,regs,_,_, .inl ha,hw,ids,args,objs,hd,hr,hob,hy,hS.monoF _ _ _ _ _ ?_ hF⟩
 rintro _ _ _ ⟨rfl,rfl,rfl⟩
 exact ⟨hn,hk⟩
def CD2 (ids:List Nat) (ks:List Bool) (x:PV) (objs' : List Obj):Cfg->Cfg
 | .ops all (o :: rest) K st=>match o.op with
  | .call c=>match Bd3 st.regs (c.args.toList.map (aev st.env)) with
   | some (_,regs)=>mkO st.env (Cg1 (N4 (o.dst.getD 0) ids ks objs'.length) (N4 (o.dst.getD 0) ids ks objs'.length) objs' (N5 ids ks regs)) fun env regs=>.pop (.panic x) K ⟨env,regs⟩
   | none=>.ops all (o :: rest) K st
  | _=>.ops all (o :: rest) K st
 | g=>g
theorem CJ5 (hS:I2 S P) (ids:List Nat) (hc:pr) {fn:FuncId} {args:List AV} {objs objs' : List Obj} {x:PV} {ks:List Bool} (hF:S.F fn args objs fun res o k=>res=.panic x/\o=objs' /\ k=ks)
 (hk:KG S P F (CD2 ids ks x objs' (stp P g))) (hp:pr=E9 (cnd P g):=by kernel_rfl) (he:Ck5 ids (stp P g)=some (fn,args,objs):=by kernel_rfl) (hn:Ck6 ids ks objs'.length (stp P g)=true:=by kernel_rfl):KG S P F g:=by
 refine ⟨Ax0 hS hc ?_ hp⟩
 replace hk:=hk.out
 generalize stp P g=g' at he hn hk
 unfold Ck5 at he
 split at he
 ·split at he
  ·rename_i hg ho
   split at he
   ·rename_i hcl
    split at he
    ·rename_i ha
     split at he
     ·rename_i hw
      split at he
      ·rename_i hr hob
       split at he
       ·rename_i hdy
        cases he
        simp only [Bool.and_eq_true] at hdy
        simp only [CD2,Ck6,ho,ha,AG8] at hk hn
        exact CJ4 hS ids hg ho hcl ha hw hr hob hF hdy.1 hdy.2 hn hk
       ·cases he
      ·cases he
     ·cases he
    ·cases he
   ·cases he
  ·cases he
 ·cases he
def Bj5 (S:Ag9) (R:St->Prop) (X:PV->St->Prop):J1
 | .normal,st=>S.up st R
 | .panic x,st=>X x st
 | _,_=>False
theorem K_upN (hS:I2 S P) (hc:pr) {R:St->Prop} {X:PV->St->Prop} (st:St) {ids:List (Nat × Nat)} (hR:R st) (hp:pr=E9 (cnd P g):=by kernel_rfl) (he:stp P g=.pop .normal [] (stp P g).st:=by kernel_rfl)
 (hle:KLe ids (stp P g).st st:=by exact kl):KG S P (Bj5 S R X) g:=by
 refine ⟨Ax0 hS hc ?_ hp⟩
 rw [he]
 exact hS.le ids _ _ R hle.out hR
theorem K_upP (hS:I2 S P) (hc:pr) {R:St->Prop} {X:PV->St->Prop} {x:PV} (hX:X x (stp P g).st) (hp:pr=E9 (cnd P g):=by kernel_rfl) (he:Cx7 (stp P g)=some x:=by kernel_rfl):KG S P (Bj5 S R X) g:=by
 refine ⟨Ax0 hS hc ?_ hp⟩
 generalize stp P g=g1 at he hX
 unfold Cx7 at he
 split at he
 ·cases he
  exact hX
 ·cases he
end
end Go.AM
set_option linter.unusedVariables false
namespace Go.AM
section
variable {S:Ag9} {P:Program} {F:J1} {K:List It} {g:Cfg} {pr:Prop}
theorem BK1 (hS:I2 S P) {all:List Oper} {o:Oper} {k k' : St->Prop} {Q Q' : J1} (hk:∀ s,k s->k' s) (hq:∀ x s,Q (.panic x) s->Q' (.panic x) s) {st:St} (h:Av5 S P all o k Q st):Av5 S P all o k' Q' st:=by
 have e:∀ st,wOp S P o k Q st->wOp S P o k' Q' st:=by
  intro st h
  have hcall:∀ d ids f args st,BH2 S d ids f args st (AB4 o.dst k Q)->BH2 S d ids f args st (AB4 o.dst k' Q'):=by
   rintro d ids f args st ⟨a,ob,h1,h2,h3,h4,h5⟩
   refine ⟨a,ob,h1,h2,h3,h4,hS.monoF _ _ _ _ _ (fun r o ks ⟨h6,h7⟩=>⟨h6, ?_⟩) h5⟩
   cases r with
   | ret a=>exact hk _ h7
   | panic x=>exact hq _ _ h7
  unfold wOp at h ⊢
  split at h
  ·rcases h with ⟨as,regs,f',as',h1,h2,ids,h3⟩ | ⟨j,xs,regs,ys,rest,h1,h2,h3,h4,h5,h6⟩
   ·exact .inl ⟨as,regs,f',as',h1,h2,ids,hcall _ _ _ _ _ h3⟩
   ·exact .inr ⟨j,xs,regs,ys,rest,h1,h2,h3,h4,h5,fun b=>hk _ (h6 b)⟩
  ·obtain ⟨as,regs,t,y,f',h1,h2,h3,ids,h4⟩:=h
   exact ⟨as,regs,t,y,f',h1,h2,h3,ids,hcall _ _ _ _ _ h4⟩
  ·obtain ⟨t,y,h1,h2⟩:=h
   exact ⟨t,y,h1,hq _ _ h2⟩
  ·rcases h with ⟨out,h1,h2,h3⟩ | ⟨c,x,h1,h2,h3⟩
   ·exact .inl ⟨out,h1,h2,hk _ h3⟩
   ·exact .inr ⟨c,x,h1,h2,hk _ h3⟩
 unfold Av5 at h ⊢
 refine hS.mono _ _ _ (fun t h=>?_) h
 split at h
 ·exact e _ h
 ·obtain ⟨b,h1,h2⟩:=h
  refine ⟨b,h1, ?_⟩
  split
  ·rename_i hb;rw [if_pos hb] at h2;exact e _ h2
  ·rename_i hb;rw [if_neg hb] at h2;exact hk _ h2
def CJ6 (all:List Oper) (n:Nat):Bool:=
 Nat.blt n all.length && (List.range all.length).all fun i=>Nat.blt i n || (List.range i).all fun j=>((CP6 all).getD i []).contains j
def BK2 (all:List Oper) (n:Nat):Bool:=(all.take n).all fun o=>match o.guard with
 | some (j,_)=>Nat.blt j n
 | none=>true
theorem Ca6 (all:List Oper) {n:Nat} (hg:BK2 all n=true) {o:Oper} (ho:o ∈ all.take n) {k:St->Prop} {Q:J1} {s:St} (h:Av5 S P (all.take n) o k Q s):Av5 S P all o k Q s:=by
 have h1:=List.all_eq_true.1 hg o ho
 unfold Av5 at h ⊢
 cases hgd:o.guard with
 | none=>simpa only [hgd] using h
 | some q=>
  obtain ⟨j,want⟩:=q
  simp only [hgd,Nat.blt_eq] at h1 h ⊢
  have e:AB0 (all.take n) j=AB0 all j:=by
   unfold AB0
   rw [List.getElem?_take,if_pos h1]
  rw [e] at h
  exact h
theorem Bz2 (hS:I2 S P) {all:List Oper} {n:Nat} {Q:J1} {st:St} (hdep:AB5 all=true) (hB:CJ6 all n=true) (hg:BK2 all n=true)
 (h:BX5 S P (all.take n) (fun e s=>match e with | .normal=>AN6 S P all (all.drop n) Q s | .panic x=>Q (.panic x) s | _=>False) st):BX5 S P all Q st:=by
 obtain ⟨hmix,hdp,Inv,h0,hstep,hend⟩:=h
 simp only [CJ6,Bool.and_eq_true,Nat.blt_eq,List.all_eq_true,List.mem_range,Bool.or_eq_true,List.contains_eq_mem,decide_eq_true_eq] at hB
 obtain ⟨hn,hB⟩:=hB
 let down:(Nat->Bool)->Prop:=fun D=>∀ i o,D i=true->all[i]? = some o->∀ e ∈ o.after.toList,Ak6 e=true->D e.on=true
 let Inv' : (Nat->Bool)->St->Prop:=fun D s=>down D/\(((∀ i,n<=i->D i=false)/\Inv D s) \/ ∃ j,n<=j/\j<=all.length/\(∀ i,i < all.length->(D i=true ↔ i < j))/\AN6 S P all (all.drop j) Q s)
 refine ⟨hmix,hdep,Inv',⟨fun i o hi=>(by cases hi), .inl ⟨fun _ _=>rfl,h0⟩⟩, ?_, ?_⟩
 ·intro D i s o ⟨hD,hc⟩ ho hDi hready
  have hin:i < all.length:=(List.getElem?_eq_some_iff.1 ho).1
  have hanc:=AL0 hdep hD i o ho hready
  have hdown:down fun j=>if j=i then true else D j:=by
   intro j oj hj hoj e he hbe
   show (if e.on=i then true else D e.on)=true
   by_cases e1:j=i
   ·subst e1
    rw [ho] at hoj;cases hoj
    split
    ·rfl
    ·exact hready e he hbe
   ·have hj:(if j=i then true else D j)=true:=hj
    rw [if_neg e1] at hj
    split
    ·rfl
    ·exact hD j oj hj hoj e he hbe
  have hclose:(∀ j,j < i->D j=true)->(∀ j,i < j->j < all.length->D j=false)->n<=i->S.up s (AN6 S P all (all.drop i) Q)->Av5 S P all o (Inv' fun j=>if j=i then true else D j) Q s:=by
   intro hlo hhi hni h2
   have hd:all.drop i=o :: all.drop (i+1):=by
    rw [List.drop_eq_getElem_cons hin]
    congr 1
    exact (List.getElem?_eq_some_iff.1 ho).2
   rw [hd] at h2
   have h3:Av5 S P all o (AN6 S P all (all.drop (i+1)) Q) Q s:=hS.trans _ _ h2
   refine AL3 hS (fun s' hs'=>?_) (fun e s h=>h) h3
   refine ⟨hdown, .inr ⟨i+1,by omega,hin,fun i' hi'=>?_,hs'⟩⟩
   by_cases e:i' = i
   ·simp [e]
   ·simp only [e,if_false]
    constructor
    ·intro h4
     by_cases h5:i < i'
     ·rw [hhi i' h5 hi'] at h4;cases h4
     ·omega
    ·intro h4
     exact hlo i' (by omega)
  rcases hc with ⟨hlo,hI⟩ | ⟨j,hj1,hj2,hDj,hw⟩
  ·by_cases hi:i < n
   ·have ho' : (all.take n)[i]? = some o:=by rw [List.getElem?_take,if_pos hi];exact ho
    have h1:=Ca6 all hg (List.mem_of_getElem? ho') (hstep D i s o hI ho' hDi hready)
    refine BK1 hS (fun s' hs'=>?_) (fun x s' h=>h) h1
    refine ⟨hdown, .inl ⟨fun i' h'=>?_,hs'⟩⟩
    have:i' ≠ i:=by omega
    show (if i' = i then true else D i')=false
    rw [if_neg this];exact hlo i' h'
   ·have hall:∀ j,j < i->D j=true:=fun j hj=>hanc j ((hB i hin).resolve_left hi j hj)
    have e:i=n:=by
     by_cases h4:n < i
     ·have:=hall n h4;rw [hlo n (Nat.le_refl _)] at this;cases this
     ·omega
    subst e
    refine hclose hall (fun j hj _=>hlo j (by omega)) (Nat.le_refl _) ?_
    exact hend D s hI fun j hj=>hall j (by simp at hj;omega)
  ·have e:i=j:=by
    by_cases h4:i < j
    ·have:=(hDj i hin).2 h4;rw [hDi] at this;cases this
    ·by_cases h5:j < i
     ·have hall:D j=true:=hanc j ((hB i hin).resolve_left (by omega) j h5)
      have:=(hDj j (by omega)).1 hall;omega
     ·omega
   subst e
   refine hclose (fun j hj=>(hDj j (by omega)).2 hj) (fun j h1 h2=>?_) hj1 (hS.refl _ _ hw)
   cases hh:D j with
   | false=>rfl
   | true=>have:=(hDj j h2).1 hh;omega
 ·rintro D s ⟨hD,hc⟩ hall
  rcases hc with ⟨hlo,hI⟩ | ⟨j,hj1,hj2,hDj,hw⟩
  ·have:=hall n hn;rw [hlo n (Nat.le_refl _)] at this;cases this
  ·have e:j=all.length:=by
    by_cases h4:j < all.length
    ·have:=(hDj j h4).1 (hall j h4);omega
    ·omega
   subst e
   rw [List.drop_length] at hw
   exact hS.refl _ _ hw
def AT0 (n:Nat) (ls:List (Nat × Cls)):Cfg->SC
 | .code (.region _ ops true) _ st=>⟨ops.toList.take n,CU5 ls 0 (ops.toList.take n),ops.toList.take n,st.env,st.regs, []⟩
 | _=>⟨[], [], [], [], [], []⟩
def Cl5 (n:Nat) (env:Env) (regs:D2):Cfg->Cfg
 | .code (.region _ ops true) K _=>.ops ops.toList (ops.toList.drop n) K ⟨env,regs⟩
 | g=>g
def Cl6 (n:Nat):Cfg->Bool
 | .code (.region _ ops true) _ _=>AB5 ops.toList && CJ6 ops.toList n && BK2 ops.toList n
 | _=>false
theorem Cx8 (hS:I2 S P) (hc:pr) (n:Nat) (ls:List (Nat × Cls)) (h:DG S P (AT0 n ls (stp P g)) fun env regs=>KG S P F (Cl5 n env regs (stp P g))) (hp:pr=E9 (cnd P g):=by kernel_rfl) (hd:Ak9 (stp P g)=true:=by kernel_rfl) (hmix:P.follows .mixedOrders=true:=by kernel_rfl)
 (hok:AO3 (AT0 n ls (stp P g)).all (AT0 n ls (stp P g)).cls=true:=by kernel_rfl) (hb:Cl6 n (stp P g)=true:=by kernel_rfl):KG S P F g:=by
 have e:(fun env regs=>KG S P F (Cl5 n env regs (stp P g)))=fun env regs=>G S P F (Cl5 n env regs (stp P g)):=by
  funext env regs
  exact propext ⟨fun h=>h.out,fun h=>⟨h⟩⟩
 rw [e] at h
 refine ⟨Ax0 hS hc ?_ hp⟩
 have h:=h.out
 generalize stp P g=g' at hd hok h hb
 unfold Ak9 at hd
 split at hd
 ·rename_i id ops K st
  simp only [Cl6,Bool.and_eq_true] at hb
  show awp S P (.region id ops true) (kp S P K F) st
  simp only [awp,if_true]
  refine Bz2 hS hb.1.1 hb.1.2 hb.2 ?_
  have h2:(ops.toList.take n).toArray.toList=ops.toList.take n:=rfl
  have:=BT4 hS (F:=fun e s=>match e with | .normal=>AN6 S P ops.toList (ops.toList.drop n) (kp S P K F) s | .panic x=>kp S P K F (.panic x) s | _=>False) (K:=[]) (id:=id) (ops:=(ops.toList.take n).toArray) (CU5 ls 0 (ops.toList.take n)) hmix hok h
  simpa only [G,awp,if_true,kp,AT0] using this
 ·cases hd
end
end Go.AM
set_option linter.unusedVariables false
namespace Go.AM
open Go.RowKit Go.ChangeShapes Go.Deep
mutual
inductive LeD:PV->PV->Prop
 | refl (x:PV):LeD x x
 | sl {k n:Nat} {f g:Nat->List PV} (h:∀ i,i < n->LeDs (f i) (g i)):LeD (.sl false k n f) (.sl false k n g)
inductive LeDs:List PV->List PV->Prop
 | nil:LeDs [] []
 | cons {x y:PV} {l r:List PV} (h:LeD x y) (h' : LeDs l r):LeDs (x :: l) (y :: r)
end
theorem LeDs.refl:∀ l:List PV,LeDs l l
 | []=>.nil
 | x :: l=>.cons (.refl x) (LeDs.refl l)
theorem LeDs.length {l r:List PV} (h:LeDs l r):l.length=r.length:=by
 induction l generalizing r with
 | nil=>cases h;rfl
 | cons x l ih=>cases h with | cons _ h'=>simp [ih h']
theorem LeDs.get {l r:List PV} (h:LeDs l r):∀ i,LeD (l.getD i default) (r.getD i default):=by
 induction l generalizing r with
 | nil=>cases h;exact fun i=>.refl _
 | cons x l ih=>
  cases h with
  | cons h h'=>
   intro i
   cases i with
   | zero=>exact h
   | succ i=>simpa using ih h' i
theorem LeDs.append {a b c d:List PV} (h:LeDs a b) (h' : LeDs c d):LeDs (a ++ c) (b ++ d):=by
 induction a generalizing b with
 | nil=>cases h;exact h'
 | cons x l ih=>cases h with | cons h1 h2=>exact .cons h1 (ih h2)
theorem RepP.leD {w:World} {Pi:Nat->Nat->Prop} {v:Value} {x:PV} (h:RepP w Pi v x):∀ {y:PV},LeD x y->RepP w Pi v y:=by
 induction h with
 | slnil k f=>intro y hy;cases hy with
  | refl=>exact .slnil _ _
  | sl h=>exact .slnil _ _
 | sl nn b off cap k n f c hn hk hc h sp hsp ih=>
  intro y hy
  cases hy with
  | refl=>exact .sl nn b off cap k n f c hn hk hc h sp hsp
  | sl h'=>exact .sl false b off cap k n _ c hn (fun i hi=>by rw [<- (h' i hi).length];exact hk i hi) hc (fun i j hi hj=>ih i j hi hj ((h' i hi).get j)) sp hsp
 | v x=>intro y hy;cases hy;exact .v x
 | bb b=>intro y hy;cases hy;exact .bb b
 | str l=>intro y hy;cases hy;exact .str l
 | agg vs cs hs h1 h ih=>intro y hy;cases hy;exact .agg vs cs hs h1 h
 | ptr b off cs c hc h ih=>intro y hy;cases hy;exact .ptr b off cs c hc h
 | iface t x a h ih=>intro y hy;cases hy;exact .iface t x a h
 | fn f x y a b hx hy ha hb iha ihb=>intro y hy;cases hy;exact .fn f x _ a b hx ‹_› ha hb
theorem CRep.leD {W:World} {cs:List Value} {p q:List PV} (h:CRep W cs p) (hl:LeDs p q):CRep W cs q:=
 ⟨by rw [h.1,hl.length],fun i hi=>⟨(h.2 i (by rw [hl.length];exact hi)).1.leD (hl.get i),(h.2 i (by rw [hl.length];exact hi)).2⟩⟩
section
variable {P:Program} {t e:TypeId} {m:Nat} {pvs:List PV}
def AC0 (f:Nat->Nat):Nat->Nat
 | 0=>0
 | k+1=>AC0 f k+f k
theorem CJ7 (f:Nat->Nat) {k n:Nat} (h:k<=n):AC0 f k<=AC0 f n:=by
 induction h with
 | refl=>exact Nat.le_refl _
 | step _ ih=>simp only [AC0];omega
theorem Cl7 (f:Nat->Nat) {k n:Nat} (h:k < n):f k<=AC0 f n:=by
 have:=CJ7 f (show k+1<=n from h)
 simp only [AC0] at this
 omega
theorem Bz3 {f g:Nat->Nat}:∀ {n:Nat},(∀ i,i < n->f i<=g i)->AC0 f n<=AC0 g n
 | 0,_=>Nat.le_refl _
 | n+1,h=>by
  have h1:=Bz3 (n:=n) fun i hi=>h i (by omega)
  have h2:=h n (by omega)
  simp only [AC0];omega
theorem Bj6 (f:Nat->Nat):∀ n,BJ4 ((List.range n).map f)=AC0 f n:=by
 have app:∀ a b:List Nat,BJ4 (a ++ b)=BJ4 a+BJ4 b:=by
  intro a b
  induction a with
  | nil=>simp [BJ4]
  | cons x r ih=>simp only [List.cons_append,Bx7,ih];omega
 intro n
 induction n with
 | zero=>rfl
 | succ n ih=>rw [List.range_succ,List.map_append,app,ih];simp [AC0,BJ4]
def Be1 (P:Program) (t:TypeId) {T:Type} (c:T->List PV) (W:T->Prop) (sz:T->Nat):Prop:=
 ∀ (m:Nat) (pvs:List PV),AL2 P m t pvs->∃ x:T,LeDs pvs (c x)/\W x/\sz x<=m
theorem Y9 {k:IntKind} (ht:P.underlying t=some (.int k)):Be1 P t (cI k) (fun n=>(Lit.int k n).wf=true) (fun _=>1):=by
 intro m pvs h
 cases h with
 | bool ht'=>rw [ht] at ht';cases ht'
 | str ht'=>rw [ht] at ht';cases ht'
 | slice _ ht'=>rw [ht] at ht';cases ht'
 | struct ht'=>rw [ht] at ht';cases ht'
 | int ht' hw hm=>rw [ht] at ht';cases ht';exact ⟨_,LeDs.refl _,hw,hm⟩
theorem Ca7 (ht:P.underlying t=some .bool):Be1 P t cB (fun _=>True) (fun _=>1):=by
 intro m pvs h
 cases h with
 | int ht'=>rw [ht] at ht';cases ht'
 | str ht'=>rw [ht] at ht';cases ht'
 | slice _ ht'=>rw [ht] at ht';cases ht'
 | struct ht'=>rw [ht] at ht';cases ht'
 | bool ht' hm=>exact ⟨_,LeDs.refl _,trivial,hm⟩
theorem Cl8 (ht:P.underlying t=some .string):Be1 P t cS (fun _=>True) (fun l=>l.length+1):=by
 intro m pvs h
 cases h with
 | int ht'=>rw [ht] at ht';cases ht'
 | bool ht'=>rw [ht] at ht';cases ht'
 | slice _ ht'=>rw [ht] at ht';cases ht'
 | struct ht'=>rw [ht] at ht';cases ht'
 | str ht' hm=>exact ⟨_,LeDs.refl _,trivial,hm⟩
theorem J8 {T:Type} [Inhabited T] {c:T->List PV} {W:T->Prop} {sz:T->Nat} {k:Nat} (ht:P.underlying t=some (.slice e)) (hk:P.cellsOf e=k) (h:Be1 P e c W sz) :
 Be1 P t (cL k c) (fun s=>∀ i,i < s.n->W (s.g i)) (fun s=>AC0 (fun i=>sz (s.g i)) s.n+1):=by
 intro m pvs hs
 cases hs with
 | int ht'=>rw [ht] at ht';cases ht'
 | bool ht'=>rw [ht] at ht';cases ht'
 | str ht'=>rw [ht] at ht';cases ht'
 | struct ht'=>rw [ht] at ht';cases ht'
 | @slice _ _ e' n f ms ht' hl hel hm=>
  rw [ht] at ht'
  cases ht'
  obtain ⟨g,hg⟩:=choose_lt (α:=T) (p:=fun i x=>LeDs (f i) (c x)/\W x/\sz x<=ms i) fun i hi=>h _ _ (hel i hi)
  refine ⟨⟨n,g⟩, ?_,fun i hi=>(hg i hi).2.1, ?_⟩
  ·subst hk
   exact .cons (.sl fun i hi=>(hg i hi).1) .nil
  ·have h1:=Bz3 (n:=n) fun i hi=>(hg i hi).2.2
   rw [Bj6] at hm
   show AC0 (fun i=>sz (g i)) n+1<=m
   omega
theorem Ah1 {fs:Array Field} (ht:P.underlying t=some (.struct fs)) (h:AL2 P m t pvs):∃ m',AG7 P m' (fs.toList.map (·.type)) pvs/\m' + 1<=m:=by
 cases h with
 | int ht'=>rw [ht] at ht';cases ht'
 | bool ht'=>rw [ht] at ht';cases ht'
 | str ht'=>rw [ht] at ht';cases ht'
 | slice _ ht'=>rw [ht] at ht';cases ht'
 | struct ht' h hm=>rw [ht] at ht';cases ht';exact ⟨_,h,hm⟩
theorem D6 {ts:List TypeId} (h:AG7 P m (t :: ts) pvs):∃ a b p q,pvs=p ++ q/\AL2 P a t p/\AG7 P b ts q/\a+b<=m:=by
 cases h with
 | cons h h' hm=>exact ⟨_,_,_,_,rfl,h,h',hm⟩
theorem Aq1 (h:AG7 P m [] pvs):pvs=[]:=by cases h;rfl
end
end Go.AM
