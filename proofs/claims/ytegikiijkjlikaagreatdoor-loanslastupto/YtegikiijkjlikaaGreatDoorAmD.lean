/- What a law's walk and its plain proof need, part 4: no condition of its own. -/
import Derived.Test.YtegikiijkjlikaaGreatDoorAmC
import Derived.KernelRfl
set_option linter.unusedSimpArgs false
set_option linter.unusedVariables false
set_option linter.unusedSectionVars false
set_option linter.unusedVariables false
namespace Go.AM
section
variable (P:Program)
def stp (g:Cfg):Cfg:=(run P none 400 [] g).cfg
def cnd (g:Cfg):List Prop:=(run P none 400 [] g).conds
def Bh4 (d:Nat) (g:Cfg):Cfg:=(run P (some d) 400 [] g).cfg
def cndU (d:Nat) (g:Cfg):List Prop:=(run P (some d) 400 [] g).conds
def Cfg.st:Cfg->St
 | .code _ _ s=>s
 | .ops _ _ _ s=>s
 | .pop _ _ s=>s
def Cfg.k:Cfg->List It
 | .code _ K _=>K
 | .ops _ _ K _=>K
 | .pop _ K _=>K
def mkO {R:Type _} (env:Env) (regs:D2) (κ : Env->D2->R):R:=fE env fun env=>fR regs fun regs=>κ env regs
theorem AH0 {R:Type _} (env:Env) (regs:D2) (κ : Env->D2->R):mkO env regs κ = κ env regs:=by simp only [mkO,fE_eq,Cs8]
def CA8 {R:Type _} (d:Option Nat) (a:AV) (env:Env) (regs:D2) (κ : St->R):R:=match d with
 | some d=>mkO (ins d a env) regs fun env regs=>κ ⟨env,regs⟩
 | none=>mkO env regs fun env regs=>κ ⟨env,regs⟩
theorem Bl3 {R:Type _} (d:Option Nat) (a:AV) (env:Env) (regs:D2) (κ : St->R):CA8 d a env regs κ = κ (put ⟨env,regs⟩ d a):=by
 cases d <;> simp only [CA8,AH0,put]
def Cv9:Cfg->Option Bool
 | .code (.cond c _ _) _ st=>match aev st.env c with
  | .p (.bb b)=>some b
  | _=>none
 | _=>none
def CE1:Cfg->Cfg
 | .code (.cond _ t _) K st=>.code t K st
 | g=>g
def CE2:Cfg->Cfg
 | .code (.cond _ _ e) K st=>.code e K st
 | g=>g
def BY5:Cfg->Option Bool
 | .ops all (o :: _) _ st=>match o.guard with
  | some (j,_)=>match CB9 all j with
   | some d=>match get st.env d with
    | .p (.bb b)=>some b
    | _=>none
   | none=>none
  | none=>none
 | _=>none
def Bu0 (b:Bool):Cfg->Cfg
 | .ops all (o :: rest) K st=>match o.guard with
  | some (j,_)=>match CB9 all j with
   | some d=>CA8 (some d) (.p (.v (.bool b))) st.env st.regs fun st=>.ops all (o :: rest) K st
   | none=>.ops all (o :: rest) K st
  | none=>.ops all (o :: rest) K st
 | g=>g
def BY6 (ids:List Nat):Cfg->Option (FuncId × List AV × List Obj)
 | .ops all (o :: _) _ st=>match As9 all st.env o,o.op with
  | some true, .call c=>match c.callee with
   | .value f=>match Bb1 st.regs (c.args.toList.map (aev st.env)) with
    | some (as,regs)=>match BA6 st.env f as with
     | some (fn,as')=>match Ai7 ids as',J1 ids regs ids with
      | some a,some ob=>if F6 ids && An8 ob then some (fn,a,ob) else none
      | _,_=>none
     | none=>none
    | none=>none
   | _=>none
  | _,_=>none
 | _=>none
def BY7 (ids:List Nat) (ks:List Bool) (n:Nat):Cfg->Bool
 | .ops _ (o :: _) _ st=>match o.op with
  | .call c=>match Bb1 st.regs (c.args.toList.map (aev st.env)) with
   | some (_,regs)=>Ai9 regs ids ks (o.dst.getD 0) n
   | none=>false
  | _=>false
 | _=>false
def Cw0 (ids:List Nat) (ks:List Bool) (r:AV) (objs' : List Obj):Cfg->Cfg
 | .ops all (o :: rest) K st=>match o.op with
  | .call c=>match Bb1 st.regs (c.args.toList.map (aev st.env)) with
   | some (_,regs)=>CA8 o.dst (unA (N3 (o.dst.getD 0) ids ks objs'.length) r) st.env
    (BU1 (N3 (o.dst.getD 0) ids ks objs'.length) (N3 (o.dst.getD 0) ids ks objs'.length) objs' (N4 ids ks regs)) fun st=>.ops all rest K st
   | none=>.ops all (o :: rest) K st
  | _=>.ops all (o :: rest) K st
 | g=>g
structure LookI where
 kt:TypeId
 e:TypeId
 key:PV
 es:List (PV × PV)
def lookE:Cfg->Option LookI
 | .ops all (o :: _) _ st=>match As9 all st.env o,o.op with
  | some true, .lookup t m k _=>match AQ9 st.regs (aev st.env k),aev st.env m with
   | some (key,regs), .mref j=>match A2 regs j,tk P t with
    | some (.map es),some (.map kt e)=>if Bj3 P kt key=true then some ⟨kt,e,key,es⟩ else none
    | _,_=>none
   | _,_=>none
  | _,_=>none
 | _=>none
def lookV (e:TypeId):Option PV->Option (PV × Bool)
 | some x=>some (x,true)
 | none=>(Bq3 P e).map fun z=>(z,false)
def AP0:Cfg->Bool
 | .code (.loop _) _ _=>true
 | _=>false
def BC9:Cfg->Code
 | .code (.loop b) _ _=>b
 | _=>.skip
def popSt:Cfg->Option St
 | .pop .normal _ st=>some st
 | _=>none
def Bu1 (M:It):Nat->List It->List It
 | 0,K=>M :: K
 | n+1,i :: K=>i :: Bu1 M n K
 | _+1, []=>[M]
def CE3 (n:Nat) (M:St->Prop):Cfg->Cfg
 | .code c K st=>.code c (Bu1 (.mid M) n K) st
 | .ops all rest K st=>.ops all rest (Bu1 (.mid M) n K) st
 | .pop e K st=>.pop e (Bu1 (.mid M) n K) st
def AW1:Cfg->Bool
 | .ops _ (_ :: _) _ _=>true
 | _=>false
def opsS (st:St):Cfg->Cfg
 | .ops all rest K _=>.ops all rest K st
 | g=>g
def CA9:Cfg->Option St
 | .pop .ret [] st=>some st
 | .pop .normal [] st=>some st
 | _=>none
inductive Leaf where
 | eq (x y:PV)
 | fn (n m:Nat) (f g:Nat->List PV)
 | mp (x y:List (PV × PV))
 | yl (x y:List (List PV)) (b c:Bool)
 | nt (a b:Nat)
inductive LV where
 | eq (x:PV)
 | fn (n:Nat) (f:Nat->List PV)
 | mp (x:List (PV × PV))
 | yl (x:List (List PV)) (b:Bool)
 | nt (a:Nat)
def Leaf.src:Leaf->LV
 | .eq x _=>.eq x
 | .fn n _ f _=>.fn n f
 | .mp x _=>.mp x
 | .yl x _ b _=>.yl x b
 | .nt a _=>.nt a
def Leaf.tgt:Leaf->LV
 | .eq _ y=>.eq y
 | .fn _ m _ g=>.fn m g
 | .mp _ y=>.mp y
 | .yl _ y _ c=>.yl y c
 | .nt _ b=>.nt b
def Leaf.ok:Leaf->Prop
 | .eq x y=>x=y
 | .fn n m f g=>n=m/\∀ i,i < n->f i=g i
 | .mp x y=>x=y
 | .yl x y b c=>x=y/\b=c
 | .nt a b=>a=b
theorem Leaf.ok_of {l:Leaf} (h:l.src=l.tgt):l.ok:=by
 cases l with
 | eq x y=>simp only [Leaf.src,Leaf.tgt,LV.eq.injEq] at h;exact h
 | fn n m f g=>simp only [Leaf.src,Leaf.tgt,LV.fn.injEq] at h;obtain ⟨rfl,rfl⟩:=h;exact ⟨rfl,fun _ _=>rfl⟩
 | mp x y=>simp only [Leaf.src,Leaf.tgt,LV.mp.injEq] at h;exact h
 | yl x y b c=>simp only [Leaf.src,Leaf.tgt,LV.yl.injEq] at h;exact h
 | nt a b=>simp only [Leaf.src,Leaf.tgt,LV.nt.injEq] at h;exact h
def Cw1:PV->PV->Leaf
 | .v (.bool b), .bb c=>.eq (.bb b) (.bb c)
 | .v (.slice none 0 0), .sl false _ n f=>.fn 0 n f f
 | .sl nn k n f, .sl false l m g=>if k=l then .fn n m f g else .eq (.sl nn k n f) (.sl false l m g)
 | x,y=>.eq x y
mutual
def AL5 (regs:D2) (ids:List (Nat × Nat)) (a b:AV):Option (List Leaf):=
 match b with
 | .top=>some []
 | .p y=>match viewP regs a with
  | some x=>some [Cw1 x y]
  | none=>none
 | .reg j off=>match a with | .reg i off'=>if lk ids j=some i/\off=off' then some [] else none | _=>none
 | .vec j=>match a with
  | .vec i=>if lk ids j=some i then some [] else none
  | .p (.v (.slice none 0 0))=>if lk ids j=none then some [] else none
  | _=>none
 | .vecp j n=>match a with | .vecp i m=>if lk ids j=some i/\n=m then some [] else none | _=>none
 | .elt j k n off=>match a with | .elt i k' n' off'=>if lk ids j=some i/\k=k' /\ n=n' /\ off=off' then some [] else none | _=>none
 | .mref j=>match a with | .mref i=>if lk ids j=some i then some [] else none | _=>none
 | .yf j=>match a with | .yf i=>if lk ids j=some i then some [] else none | _=>none
 | .clo f x y=>match a with
  | .clo f' x' y'=>match Bb8 regs ids x' x,Bb8 regs ids y' y with | some l,some m=>some (.nt f' f :: (l ++ m)) | _,_=>none
  | _=>none
 | .tup l=>match a with | .tup l'=>Bb8 regs ids l' l | _=>none
 | .agr l=>match a with | .agr l'=>Bb8 regs ids l' l | _=>none
def Bb8 (regs:D2) (ids:List (Nat × Nat)) (a b:List AV):Option (List Leaf):=
 match b with
 | []=>match a with | []=>some [] | _=>none
 | y :: s=>match a with
  | x :: r=>match AL5 regs ids x y,Bb8 regs ids r s with | some l,some m=>some (l ++ m) | _,_=>none
  | []=>none
end
def Ck5 (regs:D2) (ids:List (Nat × Nat)) (env:Env):Env->Option (List Leaf)
 | []=>some []
 | (t,b) :: r=>match AL5 regs ids (get env t) b,Ck5 regs ids env r with | some l,some m=>some (l ++ m) | _,_=>none
def Bu2 (regs:D2) (ids:List (Nat × Nat)) (o p:Obj):Option (List Leaf):=
 match p with
 | .cells cs=>match o with | .cells cs'=>Bb8 regs ids cs' cs | _=>none
 | .vec e k n f vw=>match o with
  | .vec e' k' m g vw'=>if e=e' /\ k=k' /\ (vw' = true->vw=true) then some [.fn m n g f] else none
  | _=>none
 | .map es=>match o with | .map es'=>some [.mp es' es] | _=>none
 | .arr n f=>match o with | .arr m g=>some [.fn m n (fun i=>[g i]) (fun i=>[f i])] | _=>none
 | .ghost cs=>match o with | .ghost cs'=>Bb8 regs ids cs' cs | _=>none
 | .yld r b=>match o with | .yld r' b'=>some [.yl r' r b' b] | _=>none
 | .dead=>some []
def Ck6 (regs:D2) (ids:List (Nat × Nat)):D2->Option (List Leaf)
 | []=>some []
 | (j,p) :: r=>match (match lk ids j with
  | some i=>match A2 regs i with
   | some o=>Bu2 regs ids o p
   | none=>none
  | none=>match p with
   | .vec _ _ n f _=>some [.fn 0 n f f]
   | _=>none:Option (List Leaf)),Ck6 regs ids r with
  | some l,some m=>some (l ++ m)
  | _,_=>none
def leK (ids:List (Nat × Nat)) (s t:St):Option (List Leaf):=
 if (wf t && F6 (ids.map (·.2)) && BN9 ids && Bf1 ids t.regs && AO0 ids (Cg5 s.env t.env ++ AF7 ids s.regs t.regs) t.regs)=true then
  match Ck5 s.regs ids s.env t.env,Ck6 s.regs ids t.regs with
  | some l,some m=>some (l ++ m)
  | _,_=>none
 else none
theorem Ck7 {x y:PV} (h:(Cw1 x y).ok):leP x y:=by
 unfold Cw1 at h
 split at h
 ·simp only [Leaf.ok,PV.bb.injEq] at h;subst h;exact .inr (.inr (.inr (.inl ⟨_,rfl,rfl⟩)))
 ·obtain ⟨rfl,_⟩:=h;exact .inr (.inr (.inl ⟨_,_,rfl,rfl⟩))
 ·split at h
  ·rename_i hk;subst hk;obtain ⟨rfl,h⟩:=h;exact .inr (.inl ⟨_,_,_,_,_,rfl,rfl,h⟩)
  ·exact .inl h
 ·exact .inl h
theorem AW2 {l m:List Leaf} (h:∀ x ∈ l ++ m,x.ok):(∀ x ∈ l,x.ok)/\∀ x ∈ m,x.ok:=
 ⟨fun x hx=>h x (List.mem_append_left _ hx),fun x hx=>h x (List.mem_append_right _ hx)⟩
mutual
theorem BK1 {regs:D2} {ids:List (Nat × Nat)} {a:AV} (b:AV) {L:List Leaf} (h:AL5 regs ids a b=some L) (hL:∀ x ∈ L,x.ok):leA regs ids a b:=by
 cases b with
 | top=>unfold leA;trivial
 | p y=>
  unfold AL5 at h
  split at h
  ·rename_i x hx;cases h;unfold leA;exact ⟨x,hx,Ck7 (hL _ (by simp))⟩
  ·cases h
 | reg j off=>
  unfold AL5 at h
  split at h
  ·split at h
   ·rename_i hh;obtain ⟨h1,rfl⟩:=hh;exact CC2 h1
   ·cases h
  ·cases h
 | vec j=>
  unfold AL5 at h
  split at h
  ·split at h
   ·rename_i h1;exact CC1 h1
   ·cases h
  ·split at h
   ·rename_i h1;exact Ct3 h1
   ·cases h
  ·cases h
 | vecp j n=>
  unfold AL5 at h
  split at h
  ·split at h
   ·rename_i hh;obtain ⟨h1,rfl⟩:=hh;unfold leA;exact ⟨_,h1,rfl⟩
   ·cases h
  ·cases h
 | elt j k n off=>
  unfold AL5 at h
  split at h
  ·split at h
   ·rename_i hh;obtain ⟨h1,rfl,rfl,rfl⟩:=hh;unfold leA;exact ⟨_,h1,rfl⟩
   ·cases h
  ·cases h
 | mref j=>
  unfold AL5 at h
  split at h
  ·split at h
   ·rename_i h1;exact BV5 h1
   ·cases h
  ·cases h
 | yf j=>
  unfold AL5 at h
  split at h
  ·split at h
   ·rename_i h1;exact le_yf h1
   ·cases h
  ·cases h
 | clo f x y=>
  unfold AL5 at h
  split at h
  ·split at h
   ·rename_i l m h1 h2
    cases h
    have hf:=hL _ (List.mem_cons_self ..)
    simp only [Leaf.ok] at hf
    subst hf
    obtain ⟨h3,h4⟩:=AW2 fun x hx=>hL x (List.mem_cons_of_mem _ hx)
    exact CC3 (Aq9 x h1 h3) (Aq9 y h2 h4)
   ·cases h
  ·cases h
 | tup l=>
  unfold AL5 at h
  split at h
  ·exact CD9 (Aq9 l h hL)
  ·cases h
 | agr l=>
  unfold AL5 at h
  split at h
  ·exact CE0 (Aq9 l h hL)
  ·cases h
theorem Aq9 {regs:D2} {ids:List (Nat × Nat)} {a:List AV} (b:List AV) {L:List Leaf} (h:Bb8 regs ids a b=some L) (hL:∀ x ∈ L,x.ok):leL regs ids a b:=by
 cases b with
 | nil=>
  unfold Bb8 at h
  split at h
  ·exact Ct4
  ·cases h
 | cons y s=>
  unfold Bb8 at h
  split at h
  ·split at h
   ·rename_i l m h1 h2
    cases h
    obtain ⟨h3,h4⟩:=AW2 hL
    exact Ch1 (BK1 y h1 h3) (Aq9 s h2 h4)
   ·cases h
  ·cases h
end
theorem BK2 {regs:D2} {ids:List (Nat × Nat)} {env:Env}:∀ (t:Env) {L:List Leaf},Ck5 regs ids env t=some L->(∀ x ∈ L,x.ok)->AT8 regs ids env t
 | [],_,_,_=>trivial
 | (t,b) :: r,L,h,hL=>by
  simp only [Ck5] at h
  split at h
  ·rename_i l m h1 h2
   cases h
   obtain ⟨h3,h4⟩:=AW2 hL
   exact ⟨BK1 b h1 h3,BK2 r h2 h4⟩
  ·cases h
theorem Ck8 {regs:D2} {ids:List (Nat × Nat)} {o p:Obj} {L:List Leaf} (h:Bu2 regs ids o p=some L) (hL:∀ x ∈ L,x.ok):leO regs ids o p:=by
 cases p with
 | cells cs=>
  simp only [Bu2] at h
  split at h
  ·exact Ch2 (Aq9 cs h hL)
  ·cases h
 | vec e k n f vw=>
  simp only [Bu2] at h
  split at h
  ·split at h
   ·rename_i hh
    obtain ⟨rfl,rfl,hv⟩:=hh
    cases h
    obtain ⟨rfl,h1⟩:=hL _ (List.mem_singleton.2 rfl)
    exact ⟨_,_,rfl,h1,hv⟩
   ·cases h
  ·cases h
 | map es=>
  simp only [Bu2] at h
  split at h
  ·cases h
   have:=hL _ (List.mem_singleton.2 rfl)
   simp only [Leaf.ok] at this
   subst this;rfl
  ·cases h
 | arr n f=>
  simp only [Bu2] at h
  split at h
  ·cases h
   obtain ⟨rfl,h1⟩:=hL _ (List.mem_singleton.2 rfl)
   exact ⟨_,rfl,fun i hi=>by simpa using h1 i hi⟩
  ·cases h
 | ghost cs=>
  simp only [Bu2] at h
  split at h
  ·exact ⟨_,rfl,Aq9 cs h hL⟩
  ·cases h
 | yld r b=>
  simp only [Bu2] at h
  split at h
  ·cases h
   obtain ⟨rfl,rfl⟩:=hL _ (List.mem_singleton.2 rfl)
   rfl
  ·cases h
 | dead=>trivial
theorem BK3 {regs:D2} {ids:List (Nat × Nat)}:∀ (t:D2) {L:List Leaf},Ck6 regs ids t=some L->(∀ x ∈ L,x.ok)->Bq8 regs ids t
 | [],_,_,_=>trivial
 | (j,p) :: r,L,h,hL=>by
  simp only [Ck6] at h
  split at h
  ·rename_i l m h1 h2
   cases h
   obtain ⟨h3,h4⟩:=AW2 hL
   refine ⟨?_,BK3 r h2 h4⟩
   split at h1
   ·rename_i i hi
    split at h1
    ·rename_i o ho;exact .inl ⟨i,o,hi,ho,Ck8 h1 h3⟩
    ·cases h1
   ·rename_i hi
    split at h1
    ·cases h1
     obtain ⟨rfl,_⟩:=h3 _ (List.mem_singleton.2 rfl)
     exact .inr ⟨hi,_,_,_,_,rfl⟩
    ·cases h1
  ·cases h
theorem Cq5 {ids:List (Nat × Nat)} {s t:St} {L:List Leaf} (h:leK ids s t=some L) (hL:∀ x ∈ L,x.ok):Le ids s t:=by
 unfold leK at h
 split at h
 ·rename_i hw
  split at h
  ·rename_i l m h1 h2
   cases h
   obtain ⟨h3,h4⟩:=AW2 hL
   exact le_mk hw (BK2 _ h1 h3) (BK3 _ h2 h4)
  ·cases h
 ·cases h
theorem kle {ids:List (Nat × Nat)} {s t:St} (h:(leK ids s t).map (·.map Leaf.src)=(leK ids s t).map (·.map Leaf.tgt):=by kernel_rfl) (h1:(leK ids s t).isSome=true:=by kernel_rfl):Le ids s t:=by
 obtain ⟨L,hL⟩:=Option.isSome_iff_exists.1 h1
 rw [hL] at h
 simp only [Option.map_some,Option.some.injEq] at h
 refine Cq5 hL fun x hx=>?_
 obtain ⟨i,hi,rfl⟩:=List.mem_iff_getElem.1 hx
 have:=congrArg (·[i]?) h
 simp only [List.getElem?_map,List.getElem?_eq_getElem hi,Option.map_some,Option.some.injEq] at this
 exact Leaf.ok_of this
def CE4 (is:List Nat) (f:Leaf->LV) (L:List Leaf):List (Option LV):=L.zipIdx.map fun q=>if is.contains q.2=true then none else some (f q.1)
theorem kleR {ids:List (Nat × Nat)} {s t:St} (rs:List (Nat × Leaf)) (hr:∀ q ∈ rs,q.2.ok) (h:(leK ids s t).map (CE4 (rs.map (·.1)) Leaf.src)=(leK ids s t).map (CE4 (rs.map (·.1)) Leaf.tgt):=by kernel_rfl)
 (h2:(leK ids s t).map (fun L=>rs.map fun q=>L[q.1]?)=some (rs.map fun q=>some q.2):=by kernel_rfl):Le ids s t:=by
 cases hL:leK ids s t with
 | none=>rw [hL] at h2;cases h2
 | some L=>
  rw [hL] at h h2
  simp only [Option.map_some,Option.some.injEq] at h h2
  refine Cq5 hL fun x hx=>?_
  obtain ⟨i,hi,rfl⟩:=List.mem_iff_getElem.1 hx
  by_cases hm:(rs.map (·.1)).contains i=true
  ·simp only [List.contains_eq_mem,decide_eq_true_eq,List.mem_map] at hm
   obtain ⟨q,hq,rfl⟩:=hm
   obtain ⟨k,hk,rfl⟩:=List.mem_iff_getElem.1 hq
   have:=congrArg (·[k]?) h2
   simp only [List.getElem?_map,List.getElem?_eq_getElem hk,Option.map_some,Option.some.injEq,List.getElem?_eq_getElem hi] at this
   rw [this]
   exact hr _ hq
  ·have:=congrArg (·[i]?) h
   simp only [CE4,List.getElem?_map,List.getElem?_zipIdx,List.getElem?_eq_getElem hi,Option.map_some,Nat.zero_add,hm,Option.some.injEq] at this
   exact Leaf.ok_of (by simpa using this)
end
section
variable {P:Program}
variable {S:Af9} {F:J5} {g:Cfg} {pr:Prop}
theorem Av7 (hS:I3 S P) (hc:pr) (h:G S P F (stp P g)) (hp:pr=F0 (cnd P g):=by kernel_rfl):G S P F g:=
 (AU0 (F:=F) hS 400 [] g (by subst hp;exact hc)).2 h
theorem CE5 (hS:I3 S P) (hc:pr) {b:Bool} (ht:b=true->G S P F (CE1 (stp P g))) (hf:b=false->G S P F (CE2 (stp P g))) (hp:pr=F0 (cnd P g):=by kernel_rfl) (hb:Cv9 (stp P g)=some b:=by kernel_rfl):G S P F g:=by
 refine Av7 hS hc ?_ hp
 generalize stp P g=g' at hb ht hf
 unfold Cv9 at hb
 split at hb
 ·split at hb
  ·rename_i hc;cases hb;exact CB8 hc ht hf
  ·cases hb
 ·cases hb
theorem Cw2 (hS:I3 S P) (hc:pr) {b:Bool} (ht:b=true->G S P F (Bu0 true (stp P g))) (hf:b=false->G S P F (Bu0 false (stp P g))) (hp:pr=F0 (cnd P g):=by kernel_rfl) (hb:BY5 (stp P g)=some b:=by kernel_rfl):G S P F g:=by
 refine Av7 hS hc ?_ hp
 generalize stp P g=g' at hb ht hf
 unfold BY5 at hb
 split at hb
 ·split at hb
  ·rename_i hg
   split at hb
   ·rename_i hd
    split at hb
    ·rename_i hbb
     cases hb
     simp only [Bu0,hg,hd,Bl3,put] at ht hf
     exact Ct1 hS hg hd hbb ht hf
    ·cases hb
   ·cases hb
  ·cases hb
 ·cases hb
theorem CE6 (hS:I3 S P) (ids:List Nat) (hc:pr) {fn:FuncId} {args:List AV} {objs objs' : List Obj} {r:AV} {ks:List Bool} (hF:FunO S fn args objs r objs' ks)
 (hk:G S P F (Cw0 ids ks r objs' (stp P g))) (hp:pr=F0 (cnd P g):=by kernel_rfl) (he:BY6 ids (stp P g)=some (fn,args,objs):=by kernel_rfl) (hn:BY7 ids ks objs'.length (stp P g)=true:=by kernel_rfl):G S P F g:=by
 refine Av7 hS hc ?_ hp
 generalize stp P g=g' at he hn hk
 unfold BY6 at he
 split at he
 ·split at he
  ·rename_i hg ho
   split at he
   ·rename_i hcl
    split at he
    ·rename_i ha
     split at he
     ·rename_i hw
      split at he
      ·rename_i hr hob
       split at he
       ·rename_i hdy
        cases he
        simp only [Bool.and_eq_true] at hdy
        simp only [Cw0,BY7,ho,ha,Bl3] at hk hn
        exact Ct2 hS ids hg ho hcl ha hw hr hob hF hdy.1 hdy.2 hn hk
       ·cases he
      ·cases he
     ·cases he
    ·cases he
   ·cases he
  ·cases he
 ·cases he
theorem CE7 (hS:I3 S P) (hc:pr) (st:St) {ids:List (Nat × Nat)} (hk:G S P F (opsS st (stp P g))) (hp:pr=F0 (cnd P g):=by kernel_rfl) (ho:AW1 (stp P g)=true:=by kernel_rfl) (hle:Le ids (stp P g).st st:=by exact kle):G S P F g:=by
 refine Av7 hS hc ?_ hp
 generalize stp P g=g' at ho hle hk
 unfold AW1 at ho
 split at ho
 ·exact BY4 hS st ids hle hk
 ·cases ho
end
section
variable {S:Af9} {P:Program} {F:J5} {g:Cfg} {pr:Prop}
theorem AH1 (hS:I3 S P) {K1 K2:List It} (h:∀ e s,kp S P K1 F e s->kp S P K2 F e s):∀ (K:List It) (e:AT6) (s:St),kp S P (K ++ K1) F e s->kp S P (K ++ K2) F e s
 | [],e,s,hk=>h e s hk
 | .code c :: K,e,s,hk=>by
  simp only [List.cons_append,kp] at hk ⊢
  exact Bl2 hS (fun t=>Ac1 hS c (AH1 hS h K)) (AH1 hS h K) e s hk
 | .blk id :: K,e,s,hk=>by
  simp only [List.cons_append,kp] at hk ⊢
  cases e with
  | exit i=>
   simp only [blk] at hk ⊢
   split at hk
   ·rename_i hi;rw [if_pos hi];exact AH1 hS h K _ _ hk
   ·rename_i hi;rw [if_neg hi];exact AH1 hS h K _ _ hk
  | _=>exact AH1 hS h K _ _ hk
 | .lp X s' J m n :: K,e,s,hk=>by
  simp only [List.cons_append,kp] at hk ⊢
  cases e with
  | normal=>exact hk
  | _=>exact AH1 hS h K _ _ hk
 | .mid M :: K,e,s,hk=>by
  simp only [List.cons_append,kp] at hk ⊢
  exact Bl2 hS (fun t h=>h) (AH1 hS h K) e s hk
 | .scp :: K,e,s,hk=>by
  simp only [List.cons_append,kp] at hk ⊢
  cases e with
  | goto l=>exact hk
  | _=>exact AH1 hS h K _ _ hk
theorem BK4 (M:It):∀ (n:Nat) (K:List It),n<=K.length->Bu1 M n K=K.take n ++ M :: K.drop n
 | 0,K,_=>by simp [Bu1]
 | n+1,i :: K,h=>by simp only [Bu1,List.take_succ_cons,List.drop_succ_cons,List.cons_append,BK4 M n K (by simpa using h)]
 | n+1, [],h=>by simp at h
theorem Cq6 (hS:I3 S P) (hF:∀ s,S.up s (F .normal)->F .normal s) (n:Nat) (hn:n<=g.k.length) {M:St->Prop} (hM:∀ t,M t->G S P F (.pop .normal (g.k.drop n) t)) (h:G S P F (CE3 n M g)):G S P F g:=by
 have hk:∀ e s,kp S P (Bu1 (.mid M) n g.k) F e s->kp S P g.k F e s:=by
  intro e s
  rw [BK4 _ _ _ hn]
  conv=>rhs;rw [<- List.take_append_drop n g.k]
  exact AH1 hS (CD7 hS hF hM) _ e s
 cases g with
 | code c K st=>exact Ac1 hS c hk h
 | ops all rest K st=>exact Av6 hS hk rest h
 | pop e K st=>exact hk e st h
theorem J_cut (hS:I3 S P) (hc:pr) (hF:∀ s,S.up s (F .normal)->F .normal s) (n:Nat) (s:St)
 (h1:∀ (M:St->Prop),(∀ (g' : Cfg) (ids:List (Nat × Nat)) (pr:Prop),pr->(hp:pr=F0 (cnd P g'):=by kernel_rfl)->(he:stp P g' = .pop .normal (.mid M :: (stp P g).k.drop n) (stp P g').st:=by kernel_rfl)->(hle:Le ids (stp P g').st s:=by exact kle)->G S P F g')->G S P F (CE3 n M (stp P g)))
 (h2:G S P F (.pop .normal ((stp P g).k.drop n) s)) (hp:pr=F0 (cnd P g):=by kernel_rfl) (hn:Nat.ble n (stp P g).k.length=true:=by kernel_rfl):G S P F g:=by
 refine Av7 hS hc ?_ hp
 refine Cq6 hS hF n (Nat.le_of_ble_eq_true hn) (M:=fun t=>t=s) (fun t ht=>by subst ht;exact h2) (h1 _ fun g' ids pr hc hp he hle=>?_)
 refine Av7 hS hc ?_ hp
 rw [he]
 exact hS.le ids _ _ _ hle rfl
theorem J_lt (hS:I3 S P) (hc:pr) (hF:∀ s,S.up s (F .normal)->F .normal s) {R A:Type} {f:(A->Option R)->Option R} {k0:A->Option R} {r:R} (h:lt k0 f=some r) (n:Nat) (s:A->St)
 (h1:∀ (M:St->Prop) (k:A->Option R),(∀ (g' : Cfg) (ids:List (Nat × Nat)) (pr:Prop) (a:A),pr->k a=some r->(hp:pr=F0 (cnd P g'):=by kernel_rfl)->(he:stp P g' = .pop .normal (.mid M :: (stp P g).k.drop n) (stp P g').st:=by kernel_rfl)->(hle:Le ids (stp P g').st (s a):=by exact kle)->G S P F g')->f k=some r->G S P F (CE3 n M (stp P g)))
 (h2:∀ a,k0 a=some r->G S P F (.pop .normal ((stp P g).k.drop n) (s a))) (hp:pr=F0 (cnd P g):=by kernel_rfl) (hn:Nat.ble n (stp P g).k.length=true:=by kernel_rfl):G S P F g:=by
 refine Av7 hS hc ?_ hp
 refine Cq6 hS hF n (Nat.le_of_ble_eq_true hn) (M:=fun t=>∃ a,t=s a/\k0 a=some r) (fun t ⟨a,ht,hk⟩=>by subst ht;exact h2 a hk) (h1 _ k0 (fun g' ids pr a hc hk hp he hle=>?_) h)
 refine Av7 hS hc ?_ hp
 rw [he]
 exact hS.le ids _ _ _ hle ⟨a,rfl,hk⟩
theorem BY8 {g:Cfg} (h:AP0 g=true):g=.code (.loop (BC9 g)) g.k g.st:=by
 unfold AP0 at h
 split at h
 ·rfl
 ·cases h
theorem CE8 (hS:I3 S P) (hc:pr) {R A:Type} {body:(A->Option R)->A->Option R} {N:Nat} {a0:A} {r:R} (h:Aa9 N body a0=some r) (s:A->St) {ids:List (Nat × Nat)}
 (hr:∀ (X:Type) (s' : X->St) (J:X->Prop) (m:X->Nat) (n:Nat) (self:A->Option R) (a:A),
  (∀ (g' : Cfg) (ids:List (Nat × Nat)) (pr:Prop) (a:A),pr->self a=some r->(hp:pr=F0 (cnd P g'):=by kernel_rfl)->(he:stp P g' = .pop .normal (.lp X s' J m n :: (stp P g).k) (stp P g').st:=by kernel_rfl)->(hle:Le ids (stp P g').st (s a):=by exact kle)->G S P F g') ->
  body self a=some r->G S P F (.code (BC9 (stp P g)) (.lp X s' J m n :: (stp P g).k) (s a))) (hp:pr=F0 (cnd P g):=by kernel_rfl) (hl:AP0 (stp P g)=true:=by kernel_rfl) (hle:Le ids (stp P g).st (s a0):=by exact kle):G S P F g:=by
 refine Av7 hS hc ?_ hp
 rw [BY8 hl]
 refine CD8 hS h s ids hle fun X s' J m n self a hb hbody=>hr X s' J m n self a (fun g' ids pr a hc hself hp he hle=>?_) hbody
 refine Av7 hS hc ?_ hp
 rw [he]
 exact hb _ _ _ hle hself
def BQ5 (P:Program) (st:St) (rs:List ResultVar) (outs:List Nat):Option (AV × List Obj):=match Au6 P st rs with
 | some l=>match Bp7 outs (one l),J1 outs st.regs outs with
  | some a,some o=>if F6 outs=true then some (a,o) else none
  | _,_=>none
 | none=>none
theorem J_ret (hS:I3 S P) (hc:pr) {n:Nat} {rs:List ResultVar} {Q:Bb0->List Obj->List Bool->Prop} {a:AV} {objs:List Obj} (outs:List Nat) (hQ:Q (.ret a) objs (Au7 n outs)) (hp:pr=F0 (cnd P g):=by kernel_rfl) (he:(CA9 (stp P g)).bind (fun st=>BQ5 P st rs outs)=some (a,objs):=by kernel_rfl) :
 G S P (Ah8 S P n rs Q) g:=by
 refine Av7 hS hc ?_ hp
 generalize stp P g=g' at he
 obtain ⟨st,h1,h2⟩:=Option.bind_eq_some_iff.1 he
 unfold BQ5 at h2
 split at h2
 ·rename_i l hl
  split at h2
  ·rename_i hr ho
   split at h2
   ·rename_i hd
    cases h2
    unfold CA9 at h1
    split at h1
    ·cases h1;exact hS.refl _ _ ⟨l,outs,a,objs,hl,hd,hr,ho,hQ⟩
    ·cases h1;exact hS.refl _ _ ⟨l,outs,a,objs,hl,hd,hr,ho,hQ⟩
    ·cases h1
   ·cases h2
  ·cases h2
 ·cases h2
theorem CE9 (hS:I3 S P) (hc:pr) {n:Nat} {rs:List ResultVar} {Q:Bb0->List Obj->List Bool->Prop} {a:AV} {objs:List Obj} (st:St) (outs:List Nat) {ids:List (Nat × Nat)} (hQ:Q (.ret a) objs (Au7 n outs)) (hp:pr=F0 (cnd P g):=by kernel_rfl) (he:(CA9 (stp P g)).isSome=true:=by kernel_rfl) (hle:Le ids (stp P g).st st:=by exact kle) (hr:BQ5 P st rs outs=some (a,objs):=by kernel_rfl) :
 G S P (Ah8 S P n rs Q) g:=by
 refine Av7 hS hc ?_ hp
 generalize stp P g=g' at he hle
 have h2:=hr
 unfold BQ5 at h2
 split at h2
 ·rename_i l hl
  split at h2
  ·rename_i hr ho
   split at h2
   ·rename_i hd
    cases h2
    unfold CA9 at he
    split at he
    ·exact hS.le ids _ _ _ hle ⟨l,outs,a,objs,hl,hd,hr,ho,hQ⟩
    ·exact hS.le ids _ _ _ hle ⟨l,outs,a,objs,hl,hd,hr,ho,hQ⟩
    ·cases he
   ·cases h2
  ·cases h2
 ·cases h2
theorem Cw3 (hS:I3 S P) {f:FuncId} {fn:Func} {args:List AV} {objs objs' : List Obj} {ks:List Bool} {r:AV} (hf:P.funcs[f]? = some fn)
 (h:G S P (Ah8 S P objs.length fn.results.toList fun res o k=>res=.ret r/\o=objs' /\ k=ks) (.code (fn.body.getD .skip) [] { env:=argEnv args,regs:=objRegs objs }))
 (hc:fn.body.isSome=true:=by kernel_rfl) (hn:Nat.ble args.length fn.ntmps=true:=by kernel_rfl) (ho:Nat.blt objs.length 1000=true:=by kernel_rfl)
 (hco:X6 fn.ntmps (fn.body.getD .skip)=true:=by kernel_rfl) (hnm:(fn.name == "runtime.NumGoroutine")=false:=by kernel_rfl):FunO S f args objs r objs' ks:=by
 obtain ⟨code,hcode⟩:=Option.isSome_iff_exists.1 hc
 rw [hcode,Option.getD_some] at hco h
 exact BV6 hS hf hcode (Nat.le_of_ble_eq_true hn) (by simpa [Nat.blt_eq] using ho) rfl hco hnm h
theorem al0:∀ q ∈ ([]:List (Nat × Leaf)),q.2.ok:=fun _ h=>by cases h
theorem al1 {i:Nat} {l:Leaf} {rs:List (Nat × Leaf)} (h:l.ok) (t:∀ q ∈ rs,q.2.ok):∀ q ∈ (i,l) :: rs,q.2.ok:=fun q hq=>by
 rcases List.mem_cons.1 hq with rfl | hq
 ·exact h
 ·exact t q hq
structure SC where
 all:List Oper
 cls:List Cls
 rest:List Oper
 env:Env
 regs:D2
 kn:List Nat
def SG (S:Af9) (P:Program) (sc:SC) (k:Env->D2->Prop):Prop:=Bb2 S P sc.all sc.cls sc.rest sc.env sc.regs k
def Au4 (P:Program) (sc:SC):SC:=match Bb3 P sc.kn sc.all sc.cls sc.rest [] sc.env sc.regs with
 | ⟨_,cls,rest,env,regs⟩=>⟨sc.all,cls,rest,env,regs,sc.kn⟩
def BU3 (P:Program) (sc:SC):List Prop:=(Bb3 P sc.kn sc.all sc.cls sc.rest [] sc.env sc.regs).conds
def Aj4:Cfg->Bool
 | .code (.region _ _ true) _ _=>true
 | _=>false
def AE3:Cfg->SC
 | .code (.region _ ops true) _ st=>⟨ops.toList,ops.toList.map fun o=>CI1 o.op,ops.toList,st.env,st.regs, []⟩
 | _=>⟨[], [], [], [], [], []⟩
theorem Cw4 (hS:I3 S P) (hc:pr)
 (h:SG S P (AE3 (stp P g)) fun env regs=>G S P F (.pop .normal (stp P g).k ⟨env,regs⟩)) (hp:pr=F0 (cnd P g):=by kernel_rfl) (hd:Aj4 (stp P g)=true:=by kernel_rfl) (hmix:P.follows .mixedOrders=true:=by kernel_rfl) (hok:AO6 (AE3 (stp P g)).all (AE3 (stp P g)).cls=true:=by kernel_rfl):G S P F g:=by
 refine Av7 hS hc ?_ hp
 generalize stp P g=g' at hd hok h
 unfold Aj4 at hd
 split at hd
 ·exact Cj8 hS hmix rfl hok h
 ·cases hd
section
variable {sc:SC} {k:Env->D2->Prop}
theorem CF0 (hc:pr) (h:SG S P (Au4 P sc) k) (hp:pr=F0 (BU3 P sc):=by kernel_rfl):SG S P sc k:=by
 subst hp
 unfold Au4 at h
 unfold BU3 at hc
 unfold SG at *
 generalize hr:Bb3 P sc.kn sc.all sc.cls sc.rest [] sc.env sc.regs=r at h hc
 obtain ⟨c,cls,rest,env,regs⟩:=r
 exact s_go hr hc h
theorem C_end (hc:pr) (h:k (Au4 P sc).env (Au4 P sc).regs) (hp:pr=F0 (BU3 P sc):=by kernel_rfl) (he:(Au4 P sc).rest.isEmpty=true:=by kernel_rfl):SG S P sc k:=by
 refine CF0 hc ?_ hp
 generalize Au4 P sc=s at he h
 obtain ⟨all,cls,rest,env,regs,kn⟩:=s
 cases rest with
 | nil=>exact s_end h
 | cons=>simp at he
def CF1 {R:Type _} (d:Option Nat) (a:AV) (env:Env) (regs:D2) (κ : Env->D2->R):R:=match d with
 | some d=>mkO (ins d a env) regs κ
 | none=>mkO env regs κ
theorem BD0 {R:Type _} (d:Option Nat) (a:AV) (env:Env) (regs:D2) (κ : Env->D2->R):CF1 d a env regs κ = κ (Bg8 d a env) regs:=by
 cases d <;> simp only [CF1,AH0,Bg8]
theorem Cq7:∀ {env:Env} {i d:Nat} {b:AV},Cg4 ((i,b) :: env)=true->get env d ≠ .top->d < i
 | [],_,_,_,_,h=>absurd rfl h
 | (j,c) :: r,i,d,b,hd,h=>by
  simp only [Cg4,Bool.and_eq_true,decide_eq_true_eq] at hd
  by_cases e:j=d
  ·subst e;exact hd.1
  ·simp only [get,e,if_false] at h
   exact Nat.lt_trans (Cq7 hd.2 h) hd.1
theorem Bl4:∀ {env:Env} {d:Nat} {a:AV},Cg4 env=true->get env d=a->a ≠ .top->ins d a env=env
 | [],_,_,_,h,hn=>absurd h.symm hn
 | (i,b) :: r,d,a,hd,h,hn=>by
  by_cases e:i=d
  ·subst e
   simp only [get,if_true] at h
   subst h
   simp [ins]
  ·simp only [get,e,if_false] at h
   have hlt:=Cq7 hd (by rw [h];exact hn)
   have hr:Cg4 r=true:=by
    cases r with
    | nil=>rfl
    | cons p r=>simp only [Cg4,Bool.and_eq_true] at hd;exact hd.2
   simp only [ins,show ¬ i < d by omega,e,if_false,Bl4 hr h hn]
def Bl5 (sc:SC):Option Bool:=match sc.rest with
 | o :: _=>match o.guard with
  | some (j,_)=>match CB9 sc.all j with
   | some d=>match get sc.env d with
    | .p (.bb b)=>if Cg4 sc.env=true then some b else none
    | _=>none
   | none=>none
  | none=>none
 | []=>none
def AW3 (v:Bool) (sc:SC):SC:=match sc.rest with
 | o :: _=>match o.guard with
  | some (j,_)=>match CB9 sc.all j with
   | some d=>mkO (ins d (.p (.bb v)) sc.env) sc.regs fun env regs=>⟨sc.all,sc.cls,sc.rest,env,regs,j :: sc.kn⟩
   | none=>sc
  | none=>sc
 | []=>sc
theorem Cw5 (hc:pr) {b:Bool} (ht:b=true->SG S P (AW3 true (Au4 P sc)) k) (hf:b=false->SG S P (AW3 false (Au4 P sc)) k) (hp:pr=F0 (BU3 P sc)) (hb:Bl5 (Au4 P sc)=some b):SG S P sc k:=by
 refine CF0 hc ?_ hp
 generalize Au4 P sc=s at hb ht hf
 obtain ⟨all,cls,rest,env,regs,kn⟩:=s
 cases rest with
 | nil=>simp [Bl5] at hb
 | cons o rest=>
  simp only [Bl5] at hb
  split at hb
  ·rename_i j w hg
   split at hb
   ·rename_i d hd
    split at hb
    ·rename_i b' hbb
     split at hb
     ·rename_i hds
      simp only [Option.some.injEq] at hb
      subst hb
      simp only [AW3,hg,hd,AH0] at ht hf
      cases b' with
      | true=>have:=ht rfl;rwa [Bl4 hds hbb (by simp)] at this
      | false=>have:=hf rfl;rwa [Bl4 hds hbb (by simp)] at this
     ·cases hb
    ·cases hb
   ·cases hb
  ·cases hb
def BK5 (ids:List Nat) (sc:SC):Option (FuncId × List AV × List Obj):=match sc.rest with
 | o :: _=>match Al2 sc.all sc.env o,o.op with
  | some true, .call c=>match c.callee with
   | .value f=>match Bb1 sc.regs (c.args.toList.map (aev sc.env)) with
    | some (as,regs)=>match BA6 sc.env f as with
     | some (fn,as')=>match Ai7 ids as',J1 ids regs ids with
      | some a,some ob=>if F6 ids && An8 ob then some (fn,a,ob) else none
      | _,_=>none
     | none=>none
    | none=>none
   | _=>none
  | _,_=>none
 | []=>none
def Bu3 (ids:List Nat) (ks:List Bool) (n:Nat) (sc:SC):Bool:=match sc.cls,sc.rest with
 | .w :: _,o :: _=>match o.op with
  | .call c=>match Bb1 sc.regs (c.args.toList.map (aev sc.env)) with
   | some (_,regs)=>Ai9 regs ids ks (o.dst.getD 0) n
   | none=>false
  | _=>false
 | _,_=>false
def BY9 (ids:List Nat) (ks:List Bool) (r:AV) (objs' : List Obj) (sc:SC):SC:=match sc.rest with
 | o :: rest=>match o.op with
  | .call c=>match Bb1 sc.regs (c.args.toList.map (aev sc.env)) with
   | some (_,regs)=>CF1 o.dst (unA (N3 (o.dst.getD 0) ids ks objs'.length) r) sc.env
    (BU1 (N3 (o.dst.getD 0) ids ks objs'.length) (N3 (o.dst.getD 0) ids ks objs'.length) objs' (N4 ids ks regs)) fun env regs=>⟨sc.all,sc.cls.tail,rest,env,regs,sc.kn⟩
   | none=>sc
  | _=>sc
 | []=>sc
theorem CF2 (ids:List Nat) (hc:pr) {fn:FuncId} {args:List AV} {objs objs' : List Obj} {r:AV} {ks:List Bool} (hF:FunO S fn args objs r objs' ks)
 (hk:SG S P (BY9 ids ks r objs' (Au4 P sc)) k) (hp:pr=F0 (BU3 P sc):=by kernel_rfl) (he:BK5 ids (Au4 P sc)=some (fn,args,objs):=by kernel_rfl) (hn:Bu3 ids ks objs'.length (Au4 P sc)=true:=by kernel_rfl):SG S P sc k:=by
 refine CF0 hc ?_ hp
 generalize Au4 P sc=s at he hn hk
 obtain ⟨all,cls,rest,env,regs,kn⟩:=s
 cases rest with
 | nil=>simp [BK5] at he
 | cons o rest=>
  simp only [BK5] at he
  split at he
  ·rename_i c hg ho
   split at he
   ·rename_i hcl
    split at he
    ·rename_i ha
     split at he
     ·rename_i hw
      split at he
      ·rename_i hr hob
       split at he
       ·rename_i hdy
        cases he
        simp only [Bool.and_eq_true] at hdy
        cases cls with
        | nil=>simp [Bu3] at hn
        | cons cl cls=>
         cases cl with
         | w=>
          simp only [Bu3,ho,ha] at hn
          simp only [BY9,ho,ha,BD0,List.tail_cons] at hk
          exact Cv3 ids hg ho hcl ha hw hr hob hF hdy.1 hdy.2 hn hk
         | _=>simp [Bu3] at hn
       ·cases he
      ·cases he
     ·cases he
    ·cases he
   ·cases he
  ·cases he
def BK6 (sc:SC):Bool:=match sc.cls,sc.rest with
 | _ :: _,o :: _=>match o.op with
  | .call c=>(c.args.toList.map (aev sc.env)).all BX8
  | _=>false
 | _,_=>false
def BK7 (sc:SC):Option (FuncId × List AV):=match sc.rest with
 | o :: _=>match Al2 sc.all sc.env o,o.op with
  | some true, .call c=>match c.callee with
   | .value f=>match BA6 sc.env f (c.args.toList.map (aev sc.env)) with
    | some (fn,as')=>match Ai7 [] as' with
     | some a=>some (fn,a)
     | none=>none
    | none=>none
   | _=>none
  | _,_=>none
 | []=>none
def BZ0 (r:AV) (sc:SC):SC:=match sc.rest with
 | o :: rest=>CF1 o.dst (unA [] r) sc.env sc.regs fun env regs=>⟨sc.all,sc.cls.tail,rest,env,regs,sc.kn⟩
 | []=>sc
theorem CF3 (hc:pr) {fn:FuncId} {args:List AV} {r:AV} (hF:FunO S fn args [] r [] [])
 (hk:SG S P (BZ0 r (Au4 P sc)) k) (hp:pr=F0 (BU3 P sc):=by kernel_rfl) (he:BK7 (Au4 P sc)=some (fn,args):=by kernel_rfl) (hn:BK6 (Au4 P sc)=true:=by kernel_rfl):SG S P sc k:=by
 refine CF0 hc ?_ hp
 generalize Au4 P sc=s at he hn hk
 obtain ⟨all,cls,rest,env,regs,kn⟩:=s
 cases rest with
 | nil=>simp [BK7] at he
 | cons o rest=>
  cases cls with
  | nil=>simp [BK6] at hn
  | cons cl cls=>
   simp only [BK7] at he
   split at he
   ·rename_i c hg ho
    split at he
    ·rename_i hcl
     split at he
     ·rename_i hw
      split at he
      ·rename_i hr
       cases he
       simp only [BK6,ho] at hn
       simp only [BZ0,BD0,List.tail_cons] at hk
       exact CD4 hg ho hcl hn hw hr hF hk
      ·cases he
     ·cases he
    ·cases he
   ·cases he
def Ar0 (P:Program) (sc:SC):Option (List Prop × PV):=match sc.cls,sc.rest with
 | _ :: _,o :: _=>match Al2 sc.all sc.env o with
  | some true=>Bq4 P sc.env o.op
  | _=>none
 | _,_=>none
def BD1 (x:PV) (sc:SC):SC:=match sc.rest with
 | o :: rest=>CF1 o.dst (.p x) sc.env sc.regs fun env regs=>⟨sc.all,sc.cls.tail,rest,env,regs,sc.kn⟩
 | []=>sc
theorem Cw6 (hc:pr) {x:PV} (hk:SG S P (BD1 x (Au4 P sc)) k) (hp:pr=F0 (BU3 P sc):=by kernel_rfl) (he:(Ar0 P (Au4 P sc)).map (·.2)=some x:=by kernel_rfl) (hc2:((Ar0 P (Au4 P sc)).map fun q=>F0 q.1)=some (true=true):=by kernel_rfl):SG S P sc k:=by
 refine CF0 hc ?_ hp
 generalize Au4 P sc=s at he hc2 hk
 obtain ⟨all,cls,rest,env,regs,kn⟩:=s
 cases rest with
 | nil=>cases cls <;> simp [Ar0] at he
 | cons o rest=>
  cases cls with
  | nil=>simp [Ar0] at he
  | cons cl cls=>
   cases hg:Al2 all env o with
   | none=>simp [Ar0,hg] at he
   | some bb=>
    cases bb with
    | false=>simp [Ar0,hg] at he
    | true=>
     simp only [Ar0,hg] at he hc2
     cases ha:Bq4 P env o.op with
     | none=>rw [ha] at he;cases he
     | some q=>
      obtain ⟨c,y⟩:=q
      rw [ha] at he hc2
      simp only [Option.map_some,Option.some.injEq] at he hc2
      subst he
      simp only [BD1,BD0,List.tail_cons] at hk
      exact Cj7 hg ha (by rw [hc2];trivial) hk
end
end
structure KG (S:Af9) (P:Program) (F:J5) (g:Cfg):Prop where
 out:G S P F g
structure DG (S:Af9) (P:Program) (sc:SC) (k:Env->D2->Prop):Prop where
 out:SG S P sc k
structure KLe (ids:List (Nat × Nat)) (s t:St):Prop where
 out:Le ids s t
section
variable {S:Af9} {P:Program} {F:J5} {g:Cfg} {pr:Prop}
theorem kl {ids:List (Nat × Nat)} {s t:St} (h:(leK ids s t).map (·.map Leaf.src)=(leK ids s t).map (·.map Leaf.tgt):=by kernel_rfl) (h1:(leK ids s t).isSome=true:=by kernel_rfl):KLe ids s t:=⟨kle h h1⟩
theorem klR {ids:List (Nat × Nat)} {s t:St} (rs:List (Nat × Leaf)) (hr:∀ q ∈ rs,q.2.ok) (h:(leK ids s t).map (CE4 (rs.map (·.1)) Leaf.src)=(leK ids s t).map (CE4 (rs.map (·.1)) Leaf.tgt):=by kernel_rfl)
 (h2:(leK ids s t).map (fun L=>rs.map fun q=>L[q.1]?)=some (rs.map fun q=>some q.2):=by kernel_rfl):KLe ids s t:=⟨kleR rs hr h h2⟩
theorem A1 (hS:I3 S P) (hc:pr) {b:Bool} (ht:b=true->KG S P F (CE1 (stp P g))) (hf:b=false->KG S P F (CE2 (stp P g))) (hp:pr=F0 (cnd P g):=by kernel_rfl) (hb:Cv9 (stp P g)=some b:=by kernel_rfl):KG S P F g:=
 ⟨CE5 hS hc (fun h=>(ht h).out) (fun h=>(hf h).out) hp hb⟩
theorem A9 (hS:I3 S P) (hc:pr) {b:Bool} (ht:b=true->KG S P F (Bu0 true (stp P g))) (hf:b=false->KG S P F (Bu0 false (stp P g))) (hp:pr=F0 (cnd P g):=by kernel_rfl) (hb:BY5 (stp P g)=some b:=by kernel_rfl):KG S P F g:=
 ⟨Cw2 hS hc (fun h=>(ht h).out) (fun h=>(hf h).out) hp hb⟩
theorem A3 (hS:I3 S P) (ids:List Nat) (hc:pr) {fn:FuncId} {args:List AV} {objs objs' : List Obj} {r:AV} {ks:List Bool} (hF:FunO S fn args objs r objs' ks) (hk:KG S P F (Cw0 ids ks r objs' (stp P g)))
 (hp:pr=F0 (cnd P g):=by kernel_rfl) (he:BY6 ids (stp P g)=some (fn,args,objs):=by kernel_rfl) (hn:BY7 ids ks objs'.length (stp P g)=true:=by kernel_rfl):KG S P F g:=⟨CE6 hS ids hc hF hk.out hp he hn⟩
theorem T3 (hS:I3 S P) (hc:pr) (st:St) {ids:List (Nat × Nat)} (hk:KG S P F (opsS st (stp P g))) (hp:pr=F0 (cnd P g):=by kernel_rfl) (ho:AW1 (stp P g)=true:=by kernel_rfl) (hle:KLe ids (stp P g).st st:=by exact kl):KG S P F g:=
 ⟨CE7 hS hc st hk.out hp ho hle.out⟩
theorem Ai3 (hS:I3 S P) (hc:pr) (hF:∀ s,S.up s (F .normal)->F .normal s) (n:Nat) (s:St)
 (h1:∀ (M:St->Prop),(∀ (g' : Cfg) (ids:List (Nat × Nat)) (pr:Prop),pr->(hp:pr=F0 (cnd P g'):=by kernel_rfl)->(he:stp P g' = .pop .normal (.mid M :: (stp P g).k.drop n) (stp P g').st:=by kernel_rfl)->(hle:KLe ids (stp P g').st s:=by exact kl)->KG S P F g')->KG S P F (CE3 n M (stp P g)))
 (h2:KG S P F (.pop .normal ((stp P g).k.drop n) s)) (hp:pr=F0 (cnd P g):=by kernel_rfl) (hn:Nat.ble n (stp P g).k.length=true:=by kernel_rfl):KG S P F g:=
 ⟨J_cut hS hc hF n s (fun M hb=>(h1 M fun g' ids pr hc hp he hle=>⟨hb g' ids pr hc hp he hle.out⟩).out) h2.out hp hn⟩
theorem Bb4 (hS:I3 S P) (hc:pr) (hF:∀ s,S.up s (F .normal)->F .normal s) {R A:Type} {f:(A->Option R)->Option R} {k0:A->Option R} {r:R} (h:lt k0 f=some r) (n:Nat) (s:A->St)
 (h1:∀ (M:St->Prop) (k:A->Option R),(∀ (g' : Cfg) (ids:List (Nat × Nat)) (pr:Prop) (a:A),pr->k a=some r->(hp:pr=F0 (cnd P g'):=by kernel_rfl)->(he:stp P g' = .pop .normal (.mid M :: (stp P g).k.drop n) (stp P g').st:=by kernel_rfl)->(hle:KLe ids (stp P g').st (s a):=by exact kl)->KG S P F g')->f k=some r->KG S P F (CE3 n M (stp P g)))
 (h2:∀ a,k0 a=some r->KG S P F (.pop .normal ((stp P g).k.drop n) (s a))) (hp:pr=F0 (cnd P g):=by kernel_rfl) (hn:Nat.ble n (stp P g).k.length=true:=by kernel_rfl):KG S P F g:=
 ⟨J_lt hS hc hF h n s (fun M k hb hf=>(h1 M k (fun g' ids pr a hc hk hp he hle=>⟨hb g' ids pr a hc hk hp he hle.out⟩) hf).out) (fun a hk=>(h2 a hk).out) hp hn⟩
theorem Ai0 (hS:I3 S P) (hc:pr) {R A:Type} {body:(A->Option R)->A->Option R} {N:Nat} {a0:A} {r:R} (h:Aa9 N body a0=some r) (s:A->St) {ids:List (Nat × Nat)}
 (hr:∀ (X:Type) (s' : X->St) (J:X->Prop) (m:X->Nat) (n:Nat) (self:A->Option R) (a:A),
  (∀ (g' : Cfg) (ids:List (Nat × Nat)) (pr:Prop) (a:A),pr->self a=some r->(hp:pr=F0 (cnd P g'):=by kernel_rfl)->(he:stp P g' = .pop .normal (.lp X s' J m n :: (stp P g).k) (stp P g').st:=by kernel_rfl)->(hle:KLe ids (stp P g').st (s a):=by exact kl)->KG S P F g') ->
  body self a=some r->KG S P F (.code (BC9 (stp P g)) (.lp X s' J m n :: (stp P g).k) (s a))) (hp:pr=F0 (cnd P g):=by kernel_rfl) (hl:AP0 (stp P g)=true:=by kernel_rfl) (hle:KLe ids (stp P g).st (s a0):=by exact kl):KG S P F g:=
 ⟨CE8 hS hc h s (fun X s' J m n self a hb hbody=>(hr X s' J m n self a (fun g' ids pr a hc hself hp he hle=>⟨hb g' ids pr a hc hself hp he hle.out⟩) hbody).out) hp hl hle.out⟩
theorem Ab0 (hS:I3 S P) (hc:pr) {R A B:Type} {body:(A->B->Option R)->A->B->Option R} {N:Nat} {a0:A} {b0:B} {r:R} (h:T0 N body a0 b0=some r) (s:A->B->St) {ids:List (Nat × Nat)}
 (hr:∀ (X:Type) (s' : X->St) (J:X->Prop) (m:X->Nat) (n:Nat) (self:A->B->Option R) (a:A) (b:B),
  (∀ (g' : Cfg) (ids:List (Nat × Nat)) (pr:Prop) (a:A) (b:B),pr->self a b=some r->(hp:pr=F0 (cnd P g'):=by kernel_rfl)->(he:stp P g' = .pop .normal (.lp X s' J m n :: (stp P g).k) (stp P g').st:=by kernel_rfl)->(hle:KLe ids (stp P g').st (s a b):=by exact kl)->KG S P F g') ->
  body self a b=some r->KG S P F (.code (BC9 (stp P g)) (.lp X s' J m n :: (stp P g).k) (s a b))) (hp:pr=F0 (cnd P g):=by kernel_rfl) (hl:AP0 (stp P g)=true:=by kernel_rfl) (hle:KLe ids (stp P g).st (s a0 b0):=by exact kl):KG S P F g:=
 Ai0 hS hc h (fun x=>s x.1 x.2) (fun X s' J m n self a hb=>hr X s' J m n (fun a b=>self (a,b)) a.1 a.2 fun g' ids pr a b h1 h2 h3 h4 h5=>hb g' ids pr (a,b) h1 h2 h3 h4 h5) hp hl hle
theorem CF4 (hS:I3 S P) (hc:pr) {R A B C:Type} {body:(A->B->C->Option R)->A->B->C->Option R} {N:Nat} {a0:A} {b0:B} {c0:C} {r:R} (h:CA6 N body a0 b0 c0=some r) (s:A->B->C->St) {ids:List (Nat × Nat)}
 (hr:∀ (X:Type) (s' : X->St) (J:X->Prop) (m:X->Nat) (n:Nat) (self:A->B->C->Option R) (a:A) (b:B) (c:C),
  (∀ (g' : Cfg) (ids:List (Nat × Nat)) (pr:Prop) (a:A) (b:B) (c:C),pr->self a b c=some r->(hp:pr=F0 (cnd P g'):=by kernel_rfl)->(he:stp P g' = .pop .normal (.lp X s' J m n :: (stp P g).k) (stp P g').st:=by kernel_rfl)->(hle:KLe ids (stp P g').st (s a b c):=by exact kl)->KG S P F g') ->
  body self a b c=some r->KG S P F (.code (BC9 (stp P g)) (.lp X s' J m n :: (stp P g).k) (s a b c))) (hp:pr=F0 (cnd P g):=by kernel_rfl) (hl:AP0 (stp P g)=true:=by kernel_rfl) (hle:KLe ids (stp P g).st (s a0 b0 c0):=by exact kl):KG S P F g:=
 Ai0 hS hc h (fun x=>s x.1 x.2.1 x.2.2) (fun X s' J m n self a hb=>hr X s' J m n (fun a b c=>self (a,b,c)) a.1 a.2.1 a.2.2 fun g' ids pr a b c h1 h2 h3 h4 h5=>hb g' ids pr (a,b,c) h1 h2 h3 h4 h5) hp hl hle
theorem B5 (hS:I3 S P) (hc:pr) {n:Nat} {rs:List ResultVar} {Q:Bb0->List Obj->List Bool->Prop} {a:AV} {objs:List Obj} (outs:List Nat) (hQ:Q (.ret a) objs (Au7 n outs)) (hp:pr=F0 (cnd P g):=by kernel_rfl)
 (he:(CA9 (stp P g)).bind (fun st=>BQ5 P st rs outs)=some (a,objs):=by kernel_rfl):KG S P (Ah8 S P n rs Q) g:=⟨J_ret hS hc outs hQ hp he⟩
theorem B6 (hS:I3 S P) (hc:pr) {n:Nat} {rs:List ResultVar} {Q:Bb0->List Obj->List Bool->Prop} {a:AV} {objs:List Obj} (st:St) (outs:List Nat) {ids:List (Nat × Nat)} (hQ:Q (.ret a) objs (Au7 n outs)) (hp:pr=F0 (cnd P g):=by kernel_rfl)
 (he:(CA9 (stp P g)).isSome=true:=by kernel_rfl) (hle:KLe ids (stp P g).st st:=by exact kl) (hr:BQ5 P st rs outs=some (a,objs):=by kernel_rfl):KG S P (Ah8 S P n rs Q) g:=⟨CE9 hS hc st outs hQ hp he hle.out hr⟩
theorem A7 (hS:I3 S P) {f:FuncId} {fn:Func} {args:List AV} {objs objs' : List Obj} {ks:List Bool} {r:AV} (hf:P.funcs[f]? = some fn)
 (h:KG S P (Ah8 S P objs.length fn.results.toList fun res o k=>res=.ret r/\o=objs' /\ k=ks) (.code (fn.body.getD .skip) [] { env:=argEnv args,regs:=objRegs objs }))
 (hc:fn.body.isSome=true:=by kernel_rfl) (hn:Nat.ble args.length fn.ntmps=true:=by kernel_rfl) (ho:Nat.blt objs.length 1000=true:=by kernel_rfl)
 (hco:X6 fn.ntmps (fn.body.getD .skip)=true:=by kernel_rfl) (hnm:(fn.name == "runtime.NumGoroutine")=false:=by kernel_rfl):FunO S f args objs r objs' ks:=Cw3 hS hf h.out hc hn ho hco hnm
theorem BD2 (hS:I3 S P) (hc:pr) (h:DG S P (AE3 (stp P g)) fun env regs=>KG S P F (.pop .normal (stp P g).k ⟨env,regs⟩)) (hp:pr=F0 (cnd P g):=by kernel_rfl) (hd:Aj4 (stp P g)=true:=by kernel_rfl) (hmix:P.follows .mixedOrders=true:=by kernel_rfl)
 (hok:AO6 (AE3 (stp P g)).all (AE3 (stp P g)).cls=true:=by kernel_rfl):KG S P F g:=by
 have e:(fun env regs=>KG S P F (.pop .normal (stp P g).k ⟨env,regs⟩))=fun env regs=>G S P F (.pop .normal (stp P g).k ⟨env,regs⟩):=by
  funext env regs
  exact propext ⟨fun h=>h.out,fun h=>⟨h⟩⟩
 rw [e] at h
 exact ⟨Cw4 hS hc h.out hp hd hmix hok⟩
section
variable {sc:SC} {k:Env->D2->Prop}
theorem Q1 (hc:pr) (h:k (Au4 P sc).env (Au4 P sc).regs) (hp:pr=F0 (BU3 P sc):=by kernel_rfl) (he:(Au4 P sc).rest.isEmpty=true:=by kernel_rfl):DG S P sc k:=⟨C_end hc h hp he⟩
theorem Av8 (hc:pr) {b:Bool} (ht:b=true->DG S P (AW3 true (Au4 P sc)) k) (hf:b=false->DG S P (AW3 false (Au4 P sc)) k) (hp:pr=F0 (BU3 P sc):=by kernel_rfl) (hb:Bl5 (Au4 P sc)=some b:=by kernel_rfl):DG S P sc k:=
 ⟨Cw5 hc (fun h=>(ht h).out) (fun h=>(hf h).out) hp hb⟩
theorem Cq8 (ids:List Nat) (hc:pr) {fn:FuncId} {args:List AV} {objs objs' : List Obj} {r:AV} {ks:List Bool} (hF:FunO S fn args objs r objs' ks) (hk:DG S P (BY9 ids ks r objs' (Au4 P sc)) k)
 (hp:pr=F0 (BU3 P sc):=by kernel_rfl) (he:BK5 ids (Au4 P sc)=some (fn,args,objs):=by kernel_rfl) (hn:Bu3 ids ks objs'.length (Au4 P sc)=true:=by kernel_rfl):DG S P sc k:=⟨CF2 ids hc hF hk.out hp he hn⟩
theorem At2 (hc:pr) {fn:FuncId} {args:List AV} {r:AV} (hF:FunO S fn args [] r [] []) (hk:DG S P (BZ0 r (Au4 P sc)) k) (hp:pr=F0 (BU3 P sc):=by kernel_rfl) (he:BK7 (Au4 P sc)=some (fn,args):=by kernel_rfl) (hn:BK6 (Au4 P sc)=true:=by kernel_rfl):DG S P sc k:=
 ⟨CF3 hc hF hk.out hp he hn⟩
theorem AE4 (hc:pr) {x:PV} (hk:DG S P (BD1 x (Au4 P sc)) k) (hp:pr=F0 (BU3 P sc):=by kernel_rfl) (he:(Ar0 P (Au4 P sc)).map (·.2)=some x:=by kernel_rfl) (hc2:((Ar0 P (Au4 P sc)).map fun q=>F0 q.1)=some (true=true):=by kernel_rfl):DG S P sc k:=⟨Cw6 hc hk.out hp he hc2⟩
end
end
end Go.AM
set_option linter.unusedVariables false
namespace Go.AM
section
variable {S:Af9} {P:Program} {F:J5} {g:Cfg} {pr:Prop}
def yldE:Cfg->Option (List PV × List (List PV))
 | .ops all (o :: _) _ st=>match As9 all st.env o,o.op with
  | some true, .call c=>match c.callee with
   | .value f=>match aev st.env f,AK1 st.regs (c.args.toList.map (aev st.env)) with
    | .yf j,some (xs,regs)=>match A2 regs j with
     | some (.yld (ys :: rest) true)=>if Aq3 j regs=true/\xs.length=ys.length then some (xs,ys :: rest) else none
     | _=>none
    | _,_=>none
   | _=>none
  | _,_=>none
 | _=>none
def CF5 (b:Bool) (rest:List (List PV)):Cfg->Cfg
 | .ops all (o :: ops) K st=>match o.op with
  | .call c=>match c.callee with
   | .value f=>match aev st.env f,AK1 st.regs (c.args.toList.map (aev st.env)) with
    | .yf j,some (_,regs)=>CA8 o.dst (.p (.bb b)) st.env (ins j (.yld rest b) regs) fun st=>.ops all ops K st
    | _,_=>.ops all (o :: ops) K st
   | _=>.ops all (o :: ops) K st
  | _=>.ops all (o :: ops) K st
 | g=>g
theorem Bu4:∀ l:List PV,Cs5 l l
 | []=>trivial
 | x :: l=>⟨.inl rfl,Bu4 l⟩
theorem Cw7 (hS:I3 S P) (hc:pr) {ys:List PV} {rest:List (List PV)} (ht:G S P F (CF5 true rest (stp P g))) (hf:G S P F (CF5 false [] (stp P g))) (hp:pr=F0 (cnd P g)) (he:yldE (stp P g)=some (ys,ys :: rest)):G S P F g:=by
 refine Av7 hS hc ?_ hp
 generalize stp P g=g' at he ht hf
 unfold yldE at he
 split at he
 ·split at he
  ·rename_i hg ho
   split at he
   ·rename_i hcl
    split at he
    ·rename_i hy hv
     split at he
     ·rename_i hr
      split at he
      ·rename_i ho2
       simp only [Option.some.injEq,Prod.mk.injEq,List.cons.injEq] at he
       obtain ⟨rfl,rfl,rfl⟩:=he
       simp only [CF5,ho,hcl,hy,hv,Bl3] at ht hf
       refine Cv4 hS hg ho hcl hy hv hr ho2.1 (Bu4 _) fun b=>?_
       cases b
       ·exact hf
       ·exact ht
      ·cases he
     ·cases he
    ·cases he
   ·cases he
  ·cases he
 ·cases he
theorem Am8 (hS:I3 S P) (hc:pr) {ys:List PV} {rest:List (List PV)} (ht:KG S P F (CF5 true rest (stp P g))) (hf:KG S P F (CF5 false [] (stp P g))) (hp:pr=F0 (cnd P g):=by kernel_rfl) (he:yldE (stp P g)=some (ys,ys :: rest):=by kernel_rfl):KG S P F g:=
 ⟨Cw7 hS hc ht.out hf.out hp he⟩
def Ab4 {T:Type} (x:T) (o:Option (List T)):Option (List T):=o.map (x :: ·)
theorem Bb9 {T:Type} {x:T} {o:Option (List T)} {L:List T} (h:Ab4 x o=some L):∃ L',L=x :: L' /\ o=some L':=by
 simp only [Ab4,Option.map_eq_some_iff] at h
 obtain ⟨l,h1,h2⟩:=h
 exact ⟨l,h2.symm,h1⟩
theorem Av9 (hS:I3 S P) (hc:pr) {R A:Type} {body:(A->Option R)->A->Option R} {N:Nat} {a0:A} {r0:R} (h:Aa9 N body a0=some r0) (s:A->R->St) {ids:List (Nat × Nat)}
 (hr:∀ (X:Type) (s' : X->St) (J:X->Prop) (m:X->Nat) (n:Nat) (self:A->Option R) (a:A) (r:R),
  (∀ (g' : Cfg) (ids:List (Nat × Nat)) (pr:Prop) (a:A) (r:R),pr->self a=some r->(hp:pr=F0 (cnd P g'):=by kernel_rfl)->(he:stp P g' = .pop .normal (.lp X s' J m n :: (stp P g).k) (stp P g').st:=by kernel_rfl)->(hle:KLe ids (stp P g').st (s a r):=by exact kl)->KG S P F g') ->
  body self a=some r->KG S P F (.code (BC9 (stp P g)) (.lp X s' J m n :: (stp P g).k) (s a r))) (hp:pr=F0 (cnd P g):=by kernel_rfl) (hl:AP0 (stp P g)=true:=by kernel_rfl) (hle:KLe ids (stp P g).st (s a0 r0):=by exact kl):KG S P F g:=by
 refine ⟨Av7 hS hc ?_ hp⟩
 rw [BY8 hl]
 refine Cp8 hS (X:=Nat × A × R) (fun x=>s x.2.1 x.2.2) (fun x=>Aa9 x.1 body x.2.1=some x.2.2) (fun x=>x.1) (N,a0,r0) ids hle.out h ?_
 rintro ⟨n,a,r⟩ hx
 cases n with
 | zero=>cases hx
 | succ n=>
  exact (hr _ _ _ _ _ (Aa9 n body) a r (fun g' ids pr a r hc hself hp he hle=>⟨Av7 hS hc (by rw [he];exact BV4 hS (n,a,r) ids hle.out hself (Nat.lt_succ_self n)) hp⟩) hx).out
theorem BD3 (hS:I3 S P) (hc:pr) {R A B:Type} {body:(A->B->Option R)->A->B->Option R} {N:Nat} {a0:A} {b0:B} {r0:R} (h:T0 N body a0 b0=some r0) (s:A->B->R->St) {ids:List (Nat × Nat)}
 (hr:∀ (X:Type) (s' : X->St) (J:X->Prop) (m:X->Nat) (n:Nat) (self:A->B->Option R) (a:A) (b:B) (r:R),
  (∀ (g' : Cfg) (ids:List (Nat × Nat)) (pr:Prop) (a:A) (b:B) (r:R),pr->self a b=some r->(hp:pr=F0 (cnd P g'):=by kernel_rfl)->(he:stp P g' = .pop .normal (.lp X s' J m n :: (stp P g).k) (stp P g').st:=by kernel_rfl)->(hle:KLe ids (stp P g').st (s a b r):=by exact kl)->KG S P F g') ->
  body self a b=some r->KG S P F (.code (BC9 (stp P g)) (.lp X s' J m n :: (stp P g).k) (s a b r))) (hp:pr=F0 (cnd P g):=by kernel_rfl) (hl:AP0 (stp P g)=true:=by kernel_rfl) (hle:KLe ids (stp P g).st (s a0 b0 r0):=by exact kl):KG S P F g:=
 Av9 hS hc h (fun x r=>s x.1 x.2 r) (fun X s' J m n self a r hb=>hr X s' J m n (fun a b=>self (a,b)) a.1 a.2 r fun g' ids pr a b r h1 h2 h3 h4 h5=>hb g' ids pr (a,b) r h1 h2 h3 h4 h5) hp hl hle
theorem Az5 (hS:I3 S P) {f:FuncId} {fn:Func} {first caps:List AV} {objs:List Obj} {L:List (List PV)} (hf:P.funcs[f]? = some fn)
 (h:KG S P (Ah8 S P (objs ++ [Obj.yld L true]).length fn.results.toList fun r objs' ks=>∃ b,objs'[objs.length]? = some (.yld [] b)/\ks[objs.length]? = some true/\∃ a,r=.ret a) (.code (fn.body.getD .skip) [] { env:=argEnv (first ++ .yf objs.length :: caps),regs:=objRegs (objs ++ [Obj.yld L true]) }))
 (hc:fn.body.isSome=true:=by kernel_rfl) (hn:Nat.ble (first ++ .yf objs.length :: caps).length fn.ntmps=true:=by kernel_rfl) (ho:Nat.blt (objs ++ [Obj.yld L true]).length 1000=true:=by kernel_rfl)
 (hco:X6 fn.ntmps (fn.body.getD .skip)=true:=by kernel_rfl) (hnm:(fn.name == "runtime.NumGoroutine")=false:=by kernel_rfl):Am7 S f first caps objs L:=by
 obtain ⟨code,hcode⟩:=Option.isSome_iff_exists.1 hc
 rw [hcode,Option.getD_some] at hco h
 exact AL2 hS hf hcode (Nat.le_of_ble_eq_true hn) (by simpa [Nat.blt_eq] using ho) rfl hco hnm h.out
def Bu5 (P:Program) (ids:List Nat):Cfg->Option (FuncId × List AV × List AV × List Obj)
 | .code (.rangeFunc op _ _ _) _ st=>match Am5 st.env op with
  | some (f,first,caps)=>match P.funcs[f]?,J1 ids st.regs ids,Ai7 ids first,Ai7 ids caps with
   | some fn,some objs,some as,some bs=>if (fn.body.isSome && !(fn.name == "runtime.NumGoroutine") && An8 objs && F6 ids && (objs.length == ids.length) && Nat.blt ids.length 1000)=true then some (f,as,bs,objs) else none
   | _,_,_,_=>none
  | none=>none
 | _=>none
def AB8:Cfg->Array Tmp
 | .code (.rangeFunc _ ps _ _) _ _=>ps
 | _=>#[]
def Bu6:Cfg->Code
 | .code (.rangeFunc _ _ a _) _ _=>a
 | _=>.skip
def Bu7:Cfg->Code
 | .code (.rangeFunc _ _ _ b) _ _=>b
 | _=>.skip
def Bu8 (ids ts:List Nat) (g:Cfg):St:=⟨T1 ts (ts.map (get g.st.env)),N4 ids (ids.map fun _=>false) g.st.regs⟩
def rst (gh:Nat) (t:St):St:=⟨[],ins gh (.ghost (t.env.map (·.2))) t.regs⟩
def Bu9 (gh:Nat) (ps:Array Tmp) (ys:List PV) (t:St):St:=⟨AF6 ps.toList ys t.env,ins gh (.ghost (t.env.map (·.2))) t.regs⟩
def exitE:Cfg->AT6
 | .pop e _ _=>e
 | _=>.normal
def Cq9:Cfg->Bool
 | .pop .ret [] _=>true
 | .pop (.exit _) [] _=>true
 | _=>false
theorem BZ1 (regs:D2) (d:Nat) (x:Obj):A2 (ins d x regs) d=some x:=by
 induction regs with
 | nil=>simp [ins,A2]
 | cons p r ih=>
  obtain ⟨i,b⟩:=p
  simp only [ins]
  split
  ·simp [A2]
  split
  ·simp [A2]
  ·rename_i h1 h2
   simp only [A2,h2,if_false,ih]
theorem Aw0 (gh:Nat) (t:St):A2 (rst gh t).regs gh=some (.ghost (t.env.map fun p=>p.2)):=by unfold rst;exact BZ1 _ _ _
def AW4 (ids:List Nat):Cfg->Option (FuncId × List AV × List AV × List Obj)
 | .code (.rangeFunc op _ _ _) _ st=>match Am5 st.env op with
  | some (f,first,caps)=>match J1 ids st.regs ids,Ai7 ids first,Ai7 ids caps with
   | some objs,some as,some bs=>if (An8 objs && F6 ids && (objs.length == ids.length) && Nat.blt ids.length 1000)=true then some (f,as,bs,objs) else none
   | _,_,_=>none
  | none=>none
 | _=>none
theorem Az6 {ids:List Nat} {g:Cfg} {q:FuncId × List AV × List AV × List Obj} (h:Bu5 P ids g=some q):AW4 ids g=some q/\∃ fn,P.funcs[q.1]? = some fn/\fn.body.isSome=true/\(fn.name == "runtime.NumGoroutine")=false:=by
 unfold Bu5 at h
 split at h
 ·split at h
  ·rename_i hpo
   split at h
   ·rename_i fn objs' as' bs' h1 h2 h3 h4
    split at h
    ·rename_i hh
     cases h
     simp only [Bool.and_eq_true,Bool.not_eq_true',beq_iff_eq] at hh
     obtain ⟨⟨⟨⟨⟨e1,e2⟩,e3⟩,e4⟩,e5⟩,e6⟩:=hh
     refine ⟨?_,fn,h1,e1,by simpa using e2⟩
     simp only [AW4,hpo,h2,h3,h4,e3,e4,e5,e6,beq_self_eq_true,Bool.and_true,if_true]
    ·cases h
   ·cases h
  ·cases h
 ·cases h
theorem AH2 (hS:I3 S P) (hc:pr) {f:FuncId} {as bs:List AV} {objs:List Obj} {R T A:Type} {enc:T->List PV} {L:List T} {mb:(A->Option R)->T->A->Option R} {mk:A->Option R} {a0:A} {r:R} (hfn:∃ fn,P.funcs[f]? = some fn/\fn.body.isSome=true/\(fn.name == "runtime.NumGoroutine")=false)
 (ids ts:List Nat) (gh:Nat) (s:A->St) {idl:List (Nat × Nat)} (h:K4 L mb mk a0=some r) (hF:Am7 S f as bs objs (L.map enc))
 (hlen:∀ t:T,(enc t).length=(AB8 (stp P g)).size) (hk:∀ a,(s a).env.map (·.1)=ts) (hn:∀ a,A2 (s a).regs gh=none) (hb0:∀ a,(⟨T1 ts ((s a).env.map (·.2)),del gh (ins gh (.ghost ((s a).env.map (·.2))) (s a).regs)⟩:St)=s a)
 (hround:∀ (t:T) (next:St->Prop) (self:A->Option R) (a:A),
  (∀ (g' : Cfg) (ids:List (Nat × Nat)) (pr:Prop) (a:A),pr->self a=some r->(hp:pr=F0 (cnd P g'):=by kernel_rfl)->(he:stp P g' = .pop .normal [] (stp P g').st:=by kernel_rfl)->(hle:KLe ids (stp P g').st (rst gh (s a)):=by exact kl)->KG S P (Am6 S gh ts next (kp S P (stp P g).k F)) g') ->
  mb self t a=some r->KG S P (Ab9 S P (Bu7 (stp P g)) gh ts next (kp S P (stp P g).k F)) (.code (Bu6 (stp P g)) [] (Bu9 gh (AB8 (stp P g)) (enc t) (s a))))
 (hend:∀ a,mk a=some r->KG S P F (.pop .normal (stp P g).k (s a)))
 (hp:pr=F0 (cnd P g):=by kernel_rfl) (he:AW4 ids (stp P g)=some (f,as,bs,objs):=by kernel_rfl) (hgh:Nat.blt gh 1000=true:=by kernel_rfl) (hng:A2 (stp P g).st.regs gh=none:=by kernel_rfl) (hts:F6 ts=true:=by kernel_rfl)
 (hle:KLe idl (Bu8 ids ts (stp P g)) (s a0):=by exact kl):KG S P F g:=by
 refine ⟨Av7 hS hc ?_ hp⟩
 generalize stp P g=g1 at hlen hround hend he hng hle
 unfold AW4 at he
 split at he
 ·rename_i op ps asg body K st
  split at he
  ·rename_i f' first caps hpo
   split at he
   ·rename_i objs' as' bs' h2 h3 h4
    split at he
    ·rename_i hh
     simp only [Option.some.injEq,Prod.mk.injEq] at he
     obtain ⟨rfl,rfl,rfl,rfl⟩:=he
     simp only [Bool.and_eq_true,Bool.not_eq_true',beq_iff_eq] at hh
     obtain ⟨⟨⟨e3,e4⟩,e5⟩,e6⟩:=hh
     refine Cv8 hS ids ts gh s idl h hF hpo hfn h2 e3 e4 h3 h4 e5 hgh hng e6 hts hlen hle.out hk hn (fun t next self a hb hm=>?_) (fun a hm=>(hend a hm).out)
     refine (hround t next self a (fun g' ids' pr a hc hself hp he hle=>⟨Av7 hS hc ?_ hp⟩) hm).out
     rw [he]
     have hl:((s a).env.map (·.2)).length=ts.length:=by rw [<- hk a];simp
     refine hb _ (rst gh (s a)) ((s a).env.map fun p=>p.2) ids' a hle.out (Aw0 gh (s a)) hl ?_ (hb0 a) hself
     have:=congrArg St.regs (hb0 a)
     simp only at this
     show A2 (del gh (ins gh _ _)) gh=none
     rw [this];exact hn a
    ·cases he
   ·cases he
  ·cases he
 ·cases he
theorem AL6 (hS:I3 S P) (hc:pr) {f:FuncId} {as bs:List AV} {objs:List Obj} {R T A:Type} {enc:T->List PV} {L:List T} {mb:(A->Option R)->T->A->Option R} {mk:A->Option R} {a0:A} {r:R}
 (ids ts:List Nat) (gh:Nat) (s:A->St) {idl:List (Nat × Nat)} (h:K4 L mb mk a0=some r) (hF:Am7 S f as bs objs (L.map enc))
 (hlen:∀ t:T,(enc t).length=(AB8 (stp P g)).size) (hk:∀ a,(s a).env.map (·.1)=ts) (hn:∀ a,A2 (s a).regs gh=none) (hb0:∀ a,(⟨T1 ts ((s a).env.map (·.2)),del gh (ins gh (.ghost ((s a).env.map (·.2))) (s a).regs)⟩:St)=s a)
 (hround:∀ (t:T) (next:St->Prop) (self:A->Option R) (a:A),
  (∀ (g' : Cfg) (ids:List (Nat × Nat)) (pr:Prop) (a:A),pr->self a=some r->(hp:pr=F0 (cnd P g'):=by kernel_rfl)->(he:stp P g' = .pop .normal [] (stp P g').st:=by kernel_rfl)->(hle:KLe ids (stp P g').st (rst gh (s a)):=by exact kl)->KG S P (Am6 S gh ts next (kp S P (stp P g).k F)) g') ->
  mb self t a=some r->KG S P (Ab9 S P (Bu7 (stp P g)) gh ts next (kp S P (stp P g).k F)) (.code (Bu6 (stp P g)) [] (Bu9 gh (AB8 (stp P g)) (enc t) (s a))))
 (hend:∀ a,mk a=some r->KG S P F (.pop .normal (stp P g).k (s a)))
 (hp:pr=F0 (cnd P g):=by kernel_rfl) (he:Bu5 P ids (stp P g)=some (f,as,bs,objs):=by kernel_rfl) (hgh:Nat.blt gh 1000=true:=by kernel_rfl) (hng:A2 (stp P g).st.regs gh=none:=by kernel_rfl) (hts:F6 ts=true:=by kernel_rfl)
 (hle:KLe idl (Bu8 ids ts (stp P g)) (s a0):=by exact kl):KG S P F g:=
 AH2 hS hc (Az6 he).2 ids ts gh s h hF hlen hk hn hb0 hround hend hp (Az6 he).1 hgh hng hts hle
theorem BZ2 (hS:I3 S P) (hc:pr) {f:FuncId} {as bs:List AV} {objs:List Obj} {R T A:Type} {enc:T->List PV} {L:List T} {mb:(A->Option R)->T->A->Option R} {mk:A->Option R} {a0:A} {r0:R} (hfn:∃ fn,P.funcs[f]? = some fn/\fn.body.isSome=true/\(fn.name == "runtime.NumGoroutine")=false)
 (ids ts:List Nat) (gh:Nat) (s:A->R->St) {idl:List (Nat × Nat)} (h:K4 L mb mk a0=some r0) (hF:Am7 S f as bs objs (L.map enc))
 (hlen:∀ t:T,(enc t).length=(AB8 (stp P g)).size) (hk:∀ a r,(s a r).env.map (·.1)=ts) (hn:∀ a r,A2 (s a r).regs gh=none) (hb0:∀ a r,(⟨T1 ts ((s a r).env.map (·.2)),del gh (ins gh (.ghost ((s a r).env.map (·.2))) (s a r).regs)⟩:St)=s a r)
 (hround:∀ (t:T) (next:St->Prop) (self:A->Option R) (a:A) (r:R),
  (∀ (g' : Cfg) (ids:List (Nat × Nat)) (pr:Prop) (a:A) (r:R),pr->self a=some r->(hp:pr=F0 (cnd P g'):=by kernel_rfl)->(he:stp P g' = .pop .normal [] (stp P g').st:=by kernel_rfl)->(hle:KLe ids (stp P g').st (rst gh (s a r)):=by exact kl)->KG S P (Am6 S gh ts next (kp S P (stp P g).k F)) g') ->
  mb self t a=some r->KG S P (Ab9 S P (Bu7 (stp P g)) gh ts next (kp S P (stp P g).k F)) (.code (Bu6 (stp P g)) [] (Bu9 gh (AB8 (stp P g)) (enc t) (s a r))))
 (hend:∀ a r,mk a=some r->KG S P F (.pop .normal (stp P g).k (s a r)))
 (hp:pr=F0 (cnd P g):=by kernel_rfl) (he:AW4 ids (stp P g)=some (f,as,bs,objs):=by kernel_rfl) (hgh:Nat.blt gh 1000=true:=by kernel_rfl) (hng:A2 (stp P g).st.regs gh=none:=by kernel_rfl) (hts:F6 ts=true:=by kernel_rfl)
 (hle:KLe idl (Bu8 ids ts (stp P g)) (s a0 r0):=by exact kl):KG S P F g:=by
 refine ⟨Av7 hS hc ?_ hp⟩
 generalize stp P g=g1 at hlen hround hend he hng hle
 unfold AW4 at he
 split at he
 ·rename_i op ps asg body K st
  split at he
  ·rename_i f' first caps hpo
   split at he
   ·rename_i objs' as' bs' h2 h3 h4
    split at he
    ·rename_i hh
     simp only [Option.some.injEq,Prod.mk.injEq] at he
     obtain ⟨rfl,rfl,rfl,rfl⟩:=he
     simp only [Bool.and_eq_true,Bool.not_eq_true',beq_iff_eq] at hh
     obtain ⟨⟨⟨e3,e4⟩,e5⟩,e6⟩:=hh
     refine Ck4 hS ids ts gh s idl h hF hpo hfn h2 e3 e4 h3 h4 e5 hgh hng e6 hts hlen hle.out hk hn (fun t next self a r hb hm=>?_) (fun a r hm=>(hend a r hm).out)
     refine (hround t next self a r (fun g' ids' pr a r hc hself hp he hle=>⟨Av7 hS hc ?_ hp⟩) hm).out
     rw [he]
     have hl:((s a r).env.map (·.2)).length=ts.length:=by rw [<- hk a r];simp
     refine hb _ (rst gh (s a r)) ((s a r).env.map fun p=>p.2) ids' a r hle.out (Aw0 gh (s a r)) hl ?_ (hb0 a r) hself
     have:=congrArg St.regs (hb0 a r)
     simp only at this
     show A2 (del gh (ins gh _ _)) gh=none
     rw [this];exact hn a r
    ·cases he
   ·cases he
  ·cases he
 ·cases he
theorem Ck9 (hS:I3 S P) (hc:pr) {f:FuncId} {as bs:List AV} {objs:List Obj} {R T A:Type} {enc:T->List PV} {L:List T} {mb:(A->Option R)->T->A->Option R} {mk:A->Option R} {a0:A} {r0:R}
 (ids ts:List Nat) (gh:Nat) (s:A->R->St) {idl:List (Nat × Nat)} (h:K4 L mb mk a0=some r0) (hF:Am7 S f as bs objs (L.map enc))
 (hlen:∀ t:T,(enc t).length=(AB8 (stp P g)).size) (hk:∀ a r,(s a r).env.map (·.1)=ts) (hn:∀ a r,A2 (s a r).regs gh=none) (hb0:∀ a r,(⟨T1 ts ((s a r).env.map (·.2)),del gh (ins gh (.ghost ((s a r).env.map (·.2))) (s a r).regs)⟩:St)=s a r)
 (hround:∀ (t:T) (next:St->Prop) (self:A->Option R) (a:A) (r:R),
  (∀ (g' : Cfg) (ids:List (Nat × Nat)) (pr:Prop) (a:A) (r:R),pr->self a=some r->(hp:pr=F0 (cnd P g'):=by kernel_rfl)->(he:stp P g' = .pop .normal [] (stp P g').st:=by kernel_rfl)->(hle:KLe ids (stp P g').st (rst gh (s a r)):=by exact kl)->KG S P (Am6 S gh ts next (kp S P (stp P g).k F)) g') ->
  mb self t a=some r->KG S P (Ab9 S P (Bu7 (stp P g)) gh ts next (kp S P (stp P g).k F)) (.code (Bu6 (stp P g)) [] (Bu9 gh (AB8 (stp P g)) (enc t) (s a r))))
 (hend:∀ a r,mk a=some r->KG S P F (.pop .normal (stp P g).k (s a r)))
 (hp:pr=F0 (cnd P g):=by kernel_rfl) (he:Bu5 P ids (stp P g)=some (f,as,bs,objs):=by kernel_rfl) (hgh:Nat.blt gh 1000=true:=by kernel_rfl) (hng:A2 (stp P g).st.regs gh=none:=by kernel_rfl) (hts:F6 ts=true:=by kernel_rfl)
 (hle:KLe idl (Bu8 ids ts (stp P g)) (s a0 r0):=by exact kl):KG S P F g:=
 BZ2 hS hc (Az6 he).2 ids ts gh s h hF hlen hk hn hb0 hround hend hp (Az6 he).1 hgh hng hts hle
def CI3 (t:Nat) (a:AV):Cfg->Cfg
 | .ops all rest K st=>mkO (ins t a st.env) st.regs fun env regs=>.ops all rest K ⟨env,regs⟩
 | g=>g
theorem K_nil (hS:I3 S P) (hc:pr) (t:Nat) {k n:Nat} {f:Nat->List PV} (h0:n=0->KG S P F (CI3 t (.p (.v (.slice none 0 0))) (stp P g))) (h1:KG S P F (CI3 t (.p (.sl true k n f)) (stp P g)))
 (hp:pr=F0 (cnd P g):=by kernel_rfl) (ho:AW1 (stp P g)=true:=by kernel_rfl) (hg:get (stp P g).st.env t=.p (.sl false k n f):=by kernel_rfl):KG S P F g:=by
 refine ⟨Av7 hS hc ?_ hp⟩
 generalize stp P g=g1 at h0 h1 ho hg
 unfold AW1 at ho
 split at ho
 ·refine CC0 hS t hg (fun h=>?_) ?_
  ·have:=(h0 h).out
   simpa only [CI3,AH0] using this
  ·have:=h1.out
   simpa only [CI3,AH0] using this
 ·cases ho
def frzC (j:Nat) (ps:List PV):Cfg->Cfg
 | .code c K st=>mkO (Cg1 j ps st.env) (ins j .dead st.regs) fun env regs=>.code c K ⟨env,regs⟩
 | g=>g
theorem Cl0 (hS:I3 S P) (hc:pr) (j:Nat) (ps:List PV) (hk:KG S P F (frzC j ps (stp P g))) (hp:pr=F0 (cnd P g):=by kernel_rfl) (hd:Aj4 (stp P g)=true:=by kernel_rfl) (hmix:P.follows .mixedOrders=true:=by kernel_rfl)
 (hdep:AB4 (AE3 (stp P g)).all=true:=by kernel_rfl) (hr:A2 (stp P g).st.regs j=some (.cells (ps.map .p)):=by kernel_rfl):KG S P F g:=by
 refine ⟨Av7 hS hc ?_ hp⟩
 generalize stp P g=g1 at hk hd hdep hr
 unfold Aj4 at hd
 split at hd
 ·rename_i id ops K st
  have hk:=hk.out
  simp only [frzC,AH0] at hk
  show awp S P (.region id ops true) (kp S P K F) st
  simp only [awp,if_true]
  have hk' : BN8 S P ops.toList (kp S P K F) ⟨Cg1 j ps st.env,ins j .dead st.regs⟩:=by
   have:awp S P (.region id ops true) (kp S P K F) ⟨Cg1 j ps st.env,ins j .dead st.regs⟩:=hk
   simpa only [awp,if_true] using this
  exact Ck2 hS hmix hdep (hS.frz st j ps _ hr hk')
 ·cases hd
def clsN (js:List Nat):Nat->List Oper->List Cls
 | _, []=>[]
 | i,o :: r=>(if js.contains i then .n else if js.contains (i+1000) then .w else CI1 o.op) :: clsN js (i+1) r
def Bl6 (js:List Nat):Cfg->SC
 | .code (.region _ ops true) _ st=>⟨ops.toList,clsN js 0 ops.toList,ops.toList,st.env,st.regs, []⟩
 | _=>⟨[], [], [], [], [], []⟩
theorem Q4 (hS:I3 S P) (hc:pr) (js:List Nat) (h:DG S P (Bl6 js (stp P g)) fun env regs=>KG S P F (.pop .normal (stp P g).k ⟨env,regs⟩)) (hp:pr=F0 (cnd P g):=by kernel_rfl) (hd:Aj4 (stp P g)=true:=by kernel_rfl) (hmix:P.follows .mixedOrders=true:=by kernel_rfl)
 (hok:AO6 (Bl6 js (stp P g)).all (Bl6 js (stp P g)).cls=true:=by kernel_rfl):KG S P F g:=by
 have e:(fun env regs=>KG S P F (.pop .normal (stp P g).k ⟨env,regs⟩))=fun env regs=>G S P F (.pop .normal (stp P g).k ⟨env,regs⟩):=by
  funext env regs
  exact propext ⟨fun h=>h.out,fun h=>⟨h⟩⟩
 rw [e] at h
 refine ⟨Av7 hS hc ?_ hp⟩
 have h:=h.out
 generalize stp P g=g' at hd hok h
 unfold Aj4 at hd
 split at hd
 ·exact BJ8 hS _ hmix hok h
 ·cases hd
def CI4 (ls:List (Nat × Cls)):Nat->List Oper->List Cls
 | _, []=>[]
 | i,o :: r=>(match ls.find? (fun q=>q.1 == i) with | some q=>q.2 | none=>CI1 o.op) :: CI4 ls (i+1) r
def Bl7 (ls:List (Nat × Cls)):Cfg->SC
 | .code (.region _ ops true) _ st=>⟨ops.toList,CI4 ls 0 ops.toList,ops.toList,st.env,st.regs, []⟩
 | _=>⟨[], [], [], [], [], []⟩
theorem V2 (hS:I3 S P) (hc:pr) (ls:List (Nat × Cls)) (h:DG S P (Bl7 ls (stp P g)) fun env regs=>KG S P F (.pop .normal (stp P g).k ⟨env,regs⟩)) (hp:pr=F0 (cnd P g):=by kernel_rfl) (hd:Aj4 (stp P g)=true:=by kernel_rfl) (hmix:P.follows .mixedOrders=true:=by kernel_rfl)
 (hok:AO6 (Bl7 ls (stp P g)).all (Bl7 ls (stp P g)).cls=true:=by kernel_rfl):KG S P F g:=by
 have e:(fun env regs=>KG S P F (.pop .normal (stp P g).k ⟨env,regs⟩))=fun env regs=>G S P F (.pop .normal (stp P g).k ⟨env,regs⟩):=by
  funext env regs
  exact propext ⟨fun h=>h.out,fun h=>⟨h⟩⟩
 rw [e] at h
 refine ⟨Av7 hS hc ?_ hp⟩
 have h:=h.out
 generalize stp P g=g' at hd hok h
 unfold Aj4 at hd
 split at hd
 ·exact BJ8 hS _ hmix hok h
 ·cases hd
theorem AL7 (hS:I3 S P) (hc:pr) {body:Code} {gh:Nat} {ts:List Nat} {next:St->Prop} {Q:J5} (h:KG S P (Am6 S gh ts next Q) (.code body [] (stp P g).st)) (hp:pr=F0 (cnd P g):=by kernel_rfl) (he:stp P g=.pop .normal [] (stp P g).st:=by kernel_rfl):KG S P (Ab9 S P body gh ts next Q) g:=by
 refine ⟨Av7 hS hc ?_ hp⟩
 rw [he]
 exact G_asg hS h.out
theorem Bl8 (hS:I3 S P) (hc:pr) {K:List It} {gh:Nat} {ts:List Nat} {next:St->Prop} (t:St) {ids:List (Nat × Nat)} (hk:KG S P F (.pop (exitE (stp P g)) K t)) (hp:pr=F0 (cnd P g):=by kernel_rfl) (he:Cq9 (stp P g)=true:=by kernel_rfl)
 (hle:KLe ids (stp P g).st (rst gh t):=by exact kl) (h1:t.env.map (·.1)=ts:=by kernel_rfl) (h2:A2 t.regs gh=none:=by kernel_rfl) (h3:(⟨T1 ts (t.env.map (·.2)),del gh (ins gh (.ghost (t.env.map (·.2))) t.regs)⟩:St)=t:=by kernel_rfl):KG S P (Am6 S gh ts next (kp S P K F)) g:=by
 refine ⟨Av7 hS hc ?_ hp⟩
 generalize stp P g=g1 at hk he hle
 have hl:(t.env.map (·.2)).length=ts.length:=by rw [<- h1];simp
 have hd:A2 (del gh (ins gh (.ghost (t.env.map (·.2))) t.regs)) gh=none:=by
  have:=congrArg St.regs h3
  simp only at this
  rw [this];exact h2
 unfold Cq9 at he
 split at he
 ·exact BK0 hS trivial (rst gh t) ids hle.out (Aw0 gh t) hl hd (by rw [show (⟨T1 ts (t.env.map (·.2)),del gh (rst gh t).regs⟩:St)=t from h3];exact hk.out)
 ·exact BK0 hS trivial (rst gh t) ids hle.out (Aw0 gh t) hl hd (by rw [show (⟨T1 ts (t.env.map (·.2)),del gh (rst gh t).regs⟩:St)=t from h3];exact hk.out)
 ·cases he
end
end Go.AM
set_option linter.unusedVariables false
namespace Go.AM
section
variable {S:Af9} {P:Program} {F:J5} {g:Cfg} {pr:Prop}
def CF6 (j:Nat) (ps:List PV):Cfg->Cfg
 | .ops all rest K st=>mkO (Cg1 j ps st.env) (ins j .dead st.regs) fun env regs=>.ops all rest K ⟨env,regs⟩
 | g=>g
end
section
variable {S:Af9} {P:Program} {F:J5} {g:Cfg} {pr:Prop}
theorem Aa1 (hS:I3 S P) (hc:pr) (d:Nat) (st:St) {ids:List (Nat × Nat)} (hk:KG S P F (opsS st (Bh4 P d g))) (hp:pr=F0 (cndU P d g):=by kernel_rfl) (ho:AW1 (Bh4 P d g)=true:=by kernel_rfl) (hle:KLe ids (Bh4 P d g).st st:=by exact kl):KG S P F g:=by
 refine ⟨(AU0 (u:=some d) (F:=F) hS 400 [] g (by subst hp;exact hc)).2 ?_⟩
 have hk:=hk.out
 have hle:=hle.out
 show G S P F (Bh4 P d g)
 generalize Bh4 P d g=g' at ho hle hk
 unfold AW1 at ho
 split at ho
 ·exact BY4 hS st ids hle hk
 ·cases ho
end
end Go.AM
set_option linter.unusedVariables false
namespace Go.AM
section
variable {S:Af9} {P:Program} {F:J5} {g:Cfg} {pr:Prop}
def CF7 (S:Af9) (P:Program) (pv:PV) (m:String) (as:List AV) (r:AV):Prop:=∃ t y fn,pv=.iface t y/\Bq7 P t m=some fn/\Ch0 S fn (.p (nP y) :: as) r
def invE:Cfg->Option (PV × String × List AV)
 | .ops all (o :: _) _ st=>match As9 all st.env o,o.op with
  | some true, .call c=>match c.callee with
   | .invoke rv m=>match Bb1 st.regs (c.args.toList.map (aev st.env)),aev st.env rv with
    | some (as,_), .p pv=>match Ai7 [] as with
     | some as'=>some (pv,m,as')
     | none=>none
    | _,_=>none
   | _=>none
  | _,_=>none
 | _=>none
def invK (r:AV):Cfg->Cfg
 | .ops all (o :: rest) K st=>match o.op with
  | .call c=>match Bb1 st.regs (c.args.toList.map (aev st.env)) with
   | some (_,regs)=>CA8 o.dst (unA [] r) st.env regs fun st=>.ops all rest K st
   | none=>.ops all (o :: rest) K st
  | _=>.ops all (o :: rest) K st
 | g=>g
theorem AS7 (hS:I3 S P) (hc:pr) {pv:PV} {m:String} {as:List AV} {r:AV} (hF:CF7 S P pv m as r) (hk:KG S P F (invK r (stp P g)))
 (hp:pr=F0 (cnd P g):=by kernel_rfl) (he:invE (stp P g)=some (pv,m,as):=by kernel_rfl):KG S P F g:=by
 obtain ⟨t,y,fn,rfl,hm,hF⟩:=hF
 refine ⟨Av7 hS hc ?_ hp⟩
 have hk:=hk.out
 generalize stp P g=g' at he hk
 unfold invE at he
 split at he
 ·split at he
  ·rename_i hg ho
   split at he
   ·rename_i hcl
    split at he
    ·rename_i ha hrv
     split at he
     ·rename_i hr
      cases he
      simp only [invK,ho,ha,Bl3] at hk
      refine Cj9 hS hg ho hcl ha hrv hm (args:=.p (nP y) :: _) ?_ hF hk
      simp only [Ai7,Bp7,hr]
     ·cases he
    ·cases he
   ·cases he
  ·cases he
 ·cases he
theorem Ac2 (hS:I3 S P) (hc:pr) (d j:Nat) (ps:List PV) (hk:KG S P F (CF6 j ps (Bh4 P d g))) (hp:pr=F0 (cndU P d g):=by kernel_rfl) (ho:AW1 (Bh4 P d g)=true:=by kernel_rfl)
 (hr:A2 (Bh4 P d g).st.regs j=some (.cells (ps.map .p)):=by kernel_rfl):KG S P F g:=by
 refine ⟨(AU0 (u:=some d) (F:=F) hS 400 [] g (by subst hp;exact hc)).2 ?_⟩
 have hk:=hk.out
 show G S P F (Bh4 P d g)
 generalize Bh4 P d g=g' at ho hr hk
 unfold AW1 at ho
 split at ho
 ·simp only [CF6,AH0] at hk
  exact BV3 hS (hS.frz _ j ps _ hr hk)
 ·cases ho
def Cl1 (j j' : Nat):AV->AV
 | .vecp i m=>if i=j then .vec j' else .vecp i m
 | a=>a
def Cl2 (j j' : Nat):List AV->List AV
 | []=>[]
 | a :: r=>Cl1 j j' a :: Cl2 j j' r
def Cl3 (j j' : Nat):Env->Env
 | []=>[]
 | (t,a) :: r=>(t,Cl1 j j' a) :: Cl3 j j' r
def BQ6 (j j' : Nat):D2->D2
 | []=>[]
 | (t, .cells cs) :: r=>(t, .cells (Cl2 j j' cs)) :: BQ6 j j' r
 | (t,o) :: r=>(t,o) :: BQ6 j j' r
def msA (j:Nat) (r:List Nat):AV->List Nat
 | .vecp i m=>if i=j then m :: r else r
 | _=>r
def msL (j:Nat):List AV->List Nat
 | []=>[]
 | a :: r=>msA j (msL j r) a
def msE (j:Nat):Env->List Nat
 | []=>[]
 | (_,a) :: r=>msA j (msE j r) a
def msR (j:Nat):D2->List Nat
 | []=>[]
 | (_, .cells cs) :: r=>msL j cs ++ msR j r
 | _ :: r=>msR j r
theorem BZ3 {j:Nat} {r:List Nat} {a:AV}:∀ x ∈ r,x ∈ msA j r a:=by
 intro x hx
 unfold msA
 split
 ·split
  ·exact List.mem_cons_of_mem _ hx
  ·exact hx
 ·exact hx
theorem BK8 {j n j' : Nat} {r:List Nat} {a:AV} (h:∀ m ∈ msA j r a,m=n):Cg6 j n j' a=Cl1 j j' a:=by
 cases a with
 | vecp i m=>
  simp only [Cg6,Cl1]
  by_cases e:i=j
  ·have:m=n:=h m (by simp [msA,e])
   simp [e,this]
  ·simp [e]
 | _=>rfl
theorem BK9 {j n j' : Nat}:∀ {l:List AV},(∀ m ∈ msL j l,m=n)->Cp7 j n j' l=Cl2 j j' l
 | [],_=>rfl
 | a :: r,h=>by simp only [Cp7,Cl2,BK8 (r:=msL j r) h,BK9 fun m hm=>h m (BZ3 m hm)]
theorem BL0 {j n j' : Nat}:∀ {l:Env},(∀ m ∈ msE j l,m=n)->Cp6 j n j' l=Cl3 j j' l
 | [],_=>rfl
 | (t,a) :: r,h=>by simp only [Cp6,Cl3,BK8 (r:=msE j r) h,BL0 fun m hm=>h m (BZ3 m hm)]
theorem Bl9 {j n j' : Nat}:∀ {l:D2},(∀ m ∈ msR j l,m=n)->BH8 j n j' l=BQ6 j j' l
 | [],_=>rfl
 | (t,o) :: r,h=>by
  cases o with
  | cells cs=>simp only [BH8,BQ6,CA4,BK9 fun m hm=>h m (List.mem_append_left _ hm),Bl9 fun m hm=>h m (List.mem_append_right _ hm)]
  | _=>simp only [BH8,BQ6,CA4,Bl9 (l:=r) h]
def truC (j j' : Nat) (e:TypeId) (k n:Nat) (f:Nat->List PV):Cfg->Cfg
 | .ops all rest K st=>mkO (Cl3 j j' st.env) (ins j' (.vec e k n f false) (ins j .dead (BQ6 j j' st.regs))) fun env regs=>.ops all rest K ⟨env,regs⟩
 | g=>g
theorem CF8 (hS:I3 S P) (hc:pr) (d j n j' : Nat) {e:TypeId} {k N:Nat} {f:Nat->List PV} (hn:n<=N) (hk:KG S P F (truC j j' e k n f (Bh4 P d g))) (hp:pr=F0 (cndU P d g):=by kernel_rfl) (ho:AW1 (Bh4 P d g)=true:=by kernel_rfl)
 (hr:A2 (Bh4 P d g).st.regs j=some (.vec e k N f false):=by kernel_rfl) (hf:A2 (Bh4 P d g).st.regs j' = none:=by kernel_rfl) (h1:Nat.ble 1000 j' = true:=by kernel_rfl)
 (hm:(msE j (Bh4 P d g).st.env ++ msR j (Bh4 P d g).st.regs)=List.replicate (msE j (Bh4 P d g).st.env ++ msR j (Bh4 P d g).st.regs).length n:=by kernel_rfl):KG S P F g:=by
 refine ⟨(AU0 (u:=some d) (F:=F) hS 400 [] g (by subst hp;exact hc)).2 ?_⟩
 have hk:=hk.out
 show G S P F (Bh4 P d g)
 generalize Bh4 P d g=g' at ho hr hf hk hm
 unfold AW1 at ho
 split at ho
 ·rename_i st
  have hall:∀ m ∈ msE j st.env ++ msR j st.regs,m=n:=fun m h=>by
   rw [show msE j st.env ++ msR j st.regs=_ from hm] at h
   exact (List.mem_replicate.1 h).2
  simp only [truC,AH0] at hk
  refine BV3 hS (hS.trunc _ j j' n N k e f _ hr hn hf (Nat.le_of_ble_eq_true h1) ?_)
  rw [BL0 fun m h=>hall m (List.mem_append_left _ h),Bl9 fun m h=>hall m (List.mem_append_right _ h)]
  exact hk
 ·cases ho
end
abbrev cA {α : Type} (n:Nat) (c : α -> PV) (f:Nat -> α):List PV:=Ah3 n (fun i=>c (f i))
theorem E5 (n:Nat) (f:Nat->PV):(Ah3 n f).length=n:=by simp [Ah3]
theorem D7 (n:Nat) (f:Nat->PV):∀ i,i < n->[(Ah3 n f).getD i default]=[f i]:=by
 intro i hi
 simp [Ah3,List.getD_eq_getElem?_getD,hi]
theorem Ae1 {n:Nat} {z:PV} {ps:List PV} (h:ps=List.replicate n z):∀ i,i < n->[ps.getD i default]=[z]:=by
 intro i hi
 subst h
 simp [List.getD_eq_getElem?_getD,hi]
theorem BQ7 {n:Nat} {f g:Nat->PV} (h:∀ i,i < n->[f i]=[g i]):Ah3 n f=Ah3 n g:=by
 unfold Ah3
 exact List.map_congr_left fun i hi=>by have:=h i (List.mem_range.1 hi);injection this
abbrev AW5 {α : Type} (f:Nat -> α) (k:Nat) (x : α):Nat -> α:=fun i=>if i=k then x else f i
theorem Cw8 {α : Type} {c : α -> PV} {n k:Nat} {v:Nat -> α} {f:Nat->PV} {e:PV} {x : α} (h:∀ i,i < n->[f i]=[c (v i)]) (hx:e=c x):∀ i,i < n->[if i=k then e else f i]=[c (if i=k then x else v i)]:=by
 intro i hi
 by_cases h1:i=k
 ·rw [if_pos h1,if_pos h1,hx]
 ·rw [if_neg h1,if_neg h1];exact h i hi
theorem app1H {α : Type} {c : α -> List PV} {n:Nat} {v:Sl α} {f g:Nat->List PV} {z : α} (h:∀ i,i < n->f i=c (v.g i)) (hn:n=v.n):∀ i,i < n+1->i ≠ v.n->An5 n f g i=c ((v.push z).g i):=by
 subst hn
 intro i hi hne
 have hl:i < v.n:=by omega
 show (if i < v.n then f i else g (i - v.n))=c (if i < v.n then v.g i else z)
 rw [if_pos hl,if_pos hl];exact h i hl
theorem setH {α : Type} {c : α -> List PV} {n k:Nat} {v:Sl α} {f e:Nat->List PV} {x : α} (h:∀ i,i < n->i ≠ k->f i=c (v.g i)) (hx:k < n->e k=c x):∀ i,i < n->(fun l=>if l=k then e l else f l) i=c ((v.upd k x).g i):=by
 intro i hi
 show (if i=k then e i else f i)=c (if i=k then x else v.g i)
 split
 ·subst_vars;exact hx hi
 ·exact h i hi ‹_›
end Go.AM
set_option linter.unusedVariables false
namespace Go.AM
theorem Bv0 {P:Program} {f:FuncId} {vw:Bool} {args:List PV} {e:TypeId} {k n:Nat} {g:Nat->List PV} (hent:∀ as w,(callFunc f as).run P w=.ok (.enter f as) w) (hk:∀ i,i < n->(g i).length=k)
 (h:∀ (w:World) (Pi:Nat->Nat->Prop) (vs:Array Value),(∀ b off,Pi b off->b < w.heap.size)->vs.size=args.length->(∀ i,i < args.length->RepP w Pi (vs.getD i undef) (args.getD i default)) ->
  Calls P f vs w fun x w'=>∃ v,x=.returned v/\RowKit.Below w.heap.size w w' /\ ((v=.slice none 0 0/\n=0) \/ ∃ b cap c,v=.slice (some ⟨b,0,none⟩) n cap/\w.heap.size<=b/\w'.heap[b]? = some (.cells c e (0,0))/\n<=cap/\c.size=cap * k/\cap<=maxLen /\
   ∀ i j,i < n->j < k->RepP w Pi (c.getD (i * k+j) undef) ((g i).getD j default)/\(c.getD (i * k+j) undef).oneCell' = true)):FunO (Au5 P) f (args.map .p) [] (.vec 0) [.vec e k n g vw] []:=by
 intro 𝒢 C w vs rho hG hs hsz
 have hno0:∀ j,A2 (objRegs []) j=none:=fun j=>by simp [objRegs,objRegs.go,A2]
 have h0:=h w (Prv C.X (A2 (objRegs [])) rho) vs (fun b off hp=>by
  rcases hp with hp | ⟨j,o,hj,_⟩
  ·exact hs.hp.bound b off hp
  ·simp [hno0] at hj) (by simpa using hsz) (fun i hi=>by
  have:=hs.env i
  rw [Aa8] at this
  have e:(args.map AV.p).getD i .top=.p (args.getD i default):=by simp [hi]
  rw [e] at this
  exact this.toP)
 refine ⟨_,_,hent _ _,callsIn_wide.2 (h0.mono ?_)⟩
 rintro x w' ⟨v,rfl,hb,hv⟩
 have hR:∀ j o,A2 (objRegs [Obj.vec e k n g vw]) j=some o->j=0/\o=.vec e k n g vw:=fun j o hj=>by
  simp only [objRegs,objRegs.go,A2] at hj
  split at hj
  ·rename_i hj0;cases hj;exact ⟨hj0.symm,rfl⟩
  ·cases hj
 have hR0:A2 (objRegs [Obj.vec e k n g vw]) 0=some (.vec e k n g vw):=rfl
 let rho' : Nat->Value:=fun j=>if j=0 then v else rho j
 have hr0:rho' 0=v:=rfl
 have hblk:∀ b,G5 v (.vec e k n g vw)=some b->w.heap.size<=b/\b < w'.heap.size:=by
  intro b hbv
  rcases hv with ⟨rfl,_⟩ | ⟨b',cap,c,rfl,h1,h2,_⟩
  ·cases hbv
  ·cases hbv;exact ⟨h1,(Array.getElem?_eq_some_iff.1 h2).1⟩
 have hprv:∀ b o,Prv C.X (A2 (objRegs [Obj.vec e k n g vw])) rho' b o->C.X b o \/ w.heap.size<=b:=by
  rintro b o (hX | ⟨j,o',hj,hbo,_⟩)
  ·exact .inl hX
  ·obtain ⟨rfl,rfl⟩:=hR j o' hj;exact .inr (hblk b hbo).1
 have hkeep:Keeps w (Prv C.X (A2 (objRegs [])) rho) w' (Prv C.X (A2 (objRegs [Obj.vec e k n g vw])) rho'):=fun b o u hp hc=>by
  have hlt:=World.block_lt_of_cell? w ⟨b,o,none⟩ hc
  refine ⟨by rw [<- hc];exact World.cell?_of_block (hb.block b hlt),fun hpp=>?_⟩
  rcases hprv b o hpp with hX | hge
  ·exact hp (.inl hX)
  ·have:b < w.heap.size:=hlt
   omega
 refine ⟨C, .ret (.vec 0), [.vec e k n g vw], [],rho',hG,⟨rfl,rfl,rfl⟩, ?_,⟨v,rfl, ?_⟩,fun i hi=>by simp at hi⟩
 ·refine ⟨⟨fun j o hj=>?_,fun i j oi oj b hi hj _ _=>by rw [(hR i oi hi).1,(hR j oj hj).1],fun j o b off hj hbo hX=>?_,fun b off hp=>Nat.lt_of_lt_of_le (hs.hp.bound b off hp) hb.size⟩,hs.ext.trans ⟨hb.os,hb.output⟩,Nat.le_trans hs.size hb.size,fun b hlt hE=>?_,hs.keep.trans hkeep,fun b hbo=>?_,fun j r b hj=>by cases (hR j _ hj).2⟩
  ·obtain ⟨rfl,rfl⟩:=hR j o hj
   rw [hr0]
   rcases hv with hn | ⟨b,cap,c,rfl,h1,h2,h3,h4,h5,h6⟩
   ·exact .inl hn
   ·exact .inr ⟨b,cap,c,rfl,h2,h3,h4,h5,hk,fun i j hi hj=>⟨(h6 i j hi hj).1.keeps hkeep,(h6 i j hi hj).2⟩⟩
  ·obtain ⟨rfl,rfl⟩:=hR j o hj
   have h1:=(hblk b hbo).1
   have h2:=hs.hp.bound b off hX
   omega
  ·rw [hb.block b (Nat.lt_of_lt_of_le hlt hs.size)];exact hs.same b hlt hE
  ·obtain ⟨j,o,hj,hbo⟩:=hbo
   obtain ⟨rfl,rfl⟩:=hR j o hj
   exact .inr (Nat.le_trans hs.size (hblk b hbo).1)
 ·rcases hv with ⟨rfl,_⟩ | ⟨b,cap,c,rfl,_⟩
  ·exact .vec 0 none 0 0 (by simp [Lv,hR0]) rfl
  ·exact .vec 0 _ n cap (by simp [Lv,hR0]) rfl
end Go.AM
set_option linter.unusedVariables false
namespace Go.AM
open Go.RowKit Go.ChangeShapes
end Go.AM
set_option linter.unusedVariables false
namespace Go.AM
section
variable {S:Af9} {P:Program} {F:J5} {K:List It} {st:St} {g:Cfg} {pr:Prop}
def Cw9 (p:Option PV) (r:Bb0):Prop:=match p with
 | none=>∃ a,r=.ret a
 | some x=>r=.panic x
def AW6 (S:Af9) (f:FuncId) (first caps:List AV) (objs:List Obj) (L:List (List PV)) (p:Option PV):Prop:=
 S.F f (first ++ .yf objs.length :: caps) (objs ++ [.yld L true]) fun r objs' ks=>∃ b,objs'[objs.length]? = some (.yld [] b)/\ks[objs.length]? = some true/\(b=true->Cw9 p r)/\(b=false->∃ a,r=.ret a)
def endP:Option PV->AT6
 | none=>.normal
 | some x=>.panic x
theorem Cl4 (hS:I3 S P) {g:Operand} {ps:Array Tmp} {asg body:Code} {f:FuncId} {first caps as bs:List AV} {objs:List Obj} (ids ts:List Nat) (gh:Nat) (L:List (List PV)) {p:Option PV} {X:Type} (s:X->St) (J:List (List PV)->X->Prop) (x0:X) (idl:List (Nat × Nat))
 (hp:Am5 st.env g=some (f,first,caps)) (hfn:∃ fn,P.funcs[f]? = some fn/\fn.body.isSome=true/\(fn.name == "runtime.NumGoroutine")=false) (hob:J1 ids st.regs ids=some objs) (hny:An8 objs=true) (hd:F6 ids=true) (hr1:Ai7 ids first=some as) (hr2:Ai7 ids caps=some bs) (hol:objs.length=ids.length)
 (hgh:gh < 1000) (hng:A2 st.regs gh=none) (hil:ids.length < 1000) (hts:F6 ts=true) (hlen:∀ ys ∈ L,ys.length=ps.size)
 (hF:AW6 S f as bs objs L p) (hle:Le idl ⟨T1 ts (ts.map (get st.env)),N4 ids (ids.map fun _=>false) st.regs⟩ (s x0)) (h0:J L x0) (hk:∀ x,(s x).env.map (·.1)=ts) (hn:∀ x,A2 (s x).regs gh=none)
 (hround:∀ ys rest x,J (ys :: rest) x->G S P (Ab9 S P body gh ts (Ck0 s J rest) (kp S P K F)) (.code asg [] ⟨AF6 ps.toList ys (s x).env,ins gh (.ghost ((s x).env.map (·.2))) (s x).regs⟩))
 (hend:∀ x,J [] x->G S P F (.pop (endP p) K (s x))):G S P F (.code (.rangeFunc g ps asg body) K st):=by
 have hdup:∀ {l:List Nat},F6 l=true->l.Nodup:=by
  intro l
  induction l with
  | nil=>intro _;exact List.nodup_nil
  | cons a r ih=>
   intro h
   simp only [F6,Bool.and_eq_true,Bool.not_eq_true',List.contains_eq_mem,decide_eq_false_iff_not] at h
   exact List.nodup_cons.2 ⟨h.1,ih h.2⟩
 refine ⟨f,first,caps,as,bs,objs,ids,ts,gh,L,Ck0 s J,fun b r=>b=true->Cw9 p r,hp,hfn,hny,hd,hr1,hr2,hob,hgh,hng,hil,hdup hts,hlen,hS.le idl _ _ _ hle ⟨hk x0,hn x0,x0,rfl,h0⟩, ?_, ?_, ?_⟩
 ·rintro ys rest _ _ _ ⟨x,rfl,hJ⟩
  have h:=hround ys rest x hJ
  have e:Ab9 S P body gh ts (Ck0 s J rest) (kp S P K F)=fun e s'=>match e with
   | .normal=>S.up s' fun s'=>awp S P body (Am6 S gh ts (Ck0 s J rest) (kp S P K F)) s'
   | _=>False:=by funext e s';cases e <;> rfl
  rw [e] at h
  exact h
 ·rintro _ r _ _ ⟨x,rfl,hJ⟩ hf
  have h1:=hf rfl
  have h2:=hend x hJ
  cases p with
  | none=>obtain ⟨a,rfl⟩:=h1;exact h2
  | some y=>cases h1;exact h2
 ·rw [<- hol]
  refine hS.monoF _ _ _ _ _ ?_ hF
  rintro r o ks ⟨b,h1,h2,h3,h4⟩
  exact ⟨b,h1,h2,h3,h4⟩
theorem Cl5 (hS:I3 S P) {g:Operand} {ps:Array Tmp} {asg body:Code} {f:FuncId} {first caps as bs:List AV} {objs:List Obj} {R T A:Type} {enc:T->List PV} {L:List T} {p:Option PV} {mb:(A->Option R)->T->A->Option R} {mk:A->Option R} {a0:A} {r:R}
 (ids ts:List Nat) (gh:Nat) (s:A->St) (idl:List (Nat × Nat)) (h:K4 L mb mk a0=some r) (hF:AW6 S f as bs objs (L.map enc) p)
 (hp:Am5 st.env g=some (f,first,caps)) (hfn:∃ fn,P.funcs[f]? = some fn/\fn.body.isSome=true/\(fn.name == "runtime.NumGoroutine")=false) (hob:J1 ids st.regs ids=some objs) (hny:An8 objs=true) (hd:F6 ids=true) (hr1:Ai7 ids first=some as) (hr2:Ai7 ids caps=some bs) (hol:objs.length=ids.length)
 (hgh:Nat.blt gh 1000=true) (hng:A2 st.regs gh=none) (hil:Nat.blt ids.length 1000=true) (hts:F6 ts=true) (hlen:∀ t:T,(enc t).length=ps.size)
 (hle:Le idl ⟨T1 ts (ts.map (get st.env)),N4 ids (ids.map fun _=>false) st.regs⟩ (s a0)) (hk:∀ a,(s a).env.map (·.1)=ts) (hn:∀ a,A2 (s a).regs gh=none)
 (hround:∀ (t:T) (next:St->Prop) (self:A->Option R) (a:A),(∀ (st st1:St) (cs:List AV) (idl:List (Nat × Nat)) (a:A),Le idl st st1->A2 st1.regs gh=some (.ghost cs)->cs.length=ts.length->A2 (del gh st1.regs) gh=none->(⟨T1 ts cs,del gh st1.regs⟩:St)=s a->self a=some r->G S P (Am6 S gh ts next (kp S P K F)) (.pop .normal [] st)) ->
  mb self t a=some r->G S P (Ab9 S P body gh ts next (kp S P K F)) (.code asg [] ⟨AF6 ps.toList (enc t) (s a).env,ins gh (.ghost ((s a).env.map (·.2))) (s a).regs⟩))
 (hend:∀ a,mk a=some r->G S P F (.pop (endP p) K (s a))):G S P F (.code (.rangeFunc g ps asg body) K st):=by
 refine Cl4 hS ids ts gh (L.map enc) s (fun rest a=>∃ L',rest=L'.map enc/\K4 L' mb mk a=some r) a0 idl hp hfn hob hny hd hr1 hr2 hol (by simpa [Nat.blt_eq] using hgh) hng (by simpa [Nat.blt_eq] using hil) hts (fun ys hy=>?_) hF hle ⟨L,rfl,h⟩ hk hn ?_ ?_
 ·obtain ⟨t,_,rfl⟩:=List.mem_map.1 hy;exact hlen t
 ·rintro ys rest a ⟨L',hL,hx⟩
  cases L' with
  | nil=>cases hL
  | cons t L'=>
   simp only [List.map_cons,List.cons.injEq] at hL
   obtain ⟨rfl,rfl⟩:=hL
   refine hround t _ (K4 L' mb mk) a (fun st st1 cs idl a hle h1 h2 h3 h4 h5=>?_) hx
   exact BC6 hS st1 a idl hle h1 h2 h3 h4 ⟨L',rfl,h5⟩
 ·rintro a ⟨L',hL,hx⟩
  cases L' with
  | nil=>exact hend a hx
  | cons t L'=>cases hL
theorem BL1 (hS:I3 S P) (hc:pr) {f:FuncId} {as bs:List AV} {objs:List Obj} {R T A:Type} {enc:T->List PV} {L:List T} {p:Option PV} {mb:(A->Option R)->T->A->Option R} {mk:A->Option R} {a0:A} {r:R}
 (ids ts:List Nat) (gh:Nat) (s:A->St) {idl:List (Nat × Nat)} (h:K4 L mb mk a0=some r) (hF:AW6 S f as bs objs (L.map enc) p)
 (hlen:∀ t:T,(enc t).length=(AB8 (stp P g)).size) (hk:∀ a,(s a).env.map (·.1)=ts) (hn:∀ a,A2 (s a).regs gh=none) (hb0:∀ a,(⟨T1 ts ((s a).env.map (·.2)),del gh (ins gh (.ghost ((s a).env.map (·.2))) (s a).regs)⟩:St)=s a)
 (hround:∀ (t:T) (next:St->Prop) (self:A->Option R) (a:A),
  (∀ (g' : Cfg) (ids:List (Nat × Nat)) (pr:Prop) (a:A),pr->self a=some r->(hp:pr=F0 (cnd P g'):=by kernel_rfl)->(he:stp P g' = .pop .normal [] (stp P g').st:=by kernel_rfl)->(hle:KLe ids (stp P g').st (rst gh (s a)):=by exact kl)->KG S P (Am6 S gh ts next (kp S P (stp P g).k F)) g') ->
  mb self t a=some r->KG S P (Ab9 S P (Bu7 (stp P g)) gh ts next (kp S P (stp P g).k F)) (.code (Bu6 (stp P g)) [] (Bu9 gh (AB8 (stp P g)) (enc t) (s a))))
 (hend:∀ a,mk a=some r->KG S P F (.pop (endP p) (stp P g).k (s a)))
 (hp:pr=F0 (cnd P g):=by kernel_rfl) (he:Bu5 P ids (stp P g)=some (f,as,bs,objs):=by kernel_rfl) (hgh:Nat.blt gh 1000=true:=by kernel_rfl) (hng:A2 (stp P g).st.regs gh=none:=by kernel_rfl) (hts:F6 ts=true:=by kernel_rfl)
 (hle:KLe idl (Bu8 ids ts (stp P g)) (s a0):=by exact kl):KG S P F g:=by
 refine ⟨Av7 hS hc ?_ hp⟩
 have hfn:=(Az6 he).2
 replace he:=(Az6 he).1
 generalize stp P g=g1 at hlen hround hend he hng hle
 unfold AW4 at he
 split at he
 ·rename_i op ps asg body K st
  split at he
  ·rename_i f' first caps hpo
   split at he
   ·rename_i objs' as' bs' h2 h3 h4
    split at he
    ·rename_i hh
     simp only [Option.some.injEq,Prod.mk.injEq] at he
     obtain ⟨rfl,rfl,rfl,rfl⟩:=he
     simp only [Bool.and_eq_true,Bool.not_eq_true',beq_iff_eq] at hh
     obtain ⟨⟨⟨e3,e4⟩,e5⟩,e6⟩:=hh
     refine Cl5 hS ids ts gh s idl h hF hpo hfn h2 e3 e4 h3 h4 e5 hgh hng e6 hts hlen hle.out hk hn (fun t next self a hb hm=>?_) (fun a hm=>(hend a hm).out)
     refine (hround t next self a (fun g' ids' pr a hc hself hp he hle=>⟨Av7 hS hc ?_ hp⟩) hm).out
     rw [he]
     have hl:((s a).env.map (·.2)).length=ts.length:=by rw [<- hk a];simp
     refine hb _ (rst gh (s a)) ((s a).env.map fun p=>p.2) ids' a hle.out (Aw0 gh (s a)) hl ?_ (hb0 a) hself
     have:=congrArg St.regs (hb0 a)
     simp only at this
     show A2 (del gh (ins gh _ _)) gh=none
     rw [this];exact hn a
    ·cases he
   ·cases he
  ·cases he
 ·cases he
theorem BZ4 (hS:I3 S P) {f:FuncId} {fn:Func} {first caps:List AV} {objs:List Obj} {L:List (List PV)} {p:Option PV} (hf:P.funcs[f]? = some fn)
 (h:KG S P (Ah8 S P (objs ++ [Obj.yld L true]).length fn.results.toList fun r objs' ks=>∃ b,objs'[objs.length]? = some (.yld [] b)/\ks[objs.length]? = some true/\(b=true->Cw9 p r)/\(b=false->∃ a,r=.ret a)) (.code (fn.body.getD .skip) [] { env:=argEnv (first ++ .yf objs.length :: caps),regs:=objRegs (objs ++ [Obj.yld L true]) }))
 (hc:fn.body.isSome=true:=by kernel_rfl) (hn:Nat.ble (first ++ .yf objs.length :: caps).length fn.ntmps=true:=by kernel_rfl) (ho:Nat.blt (objs ++ [Obj.yld L true]).length 1000=true:=by kernel_rfl)
 (hco:X6 fn.ntmps (fn.body.getD .skip)=true:=by kernel_rfl) (hnm:(fn.name == "runtime.NumGoroutine")=false:=by kernel_rfl):AW6 S f first caps objs L p:=by
 obtain ⟨code,hcode⟩:=Option.isSome_iff_exists.1 hc
 rw [hcode,Option.getD_some] at hco h
 exact AL2 hS hf hcode (Nat.le_of_ble_eq_true hn) (by simpa [Nat.blt_eq] using ho) rfl hco hnm h.out
theorem Cl6 (hS:I3 S P) {f:FuncId} {fn:Func} {args:List AV} {objs:List Obj} {Q:Bb0->List Obj->List Bool->Prop} (hf:P.funcs[f]? = some fn)
 (h:KG S P (Ah8 S P objs.length fn.results.toList Q) (.code (fn.body.getD .skip) [] { env:=argEnv args,regs:=objRegs objs }))
 (hc:fn.body.isSome=true:=by kernel_rfl) (hn:Nat.ble args.length fn.ntmps=true:=by kernel_rfl) (ho:Nat.blt objs.length 1000=true:=by kernel_rfl)
 (hco:X6 fn.ntmps (fn.body.getD .skip)=true:=by kernel_rfl) (hnm:(fn.name == "runtime.NumGoroutine")=false:=by kernel_rfl):S.F f args objs Q:=by
 obtain ⟨code,hcode⟩:=Option.isSome_iff_exists.1 hc
 rw [hcode,Option.getD_some] at hco h
 exact AL2 hS hf hcode (Nat.le_of_ble_eq_true hn) (by simpa [Nat.blt_eq] using ho) rfl hco hnm h.out
def panE:Cfg->Option PV
 | .ops all (o :: _) _ st=>match As9 all st.env o,o.op with
  | some true, .panic x=>match aev st.env x with
   | .p (.iface t y)=>some (.iface t y)
   | _=>none
  | _,_=>none
 | _=>none
def panC (x:PV):Cfg->Cfg
 | .ops _ _ K st=>.pop (.panic x) K st
 | g=>g
theorem Cx0 (hS:I3 S P) (hc:pr) {x:PV} (hk:KG S P F (panC x (stp P g))) (hp:pr=F0 (cnd P g):=by kernel_rfl) (he:panE (stp P g)=some x:=by kernel_rfl):KG S P F g:=by
 refine ⟨Av7 hS hc ?_ hp⟩
 have hk:=hk.out
 generalize stp P g=g1 at hk he
 unfold panE at he
 split at he
 ·rename_i all o rest K st
  split at he
  ·rename_i y hg ho
   split at he
   ·rename_i t z hx
    cases he
    exact Cv5 hS hg ho hx hk
   ·cases he
  ·cases he
 ·cases he
def Cl7:Cfg->Option PV
 | .pop (.panic x) [] _=>some x
 | _=>none
theorem Cr0 (hS:I3 S P) (hc:pr) {n:Nat} {rs:List ResultVar} {Q:Bb0->List Obj->List Bool->Prop} {x:PV} {objs:List Obj} (outs:List Nat) (hQ:Q (.panic x) objs (Au7 n outs)) (hp:pr=F0 (cnd P g):=by kernel_rfl)
 (he:Cl7 (stp P g)=some x:=by kernel_rfl) (hd:F6 outs=true:=by kernel_rfl) (hr:J1 outs (stp P g).st.regs outs=some objs:=by kernel_rfl):KG S P (Ah8 S P n rs Q) g:=by
 refine ⟨Av7 hS hc ?_ hp⟩
 generalize stp P g=g1 at he hr
 unfold Cl7 at he
 split at he
 ·cases he
  exact ⟨outs,objs,hd,hr,hQ⟩
 ·cases he
theorem CF9 {k:Nat} {g:Nat->List PV}:AV.p (.v (.slice none 0 0))=.p (.sl false k 0 g) \/ ∃ x y,AV.p (.v (.slice none 0 0))=.p x/\AV.p (.sl false k 0 g)=.p y/\leP x y:=
 .inr ⟨_,_,rfl,rfl, .inr (.inr (.inl ⟨_,_,rfl,rfl⟩))⟩
theorem Cx1 (hS:I3 S P) {all rest:List Oper} {o:Oper} {c:Call} {f:Operand} {as:List AV} {regs:D2} {fn:FuncId} {as' args:List AV} {objs objs' : List Obj} {ks:List Bool} {x:PV} (ids:List Nat)
 (hg:As9 all st.env o=some true) (ho:o.op=.call c) (hf:c.callee=.value f) (ha:Bb1 st.regs (c.args.toList.map (aev st.env))=some (as,regs))
 (hw:BA6 st.env f as=some (fn,as')) (hr:Ai7 ids as' = some args) (hob:J1 ids regs ids=some objs) (hF:S.F fn args objs fun res o k=>res=.panic x/\o=objs' /\ k=ks)
 (hd:F6 ids=true) (hy:An8 objs=true) (hn:Ai9 regs ids ks (o.dst.getD 0) objs'.length=true)
 (hk:G S P F (.pop (.panic x) K { env:=st.env,regs:=BU1 (N3 (o.dst.getD 0) ids ks objs'.length) (N3 (o.dst.getD 0) ids ks objs'.length) objs' (N4 ids ks regs) })) :
 G S P F (.ops all (o :: rest) K st):=by
 refine Au8 hS hg ?_
 unfold wOp
 obtain ⟨callee,cargs,types⟩:=c
 simp only at hf ha
 subst hf
 rw [ho]
 refine .inl ⟨as,regs,_,_, .inl ha,hw,ids,args,objs,hd,hr,hob,hy,hS.monoF _ _ _ _ _ ?_ hF⟩
 rintro _ _ _ ⟨rfl,rfl,rfl⟩
 exact ⟨hn,hk⟩
def Cr1 (ids:List Nat) (ks:List Bool) (x:PV) (objs' : List Obj):Cfg->Cfg
 | .ops all (o :: rest) K st=>match o.op with
  | .call c=>match Bb1 st.regs (c.args.toList.map (aev st.env)) with
   | some (_,regs)=>mkO st.env (BU1 (N3 (o.dst.getD 0) ids ks objs'.length) (N3 (o.dst.getD 0) ids ks objs'.length) objs' (N4 ids ks regs)) fun env regs=>.pop (.panic x) K ⟨env,regs⟩
   | none=>.ops all (o :: rest) K st
  | _=>.ops all (o :: rest) K st
 | g=>g
theorem Cx2 (hS:I3 S P) (ids:List Nat) (hc:pr) {fn:FuncId} {args:List AV} {objs objs' : List Obj} {x:PV} {ks:List Bool} (hF:S.F fn args objs fun res o k=>res=.panic x/\o=objs' /\ k=ks)
 (hk:KG S P F (Cr1 ids ks x objs' (stp P g))) (hp:pr=F0 (cnd P g):=by kernel_rfl) (he:BY6 ids (stp P g)=some (fn,args,objs):=by kernel_rfl) (hn:BY7 ids ks objs'.length (stp P g)=true:=by kernel_rfl):KG S P F g:=by
 refine ⟨Av7 hS hc ?_ hp⟩
 replace hk:=hk.out
 generalize stp P g=g' at he hn hk
 unfold BY6 at he
 split at he
 ·split at he
  ·rename_i hg ho
   split at he
   ·rename_i hcl
    split at he
    ·rename_i ha
     split at he
     ·rename_i hw
      split at he
      ·rename_i hr hob
       split at he
       ·rename_i hdy
        cases he
        simp only [Bool.and_eq_true] at hdy
        simp only [Cr1,BY7,ho,ha,AH0] at hk hn
        exact Cx1 hS ids hg ho hcl ha hw hr hob hF hdy.1 hdy.2 hn hk
       ·cases he
      ·cases he
     ·cases he
    ·cases he
   ·cases he
  ·cases he
 ·cases he
def Bh5 (S:Af9) (R:St->Prop) (X:PV->St->Prop):J5
 | .normal,st=>S.up st R
 | .panic x,st=>X x st
 | _,_=>False
theorem K_upN (hS:I3 S P) (hc:pr) {R:St->Prop} {X:PV->St->Prop} (st:St) {ids:List (Nat × Nat)} (hR:R st) (hp:pr=F0 (cnd P g):=by kernel_rfl) (he:stp P g=.pop .normal [] (stp P g).st:=by kernel_rfl)
 (hle:KLe ids (stp P g).st st:=by exact kl):KG S P (Bh5 S R X) g:=by
 refine ⟨Av7 hS hc ?_ hp⟩
 rw [he]
 exact hS.le ids _ _ R hle.out hR
theorem K_upP (hS:I3 S P) (hc:pr) {R:St->Prop} {X:PV->St->Prop} {x:PV} (hX:X x (stp P g).st) (hp:pr=F0 (cnd P g):=by kernel_rfl) (he:Cl7 (stp P g)=some x:=by kernel_rfl):KG S P (Bh5 S R X) g:=by
 refine ⟨Av7 hS hc ?_ hp⟩
 generalize stp P g=g1 at he hX
 unfold Cl7 at he
 split at he
 ·cases he
  exact hX
 ·cases he
end
end Go.AM
set_option linter.unusedVariables false
namespace Go.AM
section
variable {S:Af9} {P:Program} {F:J5} {K:List It} {g:Cfg} {pr:Prop}
theorem BD4 (hS:I3 S P) {all:List Oper} {o:Oper} {k k' : St->Prop} {Q Q' : J5} (hk:∀ s,k s->k' s) (hq:∀ x s,Q (.panic x) s->Q' (.panic x) s) {st:St} (h:Au3 S P all o k Q st):Au3 S P all o k' Q' st:=by
 have e:∀ st,wOp S P o k Q st->wOp S P o k' Q' st:=by
  intro st h
  have hcall:∀ d ids f args st,BA5 S d ids f args st (AB3 o.dst k Q)->BA5 S d ids f args st (AB3 o.dst k' Q'):=by
   rintro d ids f args st ⟨a,ob,h1,h2,h3,h4,h5⟩
   refine ⟨a,ob,h1,h2,h3,h4,hS.monoF _ _ _ _ _ (fun r o ks ⟨h6,h7⟩=>⟨h6, ?_⟩) h5⟩
   cases r with
   | ret a=>exact hk _ h7
   | panic x=>exact hq _ _ h7
  unfold wOp at h ⊢
  split at h
  ·rcases h with ⟨as,regs,f',as',h1,h2,ids,h3⟩ | ⟨j,xs,regs,ys,rest,h1,h2,h3,h4,h5,h6⟩
   ·exact .inl ⟨as,regs,f',as',h1,h2,ids,hcall _ _ _ _ _ h3⟩
   ·exact .inr ⟨j,xs,regs,ys,rest,h1,h2,h3,h4,h5,fun b=>hk _ (h6 b)⟩
  ·obtain ⟨as,regs,t,y,f',h1,h2,h3,ids,h4⟩:=h
   exact ⟨as,regs,t,y,f',h1,h2,h3,ids,hcall _ _ _ _ _ h4⟩
  ·obtain ⟨t,y,h1,h2⟩:=h
   exact ⟨t,y,h1,hq _ _ h2⟩
  ·rcases h with ⟨out,h1,h2,h3⟩ | ⟨c,x,h1,h2,h3⟩
   ·exact .inl ⟨out,h1,h2,hk _ h3⟩
   ·exact .inr ⟨c,x,h1,h2,hk _ h3⟩
 unfold Au3 at h ⊢
 refine hS.mono _ _ _ (fun t h=>?_) h
 split at h
 ·exact e _ h
 ·obtain ⟨b,h1,h2⟩:=h
  refine ⟨b,h1, ?_⟩
  split
  ·rename_i hb;rw [if_pos hb] at h2;exact e _ h2
  ·rename_i hb;rw [if_neg hb] at h2;exact hk _ h2
def Cx3 (all:List Oper) (n:Nat):Bool:=
 Nat.blt n all.length && (List.range all.length).all fun i=>Nat.blt i n || (List.range i).all fun j=>((CD2 all).getD i []).contains j
def BD5 (all:List Oper) (n:Nat):Bool:=(all.take n).all fun o=>match o.guard with
 | some (j,_)=>Nat.blt j n
 | none=>true
theorem BQ8 (all:List Oper) {n:Nat} (hg:BD5 all n=true) {o:Oper} (ho:o ∈ all.take n) {k:St->Prop} {Q:J5} {s:St} (h:Au3 S P (all.take n) o k Q s):Au3 S P all o k Q s:=by
 have h1:=List.all_eq_true.1 hg o ho
 unfold Au3 at h ⊢
 cases hgd:o.guard with
 | none=>simpa only [hgd] using h
 | some q=>
  obtain ⟨j,want⟩:=q
  simp only [hgd,Nat.blt_eq] at h1 h ⊢
  have e:AA9 (all.take n) j=AA9 all j:=by
   unfold AA9
   rw [List.getElem?_take,if_pos h1]
  rw [e] at h
  exact h
theorem Bv1 (hS:I3 S P) {all:List Oper} {n:Nat} {Q:J5} {st:St} (hdep:AB4 all=true) (hB:Cx3 all n=true) (hg:BD5 all n=true)
 (h:BN8 S P (all.take n) (fun e s=>match e with | .normal=>AN9 S P all (all.drop n) Q s | .panic x=>Q (.panic x) s | _=>False) st):BN8 S P all Q st:=by
 obtain ⟨hmix,hdp,Inv,h0,hstep,hend⟩:=h
 simp only [Cx3,Bool.and_eq_true,Nat.blt_eq,List.all_eq_true,List.mem_range,Bool.or_eq_true,List.contains_eq_mem,decide_eq_true_eq] at hB
 obtain ⟨hn,hB⟩:=hB
 let down:(Nat->Bool)->Prop:=fun D=>∀ i o,D i=true->all[i]? = some o->∀ e ∈ o.after.toList,Aj1 e=true->D e.on=true
 let Inv' : (Nat->Bool)->St->Prop:=fun D s=>down D/\(((∀ i,n<=i->D i=false)/\Inv D s) \/ ∃ j,n<=j/\j<=all.length/\(∀ i,i < all.length->(D i=true ↔ i < j))/\AN9 S P all (all.drop j) Q s)
 refine ⟨hmix,hdep,Inv',⟨fun i o hi=>(by cases hi), .inl ⟨fun _ _=>rfl,h0⟩⟩, ?_, ?_⟩
 ·intro D i s o ⟨hD,hc⟩ ho hDi hready
  have hin:i < all.length:=(List.getElem?_eq_some_iff.1 ho).1
  have hanc:=AL1 hdep hD i o ho hready
  have hdown:down fun j=>if j=i then true else D j:=by
   intro j oj hj hoj e he hbe
   show (if e.on=i then true else D e.on)=true
   by_cases e1:j=i
   ·subst e1
    rw [ho] at hoj;cases hoj
    split
    ·rfl
    ·exact hready e he hbe
   ·have hj:(if j=i then true else D j)=true:=hj
    rw [if_neg e1] at hj
    split
    ·rfl
    ·exact hD j oj hj hoj e he hbe
  have hclose:(∀ j,j < i->D j=true)->(∀ j,i < j->j < all.length->D j=false)->n<=i->S.up s (AN9 S P all (all.drop i) Q)->Au3 S P all o (Inv' fun j=>if j=i then true else D j) Q s:=by
   intro hlo hhi hni h2
   have hd:all.drop i=o :: all.drop (i+1):=by
    rw [List.drop_eq_getElem_cons hin]
    congr 1
    exact (List.getElem?_eq_some_iff.1 ho).2
   rw [hd] at h2
   have h3:Au3 S P all o (AN9 S P all (all.drop (i+1)) Q) Q s:=hS.trans _ _ h2
   refine AL4 hS (fun s' hs'=>?_) (fun e s h=>h) h3
   refine ⟨hdown, .inr ⟨i+1,by omega,hin,fun i' hi'=>?_,hs'⟩⟩
   by_cases e:i' = i
   ·simp [e]
   ·simp only [e,if_false]
    constructor
    ·intro h4
     by_cases h5:i < i'
     ·rw [hhi i' h5 hi'] at h4;cases h4
     ·omega
    ·intro h4
     exact hlo i' (by omega)
  rcases hc with ⟨hlo,hI⟩ | ⟨j,hj1,hj2,hDj,hw⟩
  ·by_cases hi:i < n
   ·have ho' : (all.take n)[i]? = some o:=by rw [List.getElem?_take,if_pos hi];exact ho
    have h1:=BQ8 all hg (List.mem_of_getElem? ho') (hstep D i s o hI ho' hDi hready)
    refine BD4 hS (fun s' hs'=>?_) (fun x s' h=>h) h1
    refine ⟨hdown, .inl ⟨fun i' h'=>?_,hs'⟩⟩
    have:i' ≠ i:=by omega
    show (if i' = i then true else D i')=false
    rw [if_neg this];exact hlo i' h'
   ·have hall:∀ j,j < i->D j=true:=fun j hj=>hanc j ((hB i hin).resolve_left hi j hj)
    have e:i=n:=by
     by_cases h4:n < i
     ·have:=hall n h4;rw [hlo n (Nat.le_refl _)] at this;cases this
     ·omega
    subst e
    refine hclose hall (fun j hj _=>hlo j (by omega)) (Nat.le_refl _) ?_
    exact hend D s hI fun j hj=>hall j (by simp at hj;omega)
  ·have e:i=j:=by
    by_cases h4:i < j
    ·have:=(hDj i hin).2 h4;rw [hDi] at this;cases this
    ·by_cases h5:j < i
     ·have hall:D j=true:=hanc j ((hB i hin).resolve_left (by omega) j h5)
      have:=(hDj j (by omega)).1 hall;omega
     ·omega
   subst e
   refine hclose (fun j hj=>(hDj j (by omega)).2 hj) (fun j h1 h2=>?_) hj1 (hS.refl _ _ hw)
   cases hh:D j with
   | false=>rfl
   | true=>have:=(hDj j h2).1 hh;omega
 ·rintro D s ⟨hD,hc⟩ hall
  rcases hc with ⟨hlo,hI⟩ | ⟨j,hj1,hj2,hDj,hw⟩
  ·have:=hall n hn;rw [hlo n (Nat.le_refl _)] at this;cases this
  ·have e:j=all.length:=by
    by_cases h4:j < all.length
    ·have:=(hDj j h4).1 (hall j h4);omega
    ·omega
   subst e
   rw [List.drop_length] at hw
   exact hS.refl _ _ hw
def AS8 (n:Nat) (ls:List (Nat × Cls)):Cfg->SC
 | .code (.region _ ops true) _ st=>⟨ops.toList.take n,CI4 ls 0 (ops.toList.take n),ops.toList.take n,st.env,st.regs, []⟩
 | _=>⟨[], [], [], [], [], []⟩
def BZ5 (n:Nat) (env:Env) (regs:D2):Cfg->Cfg
 | .code (.region _ ops true) K _=>.ops ops.toList (ops.toList.drop n) K ⟨env,regs⟩
 | g=>g
def BZ6 (n:Nat):Cfg->Bool
 | .code (.region _ ops true) _ _=>AB4 ops.toList && Cx3 ops.toList n && BD5 ops.toList n
 | _=>false
theorem Cl8 (hS:I3 S P) (hc:pr) (n:Nat) (ls:List (Nat × Cls)) (h:DG S P (AS8 n ls (stp P g)) fun env regs=>KG S P F (BZ5 n env regs (stp P g))) (hp:pr=F0 (cnd P g):=by kernel_rfl) (hd:Aj4 (stp P g)=true:=by kernel_rfl) (hmix:P.follows .mixedOrders=true:=by kernel_rfl)
 (hok:AO6 (AS8 n ls (stp P g)).all (AS8 n ls (stp P g)).cls=true:=by kernel_rfl) (hb:BZ6 n (stp P g)=true:=by kernel_rfl):KG S P F g:=by
 have e:(fun env regs=>KG S P F (BZ5 n env regs (stp P g)))=fun env regs=>G S P F (BZ5 n env regs (stp P g)):=by
  funext env regs
  exact propext ⟨fun h=>h.out,fun h=>⟨h⟩⟩
 rw [e] at h
 refine ⟨Av7 hS hc ?_ hp⟩
 have h:=h.out
 generalize stp P g=g' at hd hok h hb
 unfold Aj4 at hd
 split at hd
 ·rename_i id ops K st
  simp only [BZ6,Bool.and_eq_true] at hb
  show awp S P (.region id ops true) (kp S P K F) st
  simp only [awp,if_true]
  refine Bv1 hS hb.1.1 hb.1.2 hb.2 ?_
  have h2:(ops.toList.take n).toArray.toList=ops.toList.take n:=rfl
  have:=BJ8 hS (F:=fun e s=>match e with | .normal=>AN9 S P ops.toList (ops.toList.drop n) (kp S P K F) s | .panic x=>kp S P K F (.panic x) s | _=>False) (K:=[]) (id:=id) (ops:=(ops.toList.take n).toArray) (CI4 ls 0 (ops.toList.take n)) hmix hok h
  simpa only [G,awp,if_true,kp,AS8] using this
 ·cases hd
end
end Go.AM
set_option linter.unusedVariables false
namespace Go.AM
open Go.RowKit Go.ChangeShapes Go.Deep
mutual
inductive LeD:PV->PV->Prop
 | refl (x:PV):LeD x x
 | sl {k n:Nat} {f g:Nat->List PV} (h:∀ i,i < n->LeDs (f i) (g i)):LeD (.sl false k n f) (.sl false k n g)
inductive LeDs:List PV->List PV->Prop
 | nil:LeDs [] []
 | cons {x y:PV} {l r:List PV} (h:LeD x y) (h' : LeDs l r):LeDs (x :: l) (y :: r)
end
theorem LeDs.refl:∀ l:List PV,LeDs l l
 | []=>.nil
 | x :: l=>.cons (.refl x) (LeDs.refl l)
theorem LeDs.length {l r:List PV} (h:LeDs l r):l.length=r.length:=by
 induction l generalizing r with
 | nil=>cases h;rfl
 | cons x l ih=>cases h with | cons _ h'=>simp [ih h']
theorem LeDs.get {l r:List PV} (h:LeDs l r):∀ i,LeD (l.getD i default) (r.getD i default):=by
 induction l generalizing r with
 | nil=>cases h;exact fun i=>.refl _
 | cons x l ih=>
  cases h with
  | cons h h'=>
   intro i
   cases i with
   | zero=>exact h
   | succ i=>simpa using ih h' i
theorem LeDs.append {a b c d:List PV} (h:LeDs a b) (h' : LeDs c d):LeDs (a ++ c) (b ++ d):=by
 induction a generalizing b with
 | nil=>cases h;exact h'
 | cons x l ih=>cases h with | cons h1 h2=>exact .cons h1 (ih h2)
theorem RepP.leD {w:World} {Pi:Nat->Nat->Prop} {v:Value} {x:PV} (h:RepP w Pi v x):∀ {y:PV},LeD x y->RepP w Pi v y:=by
 induction h with
 | slnil k f=>intro y hy;cases hy with
  | refl=>exact .slnil _ _
  | sl h=>exact .slnil _ _
 | sl nn b off cap k n f c hn hk hc h sp hsp ih=>
  intro y hy
  cases hy with
  | refl=>exact .sl nn b off cap k n f c hn hk hc h sp hsp
  | sl h'=>exact .sl false b off cap k n _ c hn (fun i hi=>by rw [<- (h' i hi).length];exact hk i hi) hc (fun i j hi hj=>ih i j hi hj ((h' i hi).get j)) sp hsp
 | v x=>intro y hy;cases hy;exact .v x
 | bb b=>intro y hy;cases hy;exact .bb b
 | str l=>intro y hy;cases hy;exact .str l
 | agg vs cs hs h1 h ih=>intro y hy;cases hy;exact .agg vs cs hs h1 h
 | ptr b off cs c hc h ih=>intro y hy;cases hy;exact .ptr b off cs c hc h
 | iface t x a h ih=>intro y hy;cases hy;exact .iface t x a h
 | fn f x y a b hx hy ha hb iha ihb=>intro y hy;cases hy;exact .fn f x _ a b hx ‹_› ha hb
theorem CRep.leD {W:World} {cs:List Value} {p q:List PV} (h:CRep W cs p) (hl:LeDs p q):CRep W cs q:=
 ⟨by rw [h.1,hl.length],fun i hi=>⟨(h.2 i (by rw [hl.length];exact hi)).1.leD (hl.get i),(h.2 i (by rw [hl.length];exact hi)).2⟩⟩
section
variable {P:Program} {t e:TypeId} {m:Nat} {pvs:List PV}
def Ar1 (f:Nat->Nat):Nat->Nat
 | 0=>0
 | k+1=>Ar1 f k+f k
theorem Cx4 (f:Nat->Nat) {k n:Nat} (h:k<=n):Ar1 f k<=Ar1 f n:=by
 induction h with
 | refl=>exact Nat.le_refl _
 | step _ ih=>simp only [Ar1];omega
theorem BZ7 (f:Nat->Nat) {k n:Nat} (h:k < n):f k<=Ar1 f n:=by
 have:=Cx4 f (show k+1<=n from h)
 simp only [Ar1] at this
 omega
theorem Bv2 {f g:Nat->Nat}:∀ {n:Nat},(∀ i,i < n->f i<=g i)->Ar1 f n<=Ar1 g n
 | 0,_=>Nat.le_refl _
 | n+1,h=>by
  have h1:=Bv2 (n:=n) fun i hi=>h i (by omega)
  have h2:=h n (by omega)
  simp only [Ar1];omega
theorem Bh6 (f:Nat->Nat):∀ n,BC7 ((List.range n).map f)=Ar1 f n:=by
 have app:∀ a b:List Nat,BC7 (a ++ b)=BC7 a+BC7 b:=by
  intro a b
  induction a with
  | nil=>simp [BC7]
  | cons x r ih=>simp only [List.cons_append,Bt7,ih];omega
 intro n
 induction n with
 | zero=>rfl
 | succ n ih=>rw [List.range_succ,List.map_append,app,ih];simp [Ar1,BC7]
def Bc0 (P:Program) (t:TypeId) {T:Type} (c:T->List PV) (W:T->Prop) (sz:T->Nat):Prop:=
 ∀ (m:Nat) (pvs:List PV),AL3 P m t pvs->∃ x:T,LeDs pvs (c x)/\W x/\sz x<=m
theorem T4 {k:IntKind} (ht:P.underlying t=some (.int k)):Bc0 P t (cI k) (fun n=>(Lit.int k n).wf=true) (fun _=>1):=by
 intro m pvs h
 cases h with
 | bool ht'=>rw [ht] at ht';cases ht'
 | str ht'=>rw [ht] at ht';cases ht'
 | slice _ ht'=>rw [ht] at ht';cases ht'
 | struct ht'=>rw [ht] at ht';cases ht'
 | int ht' hw hm=>rw [ht] at ht';cases ht';exact ⟨_,LeDs.refl _,hw,hm⟩
theorem BQ9 (ht:P.underlying t=some .bool):Bc0 P t cB (fun _=>True) (fun _=>1):=by
 intro m pvs h
 cases h with
 | int ht'=>rw [ht] at ht';cases ht'
 | str ht'=>rw [ht] at ht';cases ht'
 | slice _ ht'=>rw [ht] at ht';cases ht'
 | struct ht'=>rw [ht] at ht';cases ht'
 | bool ht' hm=>exact ⟨_,LeDs.refl _,trivial,hm⟩
theorem BZ8 (ht:P.underlying t=some .string):Bc0 P t cS (fun _=>True) (fun l=>l.length+1):=by
 intro m pvs h
 cases h with
 | int ht'=>rw [ht] at ht';cases ht'
 | bool ht'=>rw [ht] at ht';cases ht'
 | slice _ ht'=>rw [ht] at ht';cases ht'
 | struct ht'=>rw [ht] at ht';cases ht'
 | str ht' hm=>exact ⟨_,LeDs.refl _,trivial,hm⟩
theorem F1 {T:Type} [Inhabited T] {c:T->List PV} {W:T->Prop} {sz:T->Nat} {k:Nat} (ht:P.underlying t=some (.slice e)) (hk:P.cellsOf e=k) (h:Bc0 P e c W sz) :
 Bc0 P t (cL k c) (fun s=>∀ i,i < s.n->W (s.g i)) (fun s=>Ar1 (fun i=>sz (s.g i)) s.n+1):=by
 intro m pvs hs
 cases hs with
 | int ht'=>rw [ht] at ht';cases ht'
 | bool ht'=>rw [ht] at ht';cases ht'
 | str ht'=>rw [ht] at ht';cases ht'
 | struct ht'=>rw [ht] at ht';cases ht'
 | @slice _ _ e' n f ms ht' hl hel hm=>
  rw [ht] at ht'
  cases ht'
  obtain ⟨g,hg⟩:=choose_lt (α:=T) (p:=fun i x=>LeDs (f i) (c x)/\W x/\sz x<=ms i) fun i hi=>h _ _ (hel i hi)
  refine ⟨⟨n,g⟩, ?_,fun i hi=>(hg i hi).2.1, ?_⟩
  ·subst hk
   exact .cons (.sl fun i hi=>(hg i hi).1) .nil
  ·have h1:=Bv2 (n:=n) fun i hi=>(hg i hi).2.2
   rw [Bh6] at hm
   show Ar1 (fun i=>sz (g i)) n+1<=m
   omega
theorem Ag1 {fs:Array Field} (ht:P.underlying t=some (.struct fs)) (h:AL3 P m t pvs):∃ m',AG8 P m' (fs.toList.map (·.type)) pvs/\m' + 1<=m:=by
 cases h with
 | int ht'=>rw [ht] at ht';cases ht'
 | bool ht'=>rw [ht] at ht';cases ht'
 | str ht'=>rw [ht] at ht';cases ht'
 | slice _ ht'=>rw [ht] at ht';cases ht'
 | struct ht' h hm=>rw [ht] at ht';cases ht';exact ⟨_,h,hm⟩
theorem D6 {ts:List TypeId} (h:AG8 P m (t :: ts) pvs):∃ a b p q,pvs=p ++ q/\AL3 P a t p/\AG8 P b ts q/\a+b<=m:=by
 cases h with
 | cons h h' hm=>exact ⟨_,_,_,_,rfl,h,h',hm⟩
theorem Ao6 (h:AG8 P m [] pvs):pvs=[]:=by cases h;rfl
end
end Go.AM
