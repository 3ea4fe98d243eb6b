/- What a law's walk and its plain proof need, part 4: no condition of its own. -/
import Derived.Test.YtnpknmmlpjnpeaaDoorAmC
import Derived.KernelRfl
set_option linter.unusedSimpArgs false
set_option linter.unusedVariables false
set_option linter.unusedSectionVars false
set_option linter.unusedVariables false
namespace Go.AM
section
variable (P : Program)
def stp (g : Cfg) : Cfg := (run P 400 [] g).cfg
def cnd (g : Cfg) : List Prop := (run P 400 [] g).conds
def Cfg.st : Cfg → St
  | .code _ _ s => s
  | .ops _ _ _ s => s
  | .pop _ _ s => s
def Cfg.k : Cfg → List It
  | .code _ K _ => K
  | .ops _ _ K _ => K
  | .pop _ K _ => K
def mkO {R : Type _} (env : Env) (regs : Regs) (κ : Env → Regs → R) : R := fE env fun env => fR regs fun regs => κ env regs
theorem mkO_eq {R : Type _} (env : Env) (regs : Regs) (κ : Env → Regs → R) : mkO env regs κ = κ env regs := by simp only [mkO, fE_eq, fR_eq]
def putK {R : Type _} (d : Option Nat) (a : AV) (env : Env) (regs : Regs) (κ : St → R) : R := match d with
  | some d => mkO (ins d a env) regs fun env regs => κ ⟨env, regs⟩
  | none => mkO env regs fun env regs => κ ⟨env, regs⟩
theorem putK_eq {R : Type _} (d : Option Nat) (a : AV) (env : Env) (regs : Regs) (κ : St → R) : putK d a env regs κ = κ (put ⟨env, regs⟩ d a) := by
  cases d <;> simp only [putK, mkO_eq, put]
def condE : Cfg → Option Bool
  | .code (.cond c _ _) _ st => match aev st.env c with
    | .p (.bb b) => some b
    | _ => none
  | _ => none
def condT : Cfg → Cfg
  | .code (.cond _ t _) K st => .code t K st
  | g => g
def condF : Cfg → Cfg
  | .code (.cond _ _ e) K st => .code e K st
  | g => g
def guardE : Cfg → Option Bool
  | .ops all (o :: _) _ st => match o.guard with
    | some (j, _) => match gdst all j with
      | some d => match get st.env d with
        | .p (.bb b) => some b
        | _ => none
      | none => none
    | none => none
  | _ => none
def guardC (b : Bool) : Cfg → Cfg
  | .ops all (o :: rest) K st => match o.guard with
    | some (j, _) => match gdst all j with
      | some d => putK (some d) (.p (.v (.bool b))) st.env st.regs fun st => .ops all (o :: rest) K st
      | none => .ops all (o :: rest) K st
    | none => .ops all (o :: rest) K st
  | g => g
def callE (ids : List Nat) : Cfg → Option (FuncId × List AV × List Obj)
  | .ops all (o :: _) _ st => match guardB all st.env o, o.op with
    | some true, .call c => match c.callee with
      | .value f => match argv st.regs (c.args.toList.map (aev st.env)) with
        | some (as, regs) => match whom st.env f as with
          | some (fn, as') => match renL ids as', objsOf ids regs ids with
            | some a, some ob => if nodupB ids && noYld ob then some (fn, a, ob) else none
            | _, _ => none
          | none => none
        | none => none
      | _ => none
    | _, _ => none
  | _ => none
def callN (ids : List Nat) (ks : List Bool) (n : Nat) : Cfg → Bool
  | .ops _ (o :: _) _ st => match o.op with
    | .call c => match argv st.regs (c.args.toList.map (aev st.env)) with
      | some (_, regs) => freeIds regs ids ks (o.dst.getD 0) n
      | none => false
    | _ => false
  | _ => false
def callK (ids : List Nat) (ks : List Bool) (r : AV) (objs' : List Obj) : Cfg → Cfg
  | .ops all (o :: rest) K st => match o.op with
    | .call c => match argv st.regs (c.args.toList.map (aev st.env)) with
      | some (_, regs) => putK o.dst (unA (newIds (o.dst.getD 0) ids ks objs'.length) r) st.env
          (back (newIds (o.dst.getD 0) ids ks objs'.length) (newIds (o.dst.getD 0) ids ks objs'.length) objs' (deaden ids ks regs)) fun st => .ops all rest K st
      | none => .ops all (o :: rest) K st
    | _ => .ops all (o :: rest) K st
  | g => g
structure LookI where
  kt : TypeId
  e : TypeId
  key : PV
  es : List (PV × PV)
def lookE : Cfg → Option LookI
  | .ops all (o :: _) _ st => match guardB all st.env o, o.op with
    | some true, .lookup t m k _ => match view st.regs (aev st.env k), aev st.env m with
      | some (key, regs), .mref j => match rget regs j, tk P t with
        | some (.map es), some (.map kt e) => if keyOk P kt key = true then some ⟨kt, e, key, es⟩ else none
        | _, _ => none
      | _, _ => none
    | _, _ => none
  | _ => none
def lookV (e : TypeId) : Option PV → Option (PV × Bool)
  | some x => some (x, true)
  | none => (zeroOf P e).map fun z => (z, false)
def lookK (x : PV) (b : Bool) : Cfg → Cfg
  | .ops all (o :: rest) K st => match o.op with
    | .lookup _ _ k ok => match view st.regs (aev st.env k) with
      | some (_, regs) => putK o.dst (if ok then .tup [.p x, .bool b] else .p x) st.env regs fun st => .ops all rest K st
      | none => .ops all (o :: rest) K st
    | _ => .ops all (o :: rest) K st
  | g => g
def updE : Cfg → Option (TypeId × PV × PV × List (PV × PV))
  | .ops all (o :: _) _ st => match guardB all st.env o, o.op with
    | some true, .mapUpdate t m k x => match aev st.env k, aev st.env m, view st.regs (aev st.env x) with
      | .p key, .mref j, some (y, regs) => match rget regs j, tk P t with
        | some (.map es), some (.map kt _) => if keyOk P kt (nP key) = true then some (kt, nP key, y, es) else none
        | _, _ => none
      | _, _, _ => none
    | _, _ => none
  | _ => none
def updK (es' : List (PV × PV)) : Cfg → Cfg
  | .ops all (o :: rest) K st => match o.op with
    | .mapUpdate _ m _ x => match aev st.env m, view st.regs (aev st.env x) with
      | .mref j, some (_, regs) => putK o.dst skipV st.env (ins j (.map es') regs) fun st => .ops all rest K st
      | _, _ => .ops all (o :: rest) K st
    | _ => .ops all (o :: rest) K st
  | g => g
def isLoop : Cfg → Bool
  | .code (.loop _) _ _ => true
  | _ => false
def loopB : Cfg → Code
  | .code (.loop b) _ _ => b
  | _ => .skip
def isMid (K : List It) : Cfg → Option St
  | _ => none
def popSt : Cfg → Option St
  | .pop .normal _ st => some st
  | _ => none
def insIt (M : It) : Nat → List It → List It
  | 0, K => M :: K
  | n + 1, i :: K => i :: insIt M n K
  | _ + 1, [] => [M]
def midC (n : Nat) (M : St → Prop) : Cfg → Cfg
  | .code c K st => .code c (insIt (.mid M) n K) st
  | .ops all rest K st => .ops all rest (insIt (.mid M) n K) st
  | .pop e K st => .pop e (insIt (.mid M) n K) st
def dropK (n : Nat) (g : Cfg) : List It := g.k.drop n
def codeAt (n : Nat) (g : Cfg) : Bool := match g.k.drop n with
  | _ => decide (n ≤ g.k.length)
def isOps : Cfg → Bool
  | .ops _ (_ :: _) _ _ => true
  | _ => false
def opsS (st : St) : Cfg → Cfg
  | .ops all rest K _ => .ops all rest K st
  | g => g
def endE : Cfg → Option St
  | .pop .ret [] st => some st
  | .pop .normal [] st => some st
  | _ => none
inductive Leaf where
  | eq (x y : PV)
  | fn (n m : Nat) (f g : Nat → List PV)
  | mp (x y : List (PV × PV))
  | yl (x y : List (List PV)) (b c : Bool)
  | nt (a b : Nat)
inductive LV where
  | eq (x : PV)
  | fn (n : Nat) (f : Nat → List PV)
  | mp (x : List (PV × PV))
  | yl (x : List (List PV)) (b : Bool)
  | nt (a : Nat)
def Leaf.src : Leaf → LV
  | .eq x _ => .eq x
  | .fn n _ f _ => .fn n f
  | .mp x _ => .mp x
  | .yl x _ b _ => .yl x b
  | .nt a _ => .nt a
def Leaf.tgt : Leaf → LV
  | .eq _ y => .eq y
  | .fn _ m _ g => .fn m g
  | .mp _ y => .mp y
  | .yl _ y _ c => .yl y c
  | .nt _ b => .nt b
def Leaf.ok : Leaf → Prop
  | .eq x y => x = y
  | .fn n m f g => n = m ∧ ∀ i, i < n → f i = g i
  | .mp x y => x = y
  | .yl x y b c => x = y ∧ b = c
  | .nt a b => a = b
theorem Leaf.ok_of {l : Leaf} (h : l.src = l.tgt) : l.ok := by
  cases l with
  | eq x y => simp only [Leaf.src, Leaf.tgt, LV.eq.injEq] at h; exact h
  | fn n m f g => simp only [Leaf.src, Leaf.tgt, LV.fn.injEq] at h; obtain ⟨rfl, rfl⟩ := h; exact ⟨rfl, fun _ _ => rfl⟩
  | mp x y => simp only [Leaf.src, Leaf.tgt, LV.mp.injEq] at h; exact h
  | yl x y b c => simp only [Leaf.src, Leaf.tgt, LV.yl.injEq] at h; exact h
  | nt a b => simp only [Leaf.src, Leaf.tgt, LV.nt.injEq] at h; exact h
def leafP : PV → PV → Leaf
  | .v (.bool b), .bb c => .eq (.bb b) (.bb c)
  | .v (.slice none 0 0), .sl false _ n f => .fn 0 n f f
  | .sl nn k n f, .sl false l m g => if k = l then .fn n m f g else .eq (.sl nn k n f) (.sl false l m g)
  | x, y => .eq x y
mutual
def leafA (regs : Regs) (ids : List (Nat × Nat)) (a b : AV) : Option (List Leaf) :=
  match b with
  | .top => some []
  | .p y => match viewP regs a with
    | some x => some [leafP x y]
    | none => none
  | .reg j off => match a with | .reg i off' => if lk ids j = some i ∧ off = off' then some [] else none | _ => none
  | .vec j => match a with
    | .vec i => if lk ids j = some i then some [] else none
    | .p (.v (.slice none 0 0)) => if lk ids j = none then some [] else none
    | _ => none
  | .vecp j n => match a with | .vecp i m => if lk ids j = some i ∧ n = m then some [] else none | _ => none
  | .elt j k n off => match a with | .elt i k' n' off' => if lk ids j = some i ∧ k = k' ∧ n = n' ∧ off = off' then some [] else none | _ => none
  | .mref j => match a with | .mref i => if lk ids j = some i then some [] else none | _ => none
  | .yf j => match a with | .yf i => if lk ids j = some i then some [] else none | _ => none
  | .clo f x y => match a with
    | .clo f' x' y' => match leafL regs ids x' x, leafL regs ids y' y with | some l, some m => some (.nt f' f :: (l ++ m)) | _, _ => none
    | _ => none
  | .tup l => match a with | .tup l' => leafL regs ids l' l | _ => none
  | .agr l => match a with | .agr l' => leafL regs ids l' l | _ => none
def leafL (regs : Regs) (ids : List (Nat × Nat)) (a b : List AV) : Option (List Leaf) :=
  match b with
  | [] => match a with | [] => some [] | _ => none
  | y :: s => match a with
    | x :: r => match leafA regs ids x y, leafL regs ids r s with | some l, some m => some (l ++ m) | _, _ => none
    | [] => none
end
def leafE (regs : Regs) (ids : List (Nat × Nat)) (env : Env) : Env → Option (List Leaf)
  | [] => some []
  | (t, b) :: r => match leafA regs ids (get env t) b, leafE regs ids env r with | some l, some m => some (l ++ m) | _, _ => none
def leafO (regs : Regs) (ids : List (Nat × Nat)) (o p : Obj) : Option (List Leaf) :=
  match p with
  | .cells cs => match o with | .cells cs' => leafL regs ids cs' cs | _ => none
  | .vec e k n f vw => match o with
    | .vec e' k' m g vw' => if e = e' ∧ k = k' ∧ (vw' = true → vw = true) then some [.fn m n g f] else none
    | _ => none
  | .map es => match o with | .map es' => some [.mp es' es] | _ => none
  | .arr n f => match o with | .arr m g => some [.fn m n (fun i => [g i]) (fun i => [f i])] | _ => none
  | .ghost cs => match o with | .ghost cs' => leafL regs ids cs' cs | _ => none
  | .yld r b => match o with | .yld r' b' => some [.yl r' r b' b] | _ => none
  | .dead => some []
def leafR (regs : Regs) (ids : List (Nat × Nat)) : Regs → Option (List Leaf)
  | [] => some []
  | (j, p) :: r => match (match lk ids j with
      | some i => match rget regs i with
        | some o => leafO regs ids o p
        | none => none
      | none => match p with
        | .vec _ _ n f _ => some [.fn 0 n f f]
        | _ => none : Option (List Leaf)), leafR regs ids r with
    | some l, some m => some (l ++ m)
    | _, _ => none
def leK (ids : List (Nat × Nat)) (s t : St) : Option (List Leaf) :=
  if (wf t && nodupB (ids.map (·.2)) && pinOk ids && pinNil ids t.regs && seenOk ids (seen s.env t.env ++ seenR ids s.regs t.regs) t.regs) = true then
    match leafE s.regs ids s.env t.env, leafR s.regs ids t.regs with
    | some l, some m => some (l ++ m)
    | _, _ => none
  else none
theorem leafP_ok {x y : PV} (h : (leafP x y).ok) : leP x y := by
  unfold leafP at h
  split at h
  · simp only [Leaf.ok, PV.bb.injEq] at h; subst h; exact .inr (.inr (.inr (.inl ⟨_, rfl, rfl⟩)))
  · obtain ⟨rfl, _⟩ := h; exact .inr (.inr (.inl ⟨_, _, rfl, rfl⟩))
  · split at h
    · rename_i hk; subst hk; obtain ⟨rfl, h⟩ := h; exact .inr (.inl ⟨_, _, _, _, _, rfl, rfl, h⟩)
    · exact .inl h
  · exact .inl h
theorem all_app {l m : List Leaf} (h : ∀ x ∈ l ++ m, x.ok) : (∀ x ∈ l, x.ok) ∧ ∀ x ∈ m, x.ok :=
  ⟨fun x hx => h x (List.mem_append_left _ hx), fun x hx => h x (List.mem_append_right _ hx)⟩
mutual
theorem leafA_ok {regs : Regs} {ids : List (Nat × Nat)} {a : AV} (b : AV) {L : List Leaf} (h : leafA regs ids a b = some L) (hL : ∀ x ∈ L, x.ok) : leA regs ids a b := by
  cases b with
  | top => unfold leA; trivial
  | p y =>
    unfold leafA at h
    split at h
    · rename_i x hx; cases h; unfold leA; exact ⟨x, hx, leafP_ok (hL _ (by simp))⟩
    · cases h
  | reg j off =>
    unfold leafA at h
    split at h
    · split at h
      · rename_i hh; obtain ⟨h1, rfl⟩ := hh; exact le_reg h1
      · cases h
    · cases h
  | vec j =>
    unfold leafA at h
    split at h
    · split at h
      · rename_i h1; exact le_vec h1
      · cases h
    · split at h
      · rename_i h1; exact le_vnil h1
      · cases h
    · cases h
  | vecp j n =>
    unfold leafA at h
    split at h
    · split at h
      · rename_i hh; obtain ⟨h1, rfl⟩ := hh; unfold leA; exact ⟨_, h1, rfl⟩
      · cases h
    · cases h
  | elt j k n off =>
    unfold leafA at h
    split at h
    · split at h
      · rename_i hh; obtain ⟨h1, rfl, rfl, rfl⟩ := hh; unfold leA; exact ⟨_, h1, rfl⟩
      · cases h
    · cases h
  | mref j =>
    unfold leafA at h
    split at h
    · split at h
      · rename_i h1; exact le_mref h1
      · cases h
    · cases h
  | yf j =>
    unfold leafA at h
    split at h
    · split at h
      · rename_i h1; exact le_yf h1
      · cases h
    · cases h
  | clo f x y =>
    unfold leafA at h
    split at h
    · split at h
      · rename_i l m h1 h2
        cases h
        have hf := hL _ (List.mem_cons_self ..)
        simp only [Leaf.ok] at hf
        subst hf
        obtain ⟨h3, h4⟩ := all_app fun x hx => hL x (List.mem_cons_of_mem _ hx)
        exact le_clo (leafL_ok x h1 h3) (leafL_ok y h2 h4)
      · cases h
    · cases h
  | tup l =>
    unfold leafA at h
    split at h
    · exact le_tup (leafL_ok l h hL)
    · cases h
  | agr l =>
    unfold leafA at h
    split at h
    · exact le_agr (leafL_ok l h hL)
    · cases h
theorem leafL_ok {regs : Regs} {ids : List (Nat × Nat)} {a : List AV} (b : List AV) {L : List Leaf} (h : leafL regs ids a b = some L) (hL : ∀ x ∈ L, x.ok) : leL regs ids a b := by
  cases b with
  | nil =>
    unfold leafL at h
    split at h
    · exact le_lnil
    · cases h
  | cons y s =>
    unfold leafL at h
    split at h
    · split at h
      · rename_i l m h1 h2
        cases h
        obtain ⟨h3, h4⟩ := all_app hL
        exact le_lcons (leafA_ok y h1 h3) (leafL_ok s h2 h4)
      · cases h
    · cases h
end
theorem leafE_ok {regs : Regs} {ids : List (Nat × Nat)} {env : Env} : ∀ (t : Env) {L : List Leaf}, leafE regs ids env t = some L → (∀ x ∈ L, x.ok) → leEnv regs ids env t
  | [], _, _, _ => trivial
  | (t, b) :: r, L, h, hL => by
    simp only [leafE] at h
    split at h
    · rename_i l m h1 h2
      cases h
      obtain ⟨h3, h4⟩ := all_app hL
      exact ⟨leafA_ok b h1 h3, leafE_ok r h2 h4⟩
    · cases h
theorem leafO_ok {regs : Regs} {ids : List (Nat × Nat)} {o p : Obj} {L : List Leaf} (h : leafO regs ids o p = some L) (hL : ∀ x ∈ L, x.ok) : leO regs ids o p := by
  cases p with
  | cells cs =>
    simp only [leafO] at h
    split at h
    · exact le_cells (leafL_ok cs h hL)
    · cases h
  | vec e k n f vw =>
    simp only [leafO] at h
    split at h
    · split at h
      · rename_i hh
        obtain ⟨rfl, rfl, hv⟩ := hh
        cases h
        obtain ⟨rfl, h1⟩ := hL _ (List.mem_singleton.2 rfl)
        exact ⟨_, _, rfl, h1, hv⟩
      · cases h
    · cases h
  | map es =>
    simp only [leafO] at h
    split at h
    · cases h
      have := hL _ (List.mem_singleton.2 rfl)
      simp only [Leaf.ok] at this
      subst this; rfl
    · cases h
  | arr n f =>
    simp only [leafO] at h
    split at h
    · cases h
      obtain ⟨rfl, h1⟩ := hL _ (List.mem_singleton.2 rfl)
      exact ⟨_, rfl, fun i hi => by simpa using h1 i hi⟩
    · cases h
  | ghost cs =>
    simp only [leafO] at h
    split at h
    · exact ⟨_, rfl, leafL_ok cs h hL⟩
    · cases h
  | yld r b =>
    simp only [leafO] at h
    split at h
    · cases h
      obtain ⟨rfl, rfl⟩ := hL _ (List.mem_singleton.2 rfl)
      rfl
    · cases h
  | dead => trivial
theorem leafR_ok {regs : Regs} {ids : List (Nat × Nat)} : ∀ (t : Regs) {L : List Leaf}, leafR regs ids t = some L → (∀ x ∈ L, x.ok) → leRegs regs ids t
  | [], _, _, _ => trivial
  | (j, p) :: r, L, h, hL => by
    simp only [leafR] at h
    split at h
    · rename_i l m h1 h2
      cases h
      obtain ⟨h3, h4⟩ := all_app hL
      refine ⟨?_, leafR_ok r h2 h4⟩
      split at h1
      · rename_i i hi
        split at h1
        · rename_i o ho; exact .inl ⟨i, o, hi, ho, leafO_ok h1 h3⟩
        · cases h1
      · rename_i hi
        split at h1
        · cases h1
          obtain ⟨rfl, _⟩ := h3 _ (List.mem_singleton.2 rfl)
          exact .inr ⟨hi, _, _, _, _, rfl⟩
        · cases h1
    · cases h
theorem leK_ok {ids : List (Nat × Nat)} {s t : St} {L : List Leaf} (h : leK ids s t = some L) (hL : ∀ x ∈ L, x.ok) : Le ids s t := by
  unfold leK at h
  split at h
  · rename_i hw
    split at h
    · rename_i l m h1 h2
      cases h
      obtain ⟨h3, h4⟩ := all_app hL
      exact le_mk hw (leafE_ok _ h1 h3) (leafR_ok _ h2 h4)
    · cases h
  · cases h
theorem kle {ids : List (Nat × Nat)} {s t : St} (h : (leK ids s t).map (·.map Leaf.src) = (leK ids s t).map (·.map Leaf.tgt) := by kernel_rfl) (h1 : (leK ids s t).isSome = true := by kernel_rfl) : Le ids s t := by
  obtain ⟨L, hL⟩ := Option.isSome_iff_exists.1 h1
  rw [hL] at h
  simp only [Option.map_some, Option.some.injEq] at h
  refine leK_ok hL fun x hx => ?_
  obtain ⟨i, hi, rfl⟩ := List.mem_iff_getElem.1 hx
  have := congrArg (·[i]?) h
  simp only [List.getElem?_map, List.getElem?_eq_getElem hi, Option.map_some, Option.some.injEq] at this
  exact Leaf.ok_of this
def mask (is : List Nat) (f : Leaf → LV) (L : List Leaf) : List (Option LV) := L.zipIdx.map fun q => if is.contains q.2 = true then none else some (f q.1)
theorem kleR {ids : List (Nat × Nat)} {s t : St} (rs : List (Nat × Leaf)) (hr : ∀ q ∈ rs, q.2.ok) (h : (leK ids s t).map (mask (rs.map (·.1)) Leaf.src) = (leK ids s t).map (mask (rs.map (·.1)) Leaf.tgt) := by kernel_rfl)
    (h2 : (leK ids s t).map (fun L => rs.map fun q => L[q.1]?) = some (rs.map fun q => some q.2) := by kernel_rfl) : Le ids s t := by
  cases hL : leK ids s t with
  | none => rw [hL] at h2; cases h2
  | some L =>
    rw [hL] at h h2
    simp only [Option.map_some, Option.some.injEq] at h h2
    refine leK_ok hL fun x hx => ?_
    obtain ⟨i, hi, rfl⟩ := List.mem_iff_getElem.1 hx
    by_cases hm : (rs.map (·.1)).contains i = true
    · simp only [List.contains_eq_mem, decide_eq_true_eq, List.mem_map] at hm
      obtain ⟨q, hq, rfl⟩ := hm
      obtain ⟨k, hk, rfl⟩ := List.mem_iff_getElem.1 hq
      have := congrArg (·[k]?) h2
      simp only [List.getElem?_map, List.getElem?_eq_getElem hk, Option.map_some, Option.some.injEq, List.getElem?_eq_getElem hi] at this
      rw [this]
      exact hr _ hq
    · have := congrArg (·[i]?) h
      simp only [mask, List.getElem?_map, List.getElem?_zipIdx, List.getElem?_eq_getElem hi, Option.map_some, Nat.zero_add, hm, Option.some.injEq] at this
      exact Leaf.ok_of (by simpa using this)
end
section
variable {P : Program}
variable {S : Sems} {F : Post} {g : Cfg} {pr : Prop}
theorem J_go (hS : Good S P) (hc : pr) (h : G S P F (stp P g)) (hp : pr = allC (cnd P g) := by kernel_rfl) : G S P F g :=
  (run_ok' (F := F) hS 400 [] g (by subst hp; exact hc)).2 h
theorem J_cond (hS : Good S P) (hc : pr) {b : Bool} (ht : b = true → G S P F (condT (stp P g))) (hf : b = false → G S P F (condF (stp P g))) (hp : pr = allC (cnd P g) := by kernel_rfl) (hb : condE (stp P g) = some b := by kernel_rfl) : G S P F g := by
  refine J_go hS hc ?_ hp
  generalize stp P g = g' at hb ht hf
  unfold condE at hb
  split at hb
  · split at hb
    · rename_i hc; cases hb; exact G_cond hc ht hf
    · cases hb
  · cases hb
theorem J_guard (hS : Good S P) (hc : pr) {b : Bool} (ht : b = true → G S P F (guardC true (stp P g))) (hf : b = false → G S P F (guardC false (stp P g))) (hp : pr = allC (cnd P g) := by kernel_rfl) (hb : guardE (stp P g) = some b := by kernel_rfl) : G S P F g := by
  refine J_go hS hc ?_ hp
  generalize stp P g = g' at hb ht hf
  unfold guardE at hb
  split at hb
  · split at hb
    · rename_i hg
      split at hb
      · rename_i hd
        split at hb
        · rename_i hbb
          cases hb
          simp only [guardC, hg, hd, putK_eq, put] at ht hf
          exact G_guard hS hg hd hbb ht hf
        · cases hb
      · cases hb
    · cases hb
  · cases hb
theorem J_call (hS : Good S P) (ids : List Nat) (hc : pr) {fn : FuncId} {args : List AV} {objs objs' : List Obj} {r : AV} {ks : List Bool} (hF : FunO S fn args objs r objs' ks)
    (hk : G S P F (callK ids ks r objs' (stp P g))) (hp : pr = allC (cnd P g) := by kernel_rfl) (he : callE ids (stp P g) = some (fn, args, objs) := by kernel_rfl) (hn : callN ids ks objs'.length (stp P g) = true := by kernel_rfl) : G S P F g := by
  refine J_go hS hc ?_ hp
  generalize stp P g = g' at he hn hk
  unfold callE at he
  split at he
  · split at he
    · rename_i hg ho
      split at he
      · rename_i hcl
        split at he
        · rename_i ha
          split at he
          · rename_i hw
            split at he
            · rename_i hr hob
              split at he
              · rename_i hdy
                cases he
                simp only [Bool.and_eq_true] at hdy
                simp only [callK, callN, ho, ha, putK_eq] at hk hn
                exact G_callO hS ids hg ho hcl ha hw hr hob hF hdy.1 hdy.2 hn hk
              · cases he
            · cases he
          · cases he
        · cases he
      · cases he
    · cases he
  · cases he
theorem J_lookup (hS : Good S P) (hc : pr) {kt e : TypeId} {key : PV} {es : List (PV × PV)} {x : PV} {b : Bool} {fd : Option PV}
    (hf : find (cmpT P kt) key es = some fd) (hcc : allC (cmpC P kt))
    (hk : G S P F (lookK x b (stp P g))) (hp : pr = allC (cnd P g) := by kernel_rfl) (he : lookE P (stp P g) = some ⟨kt, e, key, es⟩ := by kernel_rfl) (hx : lookV P e fd = some (x, b) := by kernel_rfl) : G S P F g := by
  refine J_go hS hc ?_ hp
  generalize stp P g = g' at he hk
  unfold lookE at he
  split at he
  · split at he
    · rename_i hg ho
      split at he
      · rename_i hv hm
        split at he
        · rename_i hr ht
          split at he
          · rename_i hko
            simp only [Option.some.injEq, LookI.mk.injEq] at he
            obtain ⟨rfl, rfl, rfl, rfl⟩ := he
            simp only [lookK, ho, hv, putK_eq] at hk
            cases fd with
            | some y => exact G_lookup (fd := some y) hS hg ho hv hm hr ht hko hf hx hcc hk
            | none => exact G_lookup (fd := none) hS hg ho hv hm hr ht hko hf hx hcc hk
          · cases he
        · cases he
      · cases he
    · cases he
  · cases he
theorem J_update (hS : Good S P) (hc : pr) {kt : TypeId} {key y : PV} {es es' : List (PV × PV)}
    (hu : upd (cmpT P kt) key y es = some es') (hcc : allC (cmpC P kt)) (hk : G S P F (updK es' (stp P g))) (hp : pr = allC (cnd P g) := by kernel_rfl) (he : updE P (stp P g) = some (kt, key, y, es) := by kernel_rfl) : G S P F g := by
  refine J_go hS hc ?_ hp
  generalize stp P g = g' at he hk
  unfold updE at he
  split at he
  · split at he
    · rename_i hg ho
      split at he
      · rename_i h1 h2 hv
        split at he
        · rename_i hr ht
          split at he
          · rename_i hko
            simp only [Option.some.injEq, Prod.mk.injEq] at he
            obtain ⟨rfl, rfl, rfl, rfl⟩ := he
            simp only [updK, ho, h2, hv, putK_eq] at hk
            exact G_mapUpdate hS hg ho h1 hv h2 hr ht hko hu hcc hk
          · cases he
        · cases he
      · cases he
    · cases he
  · cases he
theorem J_weak (hS : Good S P) (hc : pr) (st : St) {ids : List (Nat × Nat)} (hk : G S P F (opsS st (stp P g))) (hp : pr = allC (cnd P g) := by kernel_rfl) (ho : isOps (stp P g) = true := by kernel_rfl) (hle : Le ids (stp P g).st st := by exact kle) : G S P F g := by
  refine J_go hS hc ?_ hp
  generalize stp P g = g' at ho hle hk
  unfold isOps at ho
  split at ho
  · exact G_weakO hS st ids hle hk
  · cases ho
end
section
variable {S : Sems} {P : Program} {F : Post} {g : Cfg} {pr : Prop}
theorem kp_ctx (hS : Good S P) {K1 K2 : List It} (h : ∀ e s, kp S P K1 F e s → kp S P K2 F e s) : ∀ (K : List It) (e : AExit) (s : St), kp S P (K ++ K1) F e s → kp S P (K ++ K2) F e s
  | [], e, s, hk => h e s hk
  | .code c :: K, e, s, hk => by
    simp only [List.cons_append, kp] at hk ⊢
    exact thn_mono hS (fun t => awp_mono hS c (kp_ctx hS h K)) (kp_ctx hS h K) e s hk
  | .blk id :: K, e, s, hk => by
    simp only [List.cons_append, kp] at hk ⊢
    cases e with
    | exit i =>
      simp only [blk] at hk ⊢
      split at hk
      · rename_i hi; rw [if_pos hi]; exact kp_ctx hS h K _ _ hk
      · rename_i hi; rw [if_neg hi]; exact kp_ctx hS h K _ _ hk
    | _ => exact kp_ctx hS h K _ _ hk
  | .lp X s' J m n :: K, e, s, hk => by
    simp only [List.cons_append, kp] at hk ⊢
    cases e with
    | normal => exact hk
    | _ => exact kp_ctx hS h K _ _ hk
  | .mid M :: K, e, s, hk => by
    simp only [List.cons_append, kp] at hk ⊢
    exact thn_mono hS (fun t h => h) (kp_ctx hS h K) e s hk
  | .scp :: K, e, s, hk => by
    simp only [List.cons_append, kp] at hk ⊢
    cases e with
    | goto l => exact hk
    | _ => exact kp_ctx hS h K _ _ hk
theorem insIt_eq (M : It) : ∀ (n : Nat) (K : List It), n ≤ K.length → insIt M n K = K.take n ++ M :: K.drop n
  | 0, K, _ => by simp [insIt]
  | n + 1, i :: K, h => by simp only [insIt, List.take_succ_cons, List.drop_succ_cons, List.cons_append, insIt_eq M n K (by simpa using h)]
  | n + 1, [], h => by simp at h
theorem G_midN (hS : Good S P) (hF : ∀ s, S.up s (F .normal) → F .normal s) (n : Nat) (hn : n ≤ g.k.length) {M : St → Prop} (hM : ∀ t, M t → G S P F (.pop .normal (g.k.drop n) t)) (h : G S P F (midC n M g)) : G S P F g := by
  have hk : ∀ e s, kp S P (insIt (.mid M) n g.k) F e s → kp S P g.k F e s := by
    intro e s
    rw [insIt_eq _ _ _ hn]
    conv => rhs; rw [← List.take_append_drop n g.k]
    exact kp_ctx hS (kp_mid hS hF hM) _ e s
  cases g with
  | code c K st => exact awp_mono hS c hk h
  | ops all rest K st => exact wOps_mono hS hk rest h
  | pop e K st => exact hk e st h
def isPop (g : Cfg) (K : List It) : Prop := g = .pop .normal K g.st
theorem J_cut (hS : Good S P) (hc : pr) (hF : ∀ s, S.up s (F .normal) → F .normal s) (n : Nat) (s : St)
    (h1 : ∀ (M : St → Prop), (∀ (g' : Cfg) (ids : List (Nat × Nat)) (pr : Prop), pr → (hp : pr = allC (cnd P g') := by kernel_rfl) → (he : stp P g' = .pop .normal (.mid M :: (stp P g).k.drop n) (stp P g').st := by kernel_rfl) → (hle : Le ids (stp P g').st s := by exact kle) → G S P F g') → G S P F (midC n M (stp P g)))
    (h2 : G S P F (.pop .normal ((stp P g).k.drop n) s)) (hp : pr = allC (cnd P g) := by kernel_rfl) (hn : Nat.ble n (stp P g).k.length = true := by kernel_rfl) : G S P F g := by
  refine J_go hS hc ?_ hp
  refine G_midN hS hF n (Nat.le_of_ble_eq_true hn) (M := fun t => t = s) (fun t ht => by subst ht; exact h2) (h1 _ fun g' ids pr hc hp he hle => ?_)
  refine J_go hS hc ?_ hp
  rw [he]
  exact hS.le ids _ _ _ hle rfl
theorem J_lt (hS : Good S P) (hc : pr) (hF : ∀ s, S.up s (F .normal) → F .normal s) {R A : Type} {f : (A → Option R) → Option R} {k0 : A → Option R} {r : R} (h : lt k0 f = some r) (n : Nat) (s : A → St)
    (h1 : ∀ (M : St → Prop) (k : A → Option R), (∀ (g' : Cfg) (ids : List (Nat × Nat)) (pr : Prop) (a : A), pr → k a = some r → (hp : pr = allC (cnd P g') := by kernel_rfl) → (he : stp P g' = .pop .normal (.mid M :: (stp P g).k.drop n) (stp P g').st := by kernel_rfl) → (hle : Le ids (stp P g').st (s a) := by exact kle) → G S P F g') → f k = some r → G S P F (midC n M (stp P g)))
    (h2 : ∀ a, k0 a = some r → G S P F (.pop .normal ((stp P g).k.drop n) (s a))) (hp : pr = allC (cnd P g) := by kernel_rfl) (hn : Nat.ble n (stp P g).k.length = true := by kernel_rfl) : G S P F g := by
  refine J_go hS hc ?_ hp
  refine G_midN hS hF n (Nat.le_of_ble_eq_true hn) (M := fun t => ∃ a, t = s a ∧ k0 a = some r) (fun t ⟨a, ht, hk⟩ => by subst ht; exact h2 a hk) (h1 _ k0 (fun g' ids pr a hc hk hp he hle => ?_) h)
  refine J_go hS hc ?_ hp
  rw [he]
  exact hS.le ids _ _ _ hle ⟨a, rfl, hk⟩
theorem loop_eq {g : Cfg} (h : isLoop g = true) : g = .code (.loop (loopB g)) g.k g.st := by
  unfold isLoop at h
  split at h
  · rfl
  · cases h
theorem J_fix1 (hS : Good S P) (hc : pr) {R A : Type} {body : (A → Option R) → A → Option R} {N : Nat} {a0 : A} {r : R} (h : fix1 N body a0 = some r) (s : A → St) {ids : List (Nat × Nat)}
    (hr : ∀ (X : Type) (s' : X → St) (J : X → Prop) (m : X → Nat) (n : Nat) (self : A → Option R) (a : A),
      (∀ (g' : Cfg) (ids : List (Nat × Nat)) (pr : Prop) (a : A), pr → self a = some r → (hp : pr = allC (cnd P g') := by kernel_rfl) → (he : stp P g' = .pop .normal (.lp X s' J m n :: (stp P g).k) (stp P g').st := by kernel_rfl) → (hle : Le ids (stp P g').st (s a) := by exact kle) → G S P F g') →
      body self a = some r → G S P F (.code (loopB (stp P g)) (.lp X s' J m n :: (stp P g).k) (s a))) (hp : pr = allC (cnd P g) := by kernel_rfl) (hl : isLoop (stp P g) = true := by kernel_rfl) (hle : Le ids (stp P g).st (s a0) := by exact kle) : G S P F g := by
  refine J_go hS hc ?_ hp
  rw [loop_eq hl]
  refine G_fix1 hS h s ids hle fun X s' J m n self a hb hbody => hr X s' J m n self a (fun g' ids pr a hc hself hp he hle => ?_) hbody
  refine J_go hS hc ?_ hp
  rw [he]
  exact hb _ _ _ hle hself
def resOf (P : Program) (st : St) (rs : List ResultVar) (outs : List Nat) : Option (AV × List Obj) := match resVars P st rs with
  | some l => match renA outs (one l), objsOf outs st.regs outs with
    | some a, some o => if nodupB outs = true then some (a, o) else none
    | _, _ => none
  | none => none
theorem J_ret (hS : Good S P) (hc : pr) {n : Nat} {rs : List ResultVar} {Q : ARes → List Obj → List Bool → Prop} {a : AV} {objs : List Obj} (outs : List Nat) (hQ : Q (.ret a) objs (keptOf n outs)) (hp : pr = allC (cnd P g) := by kernel_rfl) (he : (endE (stp P g)).bind (fun st => resOf P st rs outs) = some (a, objs) := by kernel_rfl) :
    G S P (fnPost S P n rs Q) g := by
  refine J_go hS hc ?_ hp
  generalize stp P g = g' at he
  obtain ⟨st, h1, h2⟩ := Option.bind_eq_some_iff.1 he
  unfold resOf at h2
  split at h2
  · rename_i l hl
    split at h2
    · rename_i hr ho
      split at h2
      · rename_i hd
        cases h2
        unfold endE at h1
        split at h1
        · cases h1; exact hS.refl _ _ ⟨l, outs, a, objs, hl, hd, hr, ho, hQ⟩
        · cases h1; exact hS.refl _ _ ⟨l, outs, a, objs, hl, hd, hr, ho, hQ⟩
        · cases h1
      · cases h2
    · cases h2
  · cases h2
theorem J_retO (hS : Good S P) (hc : pr) {n : Nat} {rs : List ResultVar} {Q : ARes → List Obj → List Bool → Prop} {a : AV} {objs : List Obj} (st : St) (outs : List Nat) {ids : List (Nat × Nat)} (hQ : Q (.ret a) objs (keptOf n outs)) (hp : pr = allC (cnd P g) := by kernel_rfl) (he : (endE (stp P g)).isSome = true := by kernel_rfl) (hle : Le ids (stp P g).st st := by exact kle) (hr : resOf P st rs outs = some (a, objs) := by kernel_rfl) :
    G S P (fnPost S P n rs Q) g := by
  refine J_go hS hc ?_ hp
  generalize stp P g = g' at he hle
  have h2 := hr
  unfold resOf at h2
  split at h2
  · rename_i l hl
    split at h2
    · rename_i hr ho
      split at h2
      · rename_i hd
        cases h2
        unfold endE at he
        split at he
        · exact hS.le ids _ _ _ hle ⟨l, outs, a, objs, hl, hd, hr, ho, hQ⟩
        · exact hS.le ids _ _ _ hle ⟨l, outs, a, objs, hl, hd, hr, ho, hQ⟩
        · cases he
      · cases h2
    · cases h2
  · cases h2
theorem J_start (hS : Good S P) {f : FuncId} {fn : Func} {args : List AV} {objs objs' : List Obj} {ks : List Bool} {r : AV} (hf : P.funcs[f]? = some fn)
    (h : G S P (fnPost S P objs.length fn.results.toList fun res o k => res = .ret r ∧ o = objs' ∧ k = ks) (.code (fn.body.getD .skip) [] { env := argEnv args, regs := objRegs objs }))
    (hc : fn.body.isSome = true := by kernel_rfl) (hn : Nat.ble args.length fn.ntmps = true := by kernel_rfl) (ho : Nat.blt objs.length 1000 = true := by kernel_rfl)
    (hco : codeOk fn.ntmps (fn.body.getD .skip) = true := by kernel_rfl) (hnm : (fn.name == "runtime.NumGoroutine") = false := by kernel_rfl) : FunO S f args objs r objs' ks := by
  obtain ⟨code, hcode⟩ := Option.isSome_iff_exists.1 hc
  rw [hcode, Option.getD_some] at hco h
  exact fun_start hS hf hcode (Nat.le_of_ble_eq_true hn) (by simpa [Nat.blt_eq] using ho) rfl hco hnm h
theorem al0 : ∀ q ∈ ([] : List (Nat × Leaf)), q.2.ok := fun _ h => by cases h
theorem al1 {i : Nat} {l : Leaf} {rs : List (Nat × Leaf)} (h : l.ok) (t : ∀ q ∈ rs, q.2.ok) : ∀ q ∈ (i, l) :: rs, q.2.ok := fun q hq => by
  rcases List.mem_cons.1 hq with rfl | hq
  · exact h
  · exact t q hq
structure SC where
  all : List Oper
  cls : List Cls
  rest : List Oper
  env : Env
  regs : Regs
  kn : List Nat
def SG (S : Sems) (P : Program) (sc : SC) (k : Env → Regs → Prop) : Prop := sOps S P sc.all sc.cls sc.rest sc.env sc.regs k
def stpD (P : Program) (sc : SC) : SC := match runD P sc.kn sc.all sc.cls sc.rest [] sc.env sc.regs with
  | ⟨_, cls, rest, env, regs⟩ => ⟨sc.all, cls, rest, env, regs, sc.kn⟩
def cndD (P : Program) (sc : SC) : List Prop := (runD P sc.kn sc.all sc.cls sc.rest [] sc.env sc.regs).conds
def isDrawn : Cfg → Bool
  | .code (.region _ _ true) _ _ => true
  | _ => false
def drawnSC : Cfg → SC
  | .code (.region _ ops true) _ st => ⟨ops.toList, ops.toList.map fun o => clsP o.op, ops.toList, st.env, st.regs, []⟩
  | _ => ⟨[], [], [], [], [], []⟩
theorem J_drawn (hS : Good S P) (hc : pr)
    (h : SG S P (drawnSC (stp P g)) fun env regs => G S P F (.pop .normal (stp P g).k ⟨env, regs⟩)) (hp : pr = allC (cnd P g) := by kernel_rfl) (hd : isDrawn (stp P g) = true := by kernel_rfl) (hmix : P.follows .mixedOrders = true := by kernel_rfl) (hok : drawOk (drawnSC (stp P g)).all (drawnSC (stp P g)).cls = true := by kernel_rfl) : G S P F g := by
  refine J_go hS hc ?_ hp
  generalize stp P g = g' at hd hok h
  unfold isDrawn at hd
  split at hd
  · exact G_drawnP hS hmix rfl hok h
  · cases hd
section
variable {sc : SC} {k : Env → Regs → Prop}
theorem C_go (hc : pr) (h : SG S P (stpD P sc) k) (hp : pr = allC (cndD P sc) := by kernel_rfl) : SG S P sc k := by
  subst hp
  unfold stpD at h
  unfold cndD at hc
  unfold SG at *
  generalize hr : runD P sc.kn sc.all sc.cls sc.rest [] sc.env sc.regs = r at h hc
  obtain ⟨c, cls, rest, env, regs⟩ := r
  exact s_go hr hc h
theorem C_end (hc : pr) (h : k (stpD P sc).env (stpD P sc).regs) (hp : pr = allC (cndD P sc) := by kernel_rfl) (he : (stpD P sc).rest.isEmpty = true := by kernel_rfl) : SG S P sc k := by
  refine C_go hc ?_ hp
  generalize stpD P sc = s at he h
  obtain ⟨all, cls, rest, env, regs, kn⟩ := s
  cases rest with
  | nil => exact s_end h
  | cons => simp at he
def dput {R : Type _} (d : Option Nat) (a : AV) (env : Env) (regs : Regs) (κ : Env → Regs → R) : R := match d with
  | some d => mkO (ins d a env) regs κ
  | none => mkO env regs κ
theorem dput_eq {R : Type _} (d : Option Nat) (a : AV) (env : Env) (regs : Regs) (κ : Env → Regs → R) : dput d a env regs κ = κ (putE d a env) regs := by
  cases d <;> simp only [dput, mkO_eq, putE]
theorem get_lt : ∀ {env : Env} {i d : Nat} {b : AV}, desc ((i, b) :: env) = true → get env d ≠ .top → d < i
  | [], _, _, _, _, h => absurd rfl h
  | (j, c) :: r, i, d, b, hd, h => by
    simp only [desc, Bool.and_eq_true, decide_eq_true_eq] at hd
    by_cases e : j = d
    · subst e; exact hd.1
    · simp only [get, e, if_false] at h
      exact Nat.lt_trans (get_lt hd.2 h) hd.1
theorem ins_same : ∀ {env : Env} {d : Nat} {a : AV}, desc env = true → get env d = a → a ≠ .top → ins d a env = env
  | [], _, _, _, h, hn => absurd h.symm hn
  | (i, b) :: r, d, a, hd, h, hn => by
    by_cases e : i = d
    · subst e
      simp only [get, if_true] at h
      subst h
      simp [ins]
    · simp only [get, e, if_false] at h
      have hlt := get_lt hd (by rw [h]; exact hn)
      have hr : desc r = true := by
        cases r with
        | nil => rfl
        | cons p r => simp only [desc, Bool.and_eq_true] at hd; exact hd.2
      simp only [ins, show ¬ i < d by omega, e, if_false, ins_same hr h hn]
def dguardE (sc : SC) : Option Bool := match sc.rest with
  | o :: _ => match o.guard with
    | some (j, _) => match gdst sc.all j with
      | some d => match get sc.env d with
        | .p (.bb b) => if desc sc.env = true then some b else none
        | _ => none
      | none => none
    | none => none
  | [] => none
def dguardC (v : Bool) (sc : SC) : SC := match sc.rest with
  | o :: _ => match o.guard with
    | some (j, _) => match gdst sc.all j with
      | some d => mkO (ins d (.p (.bb v)) sc.env) sc.regs fun env regs => ⟨sc.all, sc.cls, sc.rest, env, regs, j :: sc.kn⟩
      | none => sc
    | none => sc
  | [] => sc
theorem C_guard (hc : pr) {b : Bool} (ht : b = true → SG S P (dguardC true (stpD P sc)) k) (hf : b = false → SG S P (dguardC false (stpD P sc)) k) (hp : pr = allC (cndD P sc)) (hb : dguardE (stpD P sc) = some b) : SG S P sc k := by
  refine C_go hc ?_ hp
  generalize stpD P sc = s at hb ht hf
  obtain ⟨all, cls, rest, env, regs, kn⟩ := s
  cases rest with
  | nil => simp [dguardE] at hb
  | cons o rest =>
    simp only [dguardE] at hb
    split at hb
    · rename_i j w hg
      split at hb
      · rename_i d hd
        split at hb
        · rename_i b' hbb
          split at hb
          · rename_i hds
            simp only [Option.some.injEq] at hb
            subst hb
            simp only [dguardC, hg, hd, mkO_eq] at ht hf
            cases b' with
            | true => have := ht rfl; rwa [ins_same hds hbb (by simp)] at this
            | false => have := hf rfl; rwa [ins_same hds hbb (by simp)] at this
          · cases hb
        · cases hb
      · cases hb
    · cases hb
def dcallE (ids : List Nat) (sc : SC) : Option (FuncId × List AV × List Obj) := match sc.rest with
  | o :: _ => match sGuard sc.all sc.env o, o.op with
    | some true, .call c => match c.callee with
      | .value f => match argv sc.regs (c.args.toList.map (aev sc.env)) with
        | some (as, regs) => match whom sc.env f as with
          | some (fn, as') => match renL ids as', objsOf ids regs ids with
            | some a, some ob => if nodupB ids && noYld ob then some (fn, a, ob) else none
            | _, _ => none
          | none => none
        | none => none
      | _ => none
    | _, _ => none
  | [] => none
def dcallN (ids : List Nat) (ks : List Bool) (n : Nat) (sc : SC) : Bool := match sc.cls, sc.rest with
  | .w :: _, o :: _ => match o.op with
    | .call c => match argv sc.regs (c.args.toList.map (aev sc.env)) with
      | some (_, regs) => freeIds regs ids ks (o.dst.getD 0) n
      | none => false
    | _ => false
  | _, _ => false
def dcallK (ids : List Nat) (ks : List Bool) (r : AV) (objs' : List Obj) (sc : SC) : SC := match sc.rest with
  | o :: rest => match o.op with
    | .call c => match argv sc.regs (c.args.toList.map (aev sc.env)) with
      | some (_, regs) => dput o.dst (unA (newIds (o.dst.getD 0) ids ks objs'.length) r) sc.env
          (back (newIds (o.dst.getD 0) ids ks objs'.length) (newIds (o.dst.getD 0) ids ks objs'.length) objs' (deaden ids ks regs)) fun env regs => ⟨sc.all, sc.cls.tail, rest, env, regs, sc.kn⟩
      | none => sc
    | _ => sc
  | [] => sc
theorem C_call (ids : List Nat) (hc : pr) {fn : FuncId} {args : List AV} {objs objs' : List Obj} {r : AV} {ks : List Bool} (hF : FunO S fn args objs r objs' ks)
    (hk : SG S P (dcallK ids ks r objs' (stpD P sc)) k) (hp : pr = allC (cndD P sc) := by kernel_rfl) (he : dcallE ids (stpD P sc) = some (fn, args, objs) := by kernel_rfl) (hn : dcallN ids ks objs'.length (stpD P sc) = true := by kernel_rfl) : SG S P sc k := by
  refine C_go hc ?_ hp
  generalize stpD P sc = s at he hn hk
  obtain ⟨all, cls, rest, env, regs, kn⟩ := s
  cases rest with
  | nil => simp [dcallE] at he
  | cons o rest =>
    simp only [dcallE] at he
    split at he
    · rename_i c hg ho
      split at he
      · rename_i hcl
        split at he
        · rename_i ha
          split at he
          · rename_i hw
            split at he
            · rename_i hr hob
              split at he
              · rename_i hdy
                cases he
                simp only [Bool.and_eq_true] at hdy
                cases cls with
                | nil => simp [dcallN] at hn
                | cons cl cls =>
                  cases cl with
                  | w =>
                    simp only [dcallN, ho, ha] at hn
                    simp only [dcallK, ho, ha, dput_eq, List.tail_cons] at hk
                    exact s_callO ids hg ho hcl ha hw hr hob hF hdy.1 hdy.2 hn hk
                  | _ => simp [dcallN] at hn
              · cases he
            · cases he
          · cases he
        · cases he
      · cases he
    · cases he
def dpureN (sc : SC) : Bool := match sc.cls, sc.rest with
  | _ :: _, o :: _ => match o.op with
    | .call c => (c.args.toList.map (aev sc.env)).all noVec
    | _ => false
  | _, _ => false
def dpureE (sc : SC) : Option (FuncId × List AV) := match sc.rest with
  | o :: _ => match sGuard sc.all sc.env o, o.op with
    | some true, .call c => match c.callee with
      | .value f => match whom sc.env f (c.args.toList.map (aev sc.env)) with
        | some (fn, as') => match renL [] as' with
          | some a => some (fn, a)
          | none => none
        | none => none
      | _ => none
    | _, _ => none
  | [] => none
def dpureK (r : AV) (sc : SC) : SC := match sc.rest with
  | o :: rest => dput o.dst (unA [] r) sc.env sc.regs fun env regs => ⟨sc.all, sc.cls.tail, rest, env, regs, sc.kn⟩
  | [] => sc
theorem C_pure (hc : pr) {fn : FuncId} {args : List AV} {r : AV} (hF : FunO S fn args [] r [] [])
    (hk : SG S P (dpureK r (stpD P sc)) k) (hp : pr = allC (cndD P sc) := by kernel_rfl) (he : dpureE (stpD P sc) = some (fn, args) := by kernel_rfl) (hn : dpureN (stpD P sc) = true := by kernel_rfl) : SG S P sc k := by
  refine C_go hc ?_ hp
  generalize stpD P sc = s at he hn hk
  obtain ⟨all, cls, rest, env, regs, kn⟩ := s
  cases rest with
  | nil => simp [dpureE] at he
  | cons o rest =>
    cases cls with
    | nil => simp [dpureN] at hn
    | cons cl cls =>
      simp only [dpureE] at he
      split at he
      · rename_i c hg ho
        split at he
        · rename_i hcl
          split at he
          · rename_i hw
            split at he
            · rename_i hr
              cases he
              simp only [dpureN, ho] at hn
              simp only [dpureK, dput_eq, List.tail_cons] at hk
              exact s_call hg ho hcl hn hw hr hF hk
            · cases he
          · cases he
        · cases he
      · cases he
def dbuildE (P : Program) (sc : SC) : Option (List Prop × PV) := match sc.cls, sc.rest with
  | _ :: _, o :: _ => match sGuard sc.all sc.env o with
    | some true => aopP P sc.env o.op
    | _ => none
  | _, _ => none
def dbuildK (x : PV) (sc : SC) : SC := match sc.rest with
  | o :: rest => dput o.dst (.p x) sc.env sc.regs fun env regs => ⟨sc.all, sc.cls.tail, rest, env, regs, sc.kn⟩
  | [] => sc
theorem C_build (hc : pr) {x : PV} (hk : SG S P (dbuildK x (stpD P sc)) k) (hp : pr = allC (cndD P sc) := by kernel_rfl) (he : (dbuildE P (stpD P sc)).map (·.2) = some x := by kernel_rfl) (hc2 : ((dbuildE P (stpD P sc)).map fun q => allC q.1) = some (true = true) := by kernel_rfl) : SG S P sc k := by
  refine C_go hc ?_ hp
  generalize stpD P sc = s at he hc2 hk
  obtain ⟨all, cls, rest, env, regs, kn⟩ := s
  cases rest with
  | nil => cases cls <;> simp [dbuildE] at he
  | cons o rest =>
    cases cls with
    | nil => simp [dbuildE] at he
    | cons cl cls =>
      cases hg : sGuard all env o with
      | none => simp [dbuildE, hg] at he
      | some bb =>
        cases bb with
        | false => simp [dbuildE, hg] at he
        | true =>
          simp only [dbuildE, hg] at he hc2
          cases ha : aopP P env o.op with
          | none => rw [ha] at he; cases he
          | some q =>
            obtain ⟨c, y⟩ := q
            rw [ha] at he hc2
            simp only [Option.map_some, Option.some.injEq] at he hc2
            subst he
            simp only [dbuildK, dput_eq, List.tail_cons] at hk
            exact s_buildP hg ha (by rw [hc2]; trivial) hk
def dlookE (P : Program) (sc : SC) : Option LookI := match sc.cls, sc.rest with
  | cl :: _, o :: _ => match sGuard sc.all sc.env o, o.op with
    | some true, .lookup t m q _ => match view sc.regs (aev sc.env q), aev sc.env m with
      | some (key, regs), .mref j => match rget regs j, tk P t with
        | some (.map es), some (.map kt e) => if (keyOk P kt key && clsOk cl sc.env o.op) = true then some ⟨kt, e, key, es⟩ else none
        | _, _ => none
      | _, _ => none
    | _, _ => none
  | _, _ => none
def dlookK (x : PV) (b : Bool) (sc : SC) : SC := match sc.rest with
  | o :: rest => match o.op with
    | .lookup _ _ q ok => match view sc.regs (aev sc.env q) with
      | some (_, regs) => dput o.dst (if ok then .tup [.p x, .bool b] else .p x) sc.env regs fun env regs => ⟨sc.all, sc.cls.tail, rest, env, regs, sc.kn⟩
      | none => sc
    | _ => sc
  | [] => sc
theorem C_lookup (hc : pr) {kt e : TypeId} {key : PV} {es : List (PV × PV)} {x : PV} {b : Bool} {fd : Option PV}
    (hf : find (cmpT P kt) key es = some fd) (hcc : allC (cmpC P kt)) (hk : SG S P (dlookK x b (stpD P sc)) k) (hp : pr = allC (cndD P sc) := by kernel_rfl) (he : dlookE P (stpD P sc) = some ⟨kt, e, key, es⟩ := by kernel_rfl) (hx : lookV P e fd = some (x, b) := by kernel_rfl) : SG S P sc k := by
  refine C_go hc ?_ hp
  generalize stpD P sc = s at he hk
  obtain ⟨all, cls, rest, env, regs, kn⟩ := s
  cases rest with
  | nil => cases cls <;> simp [dlookE] at he
  | cons o rest =>
    cases cls with
    | nil => simp [dlookE] at he
    | cons cl cls =>
      simp only [dlookE] at he
      split at he
      · rename_i hg ho
        split at he
        · rename_i hv hm
          split at he
          · rename_i hr ht
            split at he
            · rename_i hko
              simp only [Option.some.injEq, LookI.mk.injEq] at he
              obtain ⟨rfl, rfl, rfl, rfl⟩ := he
              simp only [Bool.and_eq_true] at hko
              simp only [dlookK, ho, hv, dput_eq, List.tail_cons] at hk
              have hcl := hko.2
              simp only [ho] at hcl
              cases fd with
              | some y => exact s_lookup (fd := some y) hg ho hv hm hr ht hko.1 hf hx hcc (by rw [ho]; exact hcl) hk
              | none => exact s_lookup (fd := none) hg ho hv hm hr ht hko.1 hf hx hcc (by rw [ho]; exact hcl) hk
            · cases he
          · cases he
        · cases he
      · cases he
def dupdE (P : Program) (sc : SC) : Option (TypeId × PV × PV × List (PV × PV)) := match sc.cls, sc.rest with
  | .w :: _, o :: _ => match sGuard sc.all sc.env o, o.op with
    | some true, .mapUpdate t m q x => match aev sc.env q, aev sc.env m, view sc.regs (aev sc.env x) with
      | .p key, .mref j, some (y, regs) => match rget regs j, tk P t with
        | some (.map es), some (.map kt _) => if keyOk P kt (nP key) = true then some (kt, nP key, y, es) else none
        | _, _ => none
      | _, _, _ => none
    | _, _ => none
  | _, _ => none
def dupdK (es' : List (PV × PV)) (sc : SC) : SC := match sc.rest with
  | o :: rest => match o.op with
    | .mapUpdate _ m _ x => match aev sc.env m, view sc.regs (aev sc.env x) with
      | .mref j, some (_, regs) => dput o.dst skipV sc.env (ins j (.map es') regs) fun env regs => ⟨sc.all, sc.cls.tail, rest, env, regs, sc.kn⟩
      | _, _ => sc
    | _ => sc
  | [] => sc
theorem C_update (hc : pr) {kt : TypeId} {key y : PV} {es es' : List (PV × PV)}
    (hu : upd (cmpT P kt) key y es = some es') (hcc : allC (cmpC P kt)) (hk : SG S P (dupdK es' (stpD P sc)) k) (hp : pr = allC (cndD P sc) := by kernel_rfl) (he : dupdE P (stpD P sc) = some (kt, key, y, es) := by kernel_rfl) : SG S P sc k := by
  refine C_go hc ?_ hp
  generalize stpD P sc = s at he hk
  obtain ⟨all, cls, rest, env, regs, kn⟩ := s
  cases rest with
  | nil => cases cls with
    | nil => simp [dupdE] at he
    | cons cl cls => cases cl <;> simp [dupdE] at he
  | cons o rest =>
    cases cls with
    | nil => simp [dupdE] at he
    | cons cl cls =>
      cases cl with
      | w =>
        simp only [dupdE] at he
        split at he
        · rename_i hg ho
          split at he
          · rename_i h1 h2 hv
            split at he
            · rename_i hr ht
              split at he
              · rename_i hko
                simp only [Option.some.injEq, Prod.mk.injEq] at he
                obtain ⟨rfl, rfl, rfl, rfl⟩ := he
                simp only [dupdK, ho, h2, hv, dput_eq, List.tail_cons] at hk
                exact s_mapUpdate hg ho h1 hv h2 hr ht hko hu hcc hk
              · cases he
            · cases he
          · cases he
        · cases he
      | _ => simp [dupdE] at he
end
end
structure KG (S : Sems) (P : Program) (F : Post) (g : Cfg) : Prop where
  out : G S P F g
structure DG (S : Sems) (P : Program) (sc : SC) (k : Env → Regs → Prop) : Prop where
  out : SG S P sc k
structure KLe (ids : List (Nat × Nat)) (s t : St) : Prop where
  out : Le ids s t
section
variable {S : Sems} {P : Program} {F : Post} {g : Cfg} {pr : Prop}
theorem kl {ids : List (Nat × Nat)} {s t : St} (h : (leK ids s t).map (·.map Leaf.src) = (leK ids s t).map (·.map Leaf.tgt) := by kernel_rfl) (h1 : (leK ids s t).isSome = true := by kernel_rfl) : KLe ids s t := ⟨kle h h1⟩
theorem klR {ids : List (Nat × Nat)} {s t : St} (rs : List (Nat × Leaf)) (hr : ∀ q ∈ rs, q.2.ok) (h : (leK ids s t).map (mask (rs.map (·.1)) Leaf.src) = (leK ids s t).map (mask (rs.map (·.1)) Leaf.tgt) := by kernel_rfl)
    (h2 : (leK ids s t).map (fun L => rs.map fun q => L[q.1]?) = some (rs.map fun q => some q.2) := by kernel_rfl) : KLe ids s t := ⟨kleR rs hr h h2⟩
theorem K_cond (hS : Good S P) (hc : pr) {b : Bool} (ht : b = true → KG S P F (condT (stp P g))) (hf : b = false → KG S P F (condF (stp P g))) (hp : pr = allC (cnd P g) := by kernel_rfl) (hb : condE (stp P g) = some b := by kernel_rfl) : KG S P F g :=
  ⟨J_cond hS hc (fun h => (ht h).out) (fun h => (hf h).out) hp hb⟩
theorem K_guard (hS : Good S P) (hc : pr) {b : Bool} (ht : b = true → KG S P F (guardC true (stp P g))) (hf : b = false → KG S P F (guardC false (stp P g))) (hp : pr = allC (cnd P g) := by kernel_rfl) (hb : guardE (stp P g) = some b := by kernel_rfl) : KG S P F g :=
  ⟨J_guard hS hc (fun h => (ht h).out) (fun h => (hf h).out) hp hb⟩
theorem K_call (hS : Good S P) (ids : List Nat) (hc : pr) {fn : FuncId} {args : List AV} {objs objs' : List Obj} {r : AV} {ks : List Bool} (hF : FunO S fn args objs r objs' ks) (hk : KG S P F (callK ids ks r objs' (stp P g)))
    (hp : pr = allC (cnd P g) := by kernel_rfl) (he : callE ids (stp P g) = some (fn, args, objs) := by kernel_rfl) (hn : callN ids ks objs'.length (stp P g) = true := by kernel_rfl) : KG S P F g := ⟨J_call hS ids hc hF hk.out hp he hn⟩
theorem K_lookup (hS : Good S P) (hc : pr) {kt e : TypeId} {key : PV} {es : List (PV × PV)} {x : PV} {b : Bool} {fd : Option PV} (hf : find (cmpT P kt) key es = some fd) (hcc : allC (cmpC P kt)) (hk : KG S P F (lookK x b (stp P g)))
    (hp : pr = allC (cnd P g) := by kernel_rfl) (he : lookE P (stp P g) = some ⟨kt, e, key, es⟩ := by kernel_rfl) (hx : lookV P e fd = some (x, b) := by kernel_rfl) : KG S P F g := ⟨J_lookup hS hc hf hcc hk.out hp he hx⟩
theorem K_update (hS : Good S P) (hc : pr) {kt : TypeId} {key y : PV} {es es' : List (PV × PV)} (hu : upd (cmpT P kt) key y es = some es') (hcc : allC (cmpC P kt)) (hk : KG S P F (updK es' (stp P g)))
    (hp : pr = allC (cnd P g) := by kernel_rfl) (he : updE P (stp P g) = some (kt, key, y, es) := by kernel_rfl) : KG S P F g := ⟨J_update hS hc hu hcc hk.out hp he⟩
theorem K_weak (hS : Good S P) (hc : pr) (st : St) {ids : List (Nat × Nat)} (hk : KG S P F (opsS st (stp P g))) (hp : pr = allC (cnd P g) := by kernel_rfl) (ho : isOps (stp P g) = true := by kernel_rfl) (hle : KLe ids (stp P g).st st := by exact kl) : KG S P F g :=
  ⟨J_weak hS hc st hk.out hp ho hle.out⟩
theorem K_cut (hS : Good S P) (hc : pr) (hF : ∀ s, S.up s (F .normal) → F .normal s) (n : Nat) (s : St)
    (h1 : ∀ (M : St → Prop), (∀ (g' : Cfg) (ids : List (Nat × Nat)) (pr : Prop), pr → (hp : pr = allC (cnd P g') := by kernel_rfl) → (he : stp P g' = .pop .normal (.mid M :: (stp P g).k.drop n) (stp P g').st := by kernel_rfl) → (hle : KLe ids (stp P g').st s := by exact kl) → KG S P F g') → KG S P F (midC n M (stp P g)))
    (h2 : KG S P F (.pop .normal ((stp P g).k.drop n) s)) (hp : pr = allC (cnd P g) := by kernel_rfl) (hn : Nat.ble n (stp P g).k.length = true := by kernel_rfl) : KG S P F g :=
  ⟨J_cut hS hc hF n s (fun M hb => (h1 M fun g' ids pr hc hp he hle => ⟨hb g' ids pr hc hp he hle.out⟩).out) h2.out hp hn⟩
theorem K_lt (hS : Good S P) (hc : pr) (hF : ∀ s, S.up s (F .normal) → F .normal s) {R A : Type} {f : (A → Option R) → Option R} {k0 : A → Option R} {r : R} (h : lt k0 f = some r) (n : Nat) (s : A → St)
    (h1 : ∀ (M : St → Prop) (k : A → Option R), (∀ (g' : Cfg) (ids : List (Nat × Nat)) (pr : Prop) (a : A), pr → k a = some r → (hp : pr = allC (cnd P g') := by kernel_rfl) → (he : stp P g' = .pop .normal (.mid M :: (stp P g).k.drop n) (stp P g').st := by kernel_rfl) → (hle : KLe ids (stp P g').st (s a) := by exact kl) → KG S P F g') → f k = some r → KG S P F (midC n M (stp P g)))
    (h2 : ∀ a, k0 a = some r → KG S P F (.pop .normal ((stp P g).k.drop n) (s a))) (hp : pr = allC (cnd P g) := by kernel_rfl) (hn : Nat.ble n (stp P g).k.length = true := by kernel_rfl) : KG S P F g :=
  ⟨J_lt hS hc hF h n s (fun M k hb hf => (h1 M k (fun g' ids pr a hc hk hp he hle => ⟨hb g' ids pr a hc hk hp he hle.out⟩) hf).out) (fun a hk => (h2 a hk).out) hp hn⟩
theorem K_fix1 (hS : Good S P) (hc : pr) {R A : Type} {body : (A → Option R) → A → Option R} {N : Nat} {a0 : A} {r : R} (h : fix1 N body a0 = some r) (s : A → St) {ids : List (Nat × Nat)}
    (hr : ∀ (X : Type) (s' : X → St) (J : X → Prop) (m : X → Nat) (n : Nat) (self : A → Option R) (a : A),
      (∀ (g' : Cfg) (ids : List (Nat × Nat)) (pr : Prop) (a : A), pr → self a = some r → (hp : pr = allC (cnd P g') := by kernel_rfl) → (he : stp P g' = .pop .normal (.lp X s' J m n :: (stp P g).k) (stp P g').st := by kernel_rfl) → (hle : KLe ids (stp P g').st (s a) := by exact kl) → KG S P F g') →
      body self a = some r → KG S P F (.code (loopB (stp P g)) (.lp X s' J m n :: (stp P g).k) (s a))) (hp : pr = allC (cnd P g) := by kernel_rfl) (hl : isLoop (stp P g) = true := by kernel_rfl) (hle : KLe ids (stp P g).st (s a0) := by exact kl) : KG S P F g :=
  ⟨J_fix1 hS hc h s (fun X s' J m n self a hb hbody => (hr X s' J m n self a (fun g' ids pr a hc hself hp he hle => ⟨hb g' ids pr a hc hself hp he hle.out⟩) hbody).out) hp hl hle.out⟩
theorem K_fix2 (hS : Good S P) (hc : pr) {R A B : Type} {body : (A → B → Option R) → A → B → Option R} {N : Nat} {a0 : A} {b0 : B} {r : R} (h : fix2 N body a0 b0 = some r) (s : A → B → St) {ids : List (Nat × Nat)}
    (hr : ∀ (X : Type) (s' : X → St) (J : X → Prop) (m : X → Nat) (n : Nat) (self : A → B → Option R) (a : A) (b : B),
      (∀ (g' : Cfg) (ids : List (Nat × Nat)) (pr : Prop) (a : A) (b : B), pr → self a b = some r → (hp : pr = allC (cnd P g') := by kernel_rfl) → (he : stp P g' = .pop .normal (.lp X s' J m n :: (stp P g).k) (stp P g').st := by kernel_rfl) → (hle : KLe ids (stp P g').st (s a b) := by exact kl) → KG S P F g') →
      body self a b = some r → KG S P F (.code (loopB (stp P g)) (.lp X s' J m n :: (stp P g).k) (s a b))) (hp : pr = allC (cnd P g) := by kernel_rfl) (hl : isLoop (stp P g) = true := by kernel_rfl) (hle : KLe ids (stp P g).st (s a0 b0) := by exact kl) : KG S P F g :=
  K_fix1 hS hc h (fun x => s x.1 x.2) (fun X s' J m n self a hb => hr X s' J m n (fun a b => self (a, b)) a.1 a.2 fun g' ids pr a b h1 h2 h3 h4 h5 => hb g' ids pr (a, b) h1 h2 h3 h4 h5) hp hl hle
theorem K_fix3 (hS : Good S P) (hc : pr) {R A B C : Type} {body : (A → B → C → Option R) → A → B → C → Option R} {N : Nat} {a0 : A} {b0 : B} {c0 : C} {r : R} (h : fix3 N body a0 b0 c0 = some r) (s : A → B → C → St) {ids : List (Nat × Nat)}
    (hr : ∀ (X : Type) (s' : X → St) (J : X → Prop) (m : X → Nat) (n : Nat) (self : A → B → C → Option R) (a : A) (b : B) (c : C),
      (∀ (g' : Cfg) (ids : List (Nat × Nat)) (pr : Prop) (a : A) (b : B) (c : C), pr → self a b c = some r → (hp : pr = allC (cnd P g') := by kernel_rfl) → (he : stp P g' = .pop .normal (.lp X s' J m n :: (stp P g).k) (stp P g').st := by kernel_rfl) → (hle : KLe ids (stp P g').st (s a b c) := by exact kl) → KG S P F g') →
      body self a b c = some r → KG S P F (.code (loopB (stp P g)) (.lp X s' J m n :: (stp P g).k) (s a b c))) (hp : pr = allC (cnd P g) := by kernel_rfl) (hl : isLoop (stp P g) = true := by kernel_rfl) (hle : KLe ids (stp P g).st (s a0 b0 c0) := by exact kl) : KG S P F g :=
  K_fix1 hS hc h (fun x => s x.1 x.2.1 x.2.2) (fun X s' J m n self a hb => hr X s' J m n (fun a b c => self (a, b, c)) a.1 a.2.1 a.2.2 fun g' ids pr a b c h1 h2 h3 h4 h5 => hb g' ids pr (a, b, c) h1 h2 h3 h4 h5) hp hl hle
theorem K_fix4 (hS : Good S P) (hc : pr) {R A B C D : Type} {body : (A → B → C → D → Option R) → A → B → C → D → Option R} {N : Nat} {a0 : A} {b0 : B} {c0 : C} {d0 : D} {r : R} (h : fix4 N body a0 b0 c0 d0 = some r) (s : A → B → C → D → St) {ids : List (Nat × Nat)}
    (hr : ∀ (X : Type) (s' : X → St) (J : X → Prop) (m : X → Nat) (n : Nat) (self : A → B → C → D → Option R) (a : A) (b : B) (c : C) (d : D),
      (∀ (g' : Cfg) (ids : List (Nat × Nat)) (pr : Prop) (a : A) (b : B) (c : C) (d : D), pr → self a b c d = some r → (hp : pr = allC (cnd P g') := by kernel_rfl) → (he : stp P g' = .pop .normal (.lp X s' J m n :: (stp P g).k) (stp P g').st := by kernel_rfl) → (hle : KLe ids (stp P g').st (s a b c d) := by exact kl) → KG S P F g') →
      body self a b c d = some r → KG S P F (.code (loopB (stp P g)) (.lp X s' J m n :: (stp P g).k) (s a b c d))) (hp : pr = allC (cnd P g) := by kernel_rfl) (hl : isLoop (stp P g) = true := by kernel_rfl) (hle : KLe ids (stp P g).st (s a0 b0 c0 d0) := by exact kl) : KG S P F g :=
  K_fix1 hS hc h (fun x => s x.1 x.2.1 x.2.2.1 x.2.2.2) (fun X s' J m n self a hb => hr X s' J m n (fun a b c d => self (a, b, c, d)) a.1 a.2.1 a.2.2.1 a.2.2.2 fun g' ids pr a b c d h1 h2 h3 h4 h5 => hb g' ids pr (a, b, c, d) h1 h2 h3 h4 h5) hp hl hle
theorem K_fix5 (hS : Good S P) (hc : pr) {R A B C D E : Type} {body : (A → B → C → D → E → Option R) → A → B → C → D → E → Option R} {N : Nat} {a0 : A} {b0 : B} {c0 : C} {d0 : D} {e0 : E} {r : R} (h : fix5 N body a0 b0 c0 d0 e0 = some r) (s : A → B → C → D → E → St) {ids : List (Nat × Nat)}
    (hr : ∀ (X : Type) (s' : X → St) (J : X → Prop) (m : X → Nat) (n : Nat) (self : A → B → C → D → E → Option R) (a : A) (b : B) (c : C) (d : D) (e : E),
      (∀ (g' : Cfg) (ids : List (Nat × Nat)) (pr : Prop) (a : A) (b : B) (c : C) (d : D) (e : E), pr → self a b c d e = some r → (hp : pr = allC (cnd P g') := by kernel_rfl) → (he : stp P g' = .pop .normal (.lp X s' J m n :: (stp P g).k) (stp P g').st := by kernel_rfl) → (hle : KLe ids (stp P g').st (s a b c d e) := by exact kl) → KG S P F g') →
      body self a b c d e = some r → KG S P F (.code (loopB (stp P g)) (.lp X s' J m n :: (stp P g).k) (s a b c d e))) (hp : pr = allC (cnd P g) := by kernel_rfl) (hl : isLoop (stp P g) = true := by kernel_rfl) (hle : KLe ids (stp P g).st (s a0 b0 c0 d0 e0) := by exact kl) : KG S P F g :=
  K_fix1 hS hc h (fun x => s x.1 x.2.1 x.2.2.1 x.2.2.2.1 x.2.2.2.2) (fun X s' J m n self a hb => hr X s' J m n (fun a b c d e => self (a, b, c, d, e)) a.1 a.2.1 a.2.2.1 a.2.2.2.1 a.2.2.2.2 fun g' ids pr a b c d e h1 h2 h3 h4 h5 => hb g' ids pr (a, b, c, d, e) h1 h2 h3 h4 h5) hp hl hle
theorem K_fix6 (hS : Good S P) (hc : pr) {R A B C D E F' : Type} {body : (A → B → C → D → E → F' → Option R) → A → B → C → D → E → F' → Option R} {N : Nat} {a0 : A} {b0 : B} {c0 : C} {d0 : D} {e0 : E} {f0 : F'} {r : R} (h : fix6 N body a0 b0 c0 d0 e0 f0 = some r) (s : A → B → C → D → E → F' → St) {ids : List (Nat × Nat)}
    (hr : ∀ (X : Type) (s' : X → St) (J : X → Prop) (m : X → Nat) (n : Nat) (self : A → B → C → D → E → F' → Option R) (a : A) (b : B) (c : C) (d : D) (e : E) (f : F'),
      (∀ (g' : Cfg) (ids : List (Nat × Nat)) (pr : Prop) (a : A) (b : B) (c : C) (d : D) (e : E) (f : F'), pr → self a b c d e f = some r → (hp : pr = allC (cnd P g') := by kernel_rfl) → (he : stp P g' = .pop .normal (.lp X s' J m n :: (stp P g).k) (stp P g').st := by kernel_rfl) → (hle : KLe ids (stp P g').st (s a b c d e f) := by exact kl) → KG S P F g') →
      body self a b c d e f = some r → KG S P F (.code (loopB (stp P g)) (.lp X s' J m n :: (stp P g).k) (s a b c d e f))) (hp : pr = allC (cnd P g) := by kernel_rfl) (hl : isLoop (stp P g) = true := by kernel_rfl) (hle : KLe ids (stp P g).st (s a0 b0 c0 d0 e0 f0) := by exact kl) : KG S P F g :=
  K_fix1 hS hc h (fun x => s x.1 x.2.1 x.2.2.1 x.2.2.2.1 x.2.2.2.2.1 x.2.2.2.2.2) (fun X s' J m n self a hb => hr X s' J m n (fun a b c d e f => self (a, b, c, d, e, f)) a.1 a.2.1 a.2.2.1 a.2.2.2.1 a.2.2.2.2.1 a.2.2.2.2.2 fun g' ids pr a b c d e f h1 h2 h3 h4 h5 => hb g' ids pr (a, b, c, d, e, f) h1 h2 h3 h4 h5) hp hl hle
theorem K_ret (hS : Good S P) (hc : pr) {n : Nat} {rs : List ResultVar} {Q : ARes → List Obj → List Bool → Prop} {a : AV} {objs : List Obj} (outs : List Nat) (hQ : Q (.ret a) objs (keptOf n outs)) (hp : pr = allC (cnd P g) := by kernel_rfl)
    (he : (endE (stp P g)).bind (fun st => resOf P st rs outs) = some (a, objs) := by kernel_rfl) : KG S P (fnPost S P n rs Q) g := ⟨J_ret hS hc outs hQ hp he⟩
theorem K_retO (hS : Good S P) (hc : pr) {n : Nat} {rs : List ResultVar} {Q : ARes → List Obj → List Bool → Prop} {a : AV} {objs : List Obj} (st : St) (outs : List Nat) {ids : List (Nat × Nat)} (hQ : Q (.ret a) objs (keptOf n outs)) (hp : pr = allC (cnd P g) := by kernel_rfl)
    (he : (endE (stp P g)).isSome = true := by kernel_rfl) (hle : KLe ids (stp P g).st st := by exact kl) (hr : resOf P st rs outs = some (a, objs) := by kernel_rfl) : KG S P (fnPost S P n rs Q) g := ⟨J_retO hS hc st outs hQ hp he hle.out hr⟩
theorem K_start (hS : Good S P) {f : FuncId} {fn : Func} {args : List AV} {objs objs' : List Obj} {ks : List Bool} {r : AV} (hf : P.funcs[f]? = some fn)
    (h : KG S P (fnPost S P objs.length fn.results.toList fun res o k => res = .ret r ∧ o = objs' ∧ k = ks) (.code (fn.body.getD .skip) [] { env := argEnv args, regs := objRegs objs }))
    (hc : fn.body.isSome = true := by kernel_rfl) (hn : Nat.ble args.length fn.ntmps = true := by kernel_rfl) (ho : Nat.blt objs.length 1000 = true := by kernel_rfl)
    (hco : codeOk fn.ntmps (fn.body.getD .skip) = true := by kernel_rfl) (hnm : (fn.name == "runtime.NumGoroutine") = false := by kernel_rfl) : FunO S f args objs r objs' ks := J_start hS hf h.out hc hn ho hco hnm
theorem K_drawn (hS : Good S P) (hc : pr) (h : DG S P (drawnSC (stp P g)) fun env regs => KG S P F (.pop .normal (stp P g).k ⟨env, regs⟩)) (hp : pr = allC (cnd P g) := by kernel_rfl) (hd : isDrawn (stp P g) = true := by kernel_rfl) (hmix : P.follows .mixedOrders = true := by kernel_rfl)
    (hok : drawOk (drawnSC (stp P g)).all (drawnSC (stp P g)).cls = true := by kernel_rfl) : KG S P F g := by
  have e : (fun env regs => KG S P F (.pop .normal (stp P g).k ⟨env, regs⟩)) = fun env regs => G S P F (.pop .normal (stp P g).k ⟨env, regs⟩) := by
    funext env regs
    exact propext ⟨fun h => h.out, fun h => ⟨h⟩⟩
  rw [e] at h
  exact ⟨J_drawn hS hc h.out hp hd hmix hok⟩
section
variable {sc : SC} {k : Env → Regs → Prop}
theorem D_end (hc : pr) (h : k (stpD P sc).env (stpD P sc).regs) (hp : pr = allC (cndD P sc) := by kernel_rfl) (he : (stpD P sc).rest.isEmpty = true := by kernel_rfl) : DG S P sc k := ⟨C_end hc h hp he⟩
theorem D_guard (hc : pr) {b : Bool} (ht : b = true → DG S P (dguardC true (stpD P sc)) k) (hf : b = false → DG S P (dguardC false (stpD P sc)) k) (hp : pr = allC (cndD P sc) := by kernel_rfl) (hb : dguardE (stpD P sc) = some b := by kernel_rfl) : DG S P sc k :=
  ⟨C_guard hc (fun h => (ht h).out) (fun h => (hf h).out) hp hb⟩
theorem D_call (ids : List Nat) (hc : pr) {fn : FuncId} {args : List AV} {objs objs' : List Obj} {r : AV} {ks : List Bool} (hF : FunO S fn args objs r objs' ks) (hk : DG S P (dcallK ids ks r objs' (stpD P sc)) k)
    (hp : pr = allC (cndD P sc) := by kernel_rfl) (he : dcallE ids (stpD P sc) = some (fn, args, objs) := by kernel_rfl) (hn : dcallN ids ks objs'.length (stpD P sc) = true := by kernel_rfl) : DG S P sc k := ⟨C_call ids hc hF hk.out hp he hn⟩
theorem D_pure (hc : pr) {fn : FuncId} {args : List AV} {r : AV} (hF : FunO S fn args [] r [] []) (hk : DG S P (dpureK r (stpD P sc)) k) (hp : pr = allC (cndD P sc) := by kernel_rfl) (he : dpureE (stpD P sc) = some (fn, args) := by kernel_rfl) (hn : dpureN (stpD P sc) = true := by kernel_rfl) : DG S P sc k :=
  ⟨C_pure hc hF hk.out hp he hn⟩
theorem D_build (hc : pr) {x : PV} (hk : DG S P (dbuildK x (stpD P sc)) k) (hp : pr = allC (cndD P sc) := by kernel_rfl) (he : (dbuildE P (stpD P sc)).map (·.2) = some x := by kernel_rfl) (hc2 : ((dbuildE P (stpD P sc)).map fun q => allC q.1) = some (true = true) := by kernel_rfl) : DG S P sc k := ⟨C_build hc hk.out hp he hc2⟩
theorem D_lookup (hc : pr) {kt e : TypeId} {key : PV} {es : List (PV × PV)} {x : PV} {b : Bool} {fd : Option PV} (hf : find (cmpT P kt) key es = some fd) (hcc : allC (cmpC P kt)) (hk : DG S P (dlookK x b (stpD P sc)) k)
    (hp : pr = allC (cndD P sc) := by kernel_rfl) (he : dlookE P (stpD P sc) = some ⟨kt, e, key, es⟩ := by kernel_rfl) (hx : lookV P e fd = some (x, b) := by kernel_rfl) : DG S P sc k := ⟨C_lookup hc hf hcc hk.out hp he hx⟩
theorem D_update (hc : pr) {kt : TypeId} {key y : PV} {es es' : List (PV × PV)} (hu : upd (cmpT P kt) key y es = some es') (hcc : allC (cmpC P kt)) (hk : DG S P (dupdK es' (stpD P sc)) k)
    (hp : pr = allC (cndD P sc) := by kernel_rfl) (he : dupdE P (stpD P sc) = some (kt, key, y, es) := by kernel_rfl) : DG S P sc k := ⟨C_update hc hu hcc hk.out hp he⟩
end
end
end Go.AM
set_option linter.unusedVariables false
namespace Go.AM
section
variable {S : Sems} {P : Program} {F : Post} {g : Cfg} {pr : Prop}
def yldE : Cfg → Option (List PV × List (List PV))
  | .ops all (o :: _) _ st => match guardB all st.env o, o.op with
    | some true, .call c => match c.callee with
      | .value f => match aev st.env f, views st.regs (c.args.toList.map (aev st.env)) with
        | .yf j, some (xs, regs) => match rget regs j with
          | some (.yld (ys :: rest) true) => if onlyYld j regs = true ∧ xs.length = ys.length then some (xs, ys :: rest) else none
          | _ => none
        | _, _ => none
      | _ => none
    | _, _ => none
  | _ => none
def yldK (b : Bool) (rest : List (List PV)) : Cfg → Cfg
  | .ops all (o :: ops) K st => match o.op with
    | .call c => match c.callee with
      | .value f => match aev st.env f, views st.regs (c.args.toList.map (aev st.env)) with
        | .yf j, some (_, regs) => putK o.dst (.p (.bb b)) st.env (ins j (.yld rest b) regs) fun st => .ops all ops K st
        | _, _ => .ops all (o :: ops) K st
      | _ => .ops all (o :: ops) K st
    | _ => .ops all (o :: ops) K st
  | g => g
theorem lePL_refl : ∀ l : List PV, lePL l l
  | [] => trivial
  | x :: l => ⟨.inl rfl, lePL_refl l⟩
theorem J_yield (hS : Good S P) (hc : pr) {ys : List PV} {rest : List (List PV)} (ht : G S P F (yldK true rest (stp P g))) (hf : G S P F (yldK false [] (stp P g))) (hp : pr = allC (cnd P g)) (he : yldE (stp P g) = some (ys, ys :: rest)) : G S P F g := by
  refine J_go hS hc ?_ hp
  generalize stp P g = g' at he ht hf
  unfold yldE at he
  split at he
  · split at he
    · rename_i hg ho
      split at he
      · rename_i hcl
        split at he
        · rename_i hy hv
          split at he
          · rename_i hr
            split at he
            · rename_i ho2
              simp only [Option.some.injEq, Prod.mk.injEq, List.cons.injEq] at he
              obtain ⟨rfl, rfl, rfl⟩ := he
              simp only [yldK, ho, hcl, hy, hv, putK_eq] at ht hf
              refine G_yield hS hg ho hcl hy hv hr ho2.1 (lePL_refl _) fun b => ?_
              cases b
              · exact hf
              · exact ht
            · cases he
          · cases he
        · cases he
      · cases he
    · cases he
  · cases he
theorem K_yield (hS : Good S P) (hc : pr) {ys : List PV} {rest : List (List PV)} (ht : KG S P F (yldK true rest (stp P g))) (hf : KG S P F (yldK false [] (stp P g))) (hp : pr = allC (cnd P g) := by kernel_rfl) (he : yldE (stp P g) = some (ys, ys :: rest) := by kernel_rfl) : KG S P F g :=
  ⟨J_yield hS hc ht.out hf.out hp he⟩
def consM {T : Type} (x : T) (o : Option (List T)) : Option (List T) := o.map (x :: ·)
theorem consE {T : Type} {x : T} {o : Option (List T)} {L : List T} (h : consM x o = some L) : ∃ L', L = x :: L' ∧ o = some L' := by
  simp only [consM, Option.map_eq_some_iff] at h
  obtain ⟨l, h1, h2⟩ := h
  exact ⟨l, h2.symm, h1⟩
theorem K_fixY1 (hS : Good S P) (hc : pr) {R A : Type} {body : (A → Option R) → A → Option R} {N : Nat} {a0 : A} {r0 : R} (h : fix1 N body a0 = some r0) (s : A → R → St) {ids : List (Nat × Nat)}
    (hr : ∀ (X : Type) (s' : X → St) (J : X → Prop) (m : X → Nat) (n : Nat) (self : A → Option R) (a : A) (r : R),
      (∀ (g' : Cfg) (ids : List (Nat × Nat)) (pr : Prop) (a : A) (r : R), pr → self a = some r → (hp : pr = allC (cnd P g') := by kernel_rfl) → (he : stp P g' = .pop .normal (.lp X s' J m n :: (stp P g).k) (stp P g').st := by kernel_rfl) → (hle : KLe ids (stp P g').st (s a r) := by exact kl) → KG S P F g') →
      body self a = some r → KG S P F (.code (loopB (stp P g)) (.lp X s' J m n :: (stp P g).k) (s a r))) (hp : pr = allC (cnd P g) := by kernel_rfl) (hl : isLoop (stp P g) = true := by kernel_rfl) (hle : KLe ids (stp P g).st (s a0 r0) := by exact kl) : KG S P F g := by
  refine ⟨J_go hS hc ?_ hp⟩
  rw [loop_eq hl]
  refine G_loop hS (X := Nat × A × R) (fun x => s x.2.1 x.2.2) (fun x => fix1 x.1 body x.2.1 = some x.2.2) (fun x => x.1) (N, a0, r0) ids hle.out h ?_
  rintro ⟨n, a, r⟩ hx
  cases n with
  | zero => cases hx
  | succ n =>
    exact (hr _ _ _ _ _ (fix1 n body) a r (fun g' ids pr a r hc hself hp he hle => ⟨J_go hS hc (by rw [he]; exact G_round hS (n, a, r) ids hle.out hself (Nat.lt_succ_self n)) hp⟩) hx).out
theorem K_fixY2 (hS : Good S P) (hc : pr) {R A B : Type} {body : (A → B → Option R) → A → B → Option R} {N : Nat} {a0 : A} {b0 : B} {r0 : R} (h : fix2 N body a0 b0 = some r0) (s : A → B → R → St) {ids : List (Nat × Nat)}
    (hr : ∀ (X : Type) (s' : X → St) (J : X → Prop) (m : X → Nat) (n : Nat) (self : A → B → Option R) (a : A) (b : B) (r : R),
      (∀ (g' : Cfg) (ids : List (Nat × Nat)) (pr : Prop) (a : A) (b : B) (r : R), pr → self a b = some r → (hp : pr = allC (cnd P g') := by kernel_rfl) → (he : stp P g' = .pop .normal (.lp X s' J m n :: (stp P g).k) (stp P g').st := by kernel_rfl) → (hle : KLe ids (stp P g').st (s a b r) := by exact kl) → KG S P F g') →
      body self a b = some r → KG S P F (.code (loopB (stp P g)) (.lp X s' J m n :: (stp P g).k) (s a b r))) (hp : pr = allC (cnd P g) := by kernel_rfl) (hl : isLoop (stp P g) = true := by kernel_rfl) (hle : KLe ids (stp P g).st (s a0 b0 r0) := by exact kl) : KG S P F g :=
  K_fixY1 hS hc h (fun x r => s x.1 x.2 r) (fun X s' J m n self a r hb => hr X s' J m n (fun a b => self (a, b)) a.1 a.2 r fun g' ids pr a b r h1 h2 h3 h4 h5 => hb g' ids pr (a, b) r h1 h2 h3 h4 h5) hp hl hle
theorem K_fixY3 (hS : Good S P) (hc : pr) {R A B C : Type} {body : (A → B → C → Option R) → A → B → C → Option R} {N : Nat} {a0 : A} {b0 : B} {c0 : C} {r0 : R} (h : fix3 N body a0 b0 c0 = some r0) (s : A → B → C → R → St) {ids : List (Nat × Nat)}
    (hr : ∀ (X : Type) (s' : X → St) (J : X → Prop) (m : X → Nat) (n : Nat) (self : A → B → C → Option R) (a : A) (b : B) (c : C) (r : R),
      (∀ (g' : Cfg) (ids : List (Nat × Nat)) (pr : Prop) (a : A) (b : B) (c : C) (r : R), pr → self a b c = some r → (hp : pr = allC (cnd P g') := by kernel_rfl) → (he : stp P g' = .pop .normal (.lp X s' J m n :: (stp P g).k) (stp P g').st := by kernel_rfl) → (hle : KLe ids (stp P g').st (s a b c r) := by exact kl) → KG S P F g') →
      body self a b c = some r → KG S P F (.code (loopB (stp P g)) (.lp X s' J m n :: (stp P g).k) (s a b c r))) (hp : pr = allC (cnd P g) := by kernel_rfl) (hl : isLoop (stp P g) = true := by kernel_rfl) (hle : KLe ids (stp P g).st (s a0 b0 c0 r0) := by exact kl) : KG S P F g :=
  K_fixY1 hS hc h (fun x r => s x.1 x.2.1 x.2.2 r) (fun X s' J m n self a r hb => hr X s' J m n (fun a b c => self (a, b, c)) a.1 a.2.1 a.2.2 r fun g' ids pr a b c r h1 h2 h3 h4 h5 => hb g' ids pr (a, b, c) r h1 h2 h3 h4 h5) hp hl hle
theorem K_startI (hS : Good S P) {f : FuncId} {fn : Func} {first caps : List AV} {objs : List Obj} {L : List (List PV)} (hf : P.funcs[f]? = some fn)
    (h : KG S P (fnPost S P (objs ++ [Obj.yld L true]).length fn.results.toList fun r objs' ks => ∃ b, objs'[objs.length]? = some (.yld [] b) ∧ ks[objs.length]? = some true ∧ ∃ a, r = .ret a) (.code (fn.body.getD .skip) [] { env := argEnv (first ++ .yf objs.length :: caps), regs := objRegs (objs ++ [Obj.yld L true]) }))
    (hc : fn.body.isSome = true := by kernel_rfl) (hn : Nat.ble (first ++ .yf objs.length :: caps).length fn.ntmps = true := by kernel_rfl) (ho : Nat.blt (objs ++ [Obj.yld L true]).length 1000 = true := by kernel_rfl)
    (hco : codeOk fn.ntmps (fn.body.getD .skip) = true := by kernel_rfl) (hnm : (fn.name == "runtime.NumGoroutine") = false := by kernel_rfl) : FunIt S f first caps objs L := by
  obtain ⟨code, hcode⟩ := Option.isSome_iff_exists.1 hc
  rw [hcode, Option.getD_some] at hco h
  exact fun_startP hS hf hcode (Nat.le_of_ble_eq_true hn) (by simpa [Nat.blt_eq] using ho) rfl hco hnm h.out
def rangeE (P : Program) (ids : List Nat) : Cfg → Option (FuncId × List AV × List AV × List Obj)
  | .code (.rangeFunc op _ _ _) _ st => match partsOf st.env op with
    | some (f, first, caps) => match P.funcs[f]?, objsOf ids st.regs ids, renL ids first, renL ids caps with
      | some fn, some objs, some as, some bs => if (fn.body.isSome && !(fn.name == "runtime.NumGoroutine") && noYld objs && nodupB ids && (objs.length == ids.length) && Nat.blt ids.length 1000) = true then some (f, as, bs, objs) else none
      | _, _, _, _ => none
    | none => none
  | _ => none
def rangeP : Cfg → Array Tmp
  | .code (.rangeFunc _ ps _ _) _ _ => ps
  | _ => #[]
def rangeA : Cfg → Code
  | .code (.rangeFunc _ _ a _) _ _ => a
  | _ => .skip
def rangeB : Cfg → Code
  | .code (.rangeFunc _ _ _ b) _ _ => b
  | _ => .skip
def rangeS (ids ts : List Nat) (g : Cfg) : St := ⟨envOf ts (ts.map (get g.st.env)), deaden ids (ids.map fun _ => false) g.st.regs⟩
def rst (gh : Nat) (t : St) : St := ⟨[], ins gh (.ghost (t.env.map (·.2))) t.regs⟩
def rstart (gh : Nat) (ps : Array Tmp) (ys : List PV) (t : St) : St := ⟨setPs ps.toList ys t.env, ins gh (.ghost (t.env.map (·.2))) t.regs⟩
def exitE : Cfg → AExit
  | .pop e _ _ => e
  | _ => .normal
def leaves : Cfg → Bool
  | .pop .ret [] _ => true
  | .pop (.exit _) [] _ => true
  | _ => false
theorem rget_ins' (regs : Regs) (d : Nat) (x : Obj) : rget (ins d x regs) d = some x := by
  induction regs with
  | nil => simp [ins, rget]
  | cons p r ih => obtain ⟨i, b⟩ := p; simp only [ins]; split; · simp [rget]
                   split; · simp [rget]
                   · rename_i h1 h2; simp only [rget, h2, if_false, ih]
theorem rst_ghost (gh : Nat) (t : St) : rget (rst gh t).regs gh = some (.ghost (t.env.map fun p => p.2)) := by unfold rst; exact rget_ins' _ _ _
theorem K_iter1 (hS : Good S P) (hc : pr) {f : FuncId} {as bs : List AV} {objs : List Obj} {R T A : Type} {enc : T → List PV} {L : List T} {mb : (A → Option R) → T → A → Option R} {mk : A → Option R} {a0 : A} {r : R}
    (ids ts : List Nat) (gh : Nat) (s : A → St) {idl : List (Nat × Nat)} (h : iter1 L mb mk a0 = some r) (hF : FunIt S f as bs objs (L.map enc))
    (hlen : ∀ t : T, (enc t).length = (rangeP (stp P g)).size) (hk : ∀ a, (s a).env.map (·.1) = ts) (hn : ∀ a, rget (s a).regs gh = none) (hb0 : ∀ a, (⟨envOf ts ((s a).env.map (·.2)), del gh (ins gh (.ghost ((s a).env.map (·.2))) (s a).regs)⟩ : St) = s a)
    (hround : ∀ (t : T) (next : St → Prop) (self : A → Option R) (a : A),
      (∀ (g' : Cfg) (ids : List (Nat × Nat)) (pr : Prop) (a : A), pr → self a = some r → (hp : pr = allC (cnd P g') := by kernel_rfl) → (he : stp P g' = .pop .normal [] (stp P g').st := by kernel_rfl) → (hle : KLe ids (stp P g').st (rst gh (s a)) := by exact kl) → KG S P (rpost S gh ts next (kp S P (stp P g).k F)) g') →
      mb self t a = some r → KG S P (asgPost S P (rangeB (stp P g)) gh ts next (kp S P (stp P g).k F)) (.code (rangeA (stp P g)) [] (rstart gh (rangeP (stp P g)) (enc t) (s a))))
    (hend : ∀ a, mk a = some r → KG S P F (.pop .normal (stp P g).k (s a)))
    (hp : pr = allC (cnd P g) := by kernel_rfl) (he : rangeE P ids (stp P g) = some (f, as, bs, objs) := by kernel_rfl) (hgh : Nat.blt gh 1000 = true := by kernel_rfl) (hng : rget (stp P g).st.regs gh = none := by kernel_rfl) (hts : nodupB ts = true := by kernel_rfl)
    (hle : KLe idl (rangeS ids ts (stp P g)) (s a0) := by exact kl) : KG S P F g := by
  refine ⟨J_go hS hc ?_ hp⟩
  generalize stp P g = g1 at hlen hround hend he hng hle
  unfold rangeE at he
  split at he
  · rename_i op ps asg body K st
    split at he
    · rename_i f' first caps hpo
      split at he
      · rename_i fn objs' as' bs' h1 h2 h3 h4
        split at he
        · rename_i hh
          simp only [Option.some.injEq, Prod.mk.injEq] at he
          obtain ⟨rfl, rfl, rfl, rfl⟩ := he
          simp only [Bool.and_eq_true, Bool.not_eq_true', beq_iff_eq] at hh
          obtain ⟨⟨⟨⟨⟨e1, e2⟩, e3⟩, e4⟩, e5⟩, e6⟩ := hh
          refine G_iter1 hS ids ts gh s idl h hF hpo ⟨fn, h1, e1, by simpa using e2⟩ h2 e3 e4 h3 h4 e5 hgh hng e6 hts hlen hle.out hk hn (fun t next self a hb hm => ?_) (fun a hm => (hend a hm).out)
          refine (hround t next self a (fun g' ids' pr a hc hself hp he hle => ⟨J_go hS hc ?_ hp⟩) hm).out
          rw [he]
          have hl : ((s a).env.map (·.2)).length = ts.length := by rw [← hk a]; simp
          refine hb _ (rst gh (s a)) ((s a).env.map fun p => p.2) ids' a hle.out (rst_ghost gh (s a)) hl ?_ (hb0 a) hself
          have := congrArg St.regs (hb0 a)
          simp only at this
          show rget (del gh (ins gh _ _)) gh = none
          rw [this]; exact hn a
        · cases he
      · cases he
    · cases he
  · cases he
def nilC (t : Nat) (a : AV) : Cfg → Cfg
  | .ops all rest K st => mkO (ins t a st.env) st.regs fun env regs => .ops all rest K ⟨env, regs⟩
  | g => g
theorem K_nil (hS : Good S P) (hc : pr) (t : Nat) {k n : Nat} {f : Nat → List PV} (h0 : n = 0 → KG S P F (nilC t (.p (.v (.slice none 0 0))) (stp P g))) (h1 : KG S P F (nilC t (.p (.sl true k n f)) (stp P g)))
    (hp : pr = allC (cnd P g) := by kernel_rfl) (ho : isOps (stp P g) = true := by kernel_rfl) (hg : get (stp P g).st.env t = .p (.sl false k n f) := by kernel_rfl) : KG S P F g := by
  refine ⟨J_go hS hc ?_ hp⟩
  generalize stp P g = g1 at h0 h1 ho hg
  unfold isOps at ho
  split at ho
  · refine G_nilO hS t hg (fun h => ?_) ?_
    · have := (h0 h).out
      simpa only [nilC, mkO_eq] using this
    · have := h1.out
      simpa only [nilC, mkO_eq] using this
  · cases ho
def frzC (j : Nat) (ps : List PV) : Cfg → Cfg
  | .code c K st => mkO (frzE j ps st.env) (ins j .dead st.regs) fun env regs => .code c K ⟨env, regs⟩
  | g => g
theorem K_frz (hS : Good S P) (hc : pr) (j : Nat) (ps : List PV) (hk : KG S P F (frzC j ps (stp P g))) (hp : pr = allC (cnd P g) := by kernel_rfl) (hd : isDrawn (stp P g) = true := by kernel_rfl) (hmix : P.follows .mixedOrders = true := by kernel_rfl)
    (hdep : depsOk (drawnSC (stp P g)).all = true := by kernel_rfl) (hr : rget (stp P g).st.regs j = some (.cells (ps.map .p)) := by kernel_rfl) : KG S P F g := by
  refine ⟨J_go hS hc ?_ hp⟩
  generalize stp P g = g1 at hk hd hdep hr
  unfold isDrawn at hd
  split at hd
  · rename_i id ops K st
    have hk := hk.out
    simp only [frzC, mkO_eq] at hk
    show awp S P (.region id ops true) (kp S P K F) st
    simp only [awp, if_true]
    have hk' : wDraw S P ops.toList (kp S P K F) ⟨frzE j ps st.env, ins j .dead st.regs⟩ := by
      have : awp S P (.region id ops true) (kp S P K F) ⟨frzE j ps st.env, ins j .dead st.regs⟩ := hk
      simpa only [awp, if_true] using this
    exact wDraw_up hS hmix hdep (hS.frz st j ps _ hr hk')
  · cases hd
def clsN (js : List Nat) : Nat → List Oper → List Cls
  | _, [] => []
  | i, o :: r => (if js.contains i then .n else clsP o.op) :: clsN js (i + 1) r
def drawnSCn (js : List Nat) : Cfg → SC
  | .code (.region _ ops true) _ st => ⟨ops.toList, clsN js 0 ops.toList, ops.toList, st.env, st.regs, []⟩
  | _ => ⟨[], [], [], [], [], []⟩
theorem K_drawnN (hS : Good S P) (hc : pr) (js : List Nat) (h : DG S P (drawnSCn js (stp P g)) fun env regs => KG S P F (.pop .normal (stp P g).k ⟨env, regs⟩)) (hp : pr = allC (cnd P g) := by kernel_rfl) (hd : isDrawn (stp P g) = true := by kernel_rfl) (hmix : P.follows .mixedOrders = true := by kernel_rfl)
    (hok : drawOk (drawnSCn js (stp P g)).all (drawnSCn js (stp P g)).cls = true := by kernel_rfl) : KG S P F g := by
  have e : (fun env regs => KG S P F (.pop .normal (stp P g).k ⟨env, regs⟩)) = fun env regs => G S P F (.pop .normal (stp P g).k ⟨env, regs⟩) := by
    funext env regs
    exact propext ⟨fun h => h.out, fun h => ⟨h⟩⟩
  rw [e] at h
  refine ⟨J_go hS hc ?_ hp⟩
  have h := h.out
  generalize stp P g = g' at hd hok h
  unfold isDrawn at hd
  split at hd
  · exact G_draw hS _ hmix hok h
  · cases hd
theorem K_asg (hS : Good S P) (hc : pr) {body : Code} {gh : Nat} {ts : List Nat} {next : St → Prop} {Q : Post} (h : KG S P (rpost S gh ts next Q) (.code body [] (stp P g).st)) (hp : pr = allC (cnd P g) := by kernel_rfl) (he : stp P g = .pop .normal [] (stp P g).st := by kernel_rfl) : KG S P (asgPost S P body gh ts next Q) g := by
  refine ⟨J_go hS hc ?_ hp⟩
  rw [he]
  exact G_asg hS h.out
theorem K_rleave (hS : Good S P) (hc : pr) {K : List It} {gh : Nat} {ts : List Nat} {next : St → Prop} (t : St) {ids : List (Nat × Nat)} (hk : KG S P F (.pop (exitE (stp P g)) K t)) (hp : pr = allC (cnd P g) := by kernel_rfl) (he : leaves (stp P g) = true := by kernel_rfl)
    (hle : KLe ids (stp P g).st (rst gh t) := by exact kl) (h1 : t.env.map (·.1) = ts := by kernel_rfl) (h2 : rget t.regs gh = none := by kernel_rfl) (h3 : (⟨envOf ts (t.env.map (·.2)), del gh (ins gh (.ghost (t.env.map (·.2))) t.regs)⟩ : St) = t := by kernel_rfl) : KG S P (rpost S gh ts next (kp S P K F)) g := by
  refine ⟨J_go hS hc ?_ hp⟩
  generalize stp P g = g1 at hk he hle
  have hl : (t.env.map (·.2)).length = ts.length := by rw [← h1]; simp
  have hd : rget (del gh (ins gh (.ghost (t.env.map (·.2))) t.regs)) gh = none := by
    have := congrArg St.regs h3
    simp only at this
    rw [this]; exact h2
  unfold leaves at he
  split at he
  · exact G_rleave hS trivial (rst gh t) ids hle.out (rst_ghost gh t) hl hd (by rw [show (⟨envOf ts (t.env.map (·.2)), del gh (rst gh t).regs⟩ : St) = t from h3]; exact hk.out)
  · exact G_rleave hS trivial (rst gh t) ids hle.out (rst_ghost gh t) hl hd (by rw [show (⟨envOf ts (t.env.map (·.2)), del gh (rst gh t).regs⟩ : St) = t from h3]; exact hk.out)
  · cases he
theorem rpost_up (hS : Good S P) {gh : Nat} {ts : List Nat} {next : St → Prop} {Q : Post} (s : St) (h : S.up s (rpost S gh ts next Q .normal)) : rpost S gh ts next Q .normal s := hS.trans _ _ h
end
end Go.AM
set_option linter.unusedVariables false
namespace Go.AM
section
variable {S : Sems} {P : Program} {F : Post} {g : Cfg} {pr : Prop}
def frzOC (j : Nat) (ps : List PV) : Cfg → Cfg
  | .ops all rest K st => mkO (frzE j ps st.env) (ins j .dead st.regs) fun env regs => .ops all rest K ⟨env, regs⟩
  | g => g
theorem K_frzO (hS : Good S P) (hc : pr) (j : Nat) (ps : List PV) (hk : KG S P F (frzOC j ps (stp P g))) (hp : pr = allC (cnd P g) := by kernel_rfl) (ho : isOps (stp P g) = true := by kernel_rfl)
    (hr : rget (stp P g).st.regs j = some (.cells (ps.map .p)) := by kernel_rfl) : KG S P F g := by
  refine ⟨J_go hS hc ?_ hp⟩
  generalize stp P g = g1 at hk ho hr
  unfold isOps at ho
  split at ho
  · have hk := hk.out
    simp only [frzOC, mkO_eq] at hk
    exact G_upO hS (hS.frz _ j ps _ hr hk)
  · cases ho
def callME (ids : List Nat) : Cfg → Option (FuncId × List AV × List Obj)
  | .ops all (o :: _) _ st => match guardB all st.env o, o.op with
    | some true, .call c => match c.callee with
      | .value f => match whom st.env f (c.args.toList.map (aev st.env)) with
        | some (fn, as') => match renL ids as', objsOf ids st.regs ids with
          | some a, some ob => if nodupB ids && noYld ob then some (fn, a, ob) else none
          | _, _ => none
        | none => none
      | _ => none
    | _, _ => none
  | _ => none
def callMN (ids : List Nat) (ks : List Bool) (n : Nat) : Cfg → Bool
  | .ops _ (o :: _) _ st => freeIds st.regs ids ks (o.dst.getD 0) n
  | _ => false
def callMK (ids : List Nat) (ks : List Bool) (r : AV) (objs' : List Obj) : Cfg → Cfg
  | .ops all (o :: rest) K st => putK o.dst (unA (newIds (o.dst.getD 0) ids ks objs'.length) r) st.env
      (back (newIds (o.dst.getD 0) ids ks objs'.length) (newIds (o.dst.getD 0) ids ks objs'.length) objs' (deaden ids ks st.regs)) fun st => .ops all rest K st
  | g => g
theorem K_callM (hS : Good S P) (ids : List Nat) (hc : pr) {fn : FuncId} {args : List AV} {objs objs' : List Obj} {r : AV} {ks : List Bool} (hF : FunO S fn args objs r objs' ks) (hk : KG S P F (callMK ids ks r objs' (stp P g)))
    (hp : pr = allC (cnd P g) := by kernel_rfl) (he : callME ids (stp P g) = some (fn, args, objs) := by kernel_rfl) (hn : callMN ids ks objs'.length (stp P g) = true := by kernel_rfl) : KG S P F g := by
  refine ⟨J_go hS hc ?_ hp⟩
  have hk := hk.out
  generalize stp P g = g' at he hn hk
  unfold callME at he
  split at he
  · split at he
    · rename_i hg ho
      split at he
      · rename_i hcl
        split at he
        · rename_i hw
          split at he
          · rename_i hr hob
            split at he
            · rename_i hdy
              cases he
              simp only [Bool.and_eq_true] at hdy
              simp only [callMK, callMN, putK_eq] at hk hn
              exact G_callM hS ids hg ho hcl hw hr hob hF hdy.1 hdy.2 hn hk
            · cases he
          · cases he
        · cases he
      · cases he
    · cases he
  · cases he
def unrT : List (St → Prop) → Nat → St → Prop
  | [], _, _ => False
  | a :: _, 0, t => a t
  | _ :: l, i + 1, t => unrT l i t
theorem K_unroll (hS : Good S P) (hc : pr) (n : Nat) (T : Nat → St → Prop) (s0 : St) {ids : List (Nat × Nat)} (h0 : T 0 s0)
    (hr : ∀ (X : Type) (s' : X → St) (J : X → Prop) (m : X → Nat) (i k : Nat) (t : St), i ≤ n → T i t →
      (∀ (g' : Cfg) (ids : List (Nat × Nat)) (pr : Prop) (t' : St), pr → Nat.ble (i + 1) n = true → T (i + 1) t' → (hp : pr = allC (cnd P g') := by kernel_rfl) → (he : stp P g' = .pop .normal (.lp X s' J m k :: (stp P g).k) (stp P g').st := by kernel_rfl) → (hle : KLe ids (stp P g').st t' := by exact kl) → KG S P F g') →
      KG S P F (.code (loopB (stp P g)) (.lp X s' J m k :: (stp P g).k) t)) (hp : pr = allC (cnd P g) := by kernel_rfl) (hl : isLoop (stp P g) = true := by kernel_rfl) (hle : KLe ids (stp P g).st s0 := by exact kl) : KG S P F g := by
  refine ⟨J_go hS hc ?_ hp⟩
  rw [loop_eq hl]
  refine G_loop hS (X := Nat × St) (fun x => x.2) (fun x => x.1 ≤ n ∧ T x.1 x.2) (fun x => n - x.1) (0, s0) ids hle.out ⟨Nat.zero_le _, h0⟩ ?_
  rintro ⟨i, t⟩ ⟨hi, ht⟩
  refine (hr (Nat × St) (fun x => x.2) (fun x => x.1 ≤ n ∧ T x.1 x.2) (fun x => n - x.1) i (n - i) t hi ht fun g' ids' pr' t' hc' hn ht' hp' he' hle' => ⟨J_go hS hc' ?_ hp'⟩).out
  rw [he']
  have hn : i + 1 ≤ n := Nat.le_of_ble_eq_true hn
  exact hS.le ids' _ _ _ hle'.out ⟨(i + 1, t'), rfl, ⟨hn, ht'⟩, by show n - (i + 1) < n - i; omega⟩
end
end Go.AM
set_option linter.unusedVariables false
namespace Go.AM
theorem own_of_calls {P : Program} {f : FuncId} {args : List PV} {e : TypeId} {k n : Nat} {g : Nat → List PV} (hent : ∀ as w, (callFunc f as).run P w = .ok (.enter f as) w) (hk : ∀ i, i < n → (g i).length = k)
    (h : ∀ (w : World) (Pi : Nat → Nat → Prop) (vs : Array Value), (∀ b off, Pi b off → b < w.heap.size) → vs.size = args.length → (∀ i, i < args.length → RepP w Pi (vs.getD i undef) (args.getD i default)) →
      Calls P f vs w fun x w' => ∃ v, x = .returned v ∧ RowKit.Below w.heap.size w w' ∧ ((v = .slice none 0 0 ∧ n = 0) ∨ ∃ b cap c, v = .slice (some ⟨b, 0, none⟩) n cap ∧ w.heap.size ≤ b ∧ w'.heap[b]? = some (.cells c e (0, 0)) ∧ n ≤ cap ∧ c.size = cap * k ∧ cap ≤ maxLen ∧
        ∀ i j, i < n → j < k → RepP w Pi (c.getD (i * k + j) undef) ((g i).getD j default) ∧ (c.getD (i * k + j) undef).oneCell' = true)) : FunO (sems P) f (args.map .p) [] (.vec 0) [.vec e k n g true] [] := by
  intro 𝒢 C w vs rho hG hs hsz
  have hno0 : ∀ j, rget (objRegs []) j = none := fun j => by simp [objRegs, objRegs.go, rget]
  have h0 := h w (Prv C.X (rget (objRegs [])) rho) vs (fun b off hp => by
    rcases hp with hp | ⟨j, o, hj, _⟩
    · exact hs.hp.bound b off hp
    · simp [hno0] at hj) (by simpa using hsz) (fun i hi => by
    have := hs.env i
    rw [argEnv_get] at this
    have e : (args.map AV.p).getD i .top = .p (args.getD i default) := by simp [hi]
    rw [e] at this
    exact this.toP)
  refine ⟨_, _, hent _ _, callsIn_wide.2 (h0.mono ?_)⟩
  rintro x w' ⟨v, rfl, hb, hv⟩
  have hR : ∀ j o, rget (objRegs [Obj.vec e k n g true]) j = some o → j = 0 ∧ o = .vec e k n g true := fun j o hj => by
    simp only [objRegs, objRegs.go, rget] at hj
    split at hj
    · rename_i hj0; cases hj; exact ⟨hj0.symm, rfl⟩
    · cases hj
  have hR0 : rget (objRegs [Obj.vec e k n g true]) 0 = some (.vec e k n g true) := rfl
  let rho' : Nat → Value := fun j => if j = 0 then v else rho j
  have hr0 : rho' 0 = v := rfl
  have hblk : ∀ b, blkO v (.vec e k n g true) = some b → w.heap.size ≤ b ∧ b < w'.heap.size := by
    intro b hbv
    rcases hv with ⟨rfl, _⟩ | ⟨b', cap, c, rfl, h1, h2, _⟩
    · cases hbv
    · cases hbv; exact ⟨h1, (Array.getElem?_eq_some_iff.1 h2).1⟩
  have hprv : ∀ b o, Prv C.X (rget (objRegs [Obj.vec e k n g true])) rho' b o → C.X b o ∨ w.heap.size ≤ b := by
    rintro b o (hX | ⟨j, o', hj, hbo, _⟩)
    · exact .inl hX
    · obtain ⟨rfl, rfl⟩ := hR j o' hj; exact .inr (hblk b hbo).1
  have hkeep : Keeps w (Prv C.X (rget (objRegs [])) rho) w' (Prv C.X (rget (objRegs [Obj.vec e k n g true])) rho') := fun b o u hp hc => by
    have hlt := World.block_lt_of_cell? w ⟨b, o, none⟩ hc
    refine ⟨by rw [← hc]; exact World.cell?_of_block (hb.block b hlt), fun hpp => ?_⟩
    rcases hprv b o hpp with hX | hge
    · exact hp (.inl hX)
    · have : b < w.heap.size := hlt
      omega
  refine ⟨C, .ret (.vec 0), [.vec e k n g true], [], rho', hG, ⟨rfl, rfl, rfl⟩, ?_, ⟨v, rfl, ?_⟩, fun i hi => by simp at hi⟩
  · refine ⟨⟨fun j o hj => ?_, fun i j oi oj b hi hj _ _ => by rw [(hR i oi hi).1, (hR j oj hj).1], fun j o b off hj hbo hX => ?_, fun b off hp => Nat.lt_of_lt_of_le (hs.hp.bound b off hp) hb.size⟩, hs.ext.trans ⟨hb.os, hb.output⟩, Nat.le_trans hs.size hb.size, fun b hlt hE => ?_, hs.keep.trans hkeep, fun b hbo => ?_, fun j r b hj => by cases (hR j _ hj).2⟩
    · obtain ⟨rfl, rfl⟩ := hR j o hj
      rw [hr0]
      rcases hv with hn | ⟨b, cap, c, rfl, h1, h2, h3, h4, h5, h6⟩
      · exact .inl hn
      · exact .inr ⟨b, cap, c, rfl, h2, h3, h4, h5, hk, fun i j hi hj => ⟨(h6 i j hi hj).1.keeps hkeep, (h6 i j hi hj).2⟩⟩
    · obtain ⟨rfl, rfl⟩ := hR j o hj
      have h1 := (hblk b hbo).1
      have h2 := hs.hp.bound b off hX
      omega
    · rw [hb.block b (Nat.lt_of_lt_of_le hlt hs.size)]; exact hs.same b hlt hE
    · obtain ⟨j, o, hj, hbo⟩ := hbo
      obtain ⟨rfl, rfl⟩ := hR j o hj
      exact .inr (Nat.le_trans hs.size (hblk b hbo).1)
  · rcases hv with ⟨rfl, _⟩ | ⟨b, cap, c, rfl, _⟩
    · exact .vec 0 none 0 0 (by simp [Lv, hR0]) rfl
    · exact .vec 0 _ n cap (by simp [Lv, hR0]) rfl
end Go.AM