/- What a law's walk and its plain proof need, part 4: no condition of its own. -/
import Derived.Test.YtnpknmmlpjnpeaaDoorAmC
set_option linter.unusedSimpArgs false
set_option linter.unusedVariables false
set_option linter.unusedSectionVars false
set_option linter.unusedVariables false
namespace Go.AM
section
variable {S : Sems} {P : Program} {F : Post} {g : Cfg} {pr : Prop}
def yldE : Cfg → Option (List PV × List (List PV))
  | .ops all (o :: _) _ st => match guardB all st.env o, o.op with
    | some true, .call c => match c.callee with
      | .value f => match aev st.env f, views st.regs (c.args.toList.map (aev st.env)) with
        | .yf j, some (xs, regs) => match rget regs j with
          | some (.yld (ys :: rest) true) => if onlyYld j regs = true ∧ xs.length = ys.length then some (xs, ys :: rest) else none
          | _ => none
        | _, _ => none
      | _ => none
    | _, _ => none
  | _ => none
def yldK (b : Bool) (rest : List (List PV)) : Cfg → Cfg
  | .ops all (o :: ops) K st => match o.op with
    | .call c => match c.callee with
      | .value f => match aev st.env f, views st.regs (c.args.toList.map (aev st.env)) with
        | .yf j, some (_, regs) => putK o.dst (.p (.bb b)) st.env (ins j (.yld rest b) regs) fun st => .ops all ops K st
        | _, _ => .ops all (o :: ops) K st
      | _ => .ops all (o :: ops) K st
    | _ => .ops all (o :: ops) K st
  | g => g
theorem lePL_refl : ∀ l : List PV, lePL l l
  | [] => trivial
  | x :: l => ⟨.inl rfl, lePL_refl l⟩
theorem J_yield (hS : Good S P) (hc : pr) {ys : List PV} {rest : List (List PV)} (ht : G S P F (yldK true rest (stp P g))) (hf : G S P F (yldK false [] (stp P g))) (hp : pr = allC (cnd P g)) (he : yldE (stp P g) = some (ys, ys :: rest)) : G S P F g := by
  refine J_go hS hc ?_ hp
  generalize stp P g = g' at he ht hf
  unfold yldE at he
  split at he
  · split at he
    · rename_i hg ho
      split at he
      · rename_i hcl
        split at he
        · rename_i hy hv
          split at he
          · rename_i hr
            split at he
            · rename_i ho2
              simp only [Option.some.injEq, Prod.mk.injEq, List.cons.injEq] at he
              obtain ⟨rfl, rfl, rfl⟩ := he
              simp only [yldK, ho, hcl, hy, hv, putK_eq] at ht hf
              refine G_yield hS hg ho hcl hy hv hr ho2.1 (lePL_refl _) fun b => ?_
              cases b
              · exact hf
              · exact ht
            · cases he
          · cases he
        · cases he
      · cases he
    · cases he
  · cases he
theorem K_yield (hS : Good S P) (hc : pr) {ys : List PV} {rest : List (List PV)} (ht : KG S P F (yldK true rest (stp P g))) (hf : KG S P F (yldK false [] (stp P g))) (hp : pr = allC (cnd P g) := by kernel_rfl) (he : yldE (stp P g) = some (ys, ys :: rest) := by kernel_rfl) : KG S P F g :=
  ⟨J_yield hS hc ht.out hf.out hp he⟩
def consM {T : Type} (x : T) (o : Option (List T)) : Option (List T) := o.map (x :: ·)
theorem consE {T : Type} {x : T} {o : Option (List T)} {L : List T} (h : consM x o = some L) : ∃ L', L = x :: L' ∧ o = some L' := by
  simp only [consM, Option.map_eq_some_iff] at h
  obtain ⟨l, h1, h2⟩ := h
  exact ⟨l, h2.symm, h1⟩
theorem K_fixY1 (hS : Good S P) (hc : pr) {R A : Type} {body : (A → Option R) → A → Option R} {N : Nat} {a0 : A} {r0 : R} (h : fix1 N body a0 = some r0) (s : A → R → St) {ids : List (Nat × Nat)}
    (hr : ∀ (X : Type) (s' : X → St) (J : X → Prop) (m : X → Nat) (n : Nat) (self : A → Option R) (a : A) (r : R),
      (∀ (g' : Cfg) (ids : List (Nat × Nat)) (pr : Prop) (a : A) (r : R), pr → self a = some r → (hp : pr = allC (cnd P g') := by kernel_rfl) → (he : stp P g' = .pop .normal (.lp X s' J m n :: (stp P g).k) (stp P g').st := by kernel_rfl) → (hle : KLe ids (stp P g').st (s a r) := by exact kl) → KG S P F g') →
      body self a = some r → KG S P F (.code (loopB (stp P g)) (.lp X s' J m n :: (stp P g).k) (s a r))) (hp : pr = allC (cnd P g) := by kernel_rfl) (hl : isLoop (stp P g) = true := by kernel_rfl) (hle : KLe ids (stp P g).st (s a0 r0) := by exact kl) : KG S P F g := by
  refine ⟨J_go hS hc ?_ hp⟩
  rw [loop_eq hl]
  refine G_loop hS (X := Nat × A × R) (fun x => s x.2.1 x.2.2) (fun x => fix1 x.1 body x.2.1 = some x.2.2) (fun x => x.1) (N, a0, r0) ids hle.out h ?_
  rintro ⟨n, a, r⟩ hx
  cases n with
  | zero => cases hx
  | succ n =>
    exact (hr _ _ _ _ _ (fix1 n body) a r (fun g' ids pr a r hc hself hp he hle => ⟨J_go hS hc (by rw [he]; exact G_round hS (n, a, r) ids hle.out hself (Nat.lt_succ_self n)) hp⟩) hx).out
theorem K_fixY2 (hS : Good S P) (hc : pr) {R A B : Type} {body : (A → B → Option R) → A → B → Option R} {N : Nat} {a0 : A} {b0 : B} {r0 : R} (h : fix2 N body a0 b0 = some r0) (s : A → B → R → St) {ids : List (Nat × Nat)}
    (hr : ∀ (X : Type) (s' : X → St) (J : X → Prop) (m : X → Nat) (n : Nat) (self : A → B → Option R) (a : A) (b : B) (r : R),
      (∀ (g' : Cfg) (ids : List (Nat × Nat)) (pr : Prop) (a : A) (b : B) (r : R), pr → self a b = some r → (hp : pr = allC (cnd P g') := by kernel_rfl) → (he : stp P g' = .pop .normal (.lp X s' J m n :: (stp P g).k) (stp P g').st := by kernel_rfl) → (hle : KLe ids (stp P g').st (s a b r) := by exact kl) → KG S P F g') →
      body self a b = some r → KG S P F (.code (loopB (stp P g)) (.lp X s' J m n :: (stp P g).k) (s a b r))) (hp : pr = allC (cnd P g) := by kernel_rfl) (hl : isLoop (stp P g) = true := by kernel_rfl) (hle : KLe ids (stp P g).st (s a0 b0 r0) := by exact kl) : KG S P F g :=
  K_fixY1 hS hc h (fun x r => s x.1 x.2 r) (fun X s' J m n self a r hb => hr X s' J m n (fun a b => self (a, b)) a.1 a.2 r fun g' ids pr a b r h1 h2 h3 h4 h5 => hb g' ids pr (a, b) r h1 h2 h3 h4 h5) hp hl hle
theorem K_fixY3 (hS : Good S P) (hc : pr) {R A B C : Type} {body : (A → B → C → Option R) → A → B → C → Option R} {N : Nat} {a0 : A} {b0 : B} {c0 : C} {r0 : R} (h : fix3 N body a0 b0 c0 = some r0) (s : A → B → C → R → St) {ids : List (Nat × Nat)}
    (hr : ∀ (X : Type) (s' : X → St) (J : X → Prop) (m : X → Nat) (n : Nat) (self : A → B → C → Option R) (a : A) (b : B) (c : C) (r : R),
      (∀ (g' : Cfg) (ids : List (Nat × Nat)) (pr : Prop) (a : A) (b : B) (c : C) (r : R), pr → self a b c = some r → (hp : pr = allC (cnd P g') := by kernel_rfl) → (he : stp P g' = .pop .normal (.lp X s' J m n :: (stp P g).k) (stp P g').st := by kernel_rfl) → (hle : KLe ids (stp P g').st (s a b c r) := by exact kl) → KG S P F g') →
      body self a b c = some r → KG S P F (.code (loopB (stp P g)) (.lp X s' J m n :: (stp P g).k) (s a b c r))) (hp : pr = allC (cnd P g) := by kernel_rfl) (hl : isLoop (stp P g) = true := by kernel_rfl) (hle : KLe ids (stp P g).st (s a0 b0 c0 r0) := by exact kl) : KG S P F g :=
  K_fixY1 hS hc h (fun x r => s x.1 x.2.1 x.2.2 r) (fun X s' J m n self a r hb => hr X s' J m n (fun a b c => self (a, b, c)) a.1 a.2.1 a.2.2 r fun g' ids pr a b c r h1 h2 h3 h4 h5 => hb g' ids pr (a, b, c) r h1 h2 h3 h4 h5) hp hl hle
theorem K_startI (hS : Good S P) {f : FuncId} {fn : Func} {first caps : List AV} {objs : List Obj} {L : List (List PV)} (hf : P.funcs[f]? = some fn)
    (h : KG S P (fnPost S P (objs ++ [Obj.yld L true]).length fn.results.toList fun r objs' ks => ∃ b, objs'[objs.length]? = some (.yld [] b) ∧ ks[objs.length]? = some true ∧ ∃ a, r = .ret a) (.code (fn.body.getD .skip) [] { env := argEnv (first ++ .yf objs.length :: caps), regs := objRegs (objs ++ [Obj.yld L true]) }))
    (hc : fn.body.isSome = true := by kernel_rfl) (hn : Nat.ble (first ++ .yf objs.length :: caps).length fn.ntmps = true := by kernel_rfl) (ho : Nat.blt (objs ++ [Obj.yld L true]).length 1000 = true := by kernel_rfl)
    (hco : codeOk fn.ntmps (fn.body.getD .skip) = true := by kernel_rfl) (hnm : (fn.name == "runtime.NumGoroutine") = false := by kernel_rfl) : FunIt S f first caps objs L := by
  obtain ⟨code, hcode⟩ := Option.isSome_iff_exists.1 hc
  rw [hcode, Option.getD_some] at hco h
  exact fun_startP hS hf hcode (Nat.le_of_ble_eq_true hn) (by simpa [Nat.blt_eq] using ho) rfl hco hnm h.out
def rangeE (P : Program) (ids : List Nat) : Cfg → Option (FuncId × List AV × List AV × List Obj)
  | .code (.rangeFunc op _ _ _) _ st => match partsOf st.env op with
    | some (f, first, caps) => match P.funcs[f]?, objsOf ids st.regs ids, renL ids first, renL ids caps with
      | some fn, some objs, some as, some bs => if (fn.body.isSome && !(fn.name == "runtime.NumGoroutine") && noYld objs && nodupB ids && (objs.length == ids.length) && Nat.blt ids.length 1000) = true then some (f, as, bs, objs) else none
      | _, _, _, _ => none
    | none => none
  | _ => none
def rangeP : Cfg → Array Tmp
  | .code (.rangeFunc _ ps _ _) _ _ => ps
  | _ => #[]
def rangeA : Cfg → Code
  | .code (.rangeFunc _ _ a _) _ _ => a
  | _ => .skip
def rangeB : Cfg → Code
  | .code (.rangeFunc _ _ _ b) _ _ => b
  | _ => .skip
def rangeS (ids ts : List Nat) (g : Cfg) : St := ⟨envOf ts (ts.map (get g.st.env)), deaden ids (ids.map fun _ => false) g.st.regs⟩
def rst (gh : Nat) (t : St) : St := ⟨[], ins gh (.ghost (t.env.map (·.2))) t.regs⟩
def rstart (gh : Nat) (ps : Array Tmp) (ys : List PV) (t : St) : St := ⟨setPs ps.toList ys t.env, ins gh (.ghost (t.env.map (·.2))) t.regs⟩
def exitE : Cfg → AExit
  | .pop e _ _ => e
  | _ => .normal
def leaves : Cfg → Bool
  | .pop .ret [] _ => true
  | .pop (.exit _) [] _ => true
  | _ => false
theorem rget_ins' (regs : Regs) (d : Nat) (x : Obj) : rget (ins d x regs) d = some x := by
  induction regs with
  | nil => simp [ins, rget]
  | cons p r ih => obtain ⟨i, b⟩ := p; simp only [ins]; split; · simp [rget]
                   split; · simp [rget]
                   · rename_i h1 h2; simp only [rget, h2, if_false, ih]
theorem rst_ghost (gh : Nat) (t : St) : rget (rst gh t).regs gh = some (.ghost (t.env.map fun p => p.2)) := by unfold rst; exact rget_ins' _ _ _
theorem K_iter1 (hS : Good S P) (hc : pr) {f : FuncId} {as bs : List AV} {objs : List Obj} {R T A : Type} {enc : T → List PV} {L : List T} {mb : (A → Option R) → T → A → Option R} {mk : A → Option R} {a0 : A} {r : R}
    (ids ts : List Nat) (gh : Nat) (s : A → St) {idl : List (Nat × Nat)} (h : iter1 L mb mk a0 = some r) (hF : FunIt S f as bs objs (L.map enc))
    (hlen : ∀ t : T, (enc t).length = (rangeP (stp P g)).size) (hk : ∀ a, (s a).env.map (·.1) = ts) (hn : ∀ a, rget (s a).regs gh = none) (hb0 : ∀ a, (⟨envOf ts ((s a).env.map (·.2)), del gh (ins gh (.ghost ((s a).env.map (·.2))) (s a).regs)⟩ : St) = s a)
    (hround : ∀ (t : T) (next : St → Prop) (self : A → Option R) (a : A),
      (∀ (g' : Cfg) (ids : List (Nat × Nat)) (pr : Prop) (a : A), pr → self a = some r → (hp : pr = allC (cnd P g') := by kernel_rfl) → (he : stp P g' = .pop .normal [] (stp P g').st := by kernel_rfl) → (hle : KLe ids (stp P g').st (rst gh (s a)) := by exact kl) → KG S P (rpost S gh ts next (kp S P (stp P g).k F)) g') →
      mb self t a = some r → KG S P (asgPost S P (rangeB (stp P g)) gh ts next (kp S P (stp P g).k F)) (.code (rangeA (stp P g)) [] (rstart gh (rangeP (stp P g)) (enc t) (s a))))
    (hend : ∀ a, mk a = some r → KG S P F (.pop .normal (stp P g).k (s a)))
    (hp : pr = allC (cnd P g) := by kernel_rfl) (he : rangeE P ids (stp P g) = some (f, as, bs, objs) := by kernel_rfl) (hgh : Nat.blt gh 1000 = true := by kernel_rfl) (hng : rget (stp P g).st.regs gh = none := by kernel_rfl) (hts : nodupB ts = true := by kernel_rfl)
    (hle : KLe idl (rangeS ids ts (stp P g)) (s a0) := by exact kl) : KG S P F g := by
  refine ⟨J_go hS hc ?_ hp⟩
  generalize stp P g = g1 at hlen hround hend he hng hle
  unfold rangeE at he
  split at he
  · rename_i op ps asg body K st
    split at he
    · rename_i f' first caps hpo
      split at he
      · rename_i fn objs' as' bs' h1 h2 h3 h4
        split at he
        · rename_i hh
          simp only [Option.some.injEq, Prod.mk.injEq] at he
          obtain ⟨rfl, rfl, rfl, rfl⟩ := he
          simp only [Bool.and_eq_true, Bool.not_eq_true', beq_iff_eq] at hh
          obtain ⟨⟨⟨⟨⟨e1, e2⟩, e3⟩, e4⟩, e5⟩, e6⟩ := hh
          refine G_iter1 hS ids ts gh s idl h hF hpo ⟨fn, h1, e1, by simpa using e2⟩ h2 e3 e4 h3 h4 e5 hgh hng e6 hts hlen hle.out hk hn (fun t next self a hb hm => ?_) (fun a hm => (hend a hm).out)
          refine (hround t next self a (fun g' ids' pr a hc hself hp he hle => ⟨J_go hS hc ?_ hp⟩) hm).out
          rw [he]
          have hl : ((s a).env.map (·.2)).length = ts.length := by rw [← hk a]; simp
          refine hb _ (rst gh (s a)) ((s a).env.map fun p => p.2) ids' a hle.out (rst_ghost gh (s a)) hl ?_ (hb0 a) hself
          have := congrArg St.regs (hb0 a)
          simp only at this
          show rget (del gh (ins gh _ _)) gh = none
          rw [this]; exact hn a
        · cases he
      · cases he
    · cases he
  · cases he
def nilC (t : Nat) (a : AV) : Cfg → Cfg
  | .ops all rest K st => mkO (ins t a st.env) st.regs fun env regs => .ops all rest K ⟨env, regs⟩
  | g => g
theorem K_nil (hS : Good S P) (hc : pr) (t : Nat) {k n : Nat} {f : Nat → List PV} (h0 : n = 0 → KG S P F (nilC t (.p (.v (.slice none 0 0))) (stp P g))) (h1 : KG S P F (nilC t (.p (.sl true k n f)) (stp P g)))
    (hp : pr = allC (cnd P g) := by kernel_rfl) (ho : isOps (stp P g) = true := by kernel_rfl) (hg : get (stp P g).st.env t = .p (.sl false k n f) := by kernel_rfl) : KG S P F g := by
  refine ⟨J_go hS hc ?_ hp⟩
  generalize stp P g = g1 at h0 h1 ho hg
  unfold isOps at ho
  split at ho
  · refine G_nilO hS t hg (fun h => ?_) ?_
    · have := (h0 h).out
      simpa only [nilC, mkO_eq] using this
    · have := h1.out
      simpa only [nilC, mkO_eq] using this
  · cases ho
def frzC (j : Nat) (ps : List PV) : Cfg → Cfg
  | .code c K st => mkO (frzE j ps st.env) (ins j .dead st.regs) fun env regs => .code c K ⟨env, regs⟩
  | g => g
theorem K_frz (hS : Good S P) (hc : pr) (j : Nat) (ps : List PV) (hk : KG S P F (frzC j ps (stp P g))) (hp : pr = allC (cnd P g) := by kernel_rfl) (hd : isDrawn (stp P g) = true := by kernel_rfl) (hmix : P.follows .mixedOrders = true := by kernel_rfl)
    (hdep : depsOk (drawnSC (stp P g)).all = true := by kernel_rfl) (hr : rget (stp P g).st.regs j = some (.cells (ps.map .p)) := by kernel_rfl) : KG S P F g := by
  refine ⟨J_go hS hc ?_ hp⟩
  generalize stp P g = g1 at hk hd hdep hr
  unfold isDrawn at hd
  split at hd
  · rename_i id ops K st
    have hk := hk.out
    simp only [frzC, mkO_eq] at hk
    show awp S P (.region id ops true) (kp S P K F) st
    simp only [awp, if_true]
    have hk' : wDraw S P ops.toList (kp S P K F) ⟨frzE j ps st.env, ins j .dead st.regs⟩ := by
      have : awp S P (.region id ops true) (kp S P K F) ⟨frzE j ps st.env, ins j .dead st.regs⟩ := hk
      simpa only [awp, if_true] using this
    exact wDraw_up hS hmix hdep (hS.frz st j ps _ hr hk')
  · cases hd
def clsN (js : List Nat) : Nat → List Oper → List Cls
  | _, [] => []
  | i, o :: r => (if js.contains i then .n else clsP o.op) :: clsN js (i + 1) r
def drawnSCn (js : List Nat) : Cfg → SC
  | .code (.region _ ops true) _ st => ⟨ops.toList, clsN js 0 ops.toList, ops.toList, st.env, st.regs, []⟩
  | _ => ⟨[], [], [], [], [], []⟩
theorem K_drawnN (hS : Good S P) (hc : pr) (js : List Nat) (h : DG S P (drawnSCn js (stp P g)) fun env regs => KG S P F (.pop .normal (stp P g).k ⟨env, regs⟩)) (hp : pr = allC (cnd P g) := by kernel_rfl) (hd : isDrawn (stp P g) = true := by kernel_rfl) (hmix : P.follows .mixedOrders = true := by kernel_rfl)
    (hok : drawOk (drawnSCn js (stp P g)).all (drawnSCn js (stp P g)).cls = true := by kernel_rfl) : KG S P F g := by
  have e : (fun env regs => KG S P F (.pop .normal (stp P g).k ⟨env, regs⟩)) = fun env regs => G S P F (.pop .normal (stp P g).k ⟨env, regs⟩) := by
    funext env regs
    exact propext ⟨fun h => h.out, fun h => ⟨h⟩⟩
  rw [e] at h
  refine ⟨J_go hS hc ?_ hp⟩
  have h := h.out
  generalize stp P g = g' at hd hok h
  unfold isDrawn at hd
  split at hd
  · exact G_draw hS _ hmix hok h
  · cases hd
theorem K_asg (hS : Good S P) (hc : pr) {body : Code} {gh : Nat} {ts : List Nat} {next : St → Prop} {Q : Post} (h : KG S P (rpost S gh ts next Q) (.code body [] (stp P g).st)) (hp : pr = allC (cnd P g) := by kernel_rfl) (he : stp P g = .pop .normal [] (stp P g).st := by kernel_rfl) : KG S P (asgPost S P body gh ts next Q) g := by
  refine ⟨J_go hS hc ?_ hp⟩
  rw [he]
  exact G_asg hS h.out
theorem K_rleave (hS : Good S P) (hc : pr) {K : List It} {gh : Nat} {ts : List Nat} {next : St → Prop} (t : St) {ids : List (Nat × Nat)} (hk : KG S P F (.pop (exitE (stp P g)) K t)) (hp : pr = allC (cnd P g) := by kernel_rfl) (he : leaves (stp P g) = true := by kernel_rfl)
    (hle : KLe ids (stp P g).st (rst gh t) := by exact kl) (h1 : t.env.map (·.1) = ts := by kernel_rfl) (h2 : rget t.regs gh = none := by kernel_rfl) (h3 : (⟨envOf ts (t.env.map (·.2)), del gh (ins gh (.ghost (t.env.map (·.2))) t.regs)⟩ : St) = t := by kernel_rfl) : KG S P (rpost S gh ts next (kp S P K F)) g := by
  refine ⟨J_go hS hc ?_ hp⟩
  generalize stp P g = g1 at hk he hle
  have hl : (t.env.map (·.2)).length = ts.length := by rw [← h1]; simp
  have hd : rget (del gh (ins gh (.ghost (t.env.map (·.2))) t.regs)) gh = none := by
    have := congrArg St.regs h3
    simp only at this
    rw [this]; exact h2
  unfold leaves at he
  split at he
  · exact G_rleave hS trivial (rst gh t) ids hle.out (rst_ghost gh t) hl hd (by rw [show (⟨envOf ts (t.env.map (·.2)), del gh (rst gh t).regs⟩ : St) = t from h3]; exact hk.out)
  · exact G_rleave hS trivial (rst gh t) ids hle.out (rst_ghost gh t) hl hd (by rw [show (⟨envOf ts (t.env.map (·.2)), del gh (rst gh t).regs⟩ : St) = t from h3]; exact hk.out)
  · cases he
theorem rpost_up (hS : Good S P) {gh : Nat} {ts : List Nat} {next : St → Prop} {Q : Post} (s : St) (h : S.up s (rpost S gh ts next Q .normal)) : rpost S gh ts next Q .normal s := hS.trans _ _ h
end
end Go.AM
set_option linter.unusedVariables false
namespace Go.AM
theorem own_of_calls {P : Program} {f : FuncId} {args : List PV} {e : TypeId} {k n : Nat} {g : Nat → List PV} (hent : ∀ as w, (callFunc f as).run P w = .ok (.enter f as) w) (hk : ∀ i, i < n → (g i).length = k)
    (h : ∀ (w : World) (Pi : Nat → Nat → Prop) (vs : Array Value), (∀ b off, Pi b off → b < w.heap.size) → vs.size = args.length → (∀ i, i < args.length → RepP w Pi (vs.getD i undef) (args.getD i default)) →
      Calls P f vs w fun x w' => ∃ v, x = .returned v ∧ RowKit.Below w.heap.size w w' ∧ ((v = .slice none 0 0 ∧ n = 0) ∨ ∃ b cap c, v = .slice (some ⟨b, 0, none⟩) n cap ∧ w.heap.size ≤ b ∧ w'.heap[b]? = some (.cells c e (0, 0)) ∧ n ≤ cap ∧ c.size = cap * k ∧ cap ≤ maxLen ∧
        ∀ i j, i < n → j < k → RepP w Pi (c.getD (i * k + j) undef) ((g i).getD j default) ∧ (c.getD (i * k + j) undef).oneCell' = true)) : FunO (sems P) f (args.map .p) [] (.vec 0) [.vec e k n g true] [] := by
  intro 𝒢 C w vs rho hG hs hsz
  have hno0 : ∀ j, rget (objRegs []) j = none := fun j => by simp [objRegs, objRegs.go, rget]
  have h0 := h w (Prv C.X (rget (objRegs [])) rho) vs (fun b off hp => by
    rcases hp with hp | ⟨j, o, hj, _⟩
    · exact hs.hp.bound b off hp
    · simp [hno0] at hj) (by simpa using hsz) (fun i hi => by
    have := hs.env i
    rw [argEnv_get] at this
    have e : (args.map AV.p).getD i .top = .p (args.getD i default) := by simp [hi]
    rw [e] at this
    exact this.toP)
  refine ⟨_, _, hent _ _, callsIn_wide.2 (h0.mono ?_)⟩
  rintro x w' ⟨v, rfl, hb, hv⟩
  have hR : ∀ j o, rget (objRegs [Obj.vec e k n g true]) j = some o → j = 0 ∧ o = .vec e k n g true := fun j o hj => by
    simp only [objRegs, objRegs.go, rget] at hj
    split at hj
    · rename_i hj0; cases hj; exact ⟨hj0.symm, rfl⟩
    · cases hj
  have hR0 : rget (objRegs [Obj.vec e k n g true]) 0 = some (.vec e k n g true) := rfl
  let rho' : Nat → Value := fun j => if j = 0 then v else rho j
  have hr0 : rho' 0 = v := rfl
  have hblk : ∀ b, blkO v (.vec e k n g true) = some b → w.heap.size ≤ b ∧ b < w'.heap.size := by
    intro b hbv
    rcases hv with ⟨rfl, _⟩ | ⟨b', cap, c, rfl, h1, h2, _⟩
    · cases hbv
    · cases hbv; exact ⟨h1, (Array.getElem?_eq_some_iff.1 h2).1⟩
  have hprv : ∀ b o, Prv C.X (rget (objRegs [Obj.vec e k n g true])) rho' b o → C.X b o ∨ w.heap.size ≤ b := by
    rintro b o (hX | ⟨j, o', hj, hbo, _⟩)
    · exact .inl hX
    · obtain ⟨rfl, rfl⟩ := hR j o' hj; exact .inr (hblk b hbo).1
  have hkeep : Keeps w (Prv C.X (rget (objRegs [])) rho) w' (Prv C.X (rget (objRegs [Obj.vec e k n g true])) rho') := fun b o u hp hc => by
    have hlt := World.block_lt_of_cell? w ⟨b, o, none⟩ hc
    refine ⟨by rw [← hc]; exact World.cell?_of_block (hb.block b hlt), fun hpp => ?_⟩
    rcases hprv b o hpp with hX | hge
    · exact hp (.inl hX)
    · have : b < w.heap.size := hlt
      omega
  refine ⟨C, .ret (.vec 0), [.vec e k n g true], [], rho', hG, ⟨rfl, rfl, rfl⟩, ?_, ⟨v, rfl, ?_⟩, fun i hi => by simp at hi⟩
  · refine ⟨⟨fun j o hj => ?_, fun i j oi oj b hi hj _ _ => by rw [(hR i oi hi).1, (hR j oj hj).1], fun j o b off hj hbo hX => ?_, fun b off hp => Nat.lt_of_lt_of_le (hs.hp.bound b off hp) hb.size⟩, hs.ext.trans ⟨hb.os, hb.output⟩, Nat.le_trans hs.size hb.size, fun b hlt hE => ?_, hs.keep.trans hkeep, fun b hbo => ?_, fun j r b hj => by cases (hR j _ hj).2⟩
    · obtain ⟨rfl, rfl⟩ := hR j o hj
      rw [hr0]
      rcases hv with hn | ⟨b, cap, c, rfl, h1, h2, h3, h4, h5, h6⟩
      · exact .inl hn
      · exact .inr ⟨b, cap, c, rfl, h2, h3, h4, h5, hk, fun i j hi hj => ⟨(h6 i j hi hj).1.keeps hkeep, (h6 i j hi hj).2⟩⟩
    · obtain ⟨rfl, rfl⟩ := hR j o hj
      have h1 := (hblk b hbo).1
      have h2 := hs.hp.bound b off hX
      omega
    · rw [hb.block b (Nat.lt_of_lt_of_le hlt hs.size)]; exact hs.same b hlt hE
    · obtain ⟨j, o, hj, hbo⟩ := hbo
      obtain ⟨rfl, rfl⟩ := hR j o hj
      exact .inr (Nat.le_trans hs.size (hblk b hbo).1)
  · rcases hv with ⟨rfl, _⟩ | ⟨b, cap, c, rfl, _⟩
    · exact .vec 0 none 0 0 (by simp [Lv, hR0]) rfl
    · exact .vec 0 _ n cap (by simp [Lv, hR0]) rfl
end Go.AM