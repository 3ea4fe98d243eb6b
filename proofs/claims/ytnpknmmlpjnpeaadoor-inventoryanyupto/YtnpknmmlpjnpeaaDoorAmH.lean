/- What a law's walk and its plain proof need, part 8: no condition of its own. -/
import Derived.Test.YtnpknmmlpjnpeaaDoorAmF
import Derived.Test.YtnpknmmlpjnpeaaDoorAmG
import Derived.Test.YtnpknmmlpjnpeaaDoorAmE
set_option linter.unusedSimpArgs false
set_option linter.unusedVariables false
set_option linter.unusedSectionVars false
set_option linter.unusedVariables false
namespace Go.AM
open Go.Proofs
abbrev fnd (n : Nat) (p : Nat → Bool) : Option Nat := (List.range n).find? p
theorem fnd_lt {n : Nat} {p : Nat → Bool} {i : Nat} (h : fnd n p = some i) : i < n := List.mem_range.1 (List.mem_of_find?_eq_some h)
theorem fnd_p {n : Nat} {p : Nat → Bool} {i : Nat} (h : fnd n p = some i) : p i = true := List.find?_some h
theorem fnd_none {n : Nat} {p : Nat → Bool} (h : fnd n p = none) {i : Nat} (hi : i < n) : p i = false := by
  have := List.find?_eq_none.1 h i (List.mem_range.2 hi)
  simpa using this
theorem alook_mapI {κ : Type} (eq : κ → κ → Bool) (f : Nat → κ) (z : κ) : ∀ l : List Nat, alook eq z (l.map fun i => (f i, (i : Int))) = (l.find? fun i => eq z (f i)).map fun i => ((i : Nat) : Int)
  | [] => rfl
  | a :: l => by
    simp only [List.map_cons, alook, List.find?_cons]
    cases h : eq z (f a)
    · simp only [Bool.false_eq_true, if_false]; exact alook_mapI eq f z l
    · simp
def symL (s : Sl Named) (k : Nat) : List (Str × Int) := (List.range k).map fun i => ((s.g i).Symbol, (i : Int))
def valL (s : Sl Named) (k : Nat) : List (Sound × Int) := (List.range k).map fun i => ((s.g i).S, (i : Int))
theorem alook_symL (s : Sl Named) (z : Str) (k : Nat) : alook eqS z (symL s k) = (fnd k fun i => z == (s.g i).Symbol).map fun i => ((i : Nat) : Int) := alook_mapI eqS _ z _
theorem alook_valL (s : Sl Named) (z : Sound) (k : Nat) : alook eq_Sound z (valL s k) = (fnd k fun i => eq_Sound z (s.g i).S).map fun i => ((i : Nat) : Int) := alook_mapI eq_Sound _ z _
structure IOk (v : O_inventory_Inv) : Prop where
  number : v.number = numL v.feats v.feats.n
  symbols : v.symbols = symL v.sounds v.sounds.n
  values : v.values = valL v.sounds v.sounds.n
  feats : v.feats.n ≤ 24
  sounds : v.sounds.n ≤ 256
  sym : ∀ i, i < v.sounds.n → 1 ≤ (v.sounds.g i).Symbol.length ∧ (v.sounds.g i).Symbol.length ≤ 4
theorem eqSnd (a b : Sound) : eq_Sound a b = decide (a = b) := by
  rw [Bool.eq_iff_iff]
  cases a; cases b
  simp only [eq_Sound, Bool.and_eq_true, beq_iff_eq, decide_eq_true_eq, Sound.mk.injEq]
def sndAt (s : Sl Named) : Option Nat → Sound × Bool
  | some i => ((s.g i).S, true)
  | none => (⟨0, 0⟩, false)
def symAt (s : Sl Named) : Option Nat → Str × Bool
  | some i => ((s.g i).Symbol, true)
  | none => ([], false)
theorem sndAt_2 (s : Sl Named) (o : Option Nat) : (sndAt s o).2 = o.isSome := by cases o <;> rfl
theorem symAt_2 (s : Sl Named) (o : Option Nat) : (symAt s o).2 = o.isSome := by cases o <;> rfl
theorem iSound_eq {N : Nat} {v : O_inventory_Inv} (h : IOk v) (z : Str) : m_inventory_Inv_Sound N v z = some (sndAt v.sounds (fnd v.sounds.n fun i => z == (v.sounds.g i).Symbol)) := by
  unfold m_inventory_Inv_Sound
  rw [h.symbols, alook_symL]
  simp only [m_inventory_Inv_made, Option.bind_some]
  rw [if_neg (by simp)]
  cases e : fnd v.sounds.n fun i => z == (v.sounds.g i).Symbol with
  | none => rfl
  | some i =>
    have := fnd_lt e
    simp only [Option.map_some, optE_some]
    rw [if_pos (by omega)]
    rfl
theorem iSymbol_eq {N : Nat} {v : O_inventory_Inv} (h : IOk v) (z : Sound) : m_inventory_Inv_Symbol N v z = some (symAt v.sounds (fnd v.sounds.n fun i => decide (z = (v.sounds.g i).S))) := by
  unfold m_inventory_Inv_Symbol
  rw [h.values, alook_valL]
  simp only [m_inventory_Inv_made, Option.bind_some, eqSnd]
  rw [if_neg (by simp)]
  cases e : fnd v.sounds.n fun i => decide (z = (v.sounds.g i).S) with
  | none => rfl
  | some i =>
    have := fnd_lt e
    simp only [Option.map_some, optE_some]
    rw [if_pos (by omega)]
    rfl
theorem rSound_eq {N : Nat} (v : O_ablautref03_Inv) (hm : v.Made = true) (z : Str) (hn : v.S.n < N) (hn2 : v.S.n < 1000000000) :
    m_ablautref03_Inv_Sound N v z = some (sndAt v.S (fnd v.S.n fun i => z == (v.S.g i).Symbol)) := by
  unfold m_ablautref03_Inv_Sound
  simp only [m_ablautref03_Inv_made, hm, Option.bind_some]
  rw [if_neg (by simp)]
  refine (loop_st (fun i : Nat => (i : Int)) (fun i => !(z == (v.S.g i).Symbol)) v.S.n (some (⟨0, 0⟩, false)) (fun i => some ((v.S.g i).S, true)) (fun self i hi _ => ?_) N 0 (by omega) (fun j hj => by omega) (by omega)).trans ?_
  · by_cases h : i < v.S.n
    · rw [if_pos (by simp only [decide_eq_true_eq]; omega), if_pos (by omega), if_pos h, wrap64_succ (by omega), show ((i : Int)).toNat = i from rfl]
      by_cases e : (v.S.g i).Symbol = z
      · simp [e]; omega
      · simp [e, Ne.symm e]
    · rw [if_neg (by simp only [decide_eq_true_eq]; omega), if_neg h]
  · simp only [Bool.not_not, fnd]
    cases (List.range v.S.n).find? fun i => z == (v.S.g i).Symbol <;> rfl
theorem rSymbol_eq {N : Nat} (v : O_ablautref03_Inv) (hm : v.Made = true) (z : Sound) (hn : v.S.n < N) (hn2 : v.S.n < 1000000000) :
    m_ablautref03_Inv_Symbol N v z = some (symAt v.S (fnd v.S.n fun i => decide (z = (v.S.g i).S))) := by
  unfold m_ablautref03_Inv_Symbol
  simp only [m_ablautref03_Inv_made, hm, Option.bind_some]
  rw [if_neg (by simp)]
  refine (loop_st (fun i : Nat => (i : Int)) (fun i => !decide (z = (v.S.g i).S)) v.S.n (some ([], false)) (fun i => some ((v.S.g i).Symbol, true)) (fun self i hi _ => ?_) N 0 (by omega) (fun j hj => by omega) (by omega)).trans ?_
  · by_cases h : i < v.S.n
    · rw [if_pos (by simp only [decide_eq_true_eq]; omega), if_pos (by omega), if_pos h, wrap64_succ (by omega), show ((i : Int)).toNat = i from rfl]
      have e0 : ((((v.S.g i).S.Plus == z.Plus) && ((v.S.g i).S.Minus == z.Minus)) != false) = decide (z = (v.S.g i).S) := by
        have := eqSnd z (v.S.g i).S
        rw [← this]; simp only [eq_Sound, Bool.bne_false]; rw [Bool.eq_iff_iff]; simp only [Bool.and_eq_true, beq_iff_eq]; omega
      rw [e0]
      by_cases e : z = (v.S.g i).S
      · simp [e]; omega
      · simp [e]
    · rw [if_neg (by simp only [decide_eq_true_eq]; omega), if_neg h]
  · simp only [Bool.not_not, fnd]
    cases (List.range v.S.n).find? fun i => decide (z = (v.S.g i).S) <;> rfl
theorem iFeat_eq {N : Nat} {v : O_inventory_Inv} (h : v.number = numL v.feats v.feats.n) (z : Str) : m_inventory_Inv_Feat N v z = some (match fpos v.feats z with | some i => ((i : Int), true) | none => (0, false)) := by
  unfold m_inventory_Inv_Feat
  rw [h, alook_numL]
  simp only [m_inventory_Inv_made, Option.bind_some]
  rw [if_neg (by simp)]
  cases fpos v.feats z <;> rfl
theorem iFeats_eq {N : Nat} (v : O_inventory_Inv) (h : v.feats.n ≤ 1000000) : m_inventory_Inv_Feats N v = some v.feats := by
  unfold m_inventory_Inv_Feats
  simp only [m_inventory_Inv_made, m_slices_Clone_sl_string_string, Option.bind_some]
  rw [if_neg (by simp), if_pos (by omega)]; rfl
theorem iSounds_eq {N : Nat} (v : O_inventory_Inv) (h : v.sounds.n ≤ 1000000) : m_inventory_Inv_Sounds N v = some v.sounds := by
  unfold m_inventory_Inv_Sounds
  simp only [m_inventory_Inv_made, m_slices_Clone_sl_api_Named_api_Named, Option.bind_some]
  rw [if_neg (by simp), if_pos (by omega)]; rfl
theorem iLen_eq {N : Nat} (v : O_inventory_Inv) : m_inventory_Inv_Len N v = some ((v.sounds.n : Nat) : Int) := by
  unfold m_inventory_Inv_Len
  simp [m_inventory_Inv_made]
theorem app_nil' {α : Type} [Inhabited α] (s : Sl α) : (Sl.of [] : Sl α).app s = s := by
  obtain ⟨n, g⟩ := s
  simp [Sl.of, Sl.app]
theorem rFeats_eq {N : Nat} (v : O_ablautref03_Inv) (hm : v.Made = true) (h : v.F.n ≤ 1000000) : m_ablautref03_Inv_Feats N v = some v.F := by
  unfold m_ablautref03_Inv_Feats
  simp only [m_ablautref03_Inv_made, hm, Option.bind_some, app_nil']
  rw [if_neg (by simp), if_pos (by simp only [Sl.of, List.length_nil]; omega)]
theorem rSounds_eq {N : Nat} (v : O_ablautref03_Inv) (hm : v.Made = true) (h : v.S.n ≤ 1000000) : m_ablautref03_Inv_Sounds N v = some v.S := by
  unfold m_ablautref03_Inv_Sounds
  simp only [m_ablautref03_Inv_made, hm, Option.bind_some, app_nil']
  rw [if_neg (by simp), if_pos (by simp only [Sl.of, List.length_nil]; omega)]
theorem rLen_eq {N : Nat} (v : O_ablautref03_Inv) (hm : v.Made = true) (h : v.S.n ≤ 1000000) : m_ablautref03_Inv_Len N v = some ((v.S.n : Nat) : Int) := by
  unfold m_ablautref03_Inv_Len
  rw [rSounds_eq v hm h]; rfl
end Go.AM
set_option linter.unusedVariables false
namespace Go.AM
open Go.Proofs
theorem eqStrs_refl {N : Nat} (s : Sl Str) (hn : s.n < N) (h2 : s.n < 1000000000) : m_slices_Equal_sl_string_string N s s = some true := by
  unfold m_slices_Equal_sl_string_string
  rw [if_neg (by simp)]
  refine loop_end (fun i : Nat => (i : Int)) s.n (some true) hn fun self i hi => ?_
  by_cases h : i < s.n
  · rw [if_pos (by simp only [decide_eq_true_eq]; omega), if_pos (by omega), if_neg (by simp), if_pos h, wrap64_succ (by omega)]
  · rw [if_neg (by simp only [decide_eq_true_eq]; omega), if_neg h]
theorem eqNamed_of {N : Nat} (s t : Sl Named) (hst : s.n = t.n) (hg : ∀ i, i < s.n → s.g i = t.g i) (hn : s.n < N) (h2 : s.n < 1000000000) : m_slices_Equal_sl_api_Named_api_Named N s t = some true := by
  unfold m_slices_Equal_sl_api_Named_api_Named
  rw [if_neg (by simp [hst])]
  refine loop_end (fun i : Nat => (i : Int)) s.n (some true) hn fun self i hi => ?_
  by_cases h : i < s.n
  · rw [if_pos (by simp only [decide_eq_true_eq]; omega), if_pos (by omega), show ((i : Int)).toNat = i from rfl, hg i h, if_neg (by simp), if_pos h, wrap64_succ (by omega)]
  · rw [if_neg (by simp only [decide_eq_true_eq]; omega), if_neg h]
theorem eqNamed_refl {N : Nat} (s : Sl Named) (hn : s.n < N) (h2 : s.n < 1000000000) : m_slices_Equal_sl_api_Named_api_Named N s s = some true := eqNamed_of s s rfl (fun _ _ => rfl) hn h2
theorem bind_ok {α β : Type} {x : Option α} {a : α} {f : α → Option β} (h : x = some a) : x.bind f = f a := by rw [h]; rfl
theorem News_eq (s : Sl Str) (t : Str) (hn : s.n < 2097152) (hs : sumS s s.n < 2097152) (ht : t.length < 2097152) : m_ablautlaw03_InventoryNews NN s t = some true := by
  have hNN : NN = 4194304 := rfl
  unfold m_ablautlaw03_InventoryNews
  rw [few1_eq s t (by omega) (by omega) (by omega) (by omega) (by omega), works_N]
  simp only [Option.bind_some]
  by_cases hf : few1B s t = true
  · rw [if_neg (by simp [hf])]
    simp only [few1B, Bool.and_eq_true, decide_eq_true_eq] at hf
    have hl : ∀ i, i < s.n → (s.g i).length < 1000000 := fun i hi => by
      have := len_le_sumS s hi
      omega
    rw [both_eq s (by omega) hl]
    have hc : m_slices_Clone_sl_string_string NN s = some s := by
      unfold m_slices_Clone_sl_string_string
      rw [if_pos (by omega)]
    have hp : (s.push t).n = s.n + 1 := rfl
    have ho : (Sl.of [t] : Sl Str).n = 1 := rfl
    simp only [hc, Option.bind_some, eqStrs_refl s (show s.n < NN by omega) (by omega)]
    by_cases h0 : newE s = 0
    · obtain ⟨h1, h2⟩ := newE_ok h0
      simp only [h0, if_true, optE_some, app_nil, lt]
      rw [if_neg (by simp), if_neg (by simp), if_pos (by simp only [List.length_cons, List.length_nil]; omega)]
      refine loop_end (fun i : Nat => (i : Int)) (s.n + 1) (some true) (by omega) fun self i hi => ?_
      by_cases h : i < s.n + 1
      · rw [if_pos (by simp only [decide_eq_true_eq]; omega), if_pos (by omega), if_pos h, iFeat_eq rfl, rFeat_eq _ rfl _ (show s.n < NN by omega) (show s.n < 1000000000 by omega), wrap64_succ (by omega)]
        simp only [Option.bind_some]
        cases fpos s ((s.push t).g ((i : Int)).toNat) <;> simp
      · rw [if_neg (by simp only [decide_eq_true_eq]; omega), if_neg h, iFeats_eq _ (show s.n ≤ 1000000 by omega), rFeats_eq _ rfl (show s.n ≤ 1000000 by omega), iLen_eq]
        simp [eqStrs_refl s (show s.n < NN by omega) (by omega)]
    · simp only [h0, if_false, optE_none, lt, m_inventory_Inv_Feat_nil, m_inventory_Inv_made_nil, m_ablautref03_Inv_Feat_nil, m_ablautref03_Inv_made_nil, Option.bind_some]
      rw [if_neg (by simp), if_neg (by simp), if_pos (by simp only [List.length_cons, List.length_nil]; omega)]
      refine loop_end (fun i : Nat => (i : Int)) (s.n + 1) (some true) (by omega) fun self i hi => ?_
      by_cases h : i < s.n + 1
      · rw [if_pos (by simp only [decide_eq_true_eq]; omega), if_pos (by omega), if_pos h, wrap64_succ (by omega)]
        simp
      · rw [if_neg (by simp only [decide_eq_true_eq]; omega), if_neg h]
        simp only [m_inventory_Inv_Feats_nil, m_ablautref03_Inv_Feats_nil, m_inventory_Inv_Len_nil, m_inventory_Inv_made_nil, m_ablautref03_Inv_made_nil, Option.bind_some]
        simp [eqStrs_refl (Sl.nil : Sl Str) (show (Sl.nil : Sl Str).n < NN from by show 0 < NN; omega) (by show 0 < _; omega)]
  · rw [if_pos (by simpa using hf)]
end Go.AM
set_option linter.unusedVariables false
namespace Go.AM
open Go.RowKit Go.ChangeShapes Go.WideShapes Go.ChangeAt Go.Deep Go.Proofs Go.Proofs.YtnpknmmlpjnpeaaDoor
set_option maxRecDepth 100000
def wf_Sound (x : Sound) : Prop := ((Lit.int .u32 x.Plus).wf = true) ∧ ((Lit.int .u32 x.Minus).wf = true)
def sz_Sound (x : Sound) : Nat := 1 + 1 + 1
theorem opens_Sound : Opens Tryd.prog t_api_Sound c_Sound wf_Sound sz_Sound := by
  intro m pvs h
  obtain ⟨m0, h, hm0⟩ := shape_struct Tryd.underlying31 h
  obtain ⟨a0, b0, p0, q0, rfl, h0, h, hm1⟩ := shapeL_cons h
  obtain ⟨x0, l0, w0, s0⟩ := (opens_int Tryd.underlying29) _ _ h0
  have s0 : 1 ≤ a0 := s0
  obtain ⟨a1, b1, p1, q1, rfl, h1, h, hm2⟩ := shapeL_cons h
  obtain ⟨x1, l1, w1, s1⟩ := (opens_int Tryd.underlying29) _ _ h1
  have s1 : 1 ≤ a1 := s1
  obtain rfl := shapeL_nil h
  exact ⟨⟨x0, x1⟩, (LeDs.append l0 (LeDs.append l1 LeDs.nil)), ⟨w0, w1⟩, by simp only [sz_Sound]; omega⟩
def wf_Step (x : Step) : Prop := (True) ∧ (wf_Sound x.S)
def sz_Step (x : Step) : Nat := (x.Symbol.length + 1) + sz_Sound x.S + 1
theorem opens_Step : Opens Tryd.prog t_ablautlaw03_Step c_Step wf_Step sz_Step := by
  intro m pvs h
  obtain ⟨m0, h, hm0⟩ := shape_struct Tryd.underlying72 h
  obtain ⟨a0, b0, p0, q0, rfl, h0, h, hm1⟩ := shapeL_cons h
  obtain ⟨x0, l0, w0, s0⟩ := (opens_str Tryd.underlying9) _ _ h0
  have s0 : (x0.length + 1) ≤ a0 := s0
  obtain ⟨a1, b1, p1, q1, rfl, h1, h, hm2⟩ := shapeL_cons h
  obtain ⟨x1, l1, w1, s1⟩ := opens_Sound _ _ h1
  have s1 : sz_Sound x1 ≤ a1 := s1
  obtain rfl := shapeL_nil h
  exact ⟨⟨x0, x1⟩, (LeDs.append l0 (LeDs.append l1 LeDs.nil)), ⟨w0, w1⟩, by simp only [sz_Step]; omega⟩
end Go.AM
set_option linter.unusedVariables false
namespace Go.AM
theorem sumF_str (s : Sl Str) : ∀ n, sumF (fun i => (s.g i).length + 1) n = n + sumS s n
  | 0 => rfl
  | n + 1 => by simp only [sumF, sumF_str s n, sumS]; omega
theorem wf_sOf {x : Sound} (h : wf_Sound x) : ∃ p q : BitVec 32, x = sOf p q := by
  have one : ∀ n : Int, (Lit.int .u32 n).wf = true → ∃ p : BitVec 32, n = (p.toNat : Int) := fun n hw => by
    simp only [Lit.wf, IntKind.min, IntKind.max, IntKind.signed, IntKind.bits, Bool.and_eq_true, decide_eq_true_eq] at hw
    refine ⟨BitVec.ofNat 32 n.toNat, ?_⟩
    rw [BitVec.toNat_ofNat]
    have h0 : 0 ≤ n := by have := hw.1; simpa using this
    have h1 : n < 4294967296 := by have := hw.2; simp at this; omega
    rw [Nat.mod_eq_of_lt (by omega), Int.toNat_of_nonneg h0]
  obtain ⟨p, hp⟩ := one _ h.1
  obtain ⟨q, hq⟩ := one _ h.2
  exact ⟨p, q, by cases x; simp_all⟩
theorem wf_u8 {n : Int} (h : (Lit.int .u8 n).wf = true) : ∃ k : Nat, n = (k : Int) ∧ k < 256 := by
  simp only [Lit.wf, IntKind.min, IntKind.max, IntKind.signed, IntKind.bits, Bool.and_eq_true, decide_eq_true_eq] at h
  have h0 : 0 ≤ n := by have := h.1; simpa using this
  have h1 : n < 256 := by have := h.2; simp at this; omega
  exact ⟨n.toNat, by omega, by omega⟩
theorem sz_steps {l : Sl Step} {m : Nat} (h : sumF (fun i => sz_Step (l.g i)) l.n + 1 ≤ m) : l.n < m ∧ ∀ i, i < l.n → (l.g i).Symbol.length < m := by
  have h1 : ∀ n, n ≤ sumF (fun i => sz_Step (l.g i)) n := by
    intro n
    induction n with
    | zero => exact Nat.zero_le _
    | succ n ih =>
      have : 1 ≤ sz_Step (l.g n) := by simp only [sz_Step]; omega
      show n + 1 ≤ sumF (fun i => sz_Step (l.g i)) n + sz_Step (l.g n)
      omega
  refine ⟨by have := h1 l.n; omega, fun i hi => ?_⟩
  have h2 := le_sumF (fun i => sz_Step (l.g i)) hi
  have h3 : (l.g i).Symbol.length + 1 ≤ sz_Step (l.g i) := by simp only [sz_Step]; omega
  have h4 : sz_Step (l.g i) ≤ sumF (fun i => sz_Step (l.g i)) l.n := h2
  omega
theorem sz_sumY {l : Sl Step} {m : Nat} (h : sumF (fun i => sz_Step (l.g i)) l.n + 1 ≤ m) : sumF (fun i => (l.g i).Symbol.length) l.n < m := by
  have := sumF_mono (n := l.n) (f := fun i => (l.g i).Symbol.length) (g := fun i => sz_Step (l.g i)) fun i _ => by simp only [sz_Step]; omega
  omega
end Go.AM