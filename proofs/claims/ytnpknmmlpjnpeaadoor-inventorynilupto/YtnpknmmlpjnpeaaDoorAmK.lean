/- What a law's walk and its plain proof need, part 11: no condition of its own. -/
import Derived.Test.YtnpknmmlpjnpeaaDoorAmJ
set_option linter.unusedSimpArgs false
set_option linter.unusedVariables false
set_option linter.unusedSectionVars false
set_option linter.unusedVariables false
namespace Go.AM
open Go.Proofs
def Dist (s : Sl Named) : Prop := ∀ i j, i < s.n → j < s.n → ((s.g i).Symbol = (s.g j).Symbol ∨ (s.g i).S = (s.g j).S) → i = j
theorem addS_none {n : Nat} {l : Sl Named} {z : Str} {s : Sound} (hs : okS s) (h : addS n l z s = 0) : ∀ i, i < l.n → z ≠ (l.g i).Symbol ∧ s ≠ (l.g i).S := by
  intro i hi
  unfold addS addE at h
  split at h
  · split at h
    · split at h
      · cases h
      · rename_i h1
        have hn : fnd l.n (fun i => z == (l.g i).Symbol || decide (sOf (BitVec.ofInt 32 s.Plus) (BitVec.ofInt 32 s.Minus) = (l.g i).S)) = none := by
          cases e : fnd l.n (fun i => z == (l.g i).Symbol || decide (sOf (BitVec.ofInt 32 s.Plus) (BitVec.ofInt 32 s.Minus) = (l.g i).S)) with
          | none => rfl
          | some j => rw [e] at h1; exact absurd rfl h1
        have := fnd_none hn hi
        rw [← hs] at this
        simpa using this
    · cases h
  · cases h
theorem addS_some {n : Nat} {l : Sl Named} {z : Str} {s : Sound} (hs : okS s) {i : Nat} (hi : i < l.n) (h : z = (l.g i).Symbol ∨ s = (l.g i).S) : addS n l z s ≠ 0 := fun h0 => by
  have := addS_none hs h0 i hi
  rcases h with h | h
  · exact this.1 h
  · exact this.2 h
theorem grV_dist (l : Sl Step) (hw : ∀ i, i < l.n → okS (l.g i).S) : ∀ i, i ≤ l.n → Dist (grV l i).sounds
  | 0, _ => fun i j hi => by have : i < 0 := hi; omega
  | k + 1, hk => by
    have ih := grV_dist l hw k (by omega)
    simp only [grV]
    split
    · rename_i h0
      have hn := addS_none (hw k (by omega)) h0
      intro i j hi hj h
      have hi : i < (grV l k).sounds.n + 1 := hi
      have hj : j < (grV l k).sounds.n + 1 := hj
      have h : ((if i < (grV l k).sounds.n then (grV l k).sounds.g i else (⟨(l.g k).Symbol, (l.g k).S⟩ : Named)).Symbol = (if j < (grV l k).sounds.n then (grV l k).sounds.g j else (⟨(l.g k).Symbol, (l.g k).S⟩ : Named)).Symbol) ∨
        ((if i < (grV l k).sounds.n then (grV l k).sounds.g i else (⟨(l.g k).Symbol, (l.g k).S⟩ : Named)).S = (if j < (grV l k).sounds.n then (grV l k).sounds.g j else (⟨(l.g k).Symbol, (l.g k).S⟩ : Named)).S) := h
      by_cases h1 : i < (grV l k).sounds.n
      · by_cases h2 : j < (grV l k).sounds.n
        · rw [if_pos h1, if_pos h2] at h
          exact ih i j h1 h2 h
        · rw [if_pos h1, if_neg h2] at h
          have := hn i h1
          rcases h with h | h
          · exact absurd h.symm this.1
          · exact absurd h.symm this.2
      · by_cases h2 : j < (grV l k).sounds.n
        · rw [if_neg h1, if_pos h2] at h
          have := hn j h2
          rcases h with h | h
          · exact absurd h this.1
          · exact absurd h this.2
        · omega
    · exact ih
theorem fnd_self {n i : Nat} {p : Nat → Bool} (hi : i < n) (hp : p i = true) (hq : ∀ j, j < n → p j = true → j = i) : fnd n p = some i := by
  cases e : fnd n p with
  | none => have := fnd_none e hi; rw [hp] at this; cases this
  | some j => rw [hq j (fnd_lt e) (fnd_p e)]
theorem grV_okS (l : Sl Step) (hw : ∀ i, i < l.n → okS (l.g i).S) : ∀ i, i ≤ l.n → ∀ j, j < (grV l i).sounds.n → okS ((grV l i).sounds.g j).S
  | 0, _, j, hj => by have : j < 0 := hj; omega
  | k + 1, hk, j, hj => by
    have ih := grV_okS l hw k (by omega)
    simp only [grV] at hj ⊢
    split at hj
    · rename_i h0
      rw [if_pos h0]
      show okS (if j < (grV l k).sounds.n then (grV l k).sounds.g j else (⟨(l.g k).Symbol, (l.g k).S⟩ : Named)).S
      split
      · exact ih j ‹_›
      · exact hw k (by omega)
    · rename_i h0
      rw [if_neg h0]; exact ih j hj
def isB (s : Sl Named) (z : Str) (k : Nat) : Bool := (List.range k).any fun j => (s.g j).Symbol == z
def knB (s : Sl Named) (x : Sound) (k : Nat) : Bool := (List.range k).any fun j => decide ((s.g j).S = x)
theorem isB_succ (s : Sl Named) (z : Str) (k : Nat) : isB s z (k + 1) = (isB s z k || ((s.g k).Symbol == z)) := by simp [isB, List.range_succ]
theorem knB_succ (s : Sl Named) (z : Sound) (k : Nat) : knB s z (k + 1) = (knB s z k || decide ((s.g k).S = z)) := by simp [knB, List.range_succ]
theorem isB_fnd (s : Sl Named) (z : Str) (k : Nat) : (fnd k fun i => z == (s.g i).Symbol).isSome = isB s z k := by
  rw [Bool.eq_iff_iff]
  simp only [fnd, List.find?_isSome, isB, List.any_eq_true, beq_iff_eq]
  constructor
  · rintro ⟨i, h1, h2⟩; exact ⟨i, h1, h2.symm⟩
  · rintro ⟨i, h1, h2⟩; exact ⟨i, h1, h2.symm⟩
theorem knB_fnd (s : Sl Named) (z : Sound) (k : Nat) : (fnd k fun i => decide (z = (s.g i).S)).isSome = knB s z k := by
  rw [Bool.eq_iff_iff]
  simp only [fnd, List.find?_isSome, knB, List.any_eq_true, decide_eq_true_eq]
  constructor
  · rintro ⟨i, h1, h2⟩; exact ⟨i, h1, h2.symm⟩
  · rintro ⟨i, h1, h2⟩; exact ⟨i, h1, h2.symm⟩
theorem cmpS (a b : Sound) : (((a.Plus == b.Plus) && (a.Minus == b.Minus)) != false) = decide (a = b) := by
  rw [← eqSnd]; simp [eq_Sound]
theorem cmpS' (a b : Sound) : (((a.Plus == b.Plus) && (a.Minus == b.Minus)) != true) = !decide (a = b) := by
  rw [← eqSnd]; simp [eq_Sound]
theorem Finds_eq (l : Sl Step) (z : Str) (s : Sound) (hw : ∀ i, i < l.n → okS (l.g i).S) (hs : okS s) (hl : ∀ i, i < l.n → (l.g i).Symbol.length < 2000000) (hn : l.n < 2000000) (hz : z.length < 2000000) :
    m_ablautlaw03_InventoryFinds NN l z s = some true := by
  have hNN : NN = 4194304 := rfl
  unfold m_ablautlaw03_InventoryFinds
  rw [grown_eq l hw hl (by omega)]
  simp only [Option.bind_some, optE_some]
  have hv := grV_ok l hw (min l.n 300) (by omega)
  have hd := grV_dist l hw (min l.n 300) (by omega)
  have ho := grV_okS l hw (min l.n 300) (by omega)
  generalize grV l (min l.n 300) = v at hv hd ho
  have h256 := hv.sounds
  rw [iSounds_eq v (by omega)]
  simp only [Option.bind_some, eqNamed_refl v.sounds (show v.sounds.n < NN by omega) (by omega), iLen_eq]
  simp only [lt]
  rw [if_neg (by simp), if_neg (by simp), if_neg (by simp only [decide_eq_true_eq]; omega)]
  unfold fix4
  refine loop_end (fun i : Nat => (v, isB v.sounds z i, knB v.sounds s i, (i : Int))) v.sounds.n (some true) (show v.sounds.n < NN by omega) fun self i hi => ?_
  dsimp only
  by_cases h : i < v.sounds.n
  · have hsy := hv.sym i h
    have f1 : (fnd v.sounds.n fun j => (v.sounds.g i).Symbol == (v.sounds.g j).Symbol) = some i := fnd_self h (by simp) fun j hj hp => (hd i j h hj (.inl (by simpa using hp))).symm
    have f2 : (fnd v.sounds.n fun j => decide ((v.sounds.g i).S = (v.sounds.g j).S)) = some i := fnd_self h (by simp) fun j hj hp => (hd i j h hj (.inr (by simpa using hp))).symm
    rw [if_pos (by simp only [decide_eq_true_eq]; omega), if_pos (by omega), if_pos h, show ((i : Int)).toNat = i from rfl, iSound_eq hv, iSymbol_eq hv, f1, f2]
    simp only [Option.bind_some, sndAt, symAt]
    rw [if_neg (by simp), if_neg (by simp), if_neg (by simp), if_neg (by simp)]
    have a1 := addS_some (n := v.feats.n) (l := v.sounds) (z := (v.sounds.g i).Symbol) hs h (.inl rfl)
    have a2 := addS_some (n := v.feats.n) (l := v.sounds) (z := z) (ho i h) h (.inr rfl)
    rw [iAddS hv _ hs (show (v.sounds.g i).Symbol.length < NN by omega) (by omega)]
    simp only [Option.bind_some]
    rw [if_neg (by simpa using a1), if_neg a1, iAddS hv _ (ho i h) (show z.length < NN by omega) (by omega)]
    simp only [Option.bind_some]
    rw [if_neg a2, if_neg (by simpa using a2), if_pos (by omega)]
    refine loop_end (fun j : Nat => (j : Int)) i _ (by omega) fun self' j hj => ?_
    by_cases h' : j < i
    · have hne : ¬ ((v.sounds.g i).Symbol = (v.sounds.g j).Symbol ∨ (v.sounds.g i).S = (v.sounds.g j).S) := fun e => by have := hd i j h (by omega) e; omega
      rw [if_pos (by simp only [decide_eq_true_eq]; omega), if_pos (by omega), if_pos h', show ((j : Int)).toNat = j from rfl, wrap64_succ (by omega), if_neg]
      rw [cmpS]
      simpa using hne
    · rw [if_neg (by simp only [decide_eq_true_eq]; omega), if_neg h', wrap64_succ (by omega)]
      simp only [isB_succ, knB_succ, cmpS]
      cases isB v.sounds z i <;> cases knB v.sounds s i <;> simp
  · rw [if_neg (by simp only [decide_eq_true_eq]; omega), if_neg h]
    obtain rfl : i = v.sounds.n := by omega
    rw [iSound_eq hv, iSymbol_eq hv]
    simp only [Option.bind_some, sndAt_2, symAt_2, isB_fnd, knB_fnd, iLen_eq, works_N]
    simp
end Go.AM