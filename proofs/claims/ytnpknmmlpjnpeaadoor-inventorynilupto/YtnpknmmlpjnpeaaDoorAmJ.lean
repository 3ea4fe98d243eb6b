/- What a law's walk and its plain proof need, part 10: no condition of its own. -/
import Derived.Test.YtnpknmmlpjnpeaaDoorAmI
import Derived.Test.YtnpknmmlpjnpeaaDoorAmG
set_option linter.unusedSimpArgs false
set_option linter.unusedVariables false
set_option linter.unusedSectionVars false
set_option linter.unusedVariables false
namespace Go.AM
open Go.Proofs
def hasP (s : Sl Named) (z : Str) : Bool := (fnd s.n fun i => z == (s.g i).Symbol).isSome
def longP (s : Sl Named) (t : Str) (L : Nat) : Bool := decide (L ≤ t.length) && hasP s (t.take L)
def longL (s : Sl Named) (t : Str) : Nat := if longP s t 4 = true then 4 else if longP s t 3 = true then 3 else if longP s t 2 = true then 2 else if longP s t 1 = true then 1 else 0
theorem iLongest_eq {N : Nat} {v : O_inventory_Inv} (h : IOk v) (t : Str) (hN : 5 < N) : m_inventory_Inv_Longest N v t = some (t.take (longL v.sounds t), decide (longL v.sounds t ≠ 0)) := by
  unfold m_inventory_Inv_Longest
  simp only [m_inventory_Inv_made, Option.bind_some]
  rw [if_neg (by simp)]
  refine (loop_st (fun i : Nat => (i : Int)) (fun i => !longP v.sounds t (4 - i)) 4 (some ([], false)) (fun i => some (t.take (4 - i), true)) (fun self i hi _ => ?_) N 0 (by omega) (fun j hj => by omega) (by omega)).trans ?_
  · by_cases h4 : i < 4
    · have e4 : IntKind.wrap .i64 (4 - (i : Int)) = ((4 - i : Nat) : Int) := by rw [wrap64_in (by omega) (by omega)]; omega
      rw [if_pos (by simp only [decide_eq_true_eq]; omega), if_pos h4, e4, wrap64_succ (by omega)]
      unfold longP
      by_cases hl : 4 - i ≤ t.length
      · rw [if_neg (by simp only [decide_eq_true_eq]; omega), if_pos (by omega), h.symbols, alook_symL]
        rw [show (((4 - i : Nat) : Int)).toNat = 4 - i from rfl, decide_eq_true hl]
        simp only [Bool.true_and, hasP]
        cases e : fnd v.sounds.n fun j => (t.take (4 - i)) == (v.sounds.g j).Symbol with
        | none => simp [optE]
        | some j =>
          have hj := fnd_lt e
          have hp : t.take (4 - i) = (v.sounds.g j).Symbol := by simpa using fnd_p e
          simp only [Option.map_some, optE_some, Option.isSome_some, Bool.not_true, Bool.false_eq_true, if_false]
          rw [if_pos (by omega), hp]
          rfl
      · rw [if_pos (by simp only [decide_eq_true_eq]; omega), decide_eq_false hl]
        simp
    · rw [if_neg (by simp only [decide_eq_true_eq]; omega), if_neg h4]
  · unfold longL
    simp only [Bool.not_not, show List.range 4 = [0, 1, 2, 3] from rfl, List.find?_cons, List.find?_nil, Nat.sub_zero]
    cases longP v.sounds t 4
    · cases longP v.sounds t 3
      · cases longP v.sounds t 2
        · cases longP v.sounds t 1 <;> simp
        · simp
      · simp
    · simp
section
variable (s : Sl Named) (t : Str)
def bst : Nat → Str
  | 0 => []
  | k + 1 => if (bst k).length < (s.g k).Symbol.length ∧ (s.g k).Symbol.length ≤ t.length ∧ t.take (s.g k).Symbol.length = (s.g k).Symbol then (s.g k).Symbol else bst k
theorem bst_spec (h1 : ∀ i, i < s.n → 1 ≤ (s.g i).Symbol.length ∧ (s.g i).Symbol.length ≤ 4) : ∀ k, k ≤ s.n → ((bst s t k).length ≤ t.length ∧ t.take (bst s t k).length = bst s t k ∧ (bst s t k = [] ∨ ∃ i, i < k ∧ (s.g i).Symbol = bst s t k)) ∧
    ∀ i, i < k → (s.g i).Symbol.length ≤ t.length → t.take (s.g i).Symbol.length = (s.g i).Symbol → (s.g i).Symbol.length ≤ (bst s t k).length
  | 0, _ => ⟨⟨by simp [bst], by simp [bst], .inl rfl⟩, fun i hi => by omega⟩
  | k + 1, hk => by
    obtain ⟨⟨a1, a2, a3⟩, a4⟩ := bst_spec h1 k (by omega)
    simp only [bst]
    split
    · rename_i hc
      refine ⟨⟨hc.2.1, hc.2.2, .inr ⟨k, by omega, rfl⟩⟩, fun i hi hl ht => ?_⟩
      by_cases e : i = k
      · subst e; exact Nat.le_refl _
      · have := a4 i (by omega) hl ht; omega
    · rename_i hc
      refine ⟨⟨a1, a2, ?_⟩, fun i hi hl ht => ?_⟩
      · rcases a3 with h | ⟨i, hi, h⟩
        · exact .inl h
        · exact .inr ⟨i, by omega, h⟩
      · by_cases e : i = k
        · subst e
          exact Nat.le_of_not_lt fun h => hc ⟨h, hl, ht⟩
        · exact a4 i (by omega) hl ht
theorem longP_iff {L : Nat} : longP s t L = true ↔ L ≤ t.length ∧ ∃ i, i < s.n ∧ (s.g i).Symbol = t.take L := by
  simp only [longP, hasP, Bool.and_eq_true, decide_eq_true_eq, fnd, List.find?_isSome, List.mem_range, beq_iff_eq]
  constructor
  · rintro ⟨h, i, h1, h2⟩; exact ⟨h, i, h1, h2.symm⟩
  · rintro ⟨h, i, h1, h2⟩; exact ⟨h, i, h1, h2.symm⟩
theorem bst_long (h1 : ∀ i, i < s.n → 1 ≤ (s.g i).Symbol.length ∧ (s.g i).Symbol.length ≤ 4) : (bst s t s.n).length = longL s t := by
  obtain ⟨⟨a1, a2, a3⟩, a4⟩ := bst_spec s t h1 s.n (Nat.le_refl _)
  have big : ∀ L, longP s t L = true → 1 ≤ L ∧ L ≤ (bst s t s.n).length := fun L hL => by
    obtain ⟨hl, i, hi, e⟩ := (longP_iff s t).1 hL
    have hlen : (s.g i).Symbol.length = L := by rw [e, List.length_take]; omega
    have := a4 i hi (by omega) (by rw [hlen]; exact e.symm)
    have := h1 i hi
    omega
  have own : bst s t s.n = [] ∨ (1 ≤ (bst s t s.n).length ∧ (bst s t s.n).length ≤ 4 ∧ longP s t (bst s t s.n).length = true) := by
    rcases a3 with h | ⟨i, hi, e⟩
    · exact .inl h
    · have := h1 i hi
      rw [e] at this
      exact .inr ⟨this.1, this.2, (longP_iff s t).2 ⟨a1, i, hi, by rw [e, a2]⟩⟩
  unfold longL
  rcases own with h | ⟨hb1, hb2, hb3⟩
  · have h0 : (bst s t s.n).length = 0 := by rw [h]; rfl
    have no : ∀ L, ¬ longP s t L = true := fun L hL => by have := big L hL; omega
    rw [if_neg (no 4), if_neg (no 3), if_neg (no 2), if_neg (no 1), h0]
  · generalize (bst s t s.n).length = b at big hb1 hb2 hb3
    have no : ∀ L, b < L → ¬ longP s t L = true := fun L h hL => by have := big L hL; omega
    have : b = 1 ∨ b = 2 ∨ b = 3 ∨ b = 4 := by omega
    rcases this with rfl | rfl | rfl | rfl
    · rw [if_neg (no 4 (by omega)), if_neg (no 3 (by omega)), if_neg (no 2 (by omega)), if_pos hb3]
    · rw [if_neg (no 4 (by omega)), if_neg (no 3 (by omega)), if_pos hb3]
    · rw [if_neg (no 4 (by omega)), if_pos hb3]
    · rw [if_pos hb3]
end
theorem rLongest_eq {N : Nat} (v : O_ablautref03_Inv) (hm : v.Made = true) (t : Str) (h1 : ∀ i, i < v.S.n → 1 ≤ (v.S.g i).Symbol.length ∧ (v.S.g i).Symbol.length ≤ 4) (hn : v.S.n < N) (hn2 : v.S.n < 1000000000) :
    m_ablautref03_Inv_Longest N v t = some (t.take (longL v.S t), decide (longL v.S t ≠ 0)) := by
  unfold m_ablautref03_Inv_Longest
  simp only [m_ablautref03_Inv_made, hm, Option.bind_some]
  rw [if_neg (by simp)]
  unfold fix2
  refine loop_end (fun i : Nat => (bst v.S t i, (i : Int))) v.S.n _ hn fun self i hi => ?_
  dsimp only
  by_cases h : i < v.S.n
  · rw [if_pos (by simp only [decide_eq_true_eq]; omega), if_pos (by omega), if_pos h, wrap64_succ (by omega), show ((i : Int)).toNat = i from rfl]
    rw [if_pos (fun _ h2 => by simp only [decide_eq_true_eq] at h2; omega)]
    simp only [bst]
    rw [show ((((v.S.g i).Symbol.length : Nat) : Int)).toNat = (v.S.g i).Symbol.length from rfl]
    by_cases hc : (bst v.S t i).length < (v.S.g i).Symbol.length ∧ (v.S.g i).Symbol.length ≤ t.length ∧ t.take (v.S.g i).Symbol.length = (v.S.g i).Symbol
    · rw [if_pos hc, if_pos]
      obtain ⟨c1, c2, c3⟩ := hc
      simp only [Bool.and_eq_true, decide_eq_true_eq, Bool.bne_false, beq_iff_eq]
      exact ⟨⟨by omega, by omega⟩, c3⟩
    · rw [if_neg hc, if_neg]
      simp only [Bool.and_eq_true, decide_eq_true_eq, Bool.bne_false, beq_iff_eq]
      rintro ⟨⟨c1, c2⟩, c3⟩
      exact hc ⟨by omega, by omega, c3⟩
  · rw [if_neg (by simp only [decide_eq_true_eq]; omega), if_neg h]
    have : i = v.S.n := by omega
    subst this
    have hb := bst_long v.S t h1
    obtain ⟨⟨a1, a2, a3⟩, a4⟩ := bst_spec v.S t h1 v.S.n (Nat.le_refl _)
    rw [← hb, a2]
    simp only [Option.some.injEq, Prod.mk.injEq, true_and]
    cases bst v.S t v.S.n <;> simp
end Go.AM
set_option linter.unusedVariables false
namespace Go.AM
open Go.Proofs
def okS (s : Sound) : Prop := s = sOf (BitVec.ofInt 32 s.Plus) (BitVec.ofInt 32 s.Minus)
theorem okS_of {s : Sound} (h : ∃ p m : BitVec 32, s = sOf p m) : okS s := by
  obtain ⟨p, m, rfl⟩ := h
  simp only [okS, sOf, ofInt_toNat]
def addS (n : Nat) (l : Sl Named) (z : Str) (s : Sound) : Int := addE n l z (BitVec.ofInt 32 s.Plus) (BitVec.ofInt 32 s.Minus)
theorem iAddS {N : Nat} {v : O_inventory_Inv} (h : IOk v) (z : Str) {s : Sound} (hs : okS s) (hz : z.length < N) (hz2 : z.length < 1000000000) :
    m_inventory_Inv_Add N v z s = some (addS v.feats.n v.sounds z s, if addS v.feats.n v.sounds z s = 0 then addO v z s else v) := by
  have := iAdd_eq h z (BitVec.ofInt 32 s.Plus) (BitVec.ofInt 32 s.Minus) hz hz2
  rw [← hs] at this
  exact this
theorem IOk_addS {v : O_inventory_Inv} (h : IOk v) {z : Str} {s : Sound} (hs : okS s) (h0 : addS v.feats.n v.sounds z s = 0) : IOk (addO v z s) := by
  have := IOk_add h h0
  rw [← hs] at this
  exact this
def grV (l : Sl Step) : Nat → O_inventory_Inv
  | 0 => invN 24
  | i + 1 => if addS (grV l i).feats.n (grV l i).sounds (l.g i).Symbol (l.g i).S = 0 then addO (grV l i) (l.g i).Symbol (l.g i).S else grV l i
theorem grV_ok (l : Sl Step) (hw : ∀ i, i < l.n → okS (l.g i).S) : ∀ i, i ≤ l.n → IOk (grV l i)
  | 0, _ => IOk_num (by omega)
  | i + 1, hi => by
    have := grV_ok l hw i (by omega)
    simp only [grV]
    split
    · exact IOk_addS this (hw i (by omega)) ‹_›
    · exact this
theorem grV_n (l : Sl Step) : ∀ i, (grV l i).sounds.n ≤ i ∧ (grV l i).feats = numS 24
  | 0 => ⟨Nat.le_refl _, rfl⟩
  | i + 1 => by
    have := grV_n l i
    simp only [grV]
    split
    · exact ⟨Nat.succ_le_succ this.1, this.2⟩
    · exact ⟨by omega, this.2⟩
theorem grown_eq {N : Nat} (l : Sl Step) (hw : ∀ i, i < l.n → okS (l.g i).S) (hl : ∀ i, i < l.n → (l.g i).Symbol.length < 2000000) (hN : 2000000 ≤ N) :
    m_ablautlaw03_grown N l = some (some (grV l (min l.n 300)), (grV l (min l.n 300)).sounds) := by
  unfold m_ablautlaw03_grown
  rw [show (24 : Int) = ((24 : Nat) : Int) from rfl, numbered_eq 24 (by omega) (by omega)]
  simp only [Option.bind_some, optE_some]
  have hK : (if 300 < ((l.n : Nat) : Int) then (300 : Int) else ((l.n : Nat) : Int)) = ((min l.n 300 : Nat) : Int) := by split <;> omega
  rw [hK, show (((min l.n 300 : Nat) : Int)).toNat = min l.n 300 from rfl, if_pos (by omega)]
  unfold fix3
  refine loop_end (fun i : Nat => (grV l i, (grV l i).sounds, (i : Int))) (min l.n 300) _ (by omega) fun self i hi => ?_
  dsimp only
  by_cases h : i < min l.n 300
  · have hz := hl i (by omega)
    have hn := (grV_n l i).1
    rw [if_pos (by simp only [decide_eq_true_eq]; omega), if_pos (by omega), if_pos h, show ((i : Int)).toNat = i from rfl, wrap64_succ (by omega), iAddS (grV_ok l hw i (by omega)) _ (hw i (by omega)) (by omega) (by omega)]
    simp only [Option.bind_some, grV]
    by_cases h0 : addS (grV l i).feats.n (grV l i).sounds (l.g i).Symbol (l.g i).S = 0
    · rw [if_pos (by simpa using h0), if_pos h0, if_pos (by simp only [List.length_cons, List.length_nil]; omega)]
      rfl
    · rw [if_neg (by simpa using h0), if_neg h0]
  · rw [if_neg (by simp only [decide_eq_true_eq]; omega), if_neg h]
    have : i = min l.n 300 := by omega
    rw [this]
theorem hasPrefix_iff (x y : Str) : Lib.hasPrefix x y = true ↔ y.length ≤ x.length ∧ x.take y.length = y := by
  rw [show Lib.hasPrefix x y = y.isPrefixOf x from rfl, List.isPrefixOf_iff_prefix, List.prefix_iff_eq_take]
  constructor
  · intro h
    refine ⟨?_, h.symm⟩
    have := congrArg List.length h
    rw [List.length_take] at this
    omega
  · rintro ⟨_, h⟩; exact h.symm
theorem longL_max {s : Sl Named} {t : Str} {L : Nat} (h : longP s t L = true) (h1 : 1 ≤ L) (h4 : L ≤ 4) : L ≤ longL s t := by
  have : L = 1 ∨ L = 2 ∨ L = 3 ∨ L = 4 := by omega
  unfold longL
  rcases this with rfl | rfl | rfl | rfl
  · split <;> (try omega); split <;> (try omega); split <;> (try omega)
    all_goals simp [h]
  · split <;> (try omega); split <;> (try omega)
    all_goals simp [h]
  · split <;> (try omega)
    all_goals simp [h]
  · simp [h]
theorem longL_own {s : Sl Named} {t : Str} (h : longL s t ≠ 0) : longP s t (longL s t) = true := by
  unfold longL at h ⊢
  split
  · assumption
  · split
    · assumption
    · split
      · assumption
      · split
        · assumption
        · rename_i h4 h3 h2 h1
          rw [if_neg h4, if_neg h3, if_neg h2, if_neg h1] at h
          exact absurd rfl h
theorem longL_le (s : Sl Named) (t : Str) : longL s t ≤ t.length := by
  by_cases h : longL s t = 0
  · omega
  · have := longL_own h
    simp only [longP, Bool.and_eq_true, decide_eq_true_eq] at this
    exact this.1
theorem hasP_nil {s : Sl Named} (h : ∀ i, i < s.n → 1 ≤ (s.g i).Symbol.length ∧ (s.g i).Symbol.length ≤ 4) : hasP s [] = false := by
  unfold hasP
  rw [← Bool.not_eq_true]
  intro hh
  obtain ⟨i, hi⟩ := Option.isSome_iff_exists.1 hh
  have h1 := h i (fnd_lt hi)
  have h2 : ([] : Str) = (s.g i).Symbol := by simpa using fnd_p hi
  rw [← h2] at h1
  simp at h1
theorem Longest_eq (l : Sl Step) (t : Str) (hw : ∀ i, i < l.n → okS (l.g i).S) (hl : ∀ i, i < l.n → (l.g i).Symbol.length < 2000000) (hn : l.n < 2000000) : m_ablautlaw03_InventoryLongest NN l t = some true := by
  have hNN : NN = 4194304 := rfl
  unfold m_ablautlaw03_InventoryLongest
  by_cases ht : 300 < t.length
  · rw [if_pos (by simp only [decide_eq_true_eq]; omega), works_N]; rfl
  rw [if_neg (by simp only [decide_eq_true_eq]; omega), grown_eq l hw hl (by omega)]
  simp only [Option.bind_some, optE_some]
  have hv := grV_ok l hw (min l.n 300) (by omega)
  have hvn := (grV_n l (min l.n 300)).1
  generalize grV l (min l.n 300) = v at hv hvn
  refine fix1_eq (fun _ => some true) (fun x => x.length ≤ 300) (fun x => x.length) (fun self x hx hself => ?_) NN t (by omega) (by omega)
  by_cases h0 : 0 < x.length
  · rw [if_pos (by simp only [decide_eq_true_eq]; omega), iLongest_eq hv x (by omega)]
    simp only [Option.bind_some]
    rw [iSound_eq hv]
    simp only [Option.bind_some, m_strings_HasPrefix]
    have hL := longL_le v.sounds x
    have e1 : (sndAt v.sounds (fnd v.sounds.n fun i => x.take (longL v.sounds x) == (v.sounds.g i).Symbol)).2 = decide (longL v.sounds x ≠ 0) := by
      rw [sndAt_2]
      have e2 : hasP v.sounds (x.take (longL v.sounds x)) = decide (longL v.sounds x ≠ 0) := by
        by_cases hz : longL v.sounds x = 0
        · rw [hz, List.take_zero, hasP_nil hv.sym]; rfl
        · have := longL_own hz
          simp only [longP, Bool.and_eq_true, decide_eq_true_eq] at this
          rw [this.2]; simp [hz]
      rw [← e2]; rfl
    rw [e1]
    have e3 : Lib.hasPrefix x (x.take (longL v.sounds x)) = true := (hasPrefix_iff _ _).2 ⟨by rw [List.length_take]; omega, by rw [List.length_take, Nat.min_eq_left hL]⟩
    have e4 : (x.take (longL v.sounds x)).length = longL v.sounds x := by rw [List.length_take, Nat.min_eq_left hL]
    have hmax : (if 1 < ((longL v.sounds x : Nat) : Int) then ((longL v.sounds x : Nat) : Int) else 1) = ((max 1 (longL v.sounds x) : Nat) : Int) := by split <;> omega
    have inner : fix1 NN (fun (self4 : Int → Option Bool) (x14 : Int) =>
                      if (decide (x14 < ((v.sounds.n : Nat) : Int))) = true then
                        if (((0 : Int) ≤ x14 ∧ x14 < ((v.sounds.n : Nat) : Int)) ∧ x14.toNat < v.sounds.n) then
                          lt (fun (z13 : Bool) =>
                              if z13 = true then
                                some false
                              else
                                self4 (IntKind.wrap .i64 (x14 + 1))
                            ) fun k12 =>
                            if (decide (((longL v.sounds x : Nat) : Int) < (((v.sounds.g x14.toNat).Symbol.length : Nat) : Int))) = true then
                              (some (Lib.hasPrefix x (v.sounds.g x14.toNat).Symbol)).bind fun y38 =>
                              k12 y38
                            else
                              k12 false
                        else none
                      else
                        if ((0 : Int) ≤ (if 1 < ((longL v.sounds x : Nat) : Int) then ((longL v.sounds x : Nat) : Int) else 1) ∧ (if 1 < ((longL v.sounds x : Nat) : Int) then ((longL v.sounds x : Nat) : Int) else 1) ≤ ((x.length : Nat) : Int)) then
                          self (x.drop (if 1 < ((longL v.sounds x : Nat) : Int) then ((longL v.sounds x : Nat) : Int) else 1).toNat)
                        else none
                    ) 0 = some true := by
      refine loop_end (fun i : Nat => (i : Int)) v.sounds.n _ (by omega) fun self4 i hi => ?_
      by_cases h : i < v.sounds.n
      · rw [if_pos (by simp only [decide_eq_true_eq]; omega), if_pos (by omega), if_pos h, show ((i : Int)).toNat = i from rfl, wrap64_succ (by omega)]
        simp only [lt, Option.bind_some]
        by_cases hlt : longL v.sounds x < (v.sounds.g i).Symbol.length
        · rw [if_pos (by simp only [decide_eq_true_eq]; omega)]
          have : Lib.hasPrefix x (v.sounds.g i).Symbol = false := by
            rw [← Bool.not_eq_true]
            intro hp
            obtain ⟨p1, p2⟩ := (hasPrefix_iff _ _).1 hp
            have hs := hv.sym i h
            have := longL_max ((longP_iff v.sounds x).2 ⟨p1, i, h, p2.symm⟩) hs.1 hs.2
            omega
          rw [this]; simp
        · rw [if_neg (by simp only [decide_eq_true_eq]; omega)]
          simp
      · rw [if_neg (by simp only [decide_eq_true_eq]; omega), if_neg h, hmax, if_pos (by omega), show (((max 1 (longL v.sounds x) : Nat) : Int)).toNat = max 1 (longL v.sounds x) from rfl]
        exact hself _ (by rw [List.length_drop]; omega) (by rw [List.length_drop]; omega)
    simp only [lt, Option.bind_some] at inner
    simp only [Option.bind_some, lt, e3, e4]
    by_cases hz : longL v.sounds x = 0
    · have e5 : decide (longL v.sounds x ≠ 0) = false := by simp [hz]
      have e6 : ((x.take (longL v.sounds x)) == ([] : Str)) = true := by simp [hz]
      rw [e5, e6, if_neg (by simp), if_pos (by simp), if_neg (by simp), if_neg (by simp)]
      exact inner
    · have e5 : decide (longL v.sounds x ≠ 0) = true := by simp [hz]
      rw [e5, if_neg (by simp), if_neg (by simp), if_neg (by simp)]
      exact inner
  · rw [if_neg (by simp only [decide_eq_true_eq]; omega), iLongest_eq hv [] (by omega)]
    have hz : longL v.sounds [] = 0 := by have := longL_le v.sounds []; simpa using this
    simp [hz, works_N, lt]
end Go.AM
set_option linter.unusedVariables false
namespace Go.AM
open Go.Proofs
theorem big_eq {N : Nat} (c : Int) (h0 : 0 ≤ c) (h1 : c < 256) : m_ablautref03_big N c = some (bigI c) := by
  have h : ∀ k : Fin 256, m_ablautref03_big 0 ((k.val : Nat) : Int) = some (bigI ((k.val : Nat) : Int)) := by decide +kernel
  have := h ⟨c.toNat, by omega⟩
  rw [show ((c.toNat : Nat) : Int) = c by omega] at this
  exact this
theorem IsSymbol_eq {N : Nat} (s : Str) (hs : s.length < N) (hs2 : s.length < 1000000000) : m_ablautref03_IsSymbol N s = some (symOk s) := by
  unfold m_ablautref03_IsSymbol
  by_cases hc : ((decide (((s.length : Nat) : Int) < 1)) || (decide (4 < ((s.length : Nat) : Int)))) = true
  · rw [if_pos hc]
    simp only [Bool.or_eq_true, decide_eq_true_eq] at hc
    simp only [symOk, consB, Option.some.injEq]
    symm
    rw [← Bool.not_eq_true]
    simp only [Bool.and_eq_true, decide_eq_true_eq]
    omega
  · rw [if_neg hc]
    simp only [Bool.or_eq_true, decide_eq_true_eq] at hc
    refine (loop_all (fun i : Nat => (i : Int)) (fun i => symI (byteAt s i)) s.length (some true) (some false) hs fun self i hi _ => ?_).trans ?_
    · by_cases h : i < s.length
      · have hb := byteAt_lt s i
        have hl : m_ablautref03_letter N (byteAt s i) = some (letterI (byteAt s i)) := rfl
        rw [if_pos (by simp only [decide_eq_true_eq]; omega), if_pos (by omega), if_pos h, wrap64_succ (by omega), hl, big_eq _ hb.1 hb.2]
        simp only [Option.bind_some, lt]
        by_cases e : letterI (byteAt s i) = true
        · rw [if_neg (by simp [e]), if_pos (show symI (byteAt s i) = true by simp [symI, e])]; simp
        · rw [if_pos (by simpa using e), if_pos (by omega)]
          by_cases e2 : bigI (byteAt s i) = true
          · rw [if_neg (by simp [e2]), if_pos (show symI (byteAt s i) = true by simp [symI, e2])]
          · rw [if_pos (by simpa using e2), if_neg (show ¬ symI (byteAt s i) = true by simp [symI, e, e2])]
      · rw [if_neg (by simp only [decide_eq_true_eq]; omega), if_neg h]
    · have h1 : decide (1 ≤ s.length) = true := by simp; omega
      have h2 : decide ((s.length : Int) ≤ 4) = true := by simp; omega
      simp only [symOk, consB, h1, h2, Bool.true_and]
      cases (List.range s.length).all fun i => symI (byteAt s i) <;> rfl
def addR (v : O_ablautref03_Inv) (z : Str) (s : Sound) : O_ablautref03_Inv := ⟨v.Made, v.F, v.S.push ⟨z, s⟩⟩
theorem rAdd_eq {N : Nat} (v : O_ablautref03_Inv) (hm : v.Made = true) (hF : v.F.n ≤ 24) (hS : v.S.n ≤ 256) (z : Str) (p m : BitVec 32) (hz : z.length < N) (hz2 : z.length < 1000000000) (hN : 1000 ≤ N) :
    m_ablautref03_Inv_Add N v z (sOf p m) = some (addE v.F.n v.S z p m, if addE v.F.n v.S z p m = 0 then addR v z (sOf p m) else v) := by
  unfold m_ablautref03_Inv_Add
  rw [IsSymbol_eq z hz hz2, rBelongs_eq v p m hF hN]
  simp only [m_ablautref03_Inv_made, hm, Option.bind_some]
  rw [if_neg (by simp)]
  unfold addE
  cases hs : symOk z
  · simp
  cases hb : belB v.F.n p m
  · simp
  simp only [Bool.not_true, Bool.false_eq_true, if_false, if_true]
  refine (loop_st (fun i : Nat => (i : Int)) (fun i => !(z == (v.S.g i).Symbol || decide (sOf p m = (v.S.g i).S))) v.S.n (some (if v.S.n = 256 then 4 else 0, if v.S.n = 256 then v else addR v z (sOf p m))) (fun _ => some (6, v)) (fun self i hi _ => ?_) N 0 (by omega) (fun j hj => by omega) (by omega)).trans ?_
  · by_cases h : i < v.S.n
    · rw [if_pos (by simp only [decide_eq_true_eq]; omega), if_pos (by omega), if_pos h, show ((i : Int)).toNat = i from rfl, wrap64_succ (by omega)]
      have e0 : ((((v.S.g i).S.Plus == (sOf p m).Plus) && ((v.S.g i).S.Minus == (sOf p m).Minus)) != false) = decide (sOf p m = (v.S.g i).S) := by
        have := eqSnd (sOf p m) (v.S.g i).S
        rw [← this]; simp only [eq_Sound, Bool.bne_false]; rw [Bool.eq_iff_iff]; simp only [Bool.and_eq_true, beq_iff_eq]; omega
      by_cases e : (v.S.g i).Symbol = z
      · simp [e]
      · rw [if_neg (by simp [e]), if_pos (by omega), e0]
        by_cases e1 : sOf p m = (v.S.g i).S
        · rw [decide_eq_true e1]; simp
        · rw [decide_eq_false e1]; simp [e, Ne.symm e]
    · rw [if_neg (by simp only [decide_eq_true_eq]; omega), if_neg h]
      by_cases h256 : v.S.n = 256
      · rw [if_pos (by simp only [decide_eq_true_eq]; omega), if_pos h256, if_pos h256]
      · rw [if_neg (by simp only [decide_eq_true_eq]; omega), if_neg h256, if_neg h256, if_pos (by simp only [List.length_cons, List.length_nil]; omega)]
        simp [addR, hm]
  · simp only [Bool.not_not]
    show (match fnd v.S.n fun i => z == (v.S.g i).Symbol || decide (sOf p m = (v.S.g i).S) with | some i => _ | none => _) = _
    cases fnd v.S.n fun i => z == (v.S.g i).Symbol || decide (sOf p m = (v.S.g i).S) with
    | some i => simp
    | none =>
      by_cases h256 : v.S.n = 256
      · simp [h256]
      · simp [h256]
structure Rel3 (v : O_inventory_Inv) (r : O_ablautref03_Inv) : Prop where
  ok : IOk v
  made : r.Made = true
  feats : r.F = v.feats
  sounds : r.S = v.sounds
theorem agree_eq {N : Nat} {v : O_inventory_Inv} {r : O_ablautref03_Inv} (h : Rel3 v r) (x : Step) (t : Str) (hN : 1000 ≤ N) : m_ablautlaw03_agree N v r x t = some true := by
  have hn := h.ok.sounds
  have hs := h.sounds
  unfold m_ablautlaw03_agree
  rw [iSound_eq h.ok, rSound_eq r h.made _ (by rw [hs]; omega) (by rw [hs]; omega), iSymbol_eq h.ok, rSymbol_eq r h.made _ (by rw [hs]; omega) (by rw [hs]; omega), iLongest_eq h.ok t (by omega), rLongest_eq r h.made t (by rw [hs]; exact h.ok.sym) (by rw [hs]; omega) (by rw [hs]; omega), iLen_eq, rLen_eq r h.made (by rw [hs]; omega), hs]
  simp [lt]
theorem agree_nil {N : Nat} (x : Step) (t : Str) : m_ablautlaw03_agree_nil N x t = some true := by
  simp [m_ablautlaw03_agree_nil, m_inventory_Inv_Sound_nil, m_ablautref03_Inv_Sound_nil, m_inventory_Inv_Symbol_nil, m_ablautref03_Inv_Symbol_nil, m_inventory_Inv_Longest_nil, m_ablautref03_Inv_Longest_nil, m_inventory_Inv_Len_nil, m_ablautref03_Inv_Len_nil, m_ablautref03_Inv_Sounds_nil, m_inventory_Inv_made_nil, m_ablautref03_Inv_made_nil, lt]
theorem both_add {N : Nat} {v : O_inventory_Inv} {r : O_ablautref03_Inv} (h : Rel3 v r) (z : Str) {s : Sound} (hs : okS s) (hz : z.length < N) (hz2 : z.length < 1000000000) (hN : 1000 ≤ N) :
    ∃ e v' r', m_inventory_Inv_Add N v z s = some (e, v') ∧ m_ablautref03_Inv_Add N r z s = some (e, r') ∧ Rel3 v' r' := by
  have h1 := iAddS h.ok z hs hz hz2
  have h2 := rAdd_eq (N := N) r h.made (by rw [h.feats]; exact h.ok.feats) (by rw [h.sounds]; exact h.ok.sounds) z (BitVec.ofInt 32 s.Plus) (BitVec.ofInt 32 s.Minus) hz hz2 hN
  rw [← hs, h.feats, h.sounds] at h2
  have e : addE v.feats.n v.sounds z (BitVec.ofInt 32 s.Plus) (BitVec.ofInt 32 s.Minus) = addS v.feats.n v.sounds z s := rfl
  rw [e] at h2
  refine ⟨_, _, _, h1, h2, ?_⟩
  by_cases h0 : addS v.feats.n v.sounds z s = 0
  · rw [if_pos h0, if_pos h0]
    exact ⟨IOk_addS h.ok hs h0, h.made, h.feats, by show r.S.push _ = v.sounds.push _; rw [h.sounds]⟩
  · rw [if_neg h0, if_neg h0]; exact h
def sumY (l : Sl Step) : Nat → Nat := sumF fun i => (l.g i).Symbol.length
theorem Plays_eq (s : Sl Str) (l : Sl Step) (t : Str) (hn : s.n < 2097152) (hs : sumS s s.n < 2097152) (ht : t.length < 2097152) (hw : ∀ i, i < l.n → okS (l.g i).S) (hln : l.n < 2097152) (hl : sumY l l.n < 2097152) :
    m_ablautlaw03_InventoryPlays NN s l t = some true := by
  have hNN : NN = 4194304 := rfl
  unfold m_ablautlaw03_InventoryPlays fix2
  refine loop_end (fun i : Nat => (((sumY l i : Nat) : Int), (i : Int))) l.n (some true) (show l.n < NN by omega) fun self i hi => ?_
  dsimp only
  have hle := sumF_le (fun i => (l.g i).Symbol.length) hi
  by_cases h : i < l.n
  · have h1 := sumF_le (fun i => (l.g i).Symbol.length) (show i + 1 ≤ l.n from h)
    have hl' : sumF (fun i => (l.g i).Symbol.length) l.n < 2097152 := hl
    rw [if_pos (by simp only [decide_eq_true_eq]; omega), if_pos (by omega), if_pos h, wrap64_succ (by omega), show ((i : Int)).toNat = i from rfl]
    have e : ((sumY l i : Nat) : Int) + ((l.g i).Symbol.length : Nat) = ((sumY l (i + 1) : Nat) : Int) := by simp [sumY, sumF]
    rw [e, wrap64_in (by omega) (by unfold sumY; omega)]
  rw [if_neg (by simp only [decide_eq_true_eq]; omega), if_neg h]
  obtain rfl : i = l.n := by omega
  rw [few1_eq s t (by omega) (by omega) (by omega) (by omega) (by omega), works_N]
  simp only [Option.bind_some]
  by_cases hc : ((!few1B s t || decide (300 < ((l.n : Nat) : Int))) || decide (4000 < ((sumY l l.n : Nat) : Int))) = true
  · rw [if_pos hc]
  rw [if_neg hc]
  simp only [Bool.or_eq_true, Bool.not_eq_true', decide_eq_true_eq, not_or, Bool.not_eq_false] at hc
  obtain ⟨⟨hf, hl300⟩, hsum⟩ := hc
  simp only [few1B, Bool.and_eq_true, decide_eq_true_eq] at hf
  have hlen : ∀ i, i < s.n → (s.g i).length < 1000000 := fun i hi => by
    have := len_le_sumS s hi
    omega
  have hsy : ∀ i, i < l.n → (l.g i).Symbol.length ≤ 4000 := fun i hi => by
    have := le_sumF (fun i => (l.g i).Symbol.length) hi
    unfold sumY at hsum; omega
  rw [both_eq s (by omega) hlen]
  simp only [Option.bind_some]
  by_cases h0 : newE s = 0
  · obtain ⟨h1, h2⟩ := newE_ok h0
    simp only [h0, if_true, optE_some, app_nil]
    rw [if_neg (by simp)]
    unfold fix3
    have hr0 : Rel3 ⟨s, numL s s.n, Sl.nil, [], []⟩ ⟨true, s, Sl.nil⟩ := ⟨⟨rfl, rfl, rfl, h1, by show 0 ≤ 256; omega, fun i hi => by have : i < 0 := hi; omega⟩, rfl, rfl, rfl⟩
    refine fix1_eq (fun _ => some true) (fun x => Rel3 x.1 x.2.1 ∧ ∃ i : Nat, x.2.2 = (i : Int) ∧ i ≤ l.n) (fun x => l.n - x.2.2.toNat) (fun self x hx hself => ?_) NN _ ⟨hr0, 0, rfl, by omega⟩ (by omega)
    obtain ⟨v, r, j⟩ := x
    obtain ⟨hr, i, hi', hin⟩ := hx
    simp only at hr hi' hself ⊢
    subst hi'
    by_cases h : i < l.n
    · have hy := hsy i h
      have hlt := hsy (i / 2) (by omega)
      rw [if_pos (by simp only [decide_eq_true_eq]; omega), if_pos (by omega), show ((i : Int)).toNat = i from rfl]
      obtain ⟨e, v', r', h1, h2, hr'⟩ := both_add hr (l.g i).Symbol (hw i h) (show (l.g i).Symbol.length < NN by omega) (by omega) (by omega)
      have ed : ((i : Int)).tdiv 2 = ((i / 2 : Nat) : Int) := by
        rw [show (2 : Int) = ((2 : Nat) : Int) from rfl, ← Int.ofNat_tdiv]
      rw [h1, h2, ed, wrap64_in (show -9223372036854775808 ≤ ((i / 2 : Nat) : Int) by omega) (by omega), show (((i / 2 : Nat) : Int)).toNat = i / 2 from rfl]
      simp only [Option.bind_some]
      rw [agree_eq hr' _ _ (by omega), agree_eq hr' _ _ (by omega), wrap64_succ (by omega)]
      simp only [Option.bind_some]
      rw [if_neg (by simp), if_neg (by simp), if_pos (by omega), if_neg (by simp)]
      exact hself (v', r', ((i + 1 : Nat) : Int)) ⟨hr', i + 1, rfl, h⟩ (by simp only [Int.toNat_natCast]; omega)
    · have hn := hr.ok.sounds
      rw [if_neg (by simp only [decide_eq_true_eq]; omega), iSounds_eq _ (by omega), rSounds_eq _ hr.made (by rw [hr.sounds]; omega), hr.sounds]
      simp [eqNamed_refl v.sounds (show v.sounds.n < NN by omega) (by omega), lt]
  · simp only [h0, if_false, optE_none]
    rw [if_neg (by simp)]
    refine loop_end (fun i : Nat => (i : Int)) l.n (some true) (by omega) fun self i hi => ?_
    by_cases h : i < l.n
    · have hy := hsy i h
      have ed : ((i : Int)).tdiv 2 = ((i / 2 : Nat) : Int) := by
        rw [show (2 : Int) = ((2 : Nat) : Int) from rfl, ← Int.ofNat_tdiv]
      rw [if_pos (by simp only [decide_eq_true_eq]; omega), if_pos (by omega), if_pos h, show ((i : Int)).toNat = i from rfl, ed, wrap64_in (show -9223372036854775808 ≤ ((i / 2 : Nat) : Int) by omega) (by omega), wrap64_succ (by omega)]
      rw [agree_nil, agree_nil]
      simp only [m_inventory_Inv_Add_nil, m_ablautref03_Inv_Add_nil, m_inventory_Inv_made_nil, m_ablautref03_Inv_made_nil, Option.bind_some]
      rw [if_pos (by rfl), if_pos (by rfl)]
      simp only [Option.bind_some]
      rw [if_neg (by simp), if_neg (by simp), if_pos (by omega), if_neg (by simp)]
    · rw [if_neg (by simp only [decide_eq_true_eq]; omega), if_neg h]
      simp [m_inventory_Inv_Sounds_nil, m_ablautref03_Inv_Sounds_nil, m_inventory_Inv_made_nil, m_ablautref03_Inv_made_nil, eqNamed_refl (Sl.nil : Sl Named) (show (Sl.nil : Sl Named).n < NN from by show 0 < NN; omega) (by show 0 < _; omega), lt]
end Go.AM