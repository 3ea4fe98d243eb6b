/- What a law's walk and its plain proof need, part 9: no condition of its own. -/
import Derived.Test.YtnpknmmlpjnpeaaDoorAmH
set_option linter.unusedSimpArgs false
set_option linter.unusedVariables false
set_option linter.unusedSectionVars false
set_option linter.unusedVariables false
namespace Go.AM
open Go.Proofs
theorem consists_on {N : Nat} (s : Str) (most : Int) (p : Int → Bool) (f : Int → Option Bool) (hf : ∀ i, i < s.length → f (byteAt s i) = some (p (byteAt s i))) (hs : s.length < N) (hs2 : s.length < 1000000000) : m_inventory_consists N s most f = some (consB p s most) := by
  unfold m_inventory_consists
  by_cases hc : ((decide (((s.length : Nat) : Int) < 1)) || (decide (most < ((s.length : Nat) : Int)))) = true
  · rw [if_pos hc]
    simp only [Bool.or_eq_true, decide_eq_true_eq] at hc
    simp only [consB, Option.some.injEq]
    symm
    rw [← Bool.not_eq_true]
    simp only [Bool.and_eq_true, decide_eq_true_eq]
    omega
  · rw [if_neg hc]
    simp only [Bool.or_eq_true, decide_eq_true_eq] at hc
    refine (loop_all (fun i : Nat => (i : Int)) (fun i => p (byteAt s i)) s.length (some true) (some false) hs fun self i hi _ => ?_).trans ?_
    · simp only [decide_eq_true_eq]
      by_cases h : i < s.length
      · rw [if_pos (by omega), if_pos (by omega), if_pos h, wrap64_succ (by omega), hf i h]
        simp only [Option.bind_some]
        cases p (byteAt s i) <;> simp
      · rw [if_neg (by omega), if_neg h]
    · have h1 : decide (1 ≤ s.length) = true := by simp; omega
      have h2 : decide ((s.length : Int) ≤ most) = true := by simp; omega
      simp only [consB, h1, h2, Bool.true_and]
      cases (List.range s.length).all fun i => p (byteAt s i) <;> rfl
def signsB : Str := [64, 63, 33, 38, 42, 36, 37]
def bigI (c : Int) : Bool := (decide (65 ≤ c) && decide (c ≤ 90)) || decide (0 ≤ Lib.indexByte signsB (UInt8.ofNat c.toNat))
def symI (c : Int) : Bool := letterI c || bigI c
def symOk (z : Str) : Bool := consB symI z 4
theorem byteAt_lt (s : Str) (i : Int) : 0 ≤ byteAt s i ∧ byteAt s i < 256 := by
  have := UInt8.toNat_lt (s.getD i.toNat 0)
  constructor
  · exact Int.natCast_nonneg _
  · show (((s.getD i.toNat 0).toNat : Nat) : Int) < 256
    have h2 : (s.getD i.toNat 0).toNat < 256 := this
    omega
theorem Add1_eq {N : Nat} (c : Int) (h0 : 0 ≤ c) (h1 : c < 256) : m_inventory_Inv_Add_1 N c = some (symI c) := by
  unfold m_inventory_Inv_Add_1
  have hs : m_inventory_small N c = some (letterI c) := rfl
  have hi : m_strings_IndexByte N [64, 63, 33, 38, 42, 36, 37] c = some (Lib.indexByte signsB (UInt8.ofNat c.toNat)) := by
    unfold m_strings_IndexByte
    rw [if_pos ⟨h0, h1⟩]; rfl
  rw [hs, hi]
  simp only [Option.bind_some, lt, symI, bigI]
  cases letterI c
  · by_cases ha : 65 ≤ c
    · by_cases hb : c ≤ 90
      · simp [ha, hb]
      · simp [ha, hb]
    · simp [ha]
  · simp
def addE (n : Nat) (s : Sl Named) (z : Str) (p m : BitVec 32) : Int :=
  if symOk z = true then if belB n p m = true then if (fnd s.n fun i => z == (s.g i).Symbol || decide (sOf p m = (s.g i).S)).isSome = true then 6 else if s.n = 256 then 4 else 0 else 14 else 15
def addO (v : O_inventory_Inv) (z : Str) (s : Sound) : O_inventory_Inv := ⟨v.feats, v.number, v.sounds.push ⟨z, s⟩, symL (v.sounds.push ⟨z, s⟩) (v.sounds.n + 1), valL (v.sounds.push ⟨z, s⟩) (v.sounds.n + 1)⟩
theorem symL_push (s : Sl Named) (x : Named) : symL (s.push x) (s.n + 1) = symL s s.n ++ [(x.Symbol, (s.n : Int))] := by
  simp only [symL, List.range_succ, List.map_append, List.map_cons, List.map_nil]
  congr 1
  · apply List.map_congr_left
    intro i hi
    have := List.mem_range.1 hi
    simp [this]
  · simp
theorem valL_push (s : Sl Named) (x : Named) : valL (s.push x) (s.n + 1) = valL s s.n ++ [(x.S, (s.n : Int))] := by
  simp only [valL, List.range_succ, List.map_append, List.map_cons, List.map_nil]
  congr 1
  · apply List.map_congr_left
    intro i hi
    have := List.mem_range.1 hi
    simp [this]
  · simp
theorem fnd_or (n : Nat) (p q : Nat → Bool) : (fnd n fun i => p i || q i).isSome = ((fnd n p).isSome || (fnd n q).isSome) := by
  rw [Bool.eq_iff_iff]
  simp only [fnd, Bool.or_eq_true, List.find?_isSome]
  constructor
  · rintro ⟨i, h1, h2 | h2⟩
    · exact .inl ⟨i, h1, h2⟩
    · exact .inr ⟨i, h1, h2⟩
  · rintro (⟨i, h1, h2⟩ | ⟨i, h1, h2⟩)
    · exact ⟨i, h1, .inl h2⟩
    · exact ⟨i, h1, .inr h2⟩
theorem symOk_le {z : Str} (h : symOk z = true) : 1 ≤ z.length ∧ z.length ≤ 4 := by
  simp only [symOk, consB, Bool.and_eq_true, decide_eq_true_eq] at h
  omega
theorem iAdd_eq {N : Nat} {v : O_inventory_Inv} (h : IOk v) (z : Str) (p m : BitVec 32) (hz : z.length < N) (hz2 : z.length < 1000000000) :
    m_inventory_Inv_Add N v z (sOf p m) = some (addE v.feats.n v.sounds z p m, if addE v.feats.n v.sounds z p m = 0 then addO v z (sOf p m) else v) := by
  unfold m_inventory_Inv_Add
  rw [consists_on z 4 symI (fun u1 => m_inventory_Inv_Add_1 N u1) (fun i hi => Add1_eq _ (byteAt_lt z i).1 (byteAt_lt z i).2) hz hz2, iBelongs_eq v p m h.feats, bel_eq h.feats, h.symbols, h.values, alook_symL, alook_valL]
  simp only [m_inventory_Inv_made, Option.bind_some, eqSnd]
  rw [if_neg (by simp)]
  unfold addE
  rw [fnd_or]
  show (if (!symOk z) = true then _ else _) = _
  cases hs : symOk z
  · simp
  cases hb : belB v.feats.n p m
  · simp
  simp only [Bool.not_true, Bool.false_eq_true, if_false, if_true]
  cases e1 : fnd v.sounds.n fun i => z == (v.sounds.g i).Symbol with
  | some i =>
    cases e2 : fnd v.sounds.n fun i => decide (sOf p m = (v.sounds.g i).S) <;> simp [optE]
  | none =>
    cases e2 : fnd v.sounds.n fun i => decide (sOf p m = (v.sounds.g i).S) with
    | some i => simp [optE]
    | none =>
      have hn := h.sounds
      simp only [Option.map_none, optE_none, Option.isSome_none, Bool.or_false, Bool.false_eq_true, if_false]
      by_cases h256 : v.sounds.n = 256
      · simp [h256]
      · rw [if_neg (by simp; omega), if_pos (by simp only [List.length_cons, List.length_nil]; omega), if_neg h256]
        simp only [if_true, Option.some.injEq, Prod.mk.injEq, true_and, addO, symL_push, valL_push]
        congr 1
        · refine aupd_none fun q hq => ?_
          simp only [symL, List.mem_map, List.mem_range] at hq
          obtain ⟨i, hi, rfl⟩ := hq
          exact fnd_none e1 hi
        · refine aupd_none fun q hq => ?_
          simp only [valL, List.mem_map, List.mem_range] at hq
          obtain ⟨i, hi, rfl⟩ := hq
          rw [eqSnd]; exact fnd_none e2 hi
theorem IOk_add {v : O_inventory_Inv} (h : IOk v) {z : Str} {p m : BitVec 32} (h0 : addE v.feats.n v.sounds z p m = 0) : IOk (addO v z (sOf p m)) := by
  have hs : symOk z = true := by
    unfold addE at h0; split at h0
    · assumption
    · cases h0
  have hn : v.sounds.n < 256 := by
    have := h.sounds
    unfold addE at h0
    rw [if_pos hs] at h0
    split at h0
    · split at h0
      · cases h0
      · split at h0
        · cases h0
        · omega
    · cases h0
  refine ⟨h.number, rfl, rfl, h.feats, hn, fun i hi => ?_⟩
  show 1 ≤ (if i < v.sounds.n then v.sounds.g i else ⟨z, _⟩).Symbol.length ∧ _
  show 1 ≤ (if i < v.sounds.n then v.sounds.g i else ⟨z, _⟩).Symbol.length ∧ (if i < v.sounds.n then v.sounds.g i else ⟨z, _⟩).Symbol.length ≤ 4
  split
  · rename_i h'; exact h.sym i h'
  · exact symOk_le hs
def numN (i : Nat) : Str := [UInt8.ofNat (IntKind.wrap .u8 (IntKind.wrap .i64 (97 + (i : Int)))).toNat, 48]
def numS : Nat → Sl Str
  | 0 => Sl.nil
  | k + 1 => (numS k).push (numN k)
theorem numS_n : ∀ k, (numS k).n = k
  | 0 => rfl
  | k + 1 => by show (numS k).n + 1 = k + 1; rw [numS_n k]
theorem numS_g : ∀ k i, i < k → (numS k).g i = numN i
  | 0, i, h => by omega
  | k + 1, i, h => by
    show (if i < (numS k).n then (numS k).g i else numN k) = numN i
    rw [numS_n k]
    split
    · exact numS_g k i ‹_›
    · rw [show i = k by omega]
theorem newE_num : ∀ k, k ≤ 24 → newE (numS k) = 0 := by
  have h : ∀ k : Fin 25, newE (numS k.val) = 0 := by decide +kernel
  exact fun k hk => h ⟨k, by omega⟩
abbrev invN (k : Nat) : O_inventory_Inv := ⟨numS k, numL (numS k) k, Sl.nil, [], []⟩
theorem numbered_eq {N : Nat} (k : Nat) (hk : k ≤ 24) (hN : 1000000 ≤ N) : m_ablautlaw03_numbered N (k : Int) = some (some (invN k), numS k) := by
  unfold m_ablautlaw03_numbered fix2
  refine loop_end (fun i : Nat => (numS i, (i : Int))) k _ (by omega) fun self i hi => ?_
  dsimp only
  by_cases h : i < k
  · rw [if_pos (by simp only [decide_eq_true_eq]; omega), if_pos (by simp only [numS_n, List.length_cons, List.length_nil]; omega), if_pos h, wrap64_succ (by omega)]
    rfl
  · rw [if_neg (by simp only [decide_eq_true_eq]; omega), if_neg h]
    have : i = k := by omega
    subst this
    rw [iNew_eq _ hN (fun j hj => by rw [numS_n] at hj; rw [numS_g i j hj]; simp [numN])]
    simp [newE_num i hk, optE, numS_n]
theorem IOk_num {k : Nat} (hk : k ≤ 24) : IOk (invN k) := ⟨by show numL (numS k) k = numL (numS k) (numS k).n; rw [numS_n], rfl, rfl, by show (numS k).n ≤ 24; rw [numS_n]; exact hk, by show 0 ≤ 256; omega, fun i hi => by have : i < 0 := hi; omega⟩
end Go.AM
set_option linter.unusedVariables false
namespace Go.AM
open Go.Proofs
def digB : Str := [48, 49, 50, 51, 52, 53, 54, 55, 56, 57, 97, 98, 99, 100, 101, 102]
def symF (k : Nat) : Str := [UInt8.ofNat (byteAt digB ((k / 16 : Nat) : Int)).toNat, UInt8.ofNat (byteAt digB ((k % 16 : Nat) : Int)).toNat]
def sndF (k : Nat) : Sound := sOf (BitVec.ofNat 32 k) 0#32
theorem symF_ok : ∀ k, k < 256 → symOk (symF k) = true := by
  have h : ∀ k : Fin 256, symOk (symF k.val) = true := by decide +kernel
  exact fun k hk => h ⟨k, hk⟩
theorem sndF_ok : ∀ k, k < 256 → belB 9 (BitVec.ofNat 32 k) 0#32 = true := by
  have h : ∀ k : Fin 256, belB 9 (BitVec.ofNat 32 k.val) 0#32 = true := by decide +kernel
  exact fun k hk => h ⟨k, hk⟩
theorem dig_inj : ∀ a b : Fin 16, UInt8.ofNat (byteAt digB ((a.val : Nat) : Int)).toNat = UInt8.ofNat (byteAt digB ((b.val : Nat) : Int)).toNat → a = b := by decide +kernel
theorem symF_inj {a b : Nat} (ha : a < 256) (hb : b < 256) (h : symF a = symF b) : a = b := by
  simp only [symF, List.cons.injEq, and_true] at h
  have h1 := dig_inj ⟨a / 16, by omega⟩ ⟨b / 16, by omega⟩ h.1
  have h2 := dig_inj ⟨a % 16, by omega⟩ ⟨b % 16, by omega⟩ h.2
  simp only [Fin.mk.injEq] at h1 h2
  omega
theorem sndF_inj {a b : Nat} (ha : a < 4294967296) (hb : b < 4294967296) (h : sndF a = sndF b) : a = b := by
  simp only [sndF, sOf, Sound.mk.injEq, BitVec.toNat_ofNat] at h
  have := h.1
  omega
def kF (s i : Nat) : Nat := (i + s) % 256
def vF (s : Nat) : Nat → O_inventory_Inv
  | 0 => invN 9
  | i + 1 => addO (vF s i) (symF (kF s i)) (sndF (kF s i))
theorem vF_n (s : Nat) : ∀ i, (vF s i).sounds.n = i ∧ (vF s i).feats = numS 9
  | 0 => ⟨rfl, rfl⟩
  | i + 1 => by
    have := vF_n s i
    exact ⟨by show (vF s i).sounds.n + 1 = i + 1; rw [this.1], this.2⟩
theorem vF_g (s : Nat) : ∀ i j, j < i → (vF s i).sounds.g j = ⟨symF (kF s j), sndF (kF s j)⟩
  | 0, j, h => by omega
  | i + 1, j, h => by
    show (if j < (vF s i).sounds.n then (vF s i).sounds.g j else (⟨symF (kF s i), sndF (kF s i)⟩ : Named)) = _
    rw [(vF_n s i).1]
    split
    · exact vF_g s i j ‹_›
    · rw [show i = j by omega]
theorem kF_lt (s i : Nat) : kF s i < 256 := Nat.mod_lt _ (by omega)
theorem kF_inj {s i j : Nat} (hi : i < 256) (hj : j < 256) (h : kF s i = kF s j) : i = j := by
  unfold kF at h; omega
theorem vF_none {s i : Nat} {z : Str} {p m : BitVec 32} (h1 : ∀ j, j < i → z ≠ symF (kF s j)) (h2 : ∀ j, j < i → sOf p m ≠ sndF (kF s j)) :
    (fnd (vF s i).sounds.n fun j => z == ((vF s i).sounds.g j).Symbol || decide (sOf p m = ((vF s i).sounds.g j).S)).isSome = false := by
  rw [(vF_n s i).1, ← Bool.not_eq_true]
  intro h
  obtain ⟨j, hj⟩ := Option.isSome_iff_exists.1 h
  have hlt := fnd_lt hj
  have hp := fnd_p hj
  rw [vF_g s i j hlt] at hp
  simp only [Bool.or_eq_true, beq_iff_eq, decide_eq_true_eq] at hp
  rcases hp with e | e
  · exact h1 j hlt e
  · exact h2 j hlt e
theorem vF_add {s i : Nat} (hi : i < 256) : addE (vF s i).feats.n (vF s i).sounds (symF (kF s i)) (BitVec.ofNat 32 (kF s i)) 0#32 = 0 := by
  have hk := kF_lt s i
  unfold addE
  rw [if_pos (symF_ok _ hk), (vF_n s i).2, numS_n, if_pos (sndF_ok _ hk), vF_none (fun j hj e => ?_) (fun j hj e => ?_), if_neg (by simp), (vF_n s i).1, if_neg (by omega)]
  · have := kF_inj hi (by omega) (symF_inj hk (kF_lt s j) e); omega
  · have := kF_inj hi (by omega) (sndF_inj (by omega) (by have := kF_lt s j; omega) e); omega
theorem vF_ok (s : Nat) : ∀ i, i ≤ 256 → IOk (vF s i)
  | 0, _ => IOk_num (by omega)
  | i + 1, h => IOk_add (vF_ok s i (by omega)) (vF_add (by omega))
theorem kF_surj (s : Nat) {k : Nat} (hk : k < 256) : ∃ i, i < 256 ∧ kF s i = k := by
  refine ⟨(k + 256 - s % 256) % 256, by omega, ?_⟩
  unfold kF; omega
theorem vF_some {s : Nat} {z : Str} {p m : BitVec 32} {k : Nat} (hk : k < 256) (h : z = symF k ∨ sOf p m = sndF k) :
    (fnd (vF s 256).sounds.n fun j => z == ((vF s 256).sounds.g j).Symbol || decide (sOf p m = ((vF s 256).sounds.g j).S)).isSome = true := by
  obtain ⟨i, hi, e⟩ := kF_surj s hk
  rw [(vF_n s 256).1]
  simp only [fnd, List.find?_isSome]
  refine ⟨i, List.mem_range.2 hi, ?_⟩
  rw [vF_g s 256 i hi, e]
  simpa using h
theorem full_new (s : Nat) : addE (vF s 256).feats.n (vF s 256).sounds [110, 101, 119] 256#32 0#32 = 4 := by
  unfold addE
  rw [if_pos (by decide +kernel), (vF_n s 256).2, numS_n, if_pos (by decide +kernel), vF_none (fun j hj e => ?_) (fun j hj e => ?_), if_neg (by simp), (vF_n s 256).1, if_pos rfl]
  · simp [symF] at e
  · have := sndF_inj (a := 256) (by omega) (by have := kF_lt s j; omega) e
    have := kF_lt s j; omega
theorem full_00 (s : Nat) : addE (vF s 256).feats.n (vF s 256).sounds [48, 48] 256#32 0#32 = 6 := by
  unfold addE
  rw [if_pos (by decide +kernel), (vF_n s 256).2, numS_n, if_pos (by decide +kernel), vF_some (k := 0) (by omega) (.inl (by decide +kernel)), if_pos rfl]
theorem full_7 (s : Nat) : addE (vF s 256).feats.n (vF s 256).sounds [110, 101, 119] 7#32 0#32 = 6 := by
  unfold addE
  rw [if_pos (by decide +kernel), (vF_n s 256).2, numS_n, if_pos (by decide +kernel), vF_some (k := 7) (by omega) (.inr rfl), if_pos rfl]
theorem full_512 (s : Nat) : addE (vF s 256).feats.n (vF s 256).sounds [110, 101, 119] 512#32 0#32 = 14 := by
  unfold addE
  rw [if_pos (by decide +kernel), (vF_n s 256).2, numS_n, if_neg (by decide +kernel)]
theorem full_12345 (s : Nat) : addE (vF s 256).feats.n (vF s 256).sounds [49, 50, 51, 52, 53] 256#32 0#32 = 15 := by
  unfold addE
  rw [if_neg (by decide +kernel)]
theorem Full_eq (s : Nat) (hs : s < 256) : m_ablautlaw03_InventoryFull NN (s : Int) = some true := by
  have hNN : NN = 4194304 := rfl
  unfold m_ablautlaw03_InventoryFull
  rw [show (9 : Int) = ((9 : Nat) : Int) from rfl, numbered_eq 9 (by omega) (by omega)]
  simp only [Option.bind_some, optE_some]
  unfold fix2
  refine loop_end (fun i : Nat => (vF s i, (i : Int))) 256 _ (by omega) fun self i hi => ?_
  dsimp only
  by_cases h : i < 256
  · have e0 : IntKind.wrap .i64 (s : Int) = (s : Int) := wrap64_in (by omega) (by omega)
    have e1 : IntKind.wrap .i64 ((i : Int) + (s : Int)) = ((i + s : Nat) : Int) := by rw [wrap64_in (by omega) (by omega)]; omega
    have e2 : (((i + s : Nat) : Int)).tmod 256 = ((kF s i : Nat) : Int) := by
      rw [show (256 : Int) = ((256 : Nat) : Int) from rfl, ← Int.ofNat_tmod]; rfl
    have hk := kF_lt s i
    have e3 : (((kF s i : Nat) : Int)).tdiv 16 = ((kF s i / 16 : Nat) : Int) := by
      rw [show (16 : Int) = ((16 : Nat) : Int) from rfl, ← Int.ofNat_tdiv]
    have e4 : (((kF s i : Nat) : Int)).tmod 16 = ((kF s i % 16 : Nat) : Int) := by
      rw [show (16 : Int) = ((16 : Nat) : Int) from rfl, ← Int.ofNat_tmod]
    have e5 : IntKind.wrap .i64 ((kF s i / 16 : Nat) : Int) = ((kF s i / 16 : Nat) : Int) := wrap64_in (by omega) (by omega)
    have e6 : (⟨IntKind.wrap .u32 ((kF s i : Nat) : Int), 0⟩ : Sound) = sOf (BitVec.ofNat 32 (kF s i)) 0#32 := by
      rw [wrap_u32 (by omega)]
      simp only [sOf, BitVec.toNat_ofNat, Sound.mk.injEq]
      exact ⟨by rw [Nat.mod_eq_of_lt (by omega)], rfl⟩
    rw [if_pos (by simp only [decide_eq_true_eq]; omega), e0, e1, e2, e3, e4, e5, e6, if_pos (by simp only [List.length_cons, List.length_nil]; omega), if_pos h]
    rw [show [UInt8.ofNat (byteAt [48, 49, 50, 51, 52, 53, 54, 55, 56, 57, 97, 98, 99, 100, 101, 102] ((kF s i / 16 : Nat) : Int)).toNat, UInt8.ofNat (byteAt [48, 49, 50, 51, 52, 53, 54, 55, 56, 57, 97, 98, 99, 100, 101, 102] ((kF s i % 16 : Nat) : Int)).toNat] = symF (kF s i) from rfl,
      iAdd_eq (vF_ok s i (by omega)) _ _ _ (by simp only [symF, List.length_cons, List.length_nil]; omega) (by simp [symF]), vF_add h, wrap64_succ (by omega)]
    simp only [Option.bind_some, if_true]
    rw [if_neg (by simp)]
    rfl
  · have : i = 256 := by omega
    subst this
    have hv := vF_ok s 256 (by omega)
    have ok := fun (z : Str) (hz : z.length < 1000) (p m : BitVec 32) => iAdd_eq (N := NN) hv z p m (by omega) (by omega)
    rw [if_neg (by simp), if_neg (by omega), show (⟨256, 0⟩ : Sound) = sOf 256#32 0#32 from rfl, show (⟨7, 0⟩ : Sound) = sOf 7#32 0#32 from rfl, show (⟨512, 0⟩ : Sound) = sOf 512#32 0#32 from rfl]
    rw [ok _ (by simp), full_new, works_N]
    simp only [Option.bind_some, lt, show ((4 : Int) = 0) = False by simp, if_false]
    rw [ok _ (by simp), full_00]
    simp only [Option.bind_some, show ((6 : Int) = 0) = False by simp, if_false]
    rw [ok _ (by simp), full_7]
    simp only [Option.bind_some, show ((6 : Int) = 0) = False by simp, if_false]
    rw [ok _ (by simp), full_512]
    simp only [Option.bind_some, show ((14 : Int) = 0) = False by simp, if_false]
    rw [ok _ (by simp), full_12345]
    simp only [Option.bind_some, show ((15 : Int) = 0) = False by simp, if_false, iLen_eq, (vF_n s 256).1]
    simp
end Go.AM
set_option linter.unusedVariables false
namespace Go.AM
open Go.Proofs
abbrev jn (L : List Str) : Str := Lib.join L [32]
theorem jn_cons (x y : Str) (L : List Str) : jn (x :: y :: L) = x ++ 32 :: jn (y :: L) := by
  simp [jn, Lib.join_cons, Lib.joinTail]
theorem jn_one (x : Str) : jn [x] = x := Lib.join_one x _
theorem splitR_no {x : Str} (h : ∀ c ∈ x, c ≠ 32) : splitR x = [x] := by
  induction x with
  | nil => rfl
  | cons c r ih => simp only [splitR, if_neg (h c (by simp)), ih fun d hd => h d (by simp [hd])]
theorem splitR_app {x y : Str} (h : ∀ c ∈ x, c ≠ 32) : splitR (x ++ 32 :: y) = x :: splitR y := by
  induction x with
  | nil => simp [splitR]
  | cons c r ih =>
    have := ih fun d hd => h d (by simp [hd])
    simp only [List.cons_append, splitR, if_neg (h c (by simp)), this]
theorem splitR_jn : ∀ (x : Str) (L : List Str), (∀ y ∈ x :: L, ∀ c ∈ y, c ≠ 32) → splitR (jn (x :: L)) = x :: L
  | x, [], h => by rw [jn_one, splitR_no (h x (by simp))]
  | x, y :: L, h => by rw [jn_cons, splitR_app (h x (by simp)), splitR_jn y L fun z hz => h z (by simp [hz])]
theorem foldB_app (s : Sl Str) : ∀ (A B : List Str) (p m : BitVec 32), foldB s (A ++ B) p m = (foldB s A p m).bind fun q => foldB s B q.1 q.2
  | [], B, p, m => rfl
  | x :: A, B, p, m => by
    simp only [List.cons_append, foldB]
    cases stepB s x p m with
    | none => rfl
    | some q => exact foldB_app s A B q.1 q.2
structure Item (s : Sl Str) (x : Str) : Prop where
  no : ∀ c ∈ x, c ≠ 32
  bad : ∀ i, i < x.length → ∀ p m, stepB s (x.take i) p m = none
theorem fold_cut (s : Sl Str) : ∀ (x : Str) (L : List Str), (∀ y ∈ x :: L, Item s y) → ∀ (p m : BitVec 32), (foldB s (x :: L) p m).isSome = true → ∀ i, i < (jn (x :: L)).length →
    (foldB s (splitR ((jn (x :: L)).take i)) p m).isSome = decide ((jn (x :: L)).getD i 0 = 32)
  | x, L, h, p, m, hf, i, hi => by
    have hx := h x (by simp)
    have hno : ∀ c ∈ x.take i, c ≠ 32 := fun c hc => hx.no c (List.mem_of_mem_take hc)
    by_cases h1 : i < x.length
    · have e1 : (jn (x :: L)).take i = x.take i ∧ (jn (x :: L)).getD i 0 = x.getD i 0 := by
        cases L with
        | nil => rw [jn_one]; exact ⟨rfl, rfl⟩
        | cons y L =>
          rw [jn_cons]
          refine ⟨List.take_append_of_le_length (by omega), ?_⟩
          simp [List.getD_eq_getElem?_getD, List.getElem?_append_left h1]
      rw [e1.1, e1.2, splitR_no hno]
      simp only [foldB, hx.bad i h1 p m]
      have : x.getD i 0 ≠ 32 := by
        have : x.getD i 0 = x[i] := by simp [List.getD_eq_getElem?_getD, List.getElem?_eq_getElem h1]
        rw [this]; exact hx.no _ (List.getElem_mem h1)
      rw [decide_eq_false this]; rfl
    · cases L with
      | nil => rw [jn_one] at hi; omega
      | cons y L =>
        simp only [foldB] at hf
        cases hst : stepB s x p m with
        | none => simp [hst] at hf
        | some q =>
          simp only [hst] at hf
          rw [jn_cons] at hi ⊢
          by_cases h2 : i = x.length
          · subst h2
            have e2 : (x ++ 32 :: jn (y :: L)).take x.length = x := by simp
            have e3 : (x ++ 32 :: jn (y :: L)).getD x.length 0 = 32 := by simp [List.getD_eq_getElem?_getD]
            rw [e2, e3, splitR_no hx.no]
            simp [foldB, hst]
          · obtain ⟨j, rfl⟩ : ∃ j, i = x.length + (j + 1) := ⟨i - x.length - 1, by omega⟩
            have e2 : (x ++ 32 :: jn (y :: L)).take (x.length + (j + 1)) = x ++ 32 :: (jn (y :: L)).take j := by
              rw [List.take_append, List.take_of_length_le (by omega)]; simp
            have e3 : (x ++ 32 :: jn (y :: L)).getD (x.length + (j + 1)) 0 = (jn (y :: L)).getD j 0 := by
              simp [List.getD_eq_getElem?_getD, List.getElem?_append_right]
            rw [e2, e3, splitR_app hx.no]
            simp only [foldB, hst]
            exact fold_cut s y L (fun z hz => h z (by simp [hz])) q.1 q.2 hf j (by simp only [List.length_append, List.length_cons] at hi; omega)
def lowB (x : BitVec 32) : Nat → BitVec 32
  | 0 => 0#32
  | k + 1 => if x.getLsbD k = true then setB (lowB x k) k else lowB x k
theorem get_lowB (x : BitVec 32) {j : Nat} (hj : j < 32) : ∀ k, (lowB x k).getLsbD j = (x.getLsbD j && decide (j < k))
  | 0 => by simp [lowB]
  | k + 1 => by
    simp only [lowB]
    split
    · rename_i h
      rw [get_setB hj, get_lowB x hj k]
      by_cases e : j = k
      · subst e; simp [h]
      · have : decide (j < k + 1) = decide (j < k) := decide_eq_decide.2 (by omega)
        simp [e, this]
    · rename_i h
      rw [get_lowB x hj k]
      by_cases e : j = k
      · subst e; simp [h]
      · have : decide (j < k + 1) = decide (j < k) := decide_eq_decide.2 (by omega)
        rw [this]
theorem lowB_all {x : BitVec 32} {n : Nat} (h : ∀ j, j < 32 → n ≤ j → x.getLsbD j = false) : lowB x n = x := by
  apply BitVec.eq_of_getLsbD_eq
  intro j hj
  rw [get_lowB x hj]
  by_cases e : j < n
  · simp [e]
  · simp [e, h j hj (by omega)]
theorem fpos_num : ∀ n k, n ≤ 24 → k < n → fpos (numS n) (numN k) = some k := by
  have h : ∀ (n : Fin 25) (k : Fin 24), k.val < n.val → fpos (numS n.val) (numN k.val) = some k.val := by decide +kernel
  exact fun n k hn hk => h ⟨n, by omega⟩ ⟨k, by omega⟩ hk
theorem fpos_short (n : Nat) {z : Str} (hz : z.length ≠ 2) : fpos (numS n) z = none := by
  unfold fpos
  rw [List.find?_eq_none]
  intro i hi
  rw [numS_n] at hi
  rw [numS_g n i (List.mem_range.1 hi)]
  intro e
  have := eq_of_beq e
  rw [← this] at hz
  exact hz rfl
theorem num_no : ∀ k, k < 24 → ∀ c ∈ numN k, c ≠ 32 := by
  have h : ∀ k : Fin 24, ∀ c ∈ numN k.val, c ≠ 32 := by decide +kernel
  exact fun k hk => h ⟨k, hk⟩
theorem item_num (n : Nat) {k : Nat} (hk : k < 24) {c : UInt8} (hc : c ≠ 32) : Item (numS n) (c :: numN k) := by
  refine ⟨fun d hd => ?_, fun i hi p m => ?_⟩
  · rcases List.mem_cons.1 hd with rfl | hd
    · exact hc
    · exact num_no k hk d hd
  · have hl : (c :: numN k).length = 3 := rfl
    cases i with
    | zero => rfl
    | succ i =>
      simp only [List.take_succ_cons, stepB]
      have h2 : ((numN k).take i).length ≠ 2 := by
        rw [List.length_take]
        have : (numN k).length = 2 := rfl
        omega
      simp only [fpos_short n h2]
      split
      · rfl
      · split <;> rfl
section
variable (n : Nat) (p m : BitVec 32)
def itG (k : Nat) : List Str := if p.getLsbD k = true then [[43] ++ (numS n).g k] else if m.getLsbD k = true then [[45] ++ (numS n).g k] else []
def itR (k : Nat) : Nat → List Str
  | 0 => []
  | j + 1 => itG n p m k ++ itR (k + 1) j
theorem itL_succ (k : Nat) : itL (numS n) p m (k + 1) = itL (numS n) p m k ++ itG n p m k := rfl
theorem itL_itR : ∀ (j k : Nat), itL (numS n) p m k ++ itR n p m k j = itL (numS n) p m (k + j)
  | 0, k => by simp [itR]
  | j + 1, k => by
    rw [itR, ← List.append_assoc, ← itL_succ, itL_itR j (k + 1)]
    congr 1; omega
theorem itG_item {k : Nat} (hn : n ≤ 24) (hk : k < n) : ∀ x ∈ itG n p m k, Item (numS n) x := by
  intro x hx
  unfold itG at hx
  rw [numS_g n k hk] at hx
  split at hx
  · rw [List.mem_singleton.1 hx]; exact item_num n (by omega) (by decide)
  · split at hx
    · rw [List.mem_singleton.1 hx]; exact item_num n (by omega) (by decide)
    · cases hx
theorem itL_item (hn : n ≤ 24) : ∀ k, k ≤ n → ∀ x ∈ itL (numS n) p m k, Item (numS n) x
  | 0, _, x, hx => by cases hx
  | k + 1, hk, x, hx => by
    rw [itL_succ] at hx
    rcases List.mem_append.1 hx with hx | hx
    · exact itL_item hn k (by omega) x hx
    · exact itG_item n p m hn (by omega) x hx
theorem fold_it (hn : n ≤ 24) (hd : ∀ j, j < 32 → (p.getLsbD j && m.getLsbD j) = false) : ∀ k, k ≤ n → foldB (numS n) (itL (numS n) p m k) 0#32 0#32 = some (lowB p k, lowB m k)
  | 0, _ => rfl
  | k + 1, hk => by
    rw [itL_succ, foldB_app, fold_it hn hd k (by omega)]
    have hp := get_lowB p (show k < 32 by omega) k
    have hm := get_lowB m (show k < 32 by omega) k
    simp only [Nat.lt_irrefl, decide_false, Bool.and_false] at hp hm
    have hdk := hd k (by omega)
    simp only [Option.bind_some, itG, lowB]
    rw [numS_g n k (by omega)]
    by_cases h1 : p.getLsbD k = true
    · have h2 : m.getLsbD k = false := by simpa [h1] using hdk
      simp [h1, h2, foldB, stepB, fpos_num n k hn (by omega), hp, hm]
    · by_cases h2 : m.getLsbD k = true
      · simp [h1, h2, foldB, stepB, fpos_num n k hn (by omega), hp, hm]
      · simp [h1, h2, foldB]
end
end Go.AM
set_option linter.unusedVariables false
namespace Go.AM
open Go.Proofs
def maskB (n : Nat) : BitVec 32 := BitVec.ofNat 32 (2 ^ n - 1)
theorem mask_bit {n i : Nat} (hi : i < 32) : (maskB n).getLsbD i = decide (i < n) := by
  unfold maskB
  rw [BitVec.getLsbD_ofNat, Nat.testBit_two_pow_sub_one]; simp [hi]
def clP (n : Nat) (p : BitVec 32) : BitVec 32 := p &&& maskB n
def clM (n : Nat) (p m : BitVec 32) : BitVec 32 := (m &&& ~~~p) &&& maskB n
theorem clean_eq {N : Nat} (n : Nat) (hn : n ≤ 24) (p m : BitVec 32) : m_ablautlaw03_clean N (sOf p m) (n : Int) = some (sOf (clP n p) (clM n p m)) := by
  unfold m_ablautlaw03_clean
  rw [if_pos (by omega), mask_eq hn, bit_and, bit_andNot, bit_and]; rfl
theorem cl_spec (n : Nat) (p m : BitVec 32) {j : Nat} (hj : j < 32) : (clP n p).getLsbD j = (p.getLsbD j && decide (j < n)) ∧ (clM n p m).getLsbD j = ((m.getLsbD j && !p.getLsbD j) && decide (j < n)) := by
  simp only [clP, clM, BitVec.getLsbD_and, BitVec.getLsbD_not, mask_bit hj, hj, decide_true, Bool.true_and, and_self]
theorem cl_disj (n : Nat) (p m : BitVec 32) (j : Nat) (hj : j < 32) : ((clP n p).getLsbD j && (clM n p m).getLsbD j) = false := by
  rw [(cl_spec n p m hj).1, (cl_spec n p m hj).2]
  cases p.getLsbD j <;> simp
theorem cl_high (n : Nat) (p m : BitVec 32) (j : Nat) (hj : j < 32) (h : n ≤ j) : (clP n p).getLsbD j = false ∧ (clM n p m).getLsbD j = false := by
  rw [(cl_spec n p m hj).1, (cl_spec n p m hj).2]
  have : decide (j < n) = false := by simp; omega
  simp [this]
theorem belB_of {n : Nat} (hn : n ≤ 24) {p m : BitVec 32} (h1 : ∀ j, j < 32 → (p.getLsbD j && m.getLsbD j) = false) (h2 : ∀ j, j < 32 → n ≤ j → p.getLsbD j = false ∧ m.getLsbD j = false) : belB n p m = true := by
  rw [← bel_eq hn]
  simp only [belG, Bool.and_eq_true, decide_eq_true_eq]
  constructor
  · apply BitVec.eq_of_getLsbD_eq
    intro j hj
    rw [BitVec.getLsbD_and, h1 j hj]; simp
  · apply BitVec.eq_of_getLsbD_eq
    intro j hj
    have := mask_bit (n := n) hj
    unfold maskB at this
    rw [BitVec.getLsbD_and, BitVec.getLsbD_or, BitVec.getLsbD_not, this]
    by_cases h : j < n
    · simp [h]
    · have := h2 j hj (by omega)
      simp [this.1, this.2]
theorem has_jn (x : Str) (R : List Str) : Lib.hasPrefix (jn (x :: R)) x = true := by
  cases R with
  | nil => rw [jn_one]; simp [Lib.hasPrefix]
  | cons y R => rw [jn_cons]; simp [Lib.hasPrefix]
theorem trim_jn (x : Str) (R : List Str) : Lib.trimPrefix ((jn (x :: R)).drop x.length) [32] = jn R := by
  cases R with
  | nil => rw [jn_one]; simp; rfl
  | cons y R => rw [jn_cons]; simp only [List.drop_left]; exact trim1 32 _
theorem len_jn (x : Str) (R : List Str) : x.length ≤ (jn (x :: R)).length := by
  cases R with
  | nil => rw [jn_one]; omega
  | cons y R => rw [jn_cons]; simp
theorem num_len (n : Nat) {i : Nat} (hi : i < n) : ((numS n).g i).length = 2 := by rw [numS_g n i hi]; rfl
theorem bunR_ok (o : Option (BitVec 32 × BitVec 32)) : ((bunR o).2 == 0) = o.isSome := by cases o <;> rfl
theorem Back_eq (c : Nat) (P M : BitVec 32) (hc : c < 256) : m_ablautlaw03_InventoryBack NN (c : Int) (sOf P M) = some true := by
  have hNN : NN = 4194304 := rfl
  unfold m_ablautlaw03_InventoryBack
  have e0 : IntKind.wrap .i64 (c : Int) = (c : Int) := wrap64_in (by omega) (by omega)
  have e1 : ((c : Int)).tmod 25 = ((c % 25 : Nat) : Int) := by
    rw [show (25 : Int) = ((25 : Nat) : Int) from rfl, ← Int.ofNat_tmod]
  rw [e0, e1]
  have hn : c % 25 ≤ 24 := by omega
  generalize c % 25 = n at hn
  rw [numbered_eq n hn (by omega), clean_eq n hn]
  simp only [Option.bind_some, optE_some]
  have hdj := cl_disj n P M
  have hhi := cl_high n P M
  generalize clP n P = p at hdj hhi
  generalize clM n P M = m at hdj hhi
  have hb : belB n p m = true := belB_of hn hdj hhi
  have hT : m_inventory_Inv_Text NN (invN n) (sOf p m) = some (jn (itL (numS n) p m n), 0) := by
    rw [iText_eq (invN n) p m (by show (numS n).n ≤ 24; rw [numS_n]; exact hn) (fun i hi => by
      have hi : i < n := by have := hi; rw [show (invN n).feats = numS n from rfl, numS_n] at this; exact this
      show ((numS n).g i).length ≤ 16
      rw [num_len n hi]; omega) (by omega)]
    show some (if belB (numS n).n p m = true then (txR (numS n) p m (numS n).n, 0) else ([], 14)) = _
    rw [numS_n, if_pos hb, (txR_join (numS n) p m n).1]
  have hlen : (jn (itL (numS n) p m n)).length ≤ 18 * n := by
    rw [show jn (itL (numS n) p m n) = txR (numS n) p m n from ((txR_join (numS n) p m n).1).symm]
    exact txR_le (numS n) p m (fun i hi => by rw [num_len n hi]; omega) n (Nat.le_refl _)
  have hf := fold_it n p m hn hdj n (Nat.le_refl _)
  rw [lowB_all fun j hj h => (hhi j hj h).1, lowB_all fun j hj h => (hhi j hj h).2] at hf
  have hit := itL_item n p m hn n (Nat.le_refl _)
  have hB : ∀ t : Str, t.length ≤ 18 * n → m_inventory_Inv_Bundle NN (invN n) t = some (if t = [] then (⟨0, 0⟩, 0) else bunR (foldB (numS n) (splitR t) 0#32 0#32)) := fun t ht =>
    iBundle_eq (invN n) (numS n) (IOk_num hn).number (by rw [numS_n]; exact hn) t (by omega) (by omega)
  have hR0 := itL_itR n p m n 0
  rw [Nat.zero_add] at hR0
  rw [hT]
  simp only [Option.bind_some]
  have hcut := fun x L (e : itL (numS n) p m n = x :: L) => fold_cut (numS n) x L (fun y hy => hit y (by rw [e]; exact hy)) 0#32 0#32 (by rw [← e, hf]; rfl)
  have hspl := fun x L (e : itL (numS n) p m n = x :: L) => splitR_jn x L (fun y hy => (hit y (by rw [e]; exact hy)).no)
  have hBT : m_inventory_Inv_Bundle NN (invN n) (jn (itL (numS n) p m n)) = some (sOf p m, 0) := by
    rw [hB _ hlen]
    cases e : itL (numS n) p m n with
    | nil =>
      rw [e] at hf
      simp only [foldB, Option.some.injEq, Prod.mk.injEq] at hf
      obtain ⟨rfl, rfl⟩ := hf
      rfl
    | cons x L =>
      have hx : jn (x :: L) ≠ [] := by
        have h3 : x ≠ [] := by
          rintro rfl
          rw [e] at hf
          simp [foldB, stepB] at hf
        cases L with
        | nil => rw [jn_one]; exact h3
        | cons y L => rw [jn_cons]; simp
      rw [if_neg hx, hspl x L e, ← e, hf]; rfl
  rw [hBT]
  simp only [Option.bind_some]
  rw [if_neg (by simp)]
  unfold fix2
  refine (congrArg _ (show (jn (itL (numS n) p m n), (0 : Int)) = (jn (itR n p m 0 (n - 0)), ((0 : Nat) : Int)) by rw [show n - 0 = n from rfl, ← hR0]; rfl)).trans ?_
  refine loop_end (fun i : Nat => (jn (itR n p m i (n - i)), (i : Int))) n _ (by omega) fun self i hi => ?_
  dsimp only
  by_cases h : i < n
  · rw [if_pos (by simp only [decide_eq_true_eq]; omega), if_pos (by omega), if_pos h, wrap64_succ (by omega)]
    simp only [bit_eq, lt, show ((i : Int)).toNat = i from rfl]
    obtain ⟨k, hk⟩ : ∃ k, n - i = k + 1 := ⟨n - i - 1, by omega⟩
    have hk' : n - (i + 1) = k := by omega
    rw [hk, hk']
    have hg := num_len n h
    have step : ∀ sign : Str, sign.length = 1 → itR n p m i (k + 1) = (sign ++ (numS n).g i) :: itR n p m (i + 1) k →
        (if ((((0 : Int) ≤ (i : Int) ∧ (i : Int) < (((numS n).n : Nat) : Int)) ∧ i < (numS n).n) ∧ (((sign.length + ((numS n).g i).length : Nat) : Int) ≤ 9223372036854775807)) then
          (m_strings_HasPrefix NN (jn (itR n p m i (k + 1))) (sign ++ ((numS n).g i))).bind fun y9 =>
          if (!y9) = true then some false
          else
            if (((((0 : Int) ≤ (i : Int) ∧ (i : Int) < (((numS n).n : Nat) : Int)) ∧ i < (numS n).n) ∧ (((sign.length + ((numS n).g i).length : Nat) : Int) ≤ 9223372036854775807)) ∧ ((0 : Int) ≤ (((sign ++ ((numS n).g i)).length : Nat) : Int) ∧ (((sign ++ ((numS n).g i)).length : Nat) : Int) ≤ (((jn (itR n p m i (k + 1))).length : Nat) : Int))) then
              (m_strings_TrimPrefix NN ((jn (itR n p m i (k + 1))).drop (((sign ++ ((numS n).g i)).length : Nat) : Int).toNat) [32]).bind fun y10 => self (y10, ((i + 1 : Nat) : Int))
            else none
        else none) = self (jn (itR n p m (i + 1) k), ((i + 1 : Nat) : Int)) := by
      intro sign hs e
      have hl := len_jn (sign ++ (numS n).g i) (itR n p m (i + 1) k)
      rw [e]
      simp only [m_strings_HasPrefix, m_strings_TrimPrefix, Option.bind_some, has_jn]
      rw [if_pos (by rw [numS_n, hs, hg]; omega), if_neg (by simp), if_pos (by rw [numS_n, hs, hg]; omega)]
      rw [show ((((sign ++ ((numS n).g i)).length : Nat) : Int)).toNat = (sign ++ (numS n).g i).length from rfl, trim_jn]
    have hri : itR n p m i (k + 1) = itG n p m i ++ itR n p m (i + 1) k := rfl
    by_cases h1 : p.getLsbD i = true
    · rw [if_pos h1]
      exact step [43] rfl (by rw [hri]; simp only [itG, if_pos h1]; rfl)
    · rw [if_neg h1]
      rw [if_pos (by omega)]
      by_cases h2 : m.getLsbD i = true
      · rw [if_pos h2]
        exact step [45] rfl (by rw [hri]; simp only [itG, if_neg h1, if_pos h2]; rfl)
      · rw [if_neg h2, hri]
        simp only [itG, if_neg h1, if_neg h2]
        rfl
  · rw [if_neg (by simp only [decide_eq_true_eq]; omega), if_neg h]
    have : i = n := by omega
    subst this
    refine loop_end (fun j : Nat => (j : Int)) (jn (itL (numS i) p m i)).length (some true) (by omega) fun self' j hj => ?_
    by_cases h' : j < (jn (itL (numS i) p m i)).length
    · rw [if_pos (by simp only [decide_eq_true_eq]; omega), if_pos (by omega), if_pos h', wrap64_succ (by omega), show ((j : Int)).toNat = j from rfl, hB _ (by rw [List.length_take]; omega)]
      simp only [Option.bind_some]
      rw [if_pos (fun _ => by omega)]
      have hby : (byteAt (jn (itL (numS i) p m i)) (j : Int) == 32) = decide ((jn (itL (numS i) p m i)).getD j 0 = 32) := by
        rw [Bool.eq_iff_iff, beq_iff_eq, decide_eq_true_eq]
        show ((((jn (itL (numS i) p m i)).getD j 0).toNat : Nat) : Int) = 32 ↔ _
        constructor
        · intro h; apply UInt8.toNat_inj.1; show _ = 32; omega
        · intro h; rw [h]; rfl
      rw [hby]
      cases j with
      | zero => simp
      | succ j =>
        have hne : (jn (itL (numS i) p m i)).take (j + 1) ≠ [] := by
          intro e
          have := congrArg List.length e
          rw [List.length_take] at this
          simp only [List.length_nil] at this
          omega
        rw [if_neg hne]
        have e2 : ((bunR (foldB (numS i) (splitR ((jn (itL (numS i) p m i)).take (j + 1))) 0#32 0#32)).2 == 0) = decide ((jn (itL (numS i) p m i)).getD (j + 1) 0 = 32) := by
          rw [bunR_ok]
          cases e : itL (numS i) p m i with
          | nil => rw [e] at h'; exact absurd h' (by simp [jn, Lib.join])
          | cons x L => exact hcut x L e (j + 1) (by rw [e] at h'; exact h')
        rw [e2]
        have e3 : (((j + 1 : Nat) : Int) == 0) = false := by simp; omega
        rw [e3]
        simp
    · rw [if_neg (by simp only [decide_eq_true_eq]; omega), if_neg h', show i - i = 0 by omega]
      simp [itR, works_N, lt, jn, Lib.join]
end Go.AM