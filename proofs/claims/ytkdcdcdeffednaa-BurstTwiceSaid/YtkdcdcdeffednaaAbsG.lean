/- Contracts of the functions that the laws on spans reach: what each hands back; a library for the laws, it claims nothing by itself. -/
import Derived.Test.YtkdcdcdeffednaaAbsC
set_option linter.unusedVariables false
set_option linter.unusedSimpArgs false
/- Where two strings differ: plain lists of bytes. -/
namespace Go.Abs
def bitAt (s : List UInt8) (i : Nat) : Bool := (s.getD (i / 8) 0).toNat.testBit (i % 8)
def stepS (p : Int × Int) (i : Nat) : Int × Int := (if p.1 < 0 then (i : Int) else p.1, (i : Int))
def spanN (a b : List UInt8) : Nat → Int × Int
  | 0 => (-1, -1)
  | i + 1 => if bitAt a i ≠ bitAt b i then stepS (spanN a b i) i else spanN a b i
def spanBits (p : Int × Int) (i : Nat) (x : UInt8) : Nat → Int × Int
  | 0 => p
  | n + 1 => if x.toNat.testBit n = true then stepS (spanBits p i x n) (8 * i + n) else spanBits p i x n
def spanByte (p : Int × Int) (d : Nat × UInt8) : Int × Int := spanBits p d.1 d.2 8
/-- The bytes that differ. -/
def diffN (a b : List UInt8) : Nat → List (Nat × UInt8)
  | 0 => []
  | n + 1 => diffN a b n ++ (if a.getD n 0 ^^^ b.getD n 0 ≠ 0 then [(n, a.getD n 0 ^^^ b.getD n 0)] else [])
theorem diffN_mem {a b : List UInt8} : ∀ {n : Nat} {d : Nat × UInt8}, d ∈ diffN a b n → d.1 < n
  | 0, d, h => by simp [diffN] at h
  | n + 1, d, h => by
    simp only [diffN, List.mem_append] at h
    rcases h with h | h
    · have := diffN_mem h; omega
    · split at h
      · simp at h; subst h; simp
      · simp at h
theorem bit_xor (a b : List UInt8) (n j : Nat) (hj : j < 8) : (a.getD n 0 ^^^ b.getD n 0).toNat.testBit j = true ↔ bitAt a (8 * n + j) ≠ bitAt b (8 * n + j) := by
  have e1 : (8 * n + j) / 8 = n := by omega
  have e2 : (8 * n + j) % 8 = j := by omega
  unfold bitAt
  rw [e1, e2, UInt8.toNat_xor, Nat.testBit_xor]
  cases (a.getD n 0).toNat.testBit j <;> cases (b.getD n 0).toNat.testBit j <;> simp
theorem spanN_bits (a b : List UInt8) (n : Nat) : ∀ j, j ≤ 8 → spanN a b (8 * n + j) = spanBits (spanN a b (8 * n)) n (a.getD n 0 ^^^ b.getD n 0) j
  | 0, _ => rfl
  | j + 1, h => by
    have ih := spanN_bits a b n j (by omega)
    show spanN a b ((8 * n + j) + 1) = _
    simp only [spanN, spanBits]
    by_cases hb : bitAt a (8 * n + j) ≠ bitAt b (8 * n + j)
    · rw [if_pos hb, if_pos ((bit_xor a b n j (by omega)).2 hb), ih]
    · rw [if_neg hb, if_neg fun h => hb ((bit_xor a b n j (by omega)).1 h), ih]
theorem spanBits_zero (p : Int × Int) (i : Nat) : ∀ j, spanBits p i 0 j = p
  | 0 => rfl
  | j + 1 => by simp only [spanBits]; rw [if_neg (by simp), spanBits_zero p i j]
theorem spanN_fold (a b : List UInt8) : ∀ n, spanN a b (8 * n) = (diffN a b n).foldl spanByte (-1, -1)
  | 0 => rfl
  | n + 1 => by
    rw [show 8 * (n + 1) = 8 * n + 8 by omega, spanN_bits a b n 8 (Nat.le_refl _), spanN_fold a b n]
    simp only [diffN, List.foldl_append]
    split
    · rfl
    · rename_i h
      have : a.getD n 0 ^^^ b.getD n 0 = 0 := Decidable.byContradiction h
      rw [this, spanBits_zero]; rfl
/-- What is known of the first and the last bit. -/
theorem spanN_spec (a b : List UInt8) : ∀ k, (spanN a b k = (-1, -1) ∧ ∀ i, i < k → bitAt a i = bitAt b i) ∨
    ∃ f l : Nat, spanN a b k = ((f : Int), (l : Int)) ∧ f ≤ l ∧ l < k ∧ bitAt a f ≠ bitAt b f ∧ bitAt a l ≠ bitAt b l ∧ (∀ i, i < f → bitAt a i = bitAt b i) ∧ ∀ i, l < i → i < k → bitAt a i = bitAt b i
  | 0 => .inl ⟨rfl, fun i h => by omega⟩
  | k + 1 => by
    simp only [spanN]
    by_cases hb : bitAt a k ≠ bitAt b k
    · rw [if_pos hb]
      right
      rcases spanN_spec a b k with ⟨h1, h2⟩ | ⟨f, l, h1, h2, h3, h4, h5, h6, h7⟩
      · exact ⟨k, k, by rw [h1]; rfl, Nat.le_refl _, by omega, hb, hb, h2, fun i h8 h9 => by omega⟩
      · exact ⟨f, k, by rw [h1]; simp only [stepS]; rw [if_neg (by omega)], by omega, by omega, h4, hb, h6, fun i h8 h9 => by omega⟩
    · rw [if_neg hb]
      have hb' : bitAt a k = bitAt b k := Decidable.byContradiction hb
      rcases spanN_spec a b k with ⟨h1, h2⟩ | ⟨f, l, h1, h2, h3, h4, h5, h6, h7⟩
      · exact .inl ⟨h1, fun i h => if e : i = k then e ▸ hb' else h2 i (by omega)⟩
      · exact .inr ⟨f, l, h1, h2, by omega, h4, h5, h6, fun i h8 h9 => if e : i = k then e ▸ hb' else h7 i h8 (by omega)⟩
theorem bits_eq {a b : List UInt8} (hl : a.length = b.length) (h : ∀ i, i < 8 * a.length → bitAt a i = bitAt b i) : a = b := by
  apply List.ext_getElem hl
  intro n h1 h2
  have hx : ∀ j, j < 8 → (a[n]).toNat.testBit j = (b[n]).toNat.testBit j := fun j hj => by
    have := h (8 * n + j) (by omega)
    unfold bitAt at this
    rw [show (8 * n + j) / 8 = n by omega, show (8 * n + j) % 8 = j by omega] at this
    simpa [List.getD_eq_getElem?_getD, h1, h2] using this
  apply UInt8.toNat_inj.1
  apply Nat.eq_of_testBit_eq
  intro j
  by_cases hj : j < 8
  · exact hx j hj
  · have h3 : ∀ u : UInt8, u.toNat.testBit j = false := fun u => Nat.testBit_lt_two_pow (Nat.lt_of_lt_of_le u.toNat_lt (Nat.pow_le_pow_right (by omega) (by omega : 8 ≤ j)))
    rw [h3, h3]
def spanS (a b : List UInt8) : Int × Int × Int :=
  if a.length ≠ b.length ∨ a.length > 20000 then (0, 0, 4) else if a = b then (0, 0, 3) else ((spanN a b (8 * a.length)).1, (spanN a b (8 * a.length)).2, 0)
def isS (a b : List UInt8) : Bool :=
  decide (a.length = b.length) && (decide (spanN a b (8 * a.length) ≠ (-1, -1)) && decide ((spanN a b (8 * a.length)).2 - (spanN a b (8 * a.length)).1 < 32))
theorem span_none {a b : List UInt8} (hl : a.length = b.length) : spanN a b (8 * a.length) = (-1, -1) ↔ a = b := by
  constructor
  · intro h
    rcases spanN_spec a b (8 * a.length) with ⟨_, h2⟩ | ⟨f, l, h1, _⟩
    · exact bits_eq hl h2
    · rw [h] at h1; injection h1 with h1 _; omega
  · rintro rfl
    rcases spanN_spec a a (8 * a.length) with ⟨h1, _⟩ | ⟨f, l, _, _, _, h4, _⟩
    · exact h1
    · exact absurd rfl h4
def dItem (d : Nat × UInt8) : List D := [.int .i64 d.1, .int .u8 d.2.toNat]
/-- What is still to be yielded. -/
def dRest (a b : List UInt8) (n : Nat) : List (List D) := ((diffN a b a.length).drop (diffN a b n).length).map dItem
theorem diffN_pre (a b : List UInt8) : ∀ m n, n ≤ m → ∃ t, diffN a b m = diffN a b n ++ t
  | 0, n, h => by have : n = 0 := by omega
                  subst this; exact ⟨[], rfl⟩
  | m + 1, n, h => by
    rcases Nat.lt_or_ge n (m + 1) with h1 | h1
    · obtain ⟨t, ht⟩ := diffN_pre a b m n (by omega)
      exact ⟨_, by simp only [diffN]; rw [ht, List.append_assoc]⟩
    · have : n = m + 1 := by omega
      subst this; exact ⟨[], by simp⟩
theorem dRest_y {a b : List UInt8} {n : Nat} (hn : n < a.length) (h : a.getD n 0 ^^^ b.getD n 0 ≠ 0) : dRest a b n = dItem (n, a.getD n 0 ^^^ b.getD n 0) :: dRest a b (n + 1) := by
  obtain ⟨t, ht⟩ := diffN_pre a b a.length (n + 1) (by omega)
  have e : diffN a b (n + 1) = diffN a b n ++ [(n, a.getD n 0 ^^^ b.getD n 0)] := by simp only [diffN]; rw [if_pos h]
  unfold dRest
  rw [ht, List.drop_left, e, List.append_assoc, List.drop_left]
  rfl
theorem dRest_n {a b : List UInt8} {n : Nat} (h : ¬ a.getD n 0 ^^^ b.getD n 0 ≠ 0) : dRest a b (n + 1) = dRest a b n := by
  unfold dRest; simp only [diffN]; rw [if_neg h, List.append_nil]
theorem dRest_end (a b : List UInt8) : dRest a b a.length = [] := by unfold dRest; simp
theorem u8_ne {u : UInt8} : (u.toNat : Int) ≠ 0 ↔ u ≠ 0 := by
  constructor
  · rintro h rfl; exact h rfl
  · intro h h2; exact h (UInt8.toNat_inj.1 (by simpa using h2))
theorem spanBits_y {p : Int × Int} {i n : Nat} {x : UInt8} (h : x.toNat.testBit n = true) : spanBits p i x (n + 1) = stepS (spanBits p i x n) (8 * i + n) := by simp only [spanBits]; rw [if_pos h]
theorem spanBits_n {p : Int × Int} {i n : Nat} {x : UInt8} (h : ¬ x.toNat.testBit n = true) : spanBits p i x (n + 1) = spanBits p i x n := by simp only [spanBits]; rw [if_neg h]
theorem stepS_y {p : Int × Int} {i : Nat} (h : p.1 < 0) : stepS p i = ((i : Int), (i : Int)) := by unfold stepS; rw [if_pos h]
theorem stepS_n {p : Int × Int} {i : Nat} (h : ¬ p.1 < 0) : stepS p i = (p.1, (i : Int)) := by unfold stepS; rw [if_neg h]
theorem spanN_y {a b : List UInt8} {i : Nat} (h : bitAt a i ≠ bitAt b i) : spanN a b (i + 1) = stepS (spanN a b i) i := by simp only [spanN]; rw [if_pos h]
theorem spanN_n {a b : List UInt8} {i : Nat} (h : ¬ bitAt a i ≠ bitAt b i) : spanN a b (i + 1) = spanN a b i := by simp only [spanN]; rw [if_neg h]
/-! ### bytes taken away at the ends -/
theorem spanN_congr {a b a' b' : List UInt8} : ∀ {k : Nat}, (∀ i, i < k → bitAt a i = bitAt a' i ∧ bitAt b i = bitAt b' i) → spanN a b k = spanN a' b' k
  | 0, _ => rfl
  | k + 1, h => by
    simp only [spanN]
    rw [(h k (by omega)).1, (h k (by omega)).2, spanN_congr fun i hi => h i (by omega)]
theorem spanN_same {a b : List UInt8} {k : Nat} : ∀ {m : Nat}, k ≤ m → (∀ i, k ≤ i → i < m → bitAt a i = bitAt b i) → spanN a b m = spanN a b k
  | 0, h, _ => by have : k = 0 := by omega
                  subst this; rfl
  | m + 1, h, hs => by
    rcases Nat.lt_or_ge k (m + 1) with h1 | h1
    · simp only [spanN]
      rw [if_neg fun h2 => h2 (hs m (by omega) (by omega)), spanN_same (by omega) fun i h2 h3 => hs i h2 (by omega)]
    · have : k = m + 1 := by omega
      subst this; rfl
def shift8 (p : Int × Int) : Int × Int := if p.1 < 0 then p else (p.1 + 8, p.2 + 8)
theorem bitAt_cons (x : UInt8) (a : List UInt8) (i : Nat) : bitAt (x :: a) (8 + i) = bitAt a i := by
  unfold bitAt
  rw [show (8 + i) / 8 = i / 8 + 1 by omega, show (8 + i) % 8 = i % 8 by omega]
  simp
theorem bitAt_head (x : UInt8) (a b : List UInt8) (i : Nat) (h : i < 8) : bitAt (x :: a) i = bitAt (x :: b) i := by
  unfold bitAt; rw [show i / 8 = 0 by omega]; rfl
theorem spanN_cons (x : UInt8) (a b : List UInt8) : ∀ k, spanN (x :: a) (x :: b) (8 + k) = shift8 (spanN a b k)
  | 0 => by
    rw [Nat.add_zero, spanN_same (k := 0) (Nat.zero_le _) fun i _ hi => bitAt_head x a b i hi]; rfl
  | k + 1 => by
    show spanN (x :: a) (x :: b) ((8 + k) + 1) = _
    simp only [spanN, bitAt_cons]
    rw [spanN_cons x a b k]
    split
    · unfold shift8 stepS
      simp only
      by_cases h : (spanN a b k).1 < 0
      · simp only [if_pos h]
        rw [if_neg (by omega)]
        congr 1 <;> omega
      · simp only [if_neg h]
        rw [if_neg (by omega)]
        congr 1
        omega
    · rfl
theorem isS_cons (x : UInt8) (a b : List UInt8) : isS (x :: a) (x :: b) = isS a b := by
  unfold isS
  rw [List.length_cons, List.length_cons, show 8 * (a.length + 1) = 8 + 8 * a.length by omega, spanN_cons]
  have e : decide (a.length + 1 = b.length + 1) = decide (a.length = b.length) := by
    rw [Bool.eq_iff_iff]; simp
  rw [e]
  congr 1
  rcases spanN_spec a b (8 * a.length) with ⟨h1, _⟩ | ⟨f, l, h1, _⟩
  · rw [h1]; rfl
  · rw [h1]
    have e2 : shift8 ((f : Int), (l : Int)) = ((f : Int) + 8, (l : Int) + 8) := by unfold shift8; rw [if_neg (by simp only; omega)]
    rw [e2]
    have e3 : ((f : Int) + 8, (l : Int) + 8) ≠ ((-1 : Int), (-1 : Int)) := fun h => by injection h with h _; omega
    have e4 : ((f : Int), (l : Int)) ≠ ((-1 : Int), (-1 : Int)) := fun h => by injection h with h _; omega
    rw [decide_eq_true e3, decide_eq_true e4]
    congr 1
    rw [Bool.eq_iff_iff]
    simp only [decide_eq_true_eq]
    omega
theorem bitAt_left {a c : List UInt8} {i : Nat} (h : i < 8 * a.length) : bitAt (a ++ c) i = bitAt a i := by
  unfold bitAt
  have : i / 8 < a.length := by omega
  simp [List.getD_eq_getElem?_getD, List.getElem?_append_left this]
theorem isS_snoc (x : UInt8) (a b : List UInt8) (hl : a.length = b.length) : isS (a ++ [x]) (b ++ [x]) = isS a b := by
  have e : spanN (a ++ [x]) (b ++ [x]) (8 * (a ++ [x]).length) = spanN a b (8 * a.length) := by
    rw [List.length_append, show ([x] : List UInt8).length = 1 from rfl]
    rw [spanN_same (k := 8 * a.length) (by omega) fun i h1 h2 => ?_]
    · exact spanN_congr fun i hi => ⟨bitAt_left hi, bitAt_left (by omega)⟩
    · unfold bitAt
      rw [show i / 8 = a.length by omega]
      have e1 : (b ++ [x]).getD a.length 0 = x := by rw [hl]; simp
      have e2 : (a ++ [x]).getD a.length 0 = x := by simp
      rw [e1, e2]
  unfold isS
  rw [e]
  simp [hl]
theorem byte_bit {x y : UInt8} (h : x ≠ y) : ∃ j, j < 8 ∧ x.toNat.testBit j ≠ y.toNat.testBit j := by
  apply Decidable.byContradiction
  intro hc
  apply h
  apply UInt8.toNat_inj.1
  apply Nat.eq_of_testBit_eq
  intro j
  by_cases hj : j < 8
  · exact Decidable.byContradiction fun h2 => hc ⟨j, hj, h2⟩
  · have h3 : ∀ u : UInt8, u.toNat.testBit j = false := fun u => Nat.testBit_lt_two_pow (Nat.lt_of_lt_of_le u.toNat_lt (Nat.pow_le_pow_right (by omega) (by omega : 8 ≤ j)))
    rw [h3, h3]
theorem isS_long {a b : List UInt8} (hl : a.length = b.length) (h5 : 5 < a.length) (h1 : a.getD 0 0 ≠ b.getD 0 0) (h2 : a.getD (a.length - 1) 0 ≠ b.getD (a.length - 1) 0) : isS a b = false := by
  obtain ⟨j, hj, hj2⟩ := byte_bit h1
  obtain ⟨m, hm, hm2⟩ := byte_bit h2
  have hj3 : bitAt a j ≠ bitAt b j := by unfold bitAt; rw [show j / 8 = 0 by omega, show j % 8 = j by omega]; exact hj2
  have hm3 : bitAt a (8 * (a.length - 1) + m) ≠ bitAt b (8 * (a.length - 1) + m) := by
    unfold bitAt; rw [show (8 * (a.length - 1) + m) / 8 = a.length - 1 by omega, show (8 * (a.length - 1) + m) % 8 = m by omega]; exact hm2
  rcases spanN_spec a b (8 * a.length) with ⟨_, h3⟩ | ⟨f, l, h3, _, _, _, _, h4, h6⟩
  · exact absurd (h3 j (by omega)) hj3
  · have hf : f ≤ j := Nat.le_of_not_lt fun h => hj3 (h4 j h)
    have hlg : 8 * (a.length - 1) + m ≤ l := Nat.le_of_not_lt fun h => hm3 (h6 _ h (by omega))
    unfold isS
    rw [h3]
    have : ¬ ((l : Int) - (f : Int) < 32) := by omega
    simp [this]
theorem drop1 {a : List UInt8} (h : 0 < a.length) : a = a.getD 0 0 :: a.drop 1 := by
  cases a with
  | nil => simp at h
  | cons x a => rfl
theorem isS_drop {a b : List UInt8} (hl : a.length = b.length) (h : 0 < a.length) (he : a.getD 0 0 = b.getD 0 0) : isS (a.drop 1) (b.drop 1) = isS a b := by
  have e1 := drop1 h
  have e2 := drop1 (a := b) (by omega)
  rw [e1, e2, ← he, isS_cons]; rfl
theorem take1 {a : List UInt8} (h : 0 < a.length) : a = a.take (a.length - 1) ++ [a.getD (a.length - 1) 0] := by
  have h1 : a.length - 1 < a.length := by omega
  have e : a.getD (a.length - 1) 0 = a[a.length - 1] := by simp [List.getD_eq_getElem?_getD, h1]
  rw [e, ← List.take_succ_eq_append_getElem h1, List.take_of_length_le (by omega)]
theorem isS_take {a b : List UInt8} (hl : a.length = b.length) (h : 0 < a.length) (he : a.getD (a.length - 1) 0 = b.getD (b.length - 1) 0) : isS (a.take (a.length - 1)) (b.take (b.length - 1)) = isS a b := by
  have e1 := take1 h
  have e2 := take1 (a := b) (by omega)
  have h2 := isS_snoc (a.getD (a.length - 1) 0) (a.take (a.length - 1)) (b.take (b.length - 1)) (by simp; omega)
  rw [← h2]
  conv => rhs; rw [e1, e2, ← he]
theorem take_first {a : List UInt8} (h : 0 < (a.take (a.length - 1)).length) : (a.take (a.length - 1)).getD 0 0 = a.getD 0 0 := by
  simp at h
  simp only [List.getD_eq_getElem?_getD, List.getElem?_take]
  rw [if_pos (by omega)]
theorem isS_short {a b : List UInt8} (hl : a.length = b.length) (h : a.length ≤ 20000) : isS a b = (decide ((spanS a b).2.2 = 0) && decide ((spanS a b).2.1 - (spanS a b).1 ≤ 31)) := by
  have hn := span_none hl
  unfold spanS
  rw [if_neg (by omega)]
  by_cases he : a = b
  · rw [if_pos he]
    unfold isS
    rw [hn.2 he]; simp
  · rw [if_neg he]
    unfold isS
    have h1 : spanN a b (8 * a.length) ≠ (-1, -1) := fun e => he (hn.1 e)
    simp only [decide_eq_true hl, decide_eq_true h1, Bool.true_and, decide_true]
    rw [Bool.eq_iff_iff]
    simp only [decide_eq_true_eq]
    omega
theorem toNat_inj {x y : UInt8} (h : (x.toNat : Int) = (y.toNat : Int)) : x = y := UInt8.toNat_inj.1 (by omega)
end Go.Abs
/- Contracts: where two strings differ. -/
namespace Go.Abs
open Go.Proofs
theorem cr75 (a b : List UInt8) : CR Try.prog 75 [st a, st b] [] (.fn 81 [.ptr 0 0, .ptr 1 0]) [.box [st a], .box [st b]] := by
  refine fn_cr fn75 (Nat.le_of_ble_eq_true rfl) rfl ?_
  unfold sc75
  repeat' first
    | with_reducible refine T_seq ?_
    | with_reducible refine S_ops ?_
    | with_reducible refine O_step ?_
    | ((with_reducible apply K_mov_d); exact rfl)
    | with_reducible refine O_nil ?_
    | with_reducible refine seq_n ?_
    | with_reducible refine S_ret ?_
    | with_reducible refine seq_r ?_
    | with_reducible refine rnd_r ?_
    | ((with_reducible apply K_mov_ref); exact rfl)
    | ((with_reducible apply K_mov_ptr); exact rfl)
    | ((with_reducible apply K_mov_fn); exact rfl)
    | ((with_reducible apply K_mov_yld); exact rfl)
    | ((with_reducible apply K_box_d); exact rfl; exact rfl)
    | with_reducible refine K_mkfn0 ?_
    | ((with_reducible apply K_mkfn); exact rfl; exact rfl)
  exact ⟨.inr rfl, _, [0, 1], rfl, rfl, by decide, (by intro i hi; simp at hi; simp; omega), rfl, rfl⟩
theorem ir81 (a b : List UInt8) (ha : a.length ≤ 100000) (hl : a.length = b.length) : IR Try.prog 81 [.ptr 0 0, .ptr 1 0] [.box [st a], .box [st b]] ((diffN a b a.length).map dItem) := by
  refine it_ir fn81 (Nat.le_of_ble_eq_true rfl) (fun j off h => ?_) fun l => ?_
  · simp at h; simp; omega
  unfold sc81
  repeat' first
    | with_reducible refine T_seq ?_
    | with_reducible refine S_ops ?_
    | with_reducible refine O_step ?_
    | ((with_reducible apply K_mov_d); exact rfl)
    | with_reducible refine O_nil ?_
    | with_reducible refine seq_n ?_
    | with_reducible refine S_skip ?_
    | ((with_reducible apply T_itet); exact rfl)
    | ((with_reducible apply T_itef); exact rfl)
    | ((with_reducible apply T_ite1); exact rfl; (first | with_reducible assumption | omega))
    | ((with_reducible apply T_ite0); exact rfl; (first | with_reducible assumption | omega))
    | ((with_reducible apply T_iteP); exact rfl; all_goals intro _)
    | with_reducible refine S_ret ?_
    | with_reducible refine seq_r ?_
    | with_reducible refine S_exit ?_
    | with_reducible refine seq_e ?_
    | with_reducible refine T_block ?_
    | with_reducible refine blk_1 ?_
    | with_reducible refine blk_0 rfl ?_
    | with_reducible refine blk_n ?_
    | with_reducible refine blk_r ?_
    | with_reducible refine rnd_r ?_
    | with_reducible refine rnd_e ?_
    | ((with_reducible apply G_skip'); exact rfl)
    | ((with_reducible apply G_1tt); exact rfl)
    | ((with_reducible apply G_1ff); exact rfl)
    | ((with_reducible apply G_0tt); exact rfl)
    | ((with_reducible apply G_0ff); exact rfl)
    | ((with_reducible apply G_1y); exact rfl; (first | with_reducible assumption | omega))
    | ((with_reducible apply G_1n); exact rfl; (first | with_reducible assumption | omega))
    | ((with_reducible apply G_0y); exact rfl; (first | with_reducible assumption | omega))
    | ((with_reducible apply G_0n); exact rfl; (first | with_reducible assumption | omega))
    | ((with_reducible apply G_1P); exact rfl; all_goals intro _)
    | ((with_reducible apply G_0P); exact rfl; all_goals intro _)
    | ((with_reducible apply K_pickt); exact rfl; exact rfl)
    | ((with_reducible apply K_pickf); exact rfl; exact rfl)
    | ((with_reducible apply K_pickT); exact rfl; (first | with_reducible assumption | omega); exact rfl)
    | ((with_reducible apply K_pickF); exact rfl; (first | with_reducible assumption | omega); exact rfl)
    | ((with_reducible apply K_lss); exact rfl; exact rfl)
    | ((with_reducible apply K_neq); exact rfl; exact rfl)
    | ((with_reducible apply K_neqS); exact rfl; exact rfl)
    | ((with_reducible apply K_add); exact rfl; exact rfl; (first | omega | decide))
    | ((with_reducible apply K_addw); exact rfl; exact rfl)
    | ((with_reducible apply K_xor); exact rfl; exact rfl)
    | ((with_reducible apply K_not_t); exact rfl)
    | ((with_reducible apply K_not_f); exact rfl)
    | ((with_reducible apply K_notP); exact rfl)
    | ((with_reducible apply K_lenS); exact rfl)
    | with_reducible refine S_draw0 ?_
    | with_reducible refine D_nil ?_
    | with_reducible refine D_step0 ?_
    | ((with_reducible apply DG_1y); exact rfl; (first | with_reducible assumption | omega))
    | ((with_reducible apply DG_1n); exact rfl; (first | with_reducible assumption | omega))
    | ((with_reducible apply DG_0y); exact rfl; (first | with_reducible assumption | omega))
    | ((with_reducible apply DG_0n); exact rfl; (first | with_reducible assumption | omega))
    | ((with_reducible apply DG_1P); exact rfl; all_goals intro _)
    | ((with_reducible apply DG_0P); exact rfl; all_goals intro _)
    | ((with_reducible apply K_idxSn); exact rfl; exact rfl; (first | omega | decide))
    | ((with_reducible apply K_idxS); exact rfl; exact rfl; (first | omega | decide))
    | ((with_reducible apply K_load1_ptr); exact rfl; exact rfl; exact rfl)
    | ((with_reducible apply K_load1_fp); exact rfl)
    | ((with_reducible apply K_load1_byte); exact rfl; exact rfl; (first | omega | decide))
    | ((with_reducible apply K_mov_ref); exact rfl)
    | ((with_reducible apply K_mov_ptr); exact rfl)
    | ((with_reducible apply K_mov_yld); exact rfl)
  refine T_loop (fun t => Nat.ble 4 t && (!(Nat.beq t 6) && !(Nat.beq t 7))) [8, G] (fun n : Nat => [i64 n, .gh l (dRest a b n)]) (fun _ => [.box [st a], .box [st b]]) (· ≤ a.length) (a.length - ·) 0 rfl (Nat.zero_le _) rfl rfl ?_
  intro n g hn
  by_cases hlt : n < a.length
  · by_cases hx : a.getD n 0 ^^^ b.getD n 0 ≠ 0
    · have hx' := u8_ne.2 hx
      have hr := dRest_y hlt hx
      repeat' first
        | ((with_reducible apply O_yield); exact rfl; exact congrArg (AV.gh l) hr; exact rfl)
        | ((with_reducible apply K_xorb); exact rfl; exact rfl)
        | with_reducible refine T_seq ?_
        | with_reducible refine S_ops ?_
        | with_reducible refine O_step ?_
        | ((with_reducible apply K_mov_d); exact rfl)
        | with_reducible refine O_nil ?_
        | with_reducible refine seq_n ?_
        | with_reducible refine S_skip ?_
        | ((with_reducible apply T_itet); exact rfl)
        | ((with_reducible apply T_itef); exact rfl)
        | ((with_reducible apply T_ite1); exact rfl; (first | with_reducible assumption | omega))
        | ((with_reducible apply T_ite0); exact rfl; (first | with_reducible assumption | omega))
        | ((with_reducible apply T_iteP); exact rfl; all_goals intro _)
        | with_reducible refine S_ret ?_
        | with_reducible refine seq_r ?_
        | with_reducible refine S_exit ?_
        | with_reducible refine seq_e ?_
        | with_reducible refine T_block ?_
        | with_reducible refine blk_1 ?_
        | with_reducible refine blk_0 rfl ?_
        | with_reducible refine blk_n ?_
        | with_reducible refine blk_r ?_
        | with_reducible refine rnd_r ?_
        | with_reducible refine rnd_e ?_
        | ((with_reducible apply G_skip'); exact rfl)
        | ((with_reducible apply G_1tt); exact rfl)
        | ((with_reducible apply G_1ff); exact rfl)
        | ((with_reducible apply G_0tt); exact rfl)
        | ((with_reducible apply G_0ff); exact rfl)
        | ((with_reducible apply G_1y); exact rfl; (first | with_reducible assumption | omega))
        | ((with_reducible apply G_1n); exact rfl; (first | with_reducible assumption | omega))
        | ((with_reducible apply G_0y); exact rfl; (first | with_reducible assumption | omega))
        | ((with_reducible apply G_0n); exact rfl; (first | with_reducible assumption | omega))
        | ((with_reducible apply G_1P); exact rfl; all_goals intro _)
        | ((with_reducible apply G_0P); exact rfl; all_goals intro _)
        | ((with_reducible apply K_pickt); exact rfl; exact rfl)
        | ((with_reducible apply K_pickf); exact rfl; exact rfl)
        | ((with_reducible apply K_pickT); exact rfl; (first | with_reducible assumption | omega); exact rfl)
        | ((with_reducible apply K_pickF); exact rfl; (first | with_reducible assumption | omega); exact rfl)
        | ((with_reducible apply K_lss); exact rfl; exact rfl)
        | ((with_reducible apply K_neq); exact rfl; exact rfl)
        | ((with_reducible apply K_neqS); exact rfl; exact rfl)
        | ((with_reducible apply K_add); exact rfl; exact rfl; (first | omega | decide))
        | ((with_reducible apply K_addw); exact rfl; exact rfl)
        | ((with_reducible apply K_xor); exact rfl; exact rfl)
        | ((with_reducible apply K_not_t); exact rfl)
        | ((with_reducible apply K_not_f); exact rfl)
        | ((with_reducible apply K_notP); exact rfl)
        | ((with_reducible apply K_lenS); exact rfl)
        | with_reducible refine S_draw0 ?_
        | with_reducible refine D_nil ?_
        | with_reducible refine D_step0 ?_
        | ((with_reducible apply DG_1y); exact rfl; (first | with_reducible assumption | omega))
        | ((with_reducible apply DG_1n); exact rfl; (first | with_reducible assumption | omega))
        | ((with_reducible apply DG_0y); exact rfl; (first | with_reducible assumption | omega))
        | ((with_reducible apply DG_0n); exact rfl; (first | with_reducible assumption | omega))
        | ((with_reducible apply DG_1P); exact rfl; all_goals intro _)
        | ((with_reducible apply DG_0P); exact rfl; all_goals intro _)
        | ((with_reducible apply K_idxSn); exact rfl; exact rfl; (first | omega | decide))
        | ((with_reducible apply K_idxS); exact rfl; exact rfl; (first | omega | decide))
        | ((with_reducible apply K_load1_ptr); exact rfl; exact rfl; exact rfl)
        | ((with_reducible apply K_load1_fp); exact rfl)
        | ((with_reducible apply K_load1_byte); exact rfl; exact rfl; (first | omega | decide))
        | ((with_reducible apply K_mov_ref); exact rfl)
        | ((with_reducible apply K_mov_ptr); exact rfl)
        | ((with_reducible apply K_mov_yld); exact rfl)
      · exact rnd_n (n + 1) ⟨by omega, by omega⟩ rfl rfl
      · exact ⟨.inr rfl, rfl⟩
    · have hx' : ¬ (((a.getD n 0 ^^^ b.getD n 0).toNat : Int) ≠ 0) := fun h => hx (u8_ne.1 h)
      have hr := dRest_n hx
      repeat' first
        | ((with_reducible apply K_xorb); exact rfl; exact rfl)
        | with_reducible refine T_seq ?_
        | with_reducible refine S_ops ?_
        | with_reducible refine O_step ?_
        | ((with_reducible apply K_mov_d); exact rfl)
        | with_reducible refine O_nil ?_
        | with_reducible refine seq_n ?_
        | with_reducible refine S_skip ?_
        | ((with_reducible apply T_itet); exact rfl)
        | ((with_reducible apply T_itef); exact rfl)
        | ((with_reducible apply T_ite1); exact rfl; (first | with_reducible assumption | omega))
        | ((with_reducible apply T_ite0); exact rfl; (first | with_reducible assumption | omega))
        | ((with_reducible apply T_iteP); exact rfl; all_goals intro _)
        | with_reducible refine S_ret ?_
        | with_reducible refine seq_r ?_
        | with_reducible refine S_exit ?_
        | with_reducible refine seq_e ?_
        | with_reducible refine T_block ?_
        | with_reducible refine blk_1 ?_
        | with_reducible refine blk_0 rfl ?_
        | with_reducible refine blk_n ?_
        | with_reducible refine blk_r ?_
        | with_reducible refine rnd_r ?_
        | with_reducible refine rnd_e ?_
        | ((with_reducible apply G_skip'); exact rfl)
        | ((with_reducible apply G_1tt); exact rfl)
        | ((with_reducible apply G_1ff); exact rfl)
        | ((with_reducible apply G_0tt); exact rfl)
        | ((with_reducible apply G_0ff); exact rfl)
        | ((with_reducible apply G_1y); exact rfl; (first | with_reducible assumption | omega))
        | ((with_reducible apply G_1n); exact rfl; (first | with_reducible assumption | omega))
        | ((with_reducible apply G_0y); exact rfl; (first | with_reducible assumption | omega))
        | ((with_reducible apply G_0n); exact rfl; (first | with_reducible assumption | omega))
        | ((with_reducible apply G_1P); exact rfl; all_goals intro _)
        | ((with_reducible apply G_0P); exact rfl; all_goals intro _)
        | ((with_reducible apply K_pickt); exact rfl; exact rfl)
        | ((with_reducible apply K_pickf); exact rfl; exact rfl)
        | ((with_reducible apply K_pickT); exact rfl; (first | with_reducible assumption | omega); exact rfl)
        | ((with_reducible apply K_pickF); exact rfl; (first | with_reducible assumption | omega); exact rfl)
        | ((with_reducible apply K_lss); exact rfl; exact rfl)
        | ((with_reducible apply K_neq); exact rfl; exact rfl)
        | ((with_reducible apply K_neqS); exact rfl; exact rfl)
        | ((with_reducible apply K_add); exact rfl; exact rfl; (first | omega | decide))
        | ((with_reducible apply K_addw); exact rfl; exact rfl)
        | ((with_reducible apply K_xor); exact rfl; exact rfl)
        | ((with_reducible apply K_not_t); exact rfl)
        | ((with_reducible apply K_not_f); exact rfl)
        | ((with_reducible apply K_notP); exact rfl)
        | ((with_reducible apply K_lenS); exact rfl)
        | with_reducible refine S_draw0 ?_
        | with_reducible refine D_nil ?_
        | with_reducible refine D_step0 ?_
        | ((with_reducible apply DG_1y); exact rfl; (first | with_reducible assumption | omega))
        | ((with_reducible apply DG_1n); exact rfl; (first | with_reducible assumption | omega))
        | ((with_reducible apply DG_0y); exact rfl; (first | with_reducible assumption | omega))
        | ((with_reducible apply DG_0n); exact rfl; (first | with_reducible assumption | omega))
        | ((with_reducible apply DG_1P); exact rfl; all_goals intro _)
        | ((with_reducible apply DG_0P); exact rfl; all_goals intro _)
        | ((with_reducible apply K_idxSn); exact rfl; exact rfl; (first | omega | decide))
        | ((with_reducible apply K_idxS); exact rfl; exact rfl; (first | omega | decide))
        | ((with_reducible apply K_load1_ptr); exact rfl; exact rfl; exact rfl)
        | ((with_reducible apply K_load1_fp); exact rfl)
        | ((with_reducible apply K_load1_byte); exact rfl; exact rfl; (first | omega | decide))
        | ((with_reducible apply K_mov_ref); exact rfl)
        | ((with_reducible apply K_mov_ptr); exact rfl)
        | ((with_reducible apply K_mov_yld); exact rfl)
      exact rnd_n (n + 1) ⟨by omega, by omega⟩ (by rw [hr]; rfl) rfl
  · have : n = a.length := by omega
    subst this
    repeat' first
      | with_reducible refine T_seq ?_
      | with_reducible refine S_ops ?_
      | with_reducible refine O_step ?_
      | ((with_reducible apply K_mov_d); exact rfl)
      | with_reducible refine O_nil ?_
      | with_reducible refine seq_n ?_
      | with_reducible refine S_skip ?_
      | ((with_reducible apply T_itet); exact rfl)
      | ((with_reducible apply T_itef); exact rfl)
      | ((with_reducible apply T_ite1); exact rfl; (first | with_reducible assumption | omega))
      | ((with_reducible apply T_ite0); exact rfl; (first | with_reducible assumption | omega))
      | ((with_reducible apply T_iteP); exact rfl; all_goals intro _)
      | with_reducible refine S_ret ?_
      | with_reducible refine seq_r ?_
      | with_reducible refine S_exit ?_
      | with_reducible refine seq_e ?_
      | with_reducible refine T_block ?_
      | with_reducible refine blk_1 ?_
      | with_reducible refine blk_0 rfl ?_
      | with_reducible refine blk_n ?_
      | with_reducible refine blk_r ?_
      | with_reducible refine rnd_r ?_
      | with_reducible refine rnd_e ?_
      | ((with_reducible apply G_skip'); exact rfl)
      | ((with_reducible apply G_1tt); exact rfl)
      | ((with_reducible apply G_1ff); exact rfl)
      | ((with_reducible apply G_0tt); exact rfl)
      | ((with_reducible apply G_0ff); exact rfl)
      | ((with_reducible apply G_1y); exact rfl; (first | with_reducible assumption | omega))
      | ((with_reducible apply G_1n); exact rfl; (first | with_reducible assumption | omega))
      | ((with_reducible apply G_0y); exact rfl; (first | with_reducible assumption | omega))
      | ((with_reducible apply G_0n); exact rfl; (first | with_reducible assumption | omega))
      | ((with_reducible apply G_1P); exact rfl; all_goals intro _)
      | ((with_reducible apply G_0P); exact rfl; all_goals intro _)
      | ((with_reducible apply K_pickt); exact rfl; exact rfl)
      | ((with_reducible apply K_pickf); exact rfl; exact rfl)
      | ((with_reducible apply K_pickT); exact rfl; (first | with_reducible assumption | omega); exact rfl)
      | ((with_reducible apply K_pickF); exact rfl; (first | with_reducible assumption | omega); exact rfl)
      | ((with_reducible apply K_lss); exact rfl; exact rfl)
      | ((with_reducible apply K_neq); exact rfl; exact rfl)
      | ((with_reducible apply K_neqS); exact rfl; exact rfl)
      | ((with_reducible apply K_add); exact rfl; exact rfl; (first | omega | decide))
      | ((with_reducible apply K_addw); exact rfl; exact rfl)
      | ((with_reducible apply K_xor); exact rfl; exact rfl)
      | ((with_reducible apply K_not_t); exact rfl)
      | ((with_reducible apply K_not_f); exact rfl)
      | ((with_reducible apply K_notP); exact rfl)
      | ((with_reducible apply K_lenS); exact rfl)
      | with_reducible refine S_draw0 ?_
      | with_reducible refine D_nil ?_
      | with_reducible refine D_step0 ?_
      | ((with_reducible apply DG_1y); exact rfl; (first | with_reducible assumption | omega))
      | ((with_reducible apply DG_1n); exact rfl; (first | with_reducible assumption | omega))
      | ((with_reducible apply DG_0y); exact rfl; (first | with_reducible assumption | omega))
      | ((with_reducible apply DG_0n); exact rfl; (first | with_reducible assumption | omega))
      | ((with_reducible apply DG_1P); exact rfl; all_goals intro _)
      | ((with_reducible apply DG_0P); exact rfl; all_goals intro _)
      | ((with_reducible apply K_idxSn); exact rfl; exact rfl; (first | omega | decide))
      | ((with_reducible apply K_idxS); exact rfl; exact rfl; (first | omega | decide))
      | ((with_reducible apply K_load1_ptr); exact rfl; exact rfl; exact rfl)
      | ((with_reducible apply K_load1_fp); exact rfl)
      | ((with_reducible apply K_load1_byte); exact rfl; exact rfl; (first | omega | decide))
      | ((with_reducible apply K_mov_ref); exact rfl)
      | ((with_reducible apply K_mov_ptr); exact rfl)
      | ((with_reducible apply K_mov_yld); exact rfl)
    exact ⟨.inl rfl, congrArg (AV.gh l) (dRest_end a b)⟩
def betweenB (p : Int × Int) : Bool := !(p.1 == -1 && (p.2 == -1 && true))
theorem cr58 (a b : List UInt8) (ha : a.length ≤ 100000) (hl : a.length = b.length) :
    CR Try.prog 58 [st a, st b] [] (.tup [.d (.agg [.int .i64 (spanN a b (8 * a.length)).1, .int .i64 (spanN a b (8 * a.length)).2]), .d (.bool (betweenB (spanN a b (8 * a.length))))]) [] := by
  refine fn_cr fn58 (Nat.le_of_ble_eq_true rfl) rfl ?_
  unfold sc58
  repeat' first
    | ((with_reducible apply K_call_d (ys := [.str a, .str b])); exact rfl; exact cr75 a b; exact ⟨rfl, rfl⟩)
    | with_reducible refine T_seq ?_
    | with_reducible refine S_ops ?_
    | with_reducible refine O_step ?_
    | ((with_reducible apply K_mov_d); exact rfl)
    | with_reducible refine O_nil ?_
    | with_reducible refine seq_n ?_
    | with_reducible refine S_skip ?_
    | ((with_reducible apply T_itet); exact rfl)
    | ((with_reducible apply T_itef); exact rfl)
    | ((with_reducible apply T_ite1); exact rfl; (first | with_reducible assumption | omega))
    | ((with_reducible apply T_ite0); exact rfl; (first | with_reducible assumption | omega))
    | ((with_reducible apply T_iteP); exact rfl; all_goals intro _)
    | with_reducible refine S_ret ?_
    | with_reducible refine seq_r ?_
    | with_reducible refine S_exit ?_
    | with_reducible refine seq_e ?_
    | with_reducible refine T_block ?_
    | with_reducible refine blk_1 ?_
    | with_reducible refine blk_0 rfl ?_
    | with_reducible refine blk_n ?_
    | with_reducible refine blk_r ?_
    | with_reducible refine rnd_r ?_
    | with_reducible refine rnd_e ?_
    | with_reducible refine body_r ?_
    | with_reducible refine body_e ?_
    | with_reducible refine asg_n ?_
    | ((with_reducible apply K_lss); exact rfl; exact rfl)
    | ((with_reducible apply K_eql); exact rfl; exact rfl)
    | ((with_reducible apply K_eqlS); exact rfl; exact rfl)
    | ((with_reducible apply K_add); exact rfl; exact rfl; (first | omega | decide))
    | ((with_reducible apply K_mul); exact rfl; exact rfl; (first | omega | decide))
    | ((with_reducible apply K_addw); exact rfl; exact rfl)
    | ((with_reducible apply K_mulw); exact rfl; exact rfl)
    | ((with_reducible apply K_and3); exact rfl; exact rfl; (first | omega | decide))
    | ((with_reducible apply K_and7); exact rfl; exact rfl; (first | omega | decide))
    | ((with_reducible apply K_shrc 2); exact rfl; exact rfl; exact rfl; (first | omega | decide))
    | ((with_reducible apply K_shrc 4); exact rfl; exact rfl; exact rfl; (first | omega | decide))
    | ((with_reducible apply K_shrc 8); exact rfl; exact rfl; exact rfl; (first | omega | decide))
    | ((with_reducible apply K_and); exact rfl; exact rfl)
    | ((with_reducible apply K_shr); exact rfl; exact rfl; (first | omega | decide))
    | with_reducible refine S_draw0 ?_
    | with_reducible refine D_nil ?_
    | with_reducible refine D_step0 ?_
    | ((with_reducible apply K_load1_ptr); exact rfl; exact rfl; exact rfl)
    | ((with_reducible apply K_load1_fp); exact rfl)
    | ((with_reducible apply K_load1_byte); exact rfl; exact rfl; (first | omega | decide))
    | ((with_reducible apply K_mov_ref); exact rfl)
    | ((with_reducible apply K_mov_ptr); exact rfl)
    | ((with_reducible apply K_mov_agg); exact rfl)
    | ((with_reducible apply K_mov_yld); exact rfl)
    | with_reducible refine K_alloc ?_
    | ((with_reducible apply K_build_d); exact rfl; exact rfl)
    | ((with_reducible apply K_storeA_pd); exact rfl; exact rfl; exact rfl; exact rfl; (first | decide | simp))
    | ((with_reducible apply K_store1_pd); exact rfl; exact rfl; exact rfl; (first | decide | simp); exact rfl)
    | ((with_reducible apply K_store1_pr); exact rfl; exact rfl; exact rfl; (first | decide | simp))
    | ((with_reducible apply K_loadA_pd); exact rfl; exact rfl; (first | decide | simp); exact rfl)
    | ((with_reducible apply K_fldA_ptr); exact rfl)
    | ((with_reducible apply K_fldA_fp); exact rfl)
  obtain ⟨L, hL⟩ : ∃ L, L = diffN a b a.length := ⟨_, rfl⟩
  have hit := ir81 a b ha hl
  rw [← hL] at hit
  have hmem : ∀ d ∈ L, d.1 < a.length := fun d hd => diffN_mem (hL ▸ hd)
  obtain ⟨pk, hpk⟩ : ∃ pk : Nat → Int × Int, ∀ k, pk k = (L.take k).foldl spanByte (-1, -1) := ⟨_, fun _ => rfl⟩
  have hend : pk L.length = spanN a b (8 * a.length) := by rw [hpk, List.take_length, hL, spanN_fold]
  have h0 : pk 0 = (-1, -1) := by rw [hpk]; rfl
  refine T_rng [2, 3] [.ptr 0 0, .ptr 1 0] [.box [st a], .box [st b]] (L.map dItem) (fun k S => S = [.box [i64 0, i64 0], .box [i64 (pk k).1, i64 (pk k).2], .dead, .dead]) rfl hit (fun xs hx => ?_) rfl (by decide) rfl (by rw [h0]; rfl) ?_ ?_
  · simp only [List.mem_map] at hx
    obtain ⟨d, _, rfl⟩ := hx
    rfl
  · rintro S rfl
    rw [List.length_map, hend]
    generalize spanN a b (8 * a.length) = u
    repeat' first
      | with_reducible refine T_seq ?_
      | with_reducible refine S_ops ?_
      | with_reducible refine O_step ?_
      | ((with_reducible apply K_mov_d); exact rfl)
      | with_reducible refine O_nil ?_
      | with_reducible refine seq_n ?_
      | with_reducible refine S_skip ?_
      | ((with_reducible apply T_itet); exact rfl)
      | ((with_reducible apply T_itef); exact rfl)
      | ((with_reducible apply T_ite1); exact rfl; (first | with_reducible assumption | omega))
      | ((with_reducible apply T_ite0); exact rfl; (first | with_reducible assumption | omega))
      | ((with_reducible apply T_iteP); exact rfl; all_goals intro _)
      | with_reducible refine S_ret ?_
      | with_reducible refine seq_r ?_
      | with_reducible refine S_exit ?_
      | with_reducible refine seq_e ?_
      | with_reducible refine T_block ?_
      | with_reducible refine blk_1 ?_
      | with_reducible refine blk_0 rfl ?_
      | with_reducible refine blk_n ?_
      | with_reducible refine blk_r ?_
      | with_reducible refine rnd_r ?_
      | with_reducible refine rnd_e ?_
      | with_reducible refine body_r ?_
      | with_reducible refine body_e ?_
      | with_reducible refine asg_n ?_
      | ((with_reducible apply K_lss); exact rfl; exact rfl)
      | ((with_reducible apply K_eql); exact rfl; exact rfl)
      | ((with_reducible apply K_eqlS); exact rfl; exact rfl)
      | ((with_reducible apply K_add); exact rfl; exact rfl; (first | omega | decide))
      | ((with_reducible apply K_mul); exact rfl; exact rfl; (first | omega | decide))
      | ((with_reducible apply K_addw); exact rfl; exact rfl)
      | ((with_reducible apply K_mulw); exact rfl; exact rfl)
      | ((with_reducible apply K_and3); exact rfl; exact rfl; (first | omega | decide))
      | ((with_reducible apply K_and7); exact rfl; exact rfl; (first | omega | decide))
      | ((with_reducible apply K_shrc 2); exact rfl; exact rfl; exact rfl; (first | omega | decide))
      | ((with_reducible apply K_shrc 4); exact rfl; exact rfl; exact rfl; (first | omega | decide))
      | ((with_reducible apply K_shrc 8); exact rfl; exact rfl; exact rfl; (first | omega | decide))
      | ((with_reducible apply K_and); exact rfl; exact rfl)
      | ((with_reducible apply K_shr); exact rfl; exact rfl; (first | omega | decide))
      | with_reducible refine S_draw0 ?_
      | with_reducible refine D_nil ?_
      | with_reducible refine D_step0 ?_
      | ((with_reducible apply K_load1_ptr); exact rfl; exact rfl; exact rfl)
      | ((with_reducible apply K_load1_fp); exact rfl)
      | ((with_reducible apply K_load1_byte); exact rfl; exact rfl; (first | omega | decide))
      | ((with_reducible apply K_mov_ref); exact rfl)
      | ((with_reducible apply K_mov_ptr); exact rfl)
      | ((with_reducible apply K_mov_agg); exact rfl)
      | ((with_reducible apply K_mov_yld); exact rfl)
      | with_reducible refine K_alloc ?_
      | ((with_reducible apply K_build_d); exact rfl; exact rfl)
      | ((with_reducible apply K_storeA_pd); exact rfl; exact rfl; exact rfl; exact rfl; (first | decide | simp))
      | ((with_reducible apply K_store1_pd); exact rfl; exact rfl; exact rfl; (first | decide | simp); exact rfl)
      | ((with_reducible apply K_store1_pr); exact rfl; exact rfl; exact rfl; (first | decide | simp))
      | ((with_reducible apply K_loadA_pd); exact rfl; exact rfl; (first | decide | simp); exact rfl)
      | ((with_reducible apply K_fldA_ptr); exact rfl)
      | ((with_reducible apply K_fldA_fp); exact rfl)
    refine S_draw ⟨fun j hj => ?_, trivial⟩ ?_
    · have hj : j ∈ [1] := hj
      simp at hj; subst hj
      show 1 ∉ [0]
      simp
    repeat' first
      | ((with_reducible apply K_eqA); exact rfl; exact rfl; exact rfl)
      | with_reducible refine T_seq ?_
      | with_reducible refine S_ops ?_
      | with_reducible refine O_step ?_
      | ((with_reducible apply K_mov_d); exact rfl)
      | with_reducible refine O_nil ?_
      | with_reducible refine seq_n ?_
      | with_reducible refine S_skip ?_
      | ((with_reducible apply T_itet); exact rfl)
      | ((with_reducible apply T_itef); exact rfl)
      | ((with_reducible apply T_ite1); exact rfl; (first | with_reducible assumption | omega))
      | ((with_reducible apply T_ite0); exact rfl; (first | with_reducible assumption | omega))
      | ((with_reducible apply T_iteP); exact rfl; all_goals intro _)
      | with_reducible refine S_ret ?_
      | with_reducible refine seq_r ?_
      | with_reducible refine S_exit ?_
      | with_reducible refine seq_e ?_
      | with_reducible refine T_block ?_
      | with_reducible refine blk_1 ?_
      | with_reducible refine blk_0 rfl ?_
      | with_reducible refine blk_n ?_
      | with_reducible refine blk_r ?_
      | with_reducible refine rnd_r ?_
      | with_reducible refine rnd_e ?_
      | with_reducible refine body_r ?_
      | with_reducible refine body_e ?_
      | with_reducible refine asg_n ?_
      | ((with_reducible apply K_lss); exact rfl; exact rfl)
      | ((with_reducible apply K_eql); exact rfl; exact rfl)
      | ((with_reducible apply K_eqlS); exact rfl; exact rfl)
      | ((with_reducible apply K_add); exact rfl; exact rfl; (first | omega | decide))
      | ((with_reducible apply K_mul); exact rfl; exact rfl; (first | omega | decide))
      | ((with_reducible apply K_addw); exact rfl; exact rfl)
      | ((with_reducible apply K_mulw); exact rfl; exact rfl)
      | ((with_reducible apply K_and3); exact rfl; exact rfl; (first | omega | decide))
      | ((with_reducible apply K_and7); exact rfl; exact rfl; (first | omega | decide))
      | ((with_reducible apply K_shrc 2); exact rfl; exact rfl; exact rfl; (first | omega | decide))
      | ((with_reducible apply K_shrc 4); exact rfl; exact rfl; exact rfl; (first | omega | decide))
      | ((with_reducible apply K_shrc 8); exact rfl; exact rfl; exact rfl; (first | omega | decide))
      | ((with_reducible apply K_and); exact rfl; exact rfl)
      | ((with_reducible apply K_shr); exact rfl; exact rfl; (first | omega | decide))
      | with_reducible refine S_draw0 ?_
      | with_reducible refine D_nil ?_
      | with_reducible refine D_step0 ?_
      | ((with_reducible apply K_load1_ptr); exact rfl; exact rfl; exact rfl)
      | ((with_reducible apply K_load1_fp); exact rfl)
      | ((with_reducible apply K_load1_byte); exact rfl; exact rfl; (first | omega | decide))
      | ((with_reducible apply K_mov_ref); exact rfl)
      | ((with_reducible apply K_mov_ptr); exact rfl)
      | ((with_reducible apply K_mov_agg); exact rfl)
      | ((with_reducible apply K_mov_yld); exact rfl)
      | with_reducible refine K_alloc ?_
      | ((with_reducible apply K_build_d); exact rfl; exact rfl)
      | ((with_reducible apply K_storeA_pd); exact rfl; exact rfl; exact rfl; exact rfl; (first | decide | simp))
      | ((with_reducible apply K_store1_pd); exact rfl; exact rfl; exact rfl; (first | decide | simp); exact rfl)
      | ((with_reducible apply K_store1_pr); exact rfl; exact rfl; exact rfl; (first | decide | simp))
      | ((with_reducible apply K_loadA_pd); exact rfl; exact rfl; (first | decide | simp); exact rfl)
      | ((with_reducible apply K_fldA_ptr); exact rfl)
      | ((with_reducible apply K_fldA_fp); exact rfl)
    exact ends_2 rfl
  · rintro k S rfl hk
    rw [List.length_map] at hk
    have hd : L[k] ∈ L := List.getElem_mem hk
    have hi := hmem _ hd
    have hget : (L.map dItem).getD k [] = dItem L[k] := by simp [List.getD_eq_getElem?_getD, hk]
    have hs : pk (k + 1) = spanByte (pk k) L[k] := by rw [hpk, hpk, List.take_succ_eq_append_getElem hk, List.foldl_append]; rfl
    rw [hget]
    generalize L[k] = d at hi hs
    obtain ⟨i, x⟩ := d
    generalize hp0 : pk k = p0 at hs
    simp only at hi
    have hxl := x.toNat_lt
    repeat' first
      | with_reducible refine T_seq ?_
      | with_reducible refine S_ops ?_
      | with_reducible refine O_step ?_
      | ((with_reducible apply K_mov_d); exact rfl)
      | with_reducible refine O_nil ?_
      | with_reducible refine seq_n ?_
      | with_reducible refine S_skip ?_
      | ((with_reducible apply T_itet); exact rfl)
      | ((with_reducible apply T_itef); exact rfl)
      | ((with_reducible apply T_ite1); exact rfl; (first | with_reducible assumption | omega))
      | ((with_reducible apply T_ite0); exact rfl; (first | with_reducible assumption | omega))
      | ((with_reducible apply T_iteP); exact rfl; all_goals intro _)
      | with_reducible refine S_ret ?_
      | with_reducible refine seq_r ?_
      | with_reducible refine S_exit ?_
      | with_reducible refine seq_e ?_
      | with_reducible refine T_block ?_
      | with_reducible refine blk_1 ?_
      | with_reducible refine blk_0 rfl ?_
      | with_reducible refine blk_n ?_
      | with_reducible refine blk_r ?_
      | with_reducible refine rnd_r ?_
      | with_reducible refine rnd_e ?_
      | with_reducible refine body_r ?_
      | with_reducible refine body_e ?_
      | with_reducible refine asg_n ?_
      | ((with_reducible apply K_lss); exact rfl; exact rfl)
      | ((with_reducible apply K_eql); exact rfl; exact rfl)
      | ((with_reducible apply K_eqlS); exact rfl; exact rfl)
      | ((with_reducible apply K_add); exact rfl; exact rfl; (first | omega | decide))
      | ((with_reducible apply K_mul); exact rfl; exact rfl; (first | omega | decide))
      | ((with_reducible apply K_addw); exact rfl; exact rfl)
      | ((with_reducible apply K_mulw); exact rfl; exact rfl)
      | ((with_reducible apply K_and3); exact rfl; exact rfl; (first | omega | decide))
      | ((with_reducible apply K_and7); exact rfl; exact rfl; (first | omega | decide))
      | ((with_reducible apply K_shrc 2); exact rfl; exact rfl; exact rfl; (first | omega | decide))
      | ((with_reducible apply K_shrc 4); exact rfl; exact rfl; exact rfl; (first | omega | decide))
      | ((with_reducible apply K_shrc 8); exact rfl; exact rfl; exact rfl; (first | omega | decide))
      | ((with_reducible apply K_and); exact rfl; exact rfl)
      | ((with_reducible apply K_shr); exact rfl; exact rfl; (first | omega | decide))
      | with_reducible refine S_draw0 ?_
      | with_reducible refine D_nil ?_
      | with_reducible refine D_step0 ?_
      | ((with_reducible apply K_load1_ptr); exact rfl; exact rfl; exact rfl)
      | ((with_reducible apply K_load1_fp); exact rfl)
      | ((with_reducible apply K_load1_byte); exact rfl; exact rfl; (first | omega | decide))
      | ((with_reducible apply K_mov_ref); exact rfl)
      | ((with_reducible apply K_mov_ptr); exact rfl)
      | ((with_reducible apply K_mov_agg); exact rfl)
      | ((with_reducible apply K_mov_yld); exact rfl)
      | with_reducible refine K_alloc ?_
      | ((with_reducible apply K_build_d); exact rfl; exact rfl)
      | ((with_reducible apply K_storeA_pd); exact rfl; exact rfl; exact rfl; exact rfl; (first | decide | simp))
      | ((with_reducible apply K_store1_pd); exact rfl; exact rfl; exact rfl; (first | decide | simp); exact rfl)
      | ((with_reducible apply K_store1_pr); exact rfl; exact rfl; exact rfl; (first | decide | simp))
      | ((with_reducible apply K_loadA_pd); exact rfl; exact rfl; (first | decide | simp); exact rfl)
      | ((with_reducible apply K_fldA_ptr); exact rfl)
      | ((with_reducible apply K_fldA_fp); exact rfl)
    refine T_loop (fun t => Nat.beq t 9 || Nat.ble 16 t) [16] (fun n : Nat => [i64 n]) (fun n => [.box [i64 0, i64 0], .box [i64 (spanBits p0 i x n).1, i64 (spanBits p0 i x n).2], .dead, .dead]) (· ≤ 8) (8 - ·) 0 rfl (by omega) rfl rfl ?_
    intro n g hn
    repeat' first
      | with_reducible refine T_seq ?_
      | with_reducible refine S_ops ?_
      | with_reducible refine O_step ?_
      | ((with_reducible apply K_mov_d); exact rfl)
      | with_reducible refine O_nil ?_
      | with_reducible refine seq_n ?_
      | with_reducible refine S_skip ?_
      | ((with_reducible apply T_itet); exact rfl)
      | ((with_reducible apply T_itef); exact rfl)
      | ((with_reducible apply T_ite1); exact rfl; (first | with_reducible assumption | omega))
      | ((with_reducible apply T_ite0); exact rfl; (first | with_reducible assumption | omega))
      | ((with_reducible apply T_iteP); exact rfl; all_goals intro _)
      | with_reducible refine S_ret ?_
      | with_reducible refine seq_r ?_
      | with_reducible refine S_exit ?_
      | with_reducible refine seq_e ?_
      | with_reducible refine T_block ?_
      | with_reducible refine blk_1 ?_
      | with_reducible refine blk_0 rfl ?_
      | with_reducible refine blk_n ?_
      | with_reducible refine blk_r ?_
      | with_reducible refine rnd_r ?_
      | with_reducible refine rnd_e ?_
      | with_reducible refine body_r ?_
      | with_reducible refine body_e ?_
      | with_reducible refine asg_n ?_
      | ((with_reducible apply K_lss); exact rfl; exact rfl)
      | ((with_reducible apply K_eql); exact rfl; exact rfl)
      | ((with_reducible apply K_eqlS); exact rfl; exact rfl)
      | ((with_reducible apply K_add); exact rfl; exact rfl; (first | omega | decide))
      | ((with_reducible apply K_mul); exact rfl; exact rfl; (first | omega | decide))
      | ((with_reducible apply K_addw); exact rfl; exact rfl)
      | ((with_reducible apply K_mulw); exact rfl; exact rfl)
      | ((with_reducible apply K_and3); exact rfl; exact rfl; (first | omega | decide))
      | ((with_reducible apply K_and7); exact rfl; exact rfl; (first | omega | decide))
      | ((with_reducible apply K_shrc 2); exact rfl; exact rfl; exact rfl; (first | omega | decide))
      | ((with_reducible apply K_shrc 4); exact rfl; exact rfl; exact rfl; (first | omega | decide))
      | ((with_reducible apply K_shrc 8); exact rfl; exact rfl; exact rfl; (first | omega | decide))
      | ((with_reducible apply K_and); exact rfl; exact rfl)
      | ((with_reducible apply K_shr); exact rfl; exact rfl; (first | omega | decide))
      | with_reducible refine S_draw0 ?_
      | with_reducible refine D_nil ?_
      | with_reducible refine D_step0 ?_
      | ((with_reducible apply K_load1_ptr); exact rfl; exact rfl; exact rfl)
      | ((with_reducible apply K_load1_fp); exact rfl)
      | ((with_reducible apply K_load1_byte); exact rfl; exact rfl; (first | omega | decide))
      | ((with_reducible apply K_mov_ref); exact rfl)
      | ((with_reducible apply K_mov_ptr); exact rfl)
      | ((with_reducible apply K_mov_agg); exact rfl)
      | ((with_reducible apply K_mov_yld); exact rfl)
      | with_reducible refine K_alloc ?_
      | ((with_reducible apply K_build_d); exact rfl; exact rfl)
      | ((with_reducible apply K_storeA_pd); exact rfl; exact rfl; exact rfl; exact rfl; (first | decide | simp))
      | ((with_reducible apply K_store1_pd); exact rfl; exact rfl; exact rfl; (first | decide | simp); exact rfl)
      | ((with_reducible apply K_store1_pr); exact rfl; exact rfl; exact rfl; (first | decide | simp))
      | ((with_reducible apply K_loadA_pd); exact rfl; exact rfl; (first | decide | simp); exact rfl)
      | ((with_reducible apply K_fldA_ptr); exact rfl)
      | ((with_reducible apply K_fldA_fp); exact rfl)
    · have hb := (tb8 (p := x.toNat) (i := n) hxl (by omega)).1 (by assumption)
      exact rnd_n (n + 1) ⟨by omega, by omega⟩ rfl (by rw [spanBits_n (by rw [hb]; decide)])
    · have hb : x.toNat.testBit n = true := Decidable.byContradiction fun h => absurd ((tb8 (p := x.toNat) (i := n) hxl (by omega)).2 (by simpa using h)) (by assumption)
      exact rnd_n (n + 1) ⟨by omega, by omega⟩ rfl (by rw [spanBits_y hb, stepS_y (by assumption)]; rfl)
    · have hb : x.toNat.testBit n = true := Decidable.byContradiction fun h => absurd ((tb8 (p := x.toNat) (i := n) hxl (by omega)).2 (by simpa using h)) (by assumption)
      exact rnd_n (n + 1) ⟨by omega, by omega⟩ rfl (by rw [spanBits_y hb, stepS_n (by assumption)]; rfl)
    · have : n = 8 := by omega
      subst this
      exact body_n (by rw [hs]; rfl)
def betweenS (a b : List UInt8) : Int × Int := spanN a b (8 * a.length)
theorem betweenB_eq {a b : List UInt8} (hl : a.length = b.length) : betweenB (spanN a b (8 * a.length)) = decide (a ≠ b) := by
  have h := span_none hl
  unfold betweenB
  by_cases he : a = b
  · rw [h.2 he]; simp [he]
  · rcases spanN_spec a b (8 * a.length) with ⟨h1, _⟩ | ⟨f, l, h1, _⟩
    · exact absurd (h.1 h1) he
    · rw [h1]
      have e1 : ((f : Int) == -1) = false := by simp
      simp [e1, he]
theorem cr23 (a b : List UInt8) : CR Try.prog 23 [st a, st b] [] (.tup [i64 (spanS a b).1, i64 (spanS a b).2.1, i64 (spanS a b).2.2]) [] := by
  refine fn_cr fn23 (Nat.le_of_ble_eq_true rfl) rfl ?_
  unfold sc23
  by_cases h : a.length ≠ b.length ∨ a.length > 20000
  · rw [show spanS a b = (0, 0, 4) from if_pos h]
    repeat' first
      | with_reducible refine T_seq ?_
      | with_reducible refine S_ops ?_
      | with_reducible refine O_step ?_
      | ((with_reducible apply K_mov_d); exact rfl)
      | with_reducible refine O_nil ?_
      | with_reducible refine seq_n ?_
      | with_reducible refine S_skip ?_
      | ((with_reducible apply T_itet); exact rfl)
      | ((with_reducible apply T_itef); exact rfl)
      | ((with_reducible apply T_ite1); exact rfl; (first | with_reducible assumption | omega))
      | ((with_reducible apply T_ite0); exact rfl; (first | with_reducible assumption | omega))
      | ((with_reducible apply T_iteP); exact rfl; all_goals intro _)
      | with_reducible refine S_ret ?_
      | with_reducible refine seq_r ?_
      | with_reducible refine rnd_r ?_
      | ((with_reducible apply G_skip'); exact rfl)
      | ((with_reducible apply G_1tt); exact rfl)
      | ((with_reducible apply G_1ff); exact rfl)
      | ((with_reducible apply G_0tt); exact rfl)
      | ((with_reducible apply G_0ff); exact rfl)
      | ((with_reducible apply G_1y); exact rfl; (first | with_reducible assumption | omega))
      | ((with_reducible apply G_1n); exact rfl; (first | with_reducible assumption | omega))
      | ((with_reducible apply G_0y); exact rfl; (first | with_reducible assumption | omega))
      | ((with_reducible apply G_0n); exact rfl; (first | with_reducible assumption | omega))
      | ((with_reducible apply G_1P); exact rfl; all_goals intro _)
      | ((with_reducible apply G_0P); exact rfl; all_goals intro _)
      | ((with_reducible apply K_pickt); exact rfl; exact rfl)
      | ((with_reducible apply K_pickf); exact rfl; exact rfl)
      | ((with_reducible apply K_pickT); exact rfl; (first | with_reducible assumption | omega); exact rfl)
      | ((with_reducible apply K_pickF); exact rfl; (first | with_reducible assumption | omega); exact rfl)
      | ((with_reducible apply K_gtr); exact rfl; exact rfl)
      | ((with_reducible apply K_neq); exact rfl; exact rfl)
      | ((with_reducible apply K_neqS); exact rfl; exact rfl)
      | ((with_reducible apply K_not_t); exact rfl)
      | ((with_reducible apply K_not_f); exact rfl)
      | ((with_reducible apply K_notP); exact rfl)
      | ((with_reducible apply K_lenS); exact rfl)
      | with_reducible refine S_draw0 ?_
      | with_reducible refine D_nil ?_
      | with_reducible refine D_step0 ?_
      | ((with_reducible apply DG_1y); exact rfl; (first | with_reducible assumption | omega))
      | ((with_reducible apply DG_1n); exact rfl; (first | with_reducible assumption | omega))
      | ((with_reducible apply DG_0y); exact rfl; (first | with_reducible assumption | omega))
      | ((with_reducible apply DG_0n); exact rfl; (first | with_reducible assumption | omega))
      | ((with_reducible apply DG_1P); exact rfl; all_goals intro _)
      | ((with_reducible apply DG_0P); exact rfl; all_goals intro _)
      | ((with_reducible apply K_load1_ptr); exact rfl; exact rfl; exact rfl)
      | ((with_reducible apply K_load1_fp); exact rfl)
      | ((with_reducible apply K_load1_byte); exact rfl; exact rfl; (first | omega | decide))
      | ((with_reducible apply K_mov_ref); exact rfl)
      | ((with_reducible apply K_mov_ptr); exact rfl)
      | ((with_reducible apply K_mov_tup); exact rfl)
      | ((with_reducible apply K_mov_yld); exact rfl)
      | ((with_reducible apply K_ext); exact rfl; exact rfl)
      | with_reducible refine K_alloc ?_
      | ((with_reducible apply K_storeA_pd); exact rfl; exact rfl; exact rfl; exact rfl; (first | decide | simp))
      | ((with_reducible apply K_fldA_ptr); exact rfl)
      | ((with_reducible apply K_fldA_fp); exact rfl)
    all_goals exact ends_3 rfl
  · have hl : a.length = b.length := by omega
    have e1 : spanS a b = if a = b then (0, 0, 3) else ((spanN a b (8 * a.length)).1, (spanN a b (8 * a.length)).2, 0) := if_neg h
    have c58 := cr58 a b (by omega) hl
    rw [betweenB_eq hl] at c58
    repeat' first
      | ((with_reducible apply K_call_0 (ys := [.str a, .str b])); exact rfl; exact c58; exact rfl)
      | with_reducible refine T_seq ?_
      | with_reducible refine S_ops ?_
      | with_reducible refine O_step ?_
      | ((with_reducible apply K_mov_d); exact rfl)
      | with_reducible refine O_nil ?_
      | with_reducible refine seq_n ?_
      | with_reducible refine S_skip ?_
      | ((with_reducible apply T_itet); exact rfl)
      | ((with_reducible apply T_itef); exact rfl)
      | ((with_reducible apply T_ite1); exact rfl; (first | with_reducible assumption | omega))
      | ((with_reducible apply T_ite0); exact rfl; (first | with_reducible assumption | omega))
      | ((with_reducible apply T_iteP); exact rfl; all_goals intro _)
      | with_reducible refine S_ret ?_
      | with_reducible refine seq_r ?_
      | with_reducible refine rnd_r ?_
      | ((with_reducible apply G_skip'); exact rfl)
      | ((with_reducible apply G_1tt); exact rfl)
      | ((with_reducible apply G_1ff); exact rfl)
      | ((with_reducible apply G_0tt); exact rfl)
      | ((with_reducible apply G_0ff); exact rfl)
      | ((with_reducible apply G_1y); exact rfl; (first | with_reducible assumption | omega))
      | ((with_reducible apply G_1n); exact rfl; (first | with_reducible assumption | omega))
      | ((with_reducible apply G_0y); exact rfl; (first | with_reducible assumption | omega))
      | ((with_reducible apply G_0n); exact rfl; (first | with_reducible assumption | omega))
      | ((with_reducible apply G_1P); exact rfl; all_goals intro _)
      | ((with_reducible apply G_0P); exact rfl; all_goals intro _)
      | ((with_reducible apply K_pickt); exact rfl; exact rfl)
      | ((with_reducible apply K_pickf); exact rfl; exact rfl)
      | ((with_reducible apply K_pickT); exact rfl; (first | with_reducible assumption | omega); exact rfl)
      | ((with_reducible apply K_pickF); exact rfl; (first | with_reducible assumption | omega); exact rfl)
      | ((with_reducible apply K_gtr); exact rfl; exact rfl)
      | ((with_reducible apply K_neq); exact rfl; exact rfl)
      | ((with_reducible apply K_neqS); exact rfl; exact rfl)
      | ((with_reducible apply K_not_t); exact rfl)
      | ((with_reducible apply K_not_f); exact rfl)
      | ((with_reducible apply K_notP); exact rfl)
      | ((with_reducible apply K_lenS); exact rfl)
      | with_reducible refine S_draw0 ?_
      | with_reducible refine D_nil ?_
      | with_reducible refine D_step0 ?_
      | ((with_reducible apply DG_1y); exact rfl; (first | with_reducible assumption | omega))
      | ((with_reducible apply DG_1n); exact rfl; (first | with_reducible assumption | omega))
      | ((with_reducible apply DG_0y); exact rfl; (first | with_reducible assumption | omega))
      | ((with_reducible apply DG_0n); exact rfl; (first | with_reducible assumption | omega))
      | ((with_reducible apply DG_1P); exact rfl; all_goals intro _)
      | ((with_reducible apply DG_0P); exact rfl; all_goals intro _)
      | ((with_reducible apply K_load1_ptr); exact rfl; exact rfl; exact rfl)
      | ((with_reducible apply K_load1_fp); exact rfl)
      | ((with_reducible apply K_load1_byte); exact rfl; exact rfl; (first | omega | decide))
      | ((with_reducible apply K_mov_ref); exact rfl)
      | ((with_reducible apply K_mov_ptr); exact rfl)
      | ((with_reducible apply K_mov_tup); exact rfl)
      | ((with_reducible apply K_mov_yld); exact rfl)
      | ((with_reducible apply K_ext); exact rfl; exact rfl)
      | with_reducible refine K_alloc ?_
      | ((with_reducible apply K_storeA_pd); exact rfl; exact rfl; exact rfl; exact rfl; (first | decide | simp))
      | ((with_reducible apply K_fldA_ptr); exact rfl)
      | ((with_reducible apply K_fldA_fp); exact rfl)
    · exact ends_iii rfl (by rw [e1, if_pos (Decidable.byContradiction (by assumption))])
    · exact ends_iii rfl (by rw [e1, if_neg (fun e => absurd e (Decidable.not_not.1 (by assumption)))])
theorem cr25 (a b : List UInt8) (ha : a.length ≤ 100000) : CR Try.prog 25 [st a, st b] [] (.d (.bool (isS a b))) [] := by
  refine fn_cr fn25 (Nat.le_of_ble_eq_true rfl) rfl ?_
  unfold sc25
  by_cases hl : a.length = b.length
  · have c58 := cr58 a b ha hl
    rw [betweenB_eq hl] at c58
    have hn := span_none hl
    have hsp := spanN_spec a b (8 * a.length)
    generalize hu : spanN a b (8 * a.length) = u at c58 hn hsp
    have hb : -1 ≤ u.1 ∧ u.1 ≤ 800000 ∧ -1 ≤ u.2 ∧ u.2 ≤ 800000 := by
      rcases hsp with ⟨h1, _⟩ | ⟨f, l, h1, h2, h3, _⟩
      · rw [h1]; decide
      · rw [h1]; simp only; omega
    have hr : isS a b = (decide (a ≠ b) && decide (u.2 - u.1 < 32)) := by
      unfold isS
      rw [hu, decide_eq_true hl, Bool.true_and]
      congr 1
      rw [Bool.eq_iff_iff]; simp [hn]
    rw [hr]
    repeat' first
      | ((with_reducible apply K_call_0 (ys := [.str a, .str b])); exact rfl; exact c58; exact rfl)
      | with_reducible refine T_seq ?_
      | with_reducible refine S_ops ?_
      | with_reducible refine O_step ?_
      | ((with_reducible apply K_mov_d); exact rfl)
      | with_reducible refine O_nil ?_
      | with_reducible refine seq_n ?_
      | with_reducible refine S_skip ?_
      | ((with_reducible apply T_itet); exact rfl)
      | ((with_reducible apply T_itef); exact rfl)
      | ((with_reducible apply T_ite1); exact rfl; (first | with_reducible assumption | omega))
      | ((with_reducible apply T_ite0); exact rfl; (first | with_reducible assumption | omega))
      | ((with_reducible apply T_iteP); exact rfl; all_goals intro _)
      | with_reducible refine S_ret ?_
      | with_reducible refine seq_r ?_
      | with_reducible refine rnd_r ?_
      | ((with_reducible apply G_skip'); exact rfl)
      | ((with_reducible apply G_1tt); exact rfl)
      | ((with_reducible apply G_1ff); exact rfl)
      | ((with_reducible apply G_0tt); exact rfl)
      | ((with_reducible apply G_0ff); exact rfl)
      | ((with_reducible apply G_1y); exact rfl; (first | with_reducible assumption | omega))
      | ((with_reducible apply G_1n); exact rfl; (first | with_reducible assumption | omega))
      | ((with_reducible apply G_0y); exact rfl; (first | with_reducible assumption | omega))
      | ((with_reducible apply G_0n); exact rfl; (first | with_reducible assumption | omega))
      | ((with_reducible apply G_1P); exact rfl; all_goals intro _)
      | ((with_reducible apply G_0P); exact rfl; all_goals intro _)
      | ((with_reducible apply K_pickt); exact rfl; exact rfl)
      | ((with_reducible apply K_pickf); exact rfl; exact rfl)
      | ((with_reducible apply K_pickT); exact rfl; (first | with_reducible assumption | omega); exact rfl)
      | ((with_reducible apply K_pickF); exact rfl; (first | with_reducible assumption | omega); exact rfl)
      | ((with_reducible apply K_lss); exact rfl; exact rfl)
      | ((with_reducible apply K_neq); exact rfl; exact rfl)
      | ((with_reducible apply K_neqS); exact rfl; exact rfl)
      | ((with_reducible apply K_sub); exact rfl; exact rfl; (first | omega | decide))
      | ((with_reducible apply K_subw); exact rfl; exact rfl)
      | ((with_reducible apply K_lenS); exact rfl)
      | ((with_reducible apply K_load1_ptr); exact rfl; exact rfl; exact rfl)
      | ((with_reducible apply K_load1_fp); exact rfl)
      | ((with_reducible apply K_load1_byte); exact rfl; exact rfl; (first | omega | decide))
      | ((with_reducible apply K_mov_ref); exact rfl)
      | ((with_reducible apply K_mov_ptr); exact rfl)
      | ((with_reducible apply K_mov_tup); exact rfl)
      | ((with_reducible apply K_mov_yld); exact rfl)
      | ((with_reducible apply K_ext); exact rfl; exact rfl)
      | with_reducible refine K_alloc ?_
      | ((with_reducible apply K_storeA_pd); exact rfl; exact rfl; exact rfl; exact rfl; (first | decide | simp))
      | ((with_reducible apply K_fldA_ptr); exact rfl)
      | ((with_reducible apply K_fldA_fp); exact rfl)
    · exact ends_b rfl (by rw [decide_eq_true (by assumption : a ≠ b), Bool.true_and])
    · exact ends_b rfl (by rw [decide_eq_false (by assumption : ¬ a ≠ b), Bool.false_and])
  · have hr : isS a b = false := by unfold isS; rw [decide_eq_false hl]; rfl
    rw [hr]
    repeat' first
      | with_reducible refine T_seq ?_
      | with_reducible refine S_ops ?_
      | with_reducible refine O_step ?_
      | ((with_reducible apply K_mov_d); exact rfl)
      | with_reducible refine O_nil ?_
      | with_reducible refine seq_n ?_
      | with_reducible refine S_skip ?_
      | ((with_reducible apply T_itet); exact rfl)
      | ((with_reducible apply T_itef); exact rfl)
      | ((with_reducible apply T_ite1); exact rfl; (first | with_reducible assumption | omega))
      | ((with_reducible apply T_ite0); exact rfl; (first | with_reducible assumption | omega))
      | ((with_reducible apply T_iteP); exact rfl; all_goals intro _)
      | with_reducible refine S_ret ?_
      | with_reducible refine seq_r ?_
      | with_reducible refine rnd_r ?_
      | ((with_reducible apply G_skip'); exact rfl)
      | ((with_reducible apply G_1tt); exact rfl)
      | ((with_reducible apply G_1ff); exact rfl)
      | ((with_reducible apply G_0tt); exact rfl)
      | ((with_reducible apply G_0ff); exact rfl)
      | ((with_reducible apply G_1y); exact rfl; (first | with_reducible assumption | omega))
      | ((with_reducible apply G_1n); exact rfl; (first | with_reducible assumption | omega))
      | ((with_reducible apply G_0y); exact rfl; (first | with_reducible assumption | omega))
      | ((with_reducible apply G_0n); exact rfl; (first | with_reducible assumption | omega))
      | ((with_reducible apply G_1P); exact rfl; all_goals intro _)
      | ((with_reducible apply G_0P); exact rfl; all_goals intro _)
      | ((with_reducible apply K_pickt); exact rfl; exact rfl)
      | ((with_reducible apply K_pickf); exact rfl; exact rfl)
      | ((with_reducible apply K_pickT); exact rfl; (first | with_reducible assumption | omega); exact rfl)
      | ((with_reducible apply K_pickF); exact rfl; (first | with_reducible assumption | omega); exact rfl)
      | ((with_reducible apply K_lss); exact rfl; exact rfl)
      | ((with_reducible apply K_neq); exact rfl; exact rfl)
      | ((with_reducible apply K_neqS); exact rfl; exact rfl)
      | ((with_reducible apply K_sub); exact rfl; exact rfl; (first | omega | decide))
      | ((with_reducible apply K_subw); exact rfl; exact rfl)
      | ((with_reducible apply K_lenS); exact rfl)
      | ((with_reducible apply K_load1_ptr); exact rfl; exact rfl; exact rfl)
      | ((with_reducible apply K_load1_fp); exact rfl)
      | ((with_reducible apply K_load1_byte); exact rfl; exact rfl; (first | omega | decide))
      | ((with_reducible apply K_mov_ref); exact rfl)
      | ((with_reducible apply K_mov_ptr); exact rfl)
      | ((with_reducible apply K_mov_tup); exact rfl)
      | ((with_reducible apply K_mov_yld); exact rfl)
      | ((with_reducible apply K_ext); exact rfl; exact rfl)
      | with_reducible refine K_alloc ?_
      | ((with_reducible apply K_storeA_pd); exact rfl; exact rfl; exact rfl; exact rfl; (first | decide | simp))
      | ((with_reducible apply K_fldA_ptr); exact rfl)
      | ((with_reducible apply K_fldA_fp); exact rfl)
    exact ends_b rfl rfl
end Go.Abs
/- Contracts: the reference's spans. -/
namespace Go.Abs
open Go.Proofs
def bitV (s : List UInt8) (i : Nat) : Int := if bitAt s i = true then 1 else 0
theorem bitV_eq (s : List UInt8) (i : Nat) : ibit .and .u8 (((s.getD (i / 8) 0).toNat : Int).fdiv (2 ^ min ((i : Int) % 8).toNat IntKind.u8.bits)) 1 = bitV s i := by
  have h := (s.getD (i / 8) 0).toNat_lt
  have e : ((i : Int) % 8).toNat = i % 8 := by omega
  have e2 : min (i % 8) IntKind.u8.bits = i % 8 := Nat.min_eq_left (by simp only [IntKind.bits]; omega)
  rw [e, e2, shr_nat, and1_u8 (Nat.lt_of_le_of_lt (Nat.div_le_self _ _) h)]
  unfold bitV bitAt
  rw [Nat.testBit_eq_decide_div_mod_eq]
  simp only [decide_eq_true_eq]
  split <;> omega
theorem bitV_ne {a b : List UInt8} {i : Nat} : bitV a i ≠ bitV b i ↔ bitAt a i ≠ bitAt b i := by
  unfold bitV
  cases bitAt a i <;> cases bitAt b i <;> decide
theorem cr59 (s : List UInt8) (i : Nat) (hi : i < 8 * s.length) (hs : s.length ≤ 20000) : CR Try.prog 59 [st s, i64 i] [] (.d (.int .u8 (bitV s i))) [] := by
  refine fn_cr fn59 (Nat.le_of_ble_eq_true rfl) rfl ?_
  unfold sc59
  repeat' first
    | ((with_reducible apply K_idxSn (n := i / 8)); exact rfl; exact rfl; omega)
    | with_reducible refine T_seq ?_
    | with_reducible refine S_ops ?_
    | with_reducible refine O_step ?_
    | ((with_reducible apply K_mov_d); exact rfl)
    | with_reducible refine O_nil ?_
    | with_reducible refine seq_n ?_
    | with_reducible refine S_ret ?_
    | with_reducible refine seq_r ?_
    | with_reducible refine rnd_r ?_
    | ((with_reducible apply K_and3); exact rfl; exact rfl; (first | omega | decide))
    | ((with_reducible apply K_and7); exact rfl; exact rfl; (first | omega | decide))
    | ((with_reducible apply K_shrc 2); exact rfl; exact rfl; exact rfl; (first | omega | decide))
    | ((with_reducible apply K_shrc 4); exact rfl; exact rfl; exact rfl; (first | omega | decide))
    | ((with_reducible apply K_shrc 8); exact rfl; exact rfl; exact rfl; (first | omega | decide))
    | ((with_reducible apply K_quo0); exact rfl; exact rfl; (first | omega | decide); (first | omega | decide))
    | ((with_reducible apply K_rem0); exact rfl; exact rfl; (first | omega | decide); (first | omega | decide))
    | ((with_reducible apply K_quo); exact rfl; exact rfl; (first | omega | decide))
    | ((with_reducible apply K_rem); exact rfl; exact rfl; (first | omega | decide))
    | ((with_reducible apply K_and); exact rfl; exact rfl)
    | ((with_reducible apply K_shr); exact rfl; exact rfl; (first | omega | decide))
    | ((with_reducible apply K_convu64); exact rfl; (first | omega | decide))
    | ((with_reducible apply K_conv); exact rfl)
    | ((with_reducible apply K_idxSn); exact rfl; exact rfl; (first | omega | decide))
    | ((with_reducible apply K_idxS); exact rfl; exact rfl; (first | omega | decide))
    | ((with_reducible apply K_mov_ref); exact rfl)
    | ((with_reducible apply K_mov_ptr); exact rfl)
    | ((with_reducible apply K_mov_yld); exact rfl)
  exact ends_i rfl (bitV_eq s i)
theorem cr24 (a b : List UInt8) : CR Try.prog 24 [st a, st b] [] (.tup [i64 (spanS a b).1, i64 (spanS a b).2.1, i64 (spanS a b).2.2]) [] := by
  refine fn_cr fn24 (Nat.le_of_ble_eq_true rfl) rfl ?_
  unfold sc24
  by_cases h : a.length ≠ b.length ∨ a.length > 20000
  · rw [show spanS a b = (0, 0, 4) from if_pos h]
    repeat' first
      | with_reducible refine T_seq ?_
      | with_reducible refine S_ops ?_
      | with_reducible refine O_step ?_
      | ((with_reducible apply K_mov_d); exact rfl)
      | with_reducible refine O_nil ?_
      | with_reducible refine seq_n ?_
      | with_reducible refine S_skip ?_
      | ((with_reducible apply T_itet); exact rfl)
      | ((with_reducible apply T_itef); exact rfl)
      | ((with_reducible apply T_ite1); exact rfl; (first | with_reducible assumption | omega))
      | ((with_reducible apply T_ite0); exact rfl; (first | with_reducible assumption | omega))
      | ((with_reducible apply T_iteP); exact rfl; all_goals intro _)
      | with_reducible refine S_ret ?_
      | with_reducible refine seq_r ?_
      | with_reducible refine S_exit ?_
      | with_reducible refine seq_e ?_
      | with_reducible refine T_block ?_
      | with_reducible refine blk_1 ?_
      | with_reducible refine blk_0 rfl ?_
      | with_reducible refine blk_n ?_
      | with_reducible refine blk_r ?_
      | with_reducible refine rnd_r ?_
      | with_reducible refine rnd_e ?_
      | ((with_reducible apply G_skip'); exact rfl)
      | ((with_reducible apply G_1tt); exact rfl)
      | ((with_reducible apply G_1ff); exact rfl)
      | ((with_reducible apply G_0tt); exact rfl)
      | ((with_reducible apply G_0ff); exact rfl)
      | ((with_reducible apply G_1y); exact rfl; (first | with_reducible assumption | omega))
      | ((with_reducible apply G_1n); exact rfl; (first | with_reducible assumption | omega))
      | ((with_reducible apply G_0y); exact rfl; (first | with_reducible assumption | omega))
      | ((with_reducible apply G_0n); exact rfl; (first | with_reducible assumption | omega))
      | ((with_reducible apply G_1P); exact rfl; all_goals intro _)
      | ((with_reducible apply G_0P); exact rfl; all_goals intro _)
      | ((with_reducible apply K_pickt); exact rfl; exact rfl)
      | ((with_reducible apply K_pickf); exact rfl; exact rfl)
      | ((with_reducible apply K_pickT); exact rfl; (first | with_reducible assumption | omega); exact rfl)
      | ((with_reducible apply K_pickF); exact rfl; (first | with_reducible assumption | omega); exact rfl)
      | ((with_reducible apply K_lss); exact rfl; exact rfl)
      | ((with_reducible apply K_gtr); exact rfl; exact rfl)
      | ((with_reducible apply K_eql); exact rfl; exact rfl)
      | ((with_reducible apply K_neq); exact rfl; exact rfl)
      | ((with_reducible apply K_eqlS); exact rfl; exact rfl)
      | ((with_reducible apply K_neqS); exact rfl; exact rfl)
      | ((with_reducible apply K_add); exact rfl; exact rfl; (first | omega | decide))
      | ((with_reducible apply K_mul); exact rfl; exact rfl; (first | omega | decide))
      | ((with_reducible apply K_addw); exact rfl; exact rfl)
      | ((with_reducible apply K_mulw); exact rfl; exact rfl)
      | ((with_reducible apply K_lenS); exact rfl)
      | ((with_reducible apply K_mov_ref); exact rfl)
      | ((with_reducible apply K_mov_ptr); exact rfl)
      | ((with_reducible apply K_mov_yld); exact rfl)
    all_goals exact ends_3 rfl
  · have hl : a.length = b.length := by omega
    have e1 : spanS a b = if a = b then (0, 0, 3) else ((spanN a b (8 * a.length)).1, (spanN a b (8 * a.length)).2, 0) := if_neg h
    by_cases he : a = b
    · rw [e1, if_pos he]
      repeat' first
        | with_reducible refine T_seq ?_
        | with_reducible refine S_ops ?_
        | with_reducible refine O_step ?_
        | ((with_reducible apply K_mov_d); exact rfl)
        | with_reducible refine O_nil ?_
        | with_reducible refine seq_n ?_
        | with_reducible refine S_skip ?_
        | ((with_reducible apply T_itet); exact rfl)
        | ((with_reducible apply T_itef); exact rfl)
        | ((with_reducible apply T_ite1); exact rfl; (first | with_reducible assumption | omega))
        | ((with_reducible apply T_ite0); exact rfl; (first | with_reducible assumption | omega))
        | ((with_reducible apply T_iteP); exact rfl; all_goals intro _)
        | with_reducible refine S_ret ?_
        | with_reducible refine seq_r ?_
        | with_reducible refine S_exit ?_
        | with_reducible refine seq_e ?_
        | with_reducible refine T_block ?_
        | with_reducible refine blk_1 ?_
        | with_reducible refine blk_0 rfl ?_
        | with_reducible refine blk_n ?_
        | with_reducible refine blk_r ?_
        | with_reducible refine rnd_r ?_
        | with_reducible refine rnd_e ?_
        | ((with_reducible apply G_skip'); exact rfl)
        | ((with_reducible apply G_1tt); exact rfl)
        | ((with_reducible apply G_1ff); exact rfl)
        | ((with_reducible apply G_0tt); exact rfl)
        | ((with_reducible apply G_0ff); exact rfl)
        | ((with_reducible apply G_1y); exact rfl; (first | with_reducible assumption | omega))
        | ((with_reducible apply G_1n); exact rfl; (first | with_reducible assumption | omega))
        | ((with_reducible apply G_0y); exact rfl; (first | with_reducible assumption | omega))
        | ((with_reducible apply G_0n); exact rfl; (first | with_reducible assumption | omega))
        | ((with_reducible apply G_1P); exact rfl; all_goals intro _)
        | ((with_reducible apply G_0P); exact rfl; all_goals intro _)
        | ((with_reducible apply K_pickt); exact rfl; exact rfl)
        | ((with_reducible apply K_pickf); exact rfl; exact rfl)
        | ((with_reducible apply K_pickT); exact rfl; (first | with_reducible assumption | omega); exact rfl)
        | ((with_reducible apply K_pickF); exact rfl; (first | with_reducible assumption | omega); exact rfl)
        | ((with_reducible apply K_lss); exact rfl; exact rfl)
        | ((with_reducible apply K_gtr); exact rfl; exact rfl)
        | ((with_reducible apply K_eql); exact rfl; exact rfl)
        | ((with_reducible apply K_neq); exact rfl; exact rfl)
        | ((with_reducible apply K_eqlS); exact rfl; exact rfl)
        | ((with_reducible apply K_neqS); exact rfl; exact rfl)
        | ((with_reducible apply K_add); exact rfl; exact rfl; (first | omega | decide))
        | ((with_reducible apply K_mul); exact rfl; exact rfl; (first | omega | decide))
        | ((with_reducible apply K_addw); exact rfl; exact rfl)
        | ((with_reducible apply K_mulw); exact rfl; exact rfl)
        | ((with_reducible apply K_lenS); exact rfl)
        | ((with_reducible apply K_mov_ref); exact rfl)
        | ((with_reducible apply K_mov_ptr); exact rfl)
        | ((with_reducible apply K_mov_yld); exact rfl)
      exact ends_3 rfl
    · rw [e1, if_neg he]
      repeat' first
        | with_reducible refine T_seq ?_
        | with_reducible refine S_ops ?_
        | with_reducible refine O_step ?_
        | ((with_reducible apply K_mov_d); exact rfl)
        | with_reducible refine O_nil ?_
        | with_reducible refine seq_n ?_
        | with_reducible refine S_skip ?_
        | ((with_reducible apply T_itet); exact rfl)
        | ((with_reducible apply T_itef); exact rfl)
        | ((with_reducible apply T_ite1); exact rfl; (first | with_reducible assumption | omega))
        | ((with_reducible apply T_ite0); exact rfl; (first | with_reducible assumption | omega))
        | ((with_reducible apply T_iteP); exact rfl; all_goals intro _)
        | with_reducible refine S_ret ?_
        | with_reducible refine seq_r ?_
        | with_reducible refine S_exit ?_
        | with_reducible refine seq_e ?_
        | with_reducible refine T_block ?_
        | with_reducible refine blk_1 ?_
        | with_reducible refine blk_0 rfl ?_
        | with_reducible refine blk_n ?_
        | with_reducible refine blk_r ?_
        | with_reducible refine rnd_r ?_
        | with_reducible refine rnd_e ?_
        | ((with_reducible apply G_skip'); exact rfl)
        | ((with_reducible apply G_1tt); exact rfl)
        | ((with_reducible apply G_1ff); exact rfl)
        | ((with_reducible apply G_0tt); exact rfl)
        | ((with_reducible apply G_0ff); exact rfl)
        | ((with_reducible apply G_1y); exact rfl; (first | with_reducible assumption | omega))
        | ((with_reducible apply G_1n); exact rfl; (first | with_reducible assumption | omega))
        | ((with_reducible apply G_0y); exact rfl; (first | with_reducible assumption | omega))
        | ((with_reducible apply G_0n); exact rfl; (first | with_reducible assumption | omega))
        | ((with_reducible apply G_1P); exact rfl; all_goals intro _)
        | ((with_reducible apply G_0P); exact rfl; all_goals intro _)
        | ((with_reducible apply K_pickt); exact rfl; exact rfl)
        | ((with_reducible apply K_pickf); exact rfl; exact rfl)
        | ((with_reducible apply K_pickT); exact rfl; (first | with_reducible assumption | omega); exact rfl)
        | ((with_reducible apply K_pickF); exact rfl; (first | with_reducible assumption | omega); exact rfl)
        | ((with_reducible apply K_lss); exact rfl; exact rfl)
        | ((with_reducible apply K_gtr); exact rfl; exact rfl)
        | ((with_reducible apply K_eql); exact rfl; exact rfl)
        | ((with_reducible apply K_neq); exact rfl; exact rfl)
        | ((with_reducible apply K_eqlS); exact rfl; exact rfl)
        | ((with_reducible apply K_neqS); exact rfl; exact rfl)
        | ((with_reducible apply K_add); exact rfl; exact rfl; (first | omega | decide))
        | ((with_reducible apply K_mul); exact rfl; exact rfl; (first | omega | decide))
        | ((with_reducible apply K_addw); exact rfl; exact rfl)
        | ((with_reducible apply K_mulw); exact rfl; exact rfl)
        | ((with_reducible apply K_lenS); exact rfl)
        | ((with_reducible apply K_mov_ref); exact rfl)
        | ((with_reducible apply K_mov_ptr); exact rfl)
        | ((with_reducible apply K_mov_yld); exact rfl)
      refine T_loop (Nat.ble 7) [7, 8, 9] (fun i : Nat => [i64 (spanN a b i).1, i64 (spanN a b i).2, i64 i]) (fun _ => []) (· ≤ 8 * a.length) (8 * a.length - ·) 0 rfl (by omega) rfl rfl ?_
      intro i g hi
      repeat' first
        | ((with_reducible apply K_call_0 (f := 59) (ys := [.str a, .int .i64 i])); exact rfl; exact cr59 a i (by omega) (by omega); exact rfl)
        | ((with_reducible apply K_call_0 (f := 59) (ys := [.str b, .int .i64 i])); exact rfl; exact cr59 b i (by omega) (by omega); exact rfl)
        | with_reducible refine T_seq ?_
        | with_reducible refine S_ops ?_
        | with_reducible refine O_step ?_
        | ((with_reducible apply K_mov_d); exact rfl)
        | with_reducible refine O_nil ?_
        | with_reducible refine seq_n ?_
        | with_reducible refine S_skip ?_
        | ((with_reducible apply T_itet); exact rfl)
        | ((with_reducible apply T_itef); exact rfl)
        | ((with_reducible apply T_ite1); exact rfl; (first | with_reducible assumption | omega))
        | ((with_reducible apply T_ite0); exact rfl; (first | with_reducible assumption | omega))
        | ((with_reducible apply T_iteP); exact rfl; all_goals intro _)
        | with_reducible refine S_ret ?_
        | with_reducible refine seq_r ?_
        | with_reducible refine S_exit ?_
        | with_reducible refine seq_e ?_
        | with_reducible refine T_block ?_
        | with_reducible refine blk_1 ?_
        | with_reducible refine blk_0 rfl ?_
        | with_reducible refine blk_n ?_
        | with_reducible refine blk_r ?_
        | with_reducible refine rnd_r ?_
        | with_reducible refine rnd_e ?_
        | ((with_reducible apply G_skip'); exact rfl)
        | ((with_reducible apply G_1tt); exact rfl)
        | ((with_reducible apply G_1ff); exact rfl)
        | ((with_reducible apply G_0tt); exact rfl)
        | ((with_reducible apply G_0ff); exact rfl)
        | ((with_reducible apply G_1y); exact rfl; (first | with_reducible assumption | omega))
        | ((with_reducible apply G_1n); exact rfl; (first | with_reducible assumption | omega))
        | ((with_reducible apply G_0y); exact rfl; (first | with_reducible assumption | omega))
        | ((with_reducible apply G_0n); exact rfl; (first | with_reducible assumption | omega))
        | ((with_reducible apply G_1P); exact rfl; all_goals intro _)
        | ((with_reducible apply G_0P); exact rfl; all_goals intro _)
        | ((with_reducible apply K_pickt); exact rfl; exact rfl)
        | ((with_reducible apply K_pickf); exact rfl; exact rfl)
        | ((with_reducible apply K_pickT); exact rfl; (first | with_reducible assumption | omega); exact rfl)
        | ((with_reducible apply K_pickF); exact rfl; (first | with_reducible assumption | omega); exact rfl)
        | ((with_reducible apply K_lss); exact rfl; exact rfl)
        | ((with_reducible apply K_gtr); exact rfl; exact rfl)
        | ((with_reducible apply K_eql); exact rfl; exact rfl)
        | ((with_reducible apply K_neq); exact rfl; exact rfl)
        | ((with_reducible apply K_eqlS); exact rfl; exact rfl)
        | ((with_reducible apply K_neqS); exact rfl; exact rfl)
        | ((with_reducible apply K_add); exact rfl; exact rfl; (first | omega | decide))
        | ((with_reducible apply K_mul); exact rfl; exact rfl; (first | omega | decide))
        | ((with_reducible apply K_addw); exact rfl; exact rfl)
        | ((with_reducible apply K_mulw); exact rfl; exact rfl)
        | ((with_reducible apply K_lenS); exact rfl)
        | ((with_reducible apply K_mov_ref); exact rfl)
        | ((with_reducible apply K_mov_ptr); exact rfl)
        | ((with_reducible apply K_mov_yld); exact rfl)
      · have hb := bitV_ne.1 (by assumption)
        exact rnd_n (i + 1) ⟨by omega, by omega⟩ (by rw [spanN_y hb, stepS_y (by assumption)]; rfl) rfl
      · have hb := bitV_ne.1 (by assumption)
        exact rnd_n (i + 1) ⟨by omega, by omega⟩ (by rw [spanN_y hb, stepS_n (by assumption)]; rfl) rfl
      · have hb : ¬ bitAt a i ≠ bitAt b i := fun h => absurd (bitV_ne.2 h) (by assumption)
        exact rnd_n (i + 1) ⟨by omega, by omega⟩ (by rw [spanN_n hb]; rfl) rfl
      · have : i = 8 * a.length := by omega
        subst this
        exact ends_3 rfl
theorem cr26 (a b : List UInt8) (ha : a.length ≤ 100000) : CR Try.prog 26 [st a, st b] [] (.d (.bool (isS a b))) [] := by
  refine fn_cr fn26 (Nat.le_of_ble_eq_true rfl) rfl ?_
  unfold sc26
  by_cases hl : a.length = b.length
  · repeat' first
      | with_reducible refine T_seq ?_
      | with_reducible refine S_ops ?_
      | with_reducible refine O_step ?_
      | ((with_reducible apply K_mov_d); exact rfl)
      | with_reducible refine O_nil ?_
      | with_reducible refine seq_n ?_
      | with_reducible refine S_skip ?_
      | ((with_reducible apply T_itet); exact rfl)
      | ((with_reducible apply T_itef); exact rfl)
      | ((with_reducible apply T_ite1); exact rfl; (first | with_reducible assumption | omega))
      | ((with_reducible apply T_ite0); exact rfl; (first | with_reducible assumption | omega))
      | ((with_reducible apply T_iteP); exact rfl; all_goals intro _)
      | with_reducible refine S_ret ?_
      | with_reducible refine seq_r ?_
      | with_reducible refine S_exit ?_
      | with_reducible refine seq_e ?_
      | with_reducible refine T_block ?_
      | with_reducible refine blk_1 ?_
      | with_reducible refine blk_0 rfl ?_
      | with_reducible refine blk_n ?_
      | with_reducible refine blk_r ?_
      | with_reducible refine rnd_r ?_
      | with_reducible refine rnd_e ?_
      | ((with_reducible apply G_skip'); exact rfl)
      | ((with_reducible apply G_1tt); exact rfl)
      | ((with_reducible apply G_1ff); exact rfl)
      | ((with_reducible apply G_0tt); exact rfl)
      | ((with_reducible apply G_0ff); exact rfl)
      | ((with_reducible apply G_1y); exact rfl; (first | with_reducible assumption | omega))
      | ((with_reducible apply G_1n); exact rfl; (first | with_reducible assumption | omega))
      | ((with_reducible apply G_0y); exact rfl; (first | with_reducible assumption | omega))
      | ((with_reducible apply G_0n); exact rfl; (first | with_reducible assumption | omega))
      | ((with_reducible apply G_1P); exact rfl; all_goals intro _)
      | ((with_reducible apply G_0P); exact rfl; all_goals intro _)
      | ((with_reducible apply K_pickt); exact rfl; exact rfl)
      | ((with_reducible apply K_pickf); exact rfl; exact rfl)
      | ((with_reducible apply K_pickT); exact rfl; (first | with_reducible assumption | omega); exact rfl)
      | ((with_reducible apply K_pickF); exact rfl; (first | with_reducible assumption | omega); exact rfl)
      | ((with_reducible apply K_leq); exact rfl; exact rfl)
      | ((with_reducible apply K_gtr); exact rfl; exact rfl)
      | ((with_reducible apply K_eql); exact rfl; exact rfl)
      | ((with_reducible apply K_neq); exact rfl; exact rfl)
      | ((with_reducible apply K_eqlS); exact rfl; exact rfl)
      | ((with_reducible apply K_neqS); exact rfl; exact rfl)
      | ((with_reducible apply K_sub); exact rfl; exact rfl; (first | omega | decide))
      | ((with_reducible apply K_subw); exact rfl; exact rfl)
      | ((with_reducible apply K_lenS); exact rfl)
      | with_reducible refine S_draw0 ?_
      | with_reducible refine D_nil ?_
      | with_reducible refine D_step0 ?_
      | ((with_reducible apply DG_1y); exact rfl; (first | with_reducible assumption | omega))
      | ((with_reducible apply DG_1n); exact rfl; (first | with_reducible assumption | omega))
      | ((with_reducible apply DG_0y); exact rfl; (first | with_reducible assumption | omega))
      | ((with_reducible apply DG_0n); exact rfl; (first | with_reducible assumption | omega))
      | ((with_reducible apply DG_1P); exact rfl; all_goals intro _)
      | ((with_reducible apply DG_0P); exact rfl; all_goals intro _)
      | ((with_reducible apply K_idxSn); exact rfl; exact rfl; (first | omega | decide))
      | ((with_reducible apply K_idxS); exact rfl; exact rfl; (first | omega | decide))
      | ((with_reducible apply K_mov_ref); exact rfl)
      | ((with_reducible apply K_mov_ptr); exact rfl)
      | ((with_reducible apply K_mov_tup); exact rfl)
      | ((with_reducible apply K_mov_yld); exact rfl)
      | ((with_reducible apply K_ext); exact rfl; exact rfl)
      | ((with_reducible apply K_slS_hi); exact rfl; exact rfl; (first | omega | decide))
      | ((with_reducible apply K_slS_lo); exact rfl; exact rfl; (first | omega | decide))
      | ((with_reducible apply K_slS_2); exact rfl; exact rfl; exact rfl; (first | omega | decide); (first | omega | decide))
    refine T_loop (fun t => Nat.ble t 1 || Nat.ble 13 t) [0, 1] (fun u : List UInt8 × List UInt8 => [st u.1, st u.2]) (fun _ => []) (fun u => u.1.length = u.2.length ∧ u.1.length ≤ 100000 ∧ isS u.1 u.2 = isS a b) (fun u => u.1.length) (a, b) rfl ⟨hl, ha, rfl⟩ rfl rfl ?_
    rintro ⟨a1, b1⟩ g ⟨hl1, ha1, hs1⟩
    dsimp only at hl1 ha1 hs1 ⊢
    repeat' first
      | with_reducible refine T_seq ?_
      | with_reducible refine S_ops ?_
      | with_reducible refine O_step ?_
      | ((with_reducible apply K_mov_d); exact rfl)
      | with_reducible refine O_nil ?_
      | with_reducible refine seq_n ?_
      | with_reducible refine S_skip ?_
      | ((with_reducible apply T_itet); exact rfl)
      | ((with_reducible apply T_itef); exact rfl)
      | ((with_reducible apply T_ite1); exact rfl; (first | with_reducible assumption | omega))
      | ((with_reducible apply T_ite0); exact rfl; (first | with_reducible assumption | omega))
      | ((with_reducible apply T_iteP); exact rfl; all_goals intro _)
      | with_reducible refine S_ret ?_
      | with_reducible refine seq_r ?_
      | with_reducible refine S_exit ?_
      | with_reducible refine seq_e ?_
      | with_reducible refine T_block ?_
      | with_reducible refine blk_1 ?_
      | with_reducible refine blk_0 rfl ?_
      | with_reducible refine blk_n ?_
      | with_reducible refine blk_r ?_
      | with_reducible refine rnd_r ?_
      | with_reducible refine rnd_e ?_
      | ((with_reducible apply G_skip'); exact rfl)
      | ((with_reducible apply G_1tt); exact rfl)
      | ((with_reducible apply G_1ff); exact rfl)
      | ((with_reducible apply G_0tt); exact rfl)
      | ((with_reducible apply G_0ff); exact rfl)
      | ((with_reducible apply G_1y); exact rfl; (first | with_reducible assumption | omega))
      | ((with_reducible apply G_1n); exact rfl; (first | with_reducible assumption | omega))
      | ((with_reducible apply G_0y); exact rfl; (first | with_reducible assumption | omega))
      | ((with_reducible apply G_0n); exact rfl; (first | with_reducible assumption | omega))
      | ((with_reducible apply G_1P); exact rfl; all_goals intro _)
      | ((with_reducible apply G_0P); exact rfl; all_goals intro _)
      | ((with_reducible apply K_pickt); exact rfl; exact rfl)
      | ((with_reducible apply K_pickf); exact rfl; exact rfl)
      | ((with_reducible apply K_pickT); exact rfl; (first | with_reducible assumption | omega); exact rfl)
      | ((with_reducible apply K_pickF); exact rfl; (first | with_reducible assumption | omega); exact rfl)
      | ((with_reducible apply K_leq); exact rfl; exact rfl)
      | ((with_reducible apply K_gtr); exact rfl; exact rfl)
      | ((with_reducible apply K_eql); exact rfl; exact rfl)
      | ((with_reducible apply K_neq); exact rfl; exact rfl)
      | ((with_reducible apply K_eqlS); exact rfl; exact rfl)
      | ((with_reducible apply K_neqS); exact rfl; exact rfl)
      | ((with_reducible apply K_sub); exact rfl; exact rfl; (first | omega | decide))
      | ((with_reducible apply K_subw); exact rfl; exact rfl)
      | ((with_reducible apply K_lenS); exact rfl)
      | with_reducible refine S_draw0 ?_
      | with_reducible refine D_nil ?_
      | with_reducible refine D_step0 ?_
      | ((with_reducible apply DG_1y); exact rfl; (first | with_reducible assumption | omega))
      | ((with_reducible apply DG_1n); exact rfl; (first | with_reducible assumption | omega))
      | ((with_reducible apply DG_0y); exact rfl; (first | with_reducible assumption | omega))
      | ((with_reducible apply DG_0n); exact rfl; (first | with_reducible assumption | omega))
      | ((with_reducible apply DG_1P); exact rfl; all_goals intro _)
      | ((with_reducible apply DG_0P); exact rfl; all_goals intro _)
      | ((with_reducible apply K_idxSn); exact rfl; exact rfl; (first | omega | decide))
      | ((with_reducible apply K_idxS); exact rfl; exact rfl; (first | omega | decide))
      | ((with_reducible apply K_mov_ref); exact rfl)
      | ((with_reducible apply K_mov_ptr); exact rfl)
      | ((with_reducible apply K_mov_tup); exact rfl)
      | ((with_reducible apply K_mov_yld); exact rfl)
      | ((with_reducible apply K_ext); exact rfl; exact rfl)
      | ((with_reducible apply K_slS_hi); exact rfl; exact rfl; (first | omega | decide))
      | ((with_reducible apply K_slS_lo); exact rfl; exact rfl; (first | omega | decide))
      | ((with_reducible apply K_slS_2); exact rfl; exact rfl; exact rfl; (first | omega | decide); (first | omega | decide))
    · have he : a1.getD 0 0 = b1.getD 0 0 := toNat_inj (by assumption)
      exact rnd_n (a1.drop 1, b1.drop 1) ⟨⟨by simp; omega, by simp; omega, (isS_drop hl1 (by omega) he).trans hs1⟩, by simp; omega⟩ rfl rfl
    all_goals
      have hf : 0 < a1.length → a1.getD 0 0 ≠ b1.getD 0 0 := fun h => by
        first
          | omega
          | (intro e
             have h2 : ¬ ((a1.getD 0 0).toNat : Int) = ((b1.getD 0 0).toNat : Int) := by assumption
             exact h2 (by rw [e]))
      refine T_loop (fun t => Nat.ble t 1 || Nat.ble 27 t) [0, 1] (fun u : List UInt8 × List UInt8 => [st u.1, st u.2]) (fun _ => []) (fun u => u.1.length = u.2.length ∧ u.1.length ≤ 100000 ∧ isS u.1 u.2 = isS a b ∧ (0 < u.1.length → u.1.getD 0 0 ≠ u.2.getD 0 0)) (fun u => u.1.length) (a1, b1) rfl ⟨hl1, ha1, hs1, hf⟩ rfl rfl ?_
      rintro ⟨a2, b2⟩ g2 ⟨hl2, ha2, hs2, hf2⟩
      dsimp only at hl2 ha2 hs2 hf2 ⊢
      have ea : ∀ h : 0 < a2.length, ((a2.length : Int) - 1).toNat = a2.length - 1 := fun h => by omega
      have eb : ∀ h : 0 < a2.length, ((b2.length : Int) - 1).toNat = b2.length - 1 := fun h => by omega
      have c24 := cr24 a2 b2
      have hsh : a2.length ≤ 20000 → isS a2 b2 = _ := fun h => isS_short hl2 h
      have hsp : a2.length ≤ 20000 → (spanS a2 b2).2.2 = 0 → 0 ≤ (spanS a2 b2).1 ∧ (spanS a2 b2).1 ≤ 160000 ∧ 0 ≤ (spanS a2 b2).2.1 ∧ (spanS a2 b2).2.1 ≤ 160000 := fun hle h => by
        have hn := span_none hl2
        unfold spanS at h ⊢
        rw [if_neg (by omega)] at h ⊢
        by_cases he : a2 = b2
        · rw [if_pos he] at h; exact absurd h (by decide)
        · rw [if_neg he]
          rcases spanN_spec a2 b2 (8 * a2.length) with ⟨h1, _⟩ | ⟨f, l, h1, h2, h3, _⟩
          · exact absurd (hn.1 h1) he
          · rw [h1]; simp only; omega
      rw [hs2] at hsh
      generalize spanS a2 b2 = u at c24 hsh hsp
      obtain ⟨u1, u2, u3⟩ := u
      dsimp only at c24 hsh hsp
      repeat' first
        | ((with_reducible apply K_call_0 (f := 24) (ys := [.str a2, .str b2])); exact rfl; exact c24; exact rfl)
        | with_reducible refine T_seq ?_
        | with_reducible refine S_ops ?_
        | with_reducible refine O_step ?_
        | ((with_reducible apply K_mov_d); exact rfl)
        | with_reducible refine O_nil ?_
        | with_reducible refine seq_n ?_
        | with_reducible refine S_skip ?_
        | ((with_reducible apply T_itet); exact rfl)
        | ((with_reducible apply T_itef); exact rfl)
        | ((with_reducible apply T_ite1); exact rfl; (first | with_reducible assumption | omega))
        | ((with_reducible apply T_ite0); exact rfl; (first | with_reducible assumption | omega))
        | ((with_reducible apply T_iteP); exact rfl; all_goals intro _)
        | with_reducible refine S_ret ?_
        | with_reducible refine seq_r ?_
        | with_reducible refine S_exit ?_
        | with_reducible refine seq_e ?_
        | with_reducible refine T_block ?_
        | with_reducible refine blk_1 ?_
        | with_reducible refine blk_0 rfl ?_
        | with_reducible refine blk_n ?_
        | with_reducible refine blk_r ?_
        | with_reducible refine rnd_r ?_
        | with_reducible refine rnd_e ?_
        | ((with_reducible apply G_skip'); exact rfl)
        | ((with_reducible apply G_1tt); exact rfl)
        | ((with_reducible apply G_1ff); exact rfl)
        | ((with_reducible apply G_0tt); exact rfl)
        | ((with_reducible apply G_0ff); exact rfl)
        | ((with_reducible apply G_1y); exact rfl; (first | with_reducible assumption | omega))
        | ((with_reducible apply G_1n); exact rfl; (first | with_reducible assumption | omega))
        | ((with_reducible apply G_0y); exact rfl; (first | with_reducible assumption | omega))
        | ((with_reducible apply G_0n); exact rfl; (first | with_reducible assumption | omega))
        | ((with_reducible apply G_1P); exact rfl; all_goals intro _)
        | ((with_reducible apply G_0P); exact rfl; all_goals intro _)
        | ((with_reducible apply K_pickt); exact rfl; exact rfl)
        | ((with_reducible apply K_pickf); exact rfl; exact rfl)
        | ((with_reducible apply K_pickT); exact rfl; (first | with_reducible assumption | omega); exact rfl)
        | ((with_reducible apply K_pickF); exact rfl; (first | with_reducible assumption | omega); exact rfl)
        | ((with_reducible apply K_leq); exact rfl; exact rfl)
        | ((with_reducible apply K_gtr); exact rfl; exact rfl)
        | ((with_reducible apply K_eql); exact rfl; exact rfl)
        | ((with_reducible apply K_neq); exact rfl; exact rfl)
        | ((with_reducible apply K_eqlS); exact rfl; exact rfl)
        | ((with_reducible apply K_neqS); exact rfl; exact rfl)
        | ((with_reducible apply K_sub); exact rfl; exact rfl; (first | omega | decide))
        | ((with_reducible apply K_subw); exact rfl; exact rfl)
        | ((with_reducible apply K_lenS); exact rfl)
        | with_reducible refine S_draw0 ?_
        | with_reducible refine D_nil ?_
        | with_reducible refine D_step0 ?_
        | ((with_reducible apply DG_1y); exact rfl; (first | with_reducible assumption | omega))
        | ((with_reducible apply DG_1n); exact rfl; (first | with_reducible assumption | omega))
        | ((with_reducible apply DG_0y); exact rfl; (first | with_reducible assumption | omega))
        | ((with_reducible apply DG_0n); exact rfl; (first | with_reducible assumption | omega))
        | ((with_reducible apply DG_1P); exact rfl; all_goals intro _)
        | ((with_reducible apply DG_0P); exact rfl; all_goals intro _)
        | ((with_reducible apply K_idxSn); exact rfl; exact rfl; (first | omega | decide))
        | ((with_reducible apply K_idxS); exact rfl; exact rfl; (first | omega | decide))
        | ((with_reducible apply K_mov_ref); exact rfl)
        | ((with_reducible apply K_mov_ptr); exact rfl)
        | ((with_reducible apply K_mov_tup); exact rfl)
        | ((with_reducible apply K_mov_yld); exact rfl)
        | ((with_reducible apply K_ext); exact rfl; exact rfl)
        | ((with_reducible apply K_slS_hi); exact rfl; exact rfl; (first | omega | decide))
        | ((with_reducible apply K_slS_lo); exact rfl; exact rfl; (first | omega | decide))
        | ((with_reducible apply K_slS_2); exact rfl; exact rfl; exact rfl; (first | omega | decide); (first | omega | decide))
      all_goals first
        | exact ends_b rfl (by rw [hsh (by omega), decide_eq_true (by assumption : u3 = 0), Bool.true_and])
        | exact ends_b rfl (by rw [hsh (by omega), decide_eq_false (by assumption : ¬ u3 = 0), Bool.false_and])
        | (have hp : 0 < a2.length := by omega
           have hbt : ((a2.getD ((a2.length : Int) - 1).toNat 0).toNat : Int) = ((b2.getD ((b2.length : Int) - 1).toNat 0).toNat : Int) := by assumption
           rw [ea hp, eb hp] at hbt
           refine rnd_n (a2.take (a2.length - 1), b2.take (b2.length - 1)) ⟨⟨by simp; omega, by simp; omega, (isS_take hl2 hp (toNat_inj hbt)).trans hs2, fun h => ?_⟩, by simp; omega⟩ ?_ rfl
           · have h2 : 0 < (b2.take (b2.length - 1)).length := by simp at h ⊢; omega
             dsimp only at h ⊢
             rw [take_first h, take_first h2]
             exact hf2 hp
           · show [st (a2.take ((a2.length : Int) - 1).toNat), st (b2.take ((b2.length : Int) - 1).toNat)] = _
             rw [ea hp, eb hp])
        | (have hp : 0 < a2.length := by omega
           have hbt : ¬ ((a2.getD ((a2.length : Int) - 1).toNat 0).toNat : Int) = ((b2.getD ((b2.length : Int) - 1).toNat 0).toNat : Int) := by assumption
           rw [ea hp, eb hp] at hbt
           exact ends_b rfl (by
             rw [← hs2, isS_long hl2 (by omega) (hf2 hp) (fun e => hbt (by rw [e, hl2]))]))
  · have hr : isS a b = false := by unfold isS; rw [decide_eq_false hl]; rfl
    rw [hr]
    repeat' first
      | with_reducible refine T_seq ?_
      | with_reducible refine S_ops ?_
      | with_reducible refine O_step ?_
      | ((with_reducible apply K_mov_d); exact rfl)
      | with_reducible refine O_nil ?_
      | with_reducible refine seq_n ?_
      | with_reducible refine S_skip ?_
      | ((with_reducible apply T_itet); exact rfl)
      | ((with_reducible apply T_itef); exact rfl)
      | ((with_reducible apply T_ite1); exact rfl; (first | with_reducible assumption | omega))
      | ((with_reducible apply T_ite0); exact rfl; (first | with_reducible assumption | omega))
      | ((with_reducible apply T_iteP); exact rfl; all_goals intro _)
      | with_reducible refine S_ret ?_
      | with_reducible refine seq_r ?_
      | with_reducible refine S_exit ?_
      | with_reducible refine seq_e ?_
      | with_reducible refine T_block ?_
      | with_reducible refine blk_1 ?_
      | with_reducible refine blk_0 rfl ?_
      | with_reducible refine blk_n ?_
      | with_reducible refine blk_r ?_
      | with_reducible refine rnd_r ?_
      | with_reducible refine rnd_e ?_
      | ((with_reducible apply G_skip'); exact rfl)
      | ((with_reducible apply G_1tt); exact rfl)
      | ((with_reducible apply G_1ff); exact rfl)
      | ((with_reducible apply G_0tt); exact rfl)
      | ((with_reducible apply G_0ff); exact rfl)
      | ((with_reducible apply G_1y); exact rfl; (first | with_reducible assumption | omega))
      | ((with_reducible apply G_1n); exact rfl; (first | with_reducible assumption | omega))
      | ((with_reducible apply G_0y); exact rfl; (first | with_reducible assumption | omega))
      | ((with_reducible apply G_0n); exact rfl; (first | with_reducible assumption | omega))
      | ((with_reducible apply G_1P); exact rfl; all_goals intro _)
      | ((with_reducible apply G_0P); exact rfl; all_goals intro _)
      | ((with_reducible apply K_pickt); exact rfl; exact rfl)
      | ((with_reducible apply K_pickf); exact rfl; exact rfl)
      | ((with_reducible apply K_pickT); exact rfl; (first | with_reducible assumption | omega); exact rfl)
      | ((with_reducible apply K_pickF); exact rfl; (first | with_reducible assumption | omega); exact rfl)
      | ((with_reducible apply K_leq); exact rfl; exact rfl)
      | ((with_reducible apply K_gtr); exact rfl; exact rfl)
      | ((with_reducible apply K_eql); exact rfl; exact rfl)
      | ((with_reducible apply K_neq); exact rfl; exact rfl)
      | ((with_reducible apply K_eqlS); exact rfl; exact rfl)
      | ((with_reducible apply K_neqS); exact rfl; exact rfl)
      | ((with_reducible apply K_sub); exact rfl; exact rfl; (first | omega | decide))
      | ((with_reducible apply K_subw); exact rfl; exact rfl)
      | ((with_reducible apply K_lenS); exact rfl)
      | with_reducible refine S_draw0 ?_
      | with_reducible refine D_nil ?_
      | with_reducible refine D_step0 ?_
      | ((with_reducible apply DG_1y); exact rfl; (first | with_reducible assumption | omega))
      | ((with_reducible apply DG_1n); exact rfl; (first | with_reducible assumption | omega))
      | ((with_reducible apply DG_0y); exact rfl; (first | with_reducible assumption | omega))
      | ((with_reducible apply DG_0n); exact rfl; (first | with_reducible assumption | omega))
      | ((with_reducible apply DG_1P); exact rfl; all_goals intro _)
      | ((with_reducible apply DG_0P); exact rfl; all_goals intro _)
      | ((with_reducible apply K_idxSn); exact rfl; exact rfl; (first | omega | decide))
      | ((with_reducible apply K_idxS); exact rfl; exact rfl; (first | omega | decide))
      | ((with_reducible apply K_mov_ref); exact rfl)
      | ((with_reducible apply K_mov_ptr); exact rfl)
      | ((with_reducible apply K_mov_tup); exact rfl)
      | ((with_reducible apply K_mov_yld); exact rfl)
      | ((with_reducible apply K_ext); exact rfl; exact rfl)
      | ((with_reducible apply K_slS_hi); exact rfl; exact rfl; (first | omega | decide))
      | ((with_reducible apply K_slS_lo); exact rfl; exact rfl; (first | omega | decide))
      | ((with_reducible apply K_slS_2); exact rfl; exact rfl; exact rfl; (first | omega | decide); (first | omega | decide))
    exact ends_b rfl rfl
theorem K_eqB_same {E : Env} {fr : Fr} {S : St} {K : AV → St → Prop} {x y : Opd} {p : Bool} (e : ld fr x = .d (.bool p)) (e2 : ld fr y = .d (.bool p)) (h : K (.d (.bool true)) S) : stepK E fr S (.eqB false x y) K := K_eqB e e2 (by simpa using h)
set_option maxHeartbeats 2000000 in
set_option maxRecDepth 4000 in
theorem cr5 (a b : List UInt8) : CR Try.prog 5 [st a, st b] [] (.d (.bool true)) [] := by
  refine fn_cr fn5 (Nat.le_of_ble_eq_true rfl) rfl ?_
  unfold sc5
  by_cases h : (60 < a.length ∧ a.length ≤ 20000) ∨ 20003 < a.length ∨ (60 < b.length ∧ b.length ≤ 20000) ∨ 20003 < b.length
  · repeat' first
      | ((with_reducible apply K_call_0 (ys := [])); exact rfl; exact cr13; exact rfl)
      | with_reducible refine T_seq ?_
      | with_reducible refine S_ops ?_
      | with_reducible refine O_step ?_
      | ((with_reducible apply K_mov_d); exact rfl)
      | with_reducible refine O_nil ?_
      | with_reducible refine seq_n ?_
      | with_reducible refine S_skip ?_
      | ((with_reducible apply T_itet); exact rfl)
      | ((with_reducible apply T_itef); exact rfl)
      | ((with_reducible apply T_ite1); exact rfl; (first | with_reducible assumption | omega))
      | ((with_reducible apply T_ite0); exact rfl; (first | with_reducible assumption | omega))
      | ((with_reducible apply T_iteP); exact rfl; all_goals intro _)
      | with_reducible refine S_ret ?_
      | with_reducible refine seq_r ?_
      | with_reducible refine rnd_r ?_
      | ((with_reducible apply G_skip'); exact rfl)
      | ((with_reducible apply G_1tt); exact rfl)
      | ((with_reducible apply G_1ff); exact rfl)
      | ((with_reducible apply G_0tt); exact rfl)
      | ((with_reducible apply G_0ff); exact rfl)
      | ((with_reducible apply G_1y); exact rfl; (first | with_reducible assumption | omega))
      | ((with_reducible apply G_1n); exact rfl; (first | with_reducible assumption | omega))
      | ((with_reducible apply G_0y); exact rfl; (first | with_reducible assumption | omega))
      | ((with_reducible apply G_0n); exact rfl; (first | with_reducible assumption | omega))
      | ((with_reducible apply G_1P); exact rfl; all_goals intro _)
      | ((with_reducible apply G_0P); exact rfl; all_goals intro _)
      | ((with_reducible apply K_pickt); exact rfl; exact rfl)
      | ((with_reducible apply K_pickf); exact rfl; exact rfl)
      | ((with_reducible apply K_pickT); exact rfl; (first | with_reducible assumption | omega); exact rfl)
      | ((with_reducible apply K_pickF); exact rfl; (first | with_reducible assumption | omega); exact rfl)
      | ((with_reducible apply K_leq); exact rfl; exact rfl)
      | ((with_reducible apply K_gtr); exact rfl; exact rfl)
      | ((with_reducible apply K_eql); exact rfl; exact rfl)
      | ((with_reducible apply K_eqlS); exact rfl; exact rfl)
      | ((with_reducible apply K_lenS); exact rfl)
      | ((with_reducible apply K_mov_ref); exact rfl)
      | ((with_reducible apply K_mov_ptr); exact rfl)
      | ((with_reducible apply K_mov_tup); exact rfl)
      | ((with_reducible apply K_mov_yld); exact rfl)
      | ((with_reducible apply K_ext); exact rfl; exact rfl)
    all_goals first | exact ends_b rfl rfl | (exfalso; omega)
  · have c1 := cr23 a b
    have c2 := cr24 a b
    generalize spanS a b = u at c1 c2
    obtain ⟨u1, u2, u3⟩ := u
    dsimp only at c1 c2
    have c3 := cr25 a b (by omega)
    have c4 := cr26 a b (by omega)
    generalize isS a b = v at c3 c4
    have hA : a.length ≤ 60 ∨ (20000 < a.length ∧ a.length ≤ 20003) := by omega
    have hB : b.length ≤ 60 ∨ (20000 < b.length ∧ b.length ≤ 20003) := by omega
    rcases hA with hA | hA <;> rcases hB with hB | hB
    all_goals
      repeat' first
        | ((with_reducible apply K_eql_same); exact rfl; exact rfl)
        | ((with_reducible apply K_eqB_same); exact rfl; exact rfl)
        | ((with_reducible apply K_call_0 (ys := [])); exact rfl; exact cr13; exact rfl)
        | ((with_reducible apply K_call_0 (f := 23) (ys := [.str a, .str b])); exact rfl; exact c1; exact rfl)
        | ((with_reducible apply K_call_0 (f := 24) (ys := [.str a, .str b])); exact rfl; exact c2; exact rfl)
        | ((with_reducible apply K_call_0 (f := 25) (ys := [.str a, .str b])); exact rfl; exact c3; exact rfl)
        | ((with_reducible apply K_call_0 (f := 26) (ys := [.str a, .str b])); exact rfl; exact c4; exact rfl)
        | with_reducible refine T_seq ?_
        | with_reducible refine S_ops ?_
        | with_reducible refine O_step ?_
        | ((with_reducible apply K_mov_d); exact rfl)
        | with_reducible refine O_nil ?_
        | with_reducible refine seq_n ?_
        | with_reducible refine S_skip ?_
        | ((with_reducible apply T_itet); exact rfl)
        | ((with_reducible apply T_itef); exact rfl)
        | ((with_reducible apply T_ite1); exact rfl; (first | with_reducible assumption | omega))
        | ((with_reducible apply T_ite0); exact rfl; (first | with_reducible assumption | omega))
        | ((with_reducible apply T_iteP); exact rfl; all_goals intro _)
        | with_reducible refine S_ret ?_
        | with_reducible refine seq_r ?_
        | with_reducible refine rnd_r ?_
        | ((with_reducible apply G_skip'); exact rfl)
        | ((with_reducible apply G_1tt); exact rfl)
        | ((with_reducible apply G_1ff); exact rfl)
        | ((with_reducible apply G_0tt); exact rfl)
        | ((with_reducible apply G_0ff); exact rfl)
        | ((with_reducible apply G_1y); exact rfl; (first | with_reducible assumption | omega))
        | ((with_reducible apply G_1n); exact rfl; (first | with_reducible assumption | omega))
        | ((with_reducible apply G_0y); exact rfl; (first | with_reducible assumption | omega))
        | ((with_reducible apply G_0n); exact rfl; (first | with_reducible assumption | omega))
        | ((with_reducible apply G_1P); exact rfl; all_goals intro _)
        | ((with_reducible apply G_0P); exact rfl; all_goals intro _)
        | ((with_reducible apply K_pickt); exact rfl; exact rfl)
        | ((with_reducible apply K_pickf); exact rfl; exact rfl)
        | ((with_reducible apply K_pickT); exact rfl; (first | with_reducible assumption | omega); exact rfl)
        | ((with_reducible apply K_pickF); exact rfl; (first | with_reducible assumption | omega); exact rfl)
        | ((with_reducible apply K_leq); exact rfl; exact rfl)
        | ((with_reducible apply K_gtr); exact rfl; exact rfl)
        | ((with_reducible apply K_eql); exact rfl; exact rfl)
        | ((with_reducible apply K_eqlS); exact rfl; exact rfl)
        | ((with_reducible apply K_lenS); exact rfl)
        | ((with_reducible apply K_mov_ref); exact rfl)
        | ((with_reducible apply K_mov_ptr); exact rfl)
        | ((with_reducible apply K_mov_tup); exact rfl)
        | ((with_reducible apply K_mov_yld); exact rfl)
        | ((with_reducible apply K_ext); exact rfl; exact rfl)
      exact ends_b rfl rfl
end Go.Abs
