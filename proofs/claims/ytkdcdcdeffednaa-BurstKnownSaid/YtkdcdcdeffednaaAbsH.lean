/- Contracts of the functions that the laws on examples and on changes that are made twice reach: what each hands back; a library for the laws, it claims nothing by itself. -/
import Derived.Test.YtkdcdcdeffednaaAbsG
set_option linter.unusedVariables false
set_option linter.unusedSimpArgs false
/- The law: the chapter's examples. -/
namespace Go.Abs
open Go.Proofs
theorem cr48 (s : List UInt8) (n : Int) (w : List UInt8) (hn : n < 9223372036854775808) (h : changeS s n = (w, 0)) : CR Try.prog 48 [st s, i64 n, st w] [] (.d (.bool true)) [] := by
  refine fn_cr fn48 (Nat.le_of_ble_eq_true rfl) rfl ?_
  unfold sc48
  have c : CR Try.prog 15 [st s, i64 n] [] (.tup [st w, i64 0]) [] := by
    have c := cr15 s n hn
    rw [h] at c; exact c
  repeat' first
    | ((with_reducible apply K_eqlS_same); exact rfl; exact rfl)
    | ((with_reducible apply K_eql_same); exact rfl; exact rfl)
    | ((with_reducible apply K_call_0 (ys := [.str s, .int .i64 n])); exact rfl; exact c; exact rfl)
    | with_reducible refine T_seq ?_
    | with_reducible refine S_ops ?_
    | with_reducible refine O_step ?_
    | ((with_reducible apply K_mov_d); exact rfl)
    | with_reducible refine O_nil ?_
    | with_reducible refine seq_n ?_
    | with_reducible refine S_ret ?_
    | with_reducible refine seq_r ?_
    | with_reducible refine rnd_r ?_
    | ((with_reducible apply G_skip'); exact rfl)
    | ((with_reducible apply G_1tt); exact rfl)
    | ((with_reducible apply G_1ff); exact rfl)
    | ((with_reducible apply G_0tt); exact rfl)
    | ((with_reducible apply G_0ff); exact rfl)
    | ((with_reducible apply G_1y); exact rfl; (first | with_reducible assumption | omega))
    | ((with_reducible apply G_1n); exact rfl; (first | with_reducible assumption | omega))
    | ((with_reducible apply G_0y); exact rfl; (first | with_reducible assumption | omega))
    | ((with_reducible apply G_0n); exact rfl; (first | with_reducible assumption | omega))
    | ((with_reducible apply G_1P); exact rfl; all_goals intro _)
    | ((with_reducible apply G_0P); exact rfl; all_goals intro _)
    | ((with_reducible apply K_pickt); exact rfl; exact rfl)
    | ((with_reducible apply K_pickf); exact rfl; exact rfl)
    | ((with_reducible apply K_pickT); exact rfl; (first | with_reducible assumption | omega); exact rfl)
    | ((with_reducible apply K_pickF); exact rfl; (first | with_reducible assumption | omega); exact rfl)
    | ((with_reducible apply K_eql); exact rfl; exact rfl)
    | ((with_reducible apply K_eqlS); exact rfl; exact rfl)
    | ((with_reducible apply K_mov_ref); exact rfl)
    | ((with_reducible apply K_mov_ptr); exact rfl)
    | ((with_reducible apply K_mov_tup); exact rfl)
    | ((with_reducible apply K_mov_yld); exact rfl)
    | ((with_reducible apply K_ext); exact rfl; exact rfl)
  exact ends_b rfl rfl
set_option maxHeartbeats 2000000 in
set_option maxRecDepth 4000 in
theorem cr9 : CR Try.prog 9 [] [] (.d (.bool true)) [] := by
  have h1 : CR Try.prog 16 [st [0, 0], i64 0] [] (.tup [st [1, 0], i64 0]) [] := by
    have c := cr16 [0, 0] 0
    rw [show flipS [0, 0] 0 = ([1, 0], 0) by decide] at c; exact c
  have h2 : CR Try.prog 16 [st [0, 0], i64 16] [] (.tup [st [], i64 2]) [] := by
    have c := cr16 [0, 0] 16
    rw [show flipS [0, 0] 16 = ([], 2) by decide] at c; exact c
  have h3 : CR Try.prog 16 [st [], i64 0] [] (.tup [st [], i64 2]) [] := by
    have c := cr16 [] 0
    rw [show flipS [] 0 = ([], 2) by decide] at c; exact c
  have h4 : CR Try.prog 18 [st [0, 0], i64 15, .d (.int .u32 (3 : Nat))] [] (.tup [st [], i64 2]) [] := by
    have c := cr18 [0, 0] 15 3 (by decide)
    rw [show burstS [0, 0] 15 3 = ([], 2) by decide] at c; exact c
  have h5 : CR Try.prog 18 [st [0], i64 0, .d (.int .u32 (0 : Nat))] [] (.tup [st [], i64 3]) [] := by
    have c := cr18 [0] 0 0 (by decide)
    rw [show burstS [0] 0 0 = ([], 3) by decide] at c; exact c
  have h6 : CR Try.prog 23 [st [0, 0], st [16, 1]] [] (.tup [i64 4, i64 8, i64 0]) [] := by
    have c := cr23 [0, 0] [16, 1]
    rw [show spanS [0, 0] [16, 1] = (4, 8, 0) by decide] at c; exact c
  have h7 : CR Try.prog 23 [st [0], st [0]] [] (.tup [i64 0, i64 0, i64 3]) [] := by
    have c := cr23 [0] [0]
    rw [show spanS [0] [0] = (0, 0, 3) by decide] at c; exact c
  have h8 : CR Try.prog 23 [st [0], st [0, 0]] [] (.tup [i64 0, i64 0, i64 4]) [] := by
    have c := cr23 [0] [0, 0]
    rw [show spanS [0] [0, 0] = (0, 0, 4) by decide] at c; exact c
  have h9 : CR Try.prog 25 [st [0, 0], st [16, 1]] [] (.d (.bool true)) [] := by
    have c := cr25 [0, 0] [16, 1] (by decide)
    rw [show isS [0, 0] [16, 1] = true by decide] at c; exact c
  have h10 : CR Try.prog 25 [st [0, 0, 0, 0, 0], st [1, 0, 0, 0, 1]] [] (.d (.bool false)) [] := by
    have c := cr25 [0, 0, 0, 0, 0] [1, 0, 0, 0, 1] (by decide)
    rw [show isS [0, 0, 0, 0, 0] [1, 0, 0, 0, 1] = false by decide] at c; exact c
  have h11 : CR Try.prog 25 [st [0], st [0]] [] (.d (.bool false)) [] := by
    have c := cr25 [0] [0] (by decide)
    rw [show isS [0] [0] = false by decide] at c; exact c
  have h12 : CR Try.prog 20 [st [1, 2], i64 1] [] (.tup [st [1], i64 0]) [] := by
    have c := cr20 [1, 2] 1
    rw [show cutS [1, 2] 1 = ([1], 0) by decide] at c; exact c
  have h13 : CR Try.prog 20 [st [1, 2], i64 3] [] (.tup [st [], i64 2]) [] := by
    have c := cr20 [1, 2] 3
    rw [show cutS [1, 2] 3 = ([], 2) by decide] at c; exact c
  have h14 : CR Try.prog 15 [st [1], i64 (-1)] [] (.tup [st [], i64 2]) [] := by
    have c := cr15 [1] (-1) (by decide)
    rw [show changeS [1] (-1) = ([], 2) by decide] at c; exact c
  have h15 : CR Try.prog 48 [st [0, 0], i64 0, st [1, 0]] [] (.d (.bool true)) [] := cr48 [0, 0] 0 [1, 0] (by decide) (by decide)
  have h16 : CR Try.prog 48 [st [0, 0], i64 45, st [0, 2]] [] (.d (.bool true)) [] := cr48 [0, 0] 45 [0, 2] (by decide) (by decide)
  have h17 : CR Try.prog 48 [st [1, 2], i64 2, st []] [] (.d (.bool true)) [] := cr48 [1, 2] 2 [] (by decide) (by decide)
  have h18 : CR Try.prog 48 [st [1], i64 3, st [1, 0]] [] (.d (.bool true)) [] := cr48 [1] 3 [1, 0] (by decide) (by decide)
  have h19 : CR Try.prog 48 [st [1, 2], i64 9, st [2, 1]] [] (.d (.bool true)) [] := cr48 [1, 2] 9 [2, 1] (by decide) (by decide)
  refine fn_cr fn9 (Nat.le_of_ble_eq_true rfl) rfl ?_
  unfold sc9
  repeat' first
    | ((with_reducible apply K_eqlS_same); exact rfl; exact rfl)
    | ((with_reducible apply K_neqS_same); exact rfl; exact rfl)
    | ((with_reducible apply K_eql_same); exact rfl; exact rfl)
    | ((with_reducible apply K_neq_same); exact rfl; exact rfl)
    | ((with_reducible apply K_call_0 (f := 16) (ys := [.str [0, 0], .int .i64 0])); exact rfl; exact h1; exact rfl)
    | ((with_reducible apply K_call_0 (f := 16) (ys := [.str [0, 0], .int .i64 16])); exact rfl; exact h2; exact rfl)
    | ((with_reducible apply K_call_0 (f := 16) (ys := [.str [], .int .i64 0])); exact rfl; exact h3; exact rfl)
    | ((with_reducible apply K_call_0 (f := 18) (ys := [.str [0, 0], .int .i64 15, .int .u32 3])); exact rfl; exact h4; exact rfl)
    | ((with_reducible apply K_call_0 (f := 18) (ys := [.str [0], .int .i64 0, .int .u32 0])); exact rfl; exact h5; exact rfl)
    | ((with_reducible apply K_call_0 (f := 23) (ys := [.str [0, 0], .str [16, 1]])); exact rfl; exact h6; exact rfl)
    | ((with_reducible apply K_call_0 (f := 23) (ys := [.str [0], .str [0]])); exact rfl; exact h7; exact rfl)
    | ((with_reducible apply K_call_0 (f := 23) (ys := [.str [0], .str [0, 0]])); exact rfl; exact h8; exact rfl)
    | ((with_reducible apply K_call_0 (f := 25) (ys := [.str [0, 0], .str [16, 1]])); exact rfl; exact h9; exact rfl)
    | ((with_reducible apply K_call_0 (f := 25) (ys := [.str [0, 0, 0, 0, 0], .str [1, 0, 0, 0, 1]])); exact rfl; exact h10; exact rfl)
    | ((with_reducible apply K_call_0 (f := 25) (ys := [.str [0], .str [0]])); exact rfl; exact h11; exact rfl)
    | ((with_reducible apply K_call_0 (f := 20) (ys := [.str [1, 2], .int .i64 1])); exact rfl; exact h12; exact rfl)
    | ((with_reducible apply K_call_0 (f := 20) (ys := [.str [1, 2], .int .i64 3])); exact rfl; exact h13; exact rfl)
    | ((with_reducible apply K_call_0 (f := 15) (ys := [.str [1], .int .i64 (-1)])); exact rfl; exact h14; exact rfl)
    | ((with_reducible apply K_call_0 (f := 48) (ys := [.str [0, 0], .int .i64 0, .str [1, 0]])); exact rfl; exact h15; exact rfl)
    | ((with_reducible apply K_call_0 (f := 48) (ys := [.str [0, 0], .int .i64 45, .str [0, 2]])); exact rfl; exact h16; exact rfl)
    | ((with_reducible apply K_call_0 (f := 48) (ys := [.str [1, 2], .int .i64 2, .str []])); exact rfl; exact h17; exact rfl)
    | ((with_reducible apply K_call_0 (f := 48) (ys := [.str [1], .int .i64 3, .str [1, 0]])); exact rfl; exact h18; exact rfl)
    | ((with_reducible apply K_call_0 (f := 48) (ys := [.str [1, 2], .int .i64 9, .str [2, 1]])); exact rfl; exact h19; exact rfl)
    | ((with_reducible apply K_call_0 (ys := [])); exact rfl; exact cr13; exact rfl)
    | with_reducible refine T_seq ?_
    | with_reducible refine S_ops ?_
    | with_reducible refine O_step ?_
    | ((with_reducible apply K_mov_d); exact rfl)
    | with_reducible refine O_nil ?_
    | with_reducible refine seq_n ?_
    | with_reducible refine S_skip ?_
    | ((with_reducible apply T_itet); exact rfl)
    | ((with_reducible apply T_itef); exact rfl)
    | ((with_reducible apply T_ite1); exact rfl; (first | with_reducible assumption | omega | decide))
    | ((with_reducible apply T_ite0); exact rfl; (first | with_reducible assumption | omega | decide))
    | ((with_reducible apply T_iteP); exact rfl; all_goals intro _)
    | with_reducible refine S_ret ?_
    | with_reducible refine seq_r ?_
    | with_reducible refine rnd_r ?_
    | ((with_reducible apply G_skip'); exact rfl)
    | ((with_reducible apply G_1tt); exact rfl)
    | ((with_reducible apply G_1ff); exact rfl)
    | ((with_reducible apply G_0tt); exact rfl)
    | ((with_reducible apply G_0ff); exact rfl)
    | ((with_reducible apply G_1y); exact rfl; (first | with_reducible assumption | omega | decide))
    | ((with_reducible apply G_1n); exact rfl; (first | with_reducible assumption | omega | decide))
    | ((with_reducible apply G_0y); exact rfl; (first | with_reducible assumption | omega | decide))
    | ((with_reducible apply G_0n); exact rfl; (first | with_reducible assumption | omega | decide))
    | ((with_reducible apply G_1P); exact rfl; all_goals intro _)
    | ((with_reducible apply G_0P); exact rfl; all_goals intro _)
    | ((with_reducible apply K_pickt); exact rfl; exact rfl)
    | ((with_reducible apply K_pickf); exact rfl; exact rfl)
    | ((with_reducible apply K_pickT); exact rfl; (first | with_reducible assumption | omega | decide); exact rfl)
    | ((with_reducible apply K_pickF); exact rfl; (first | with_reducible assumption | omega | decide); exact rfl)
    | ((with_reducible apply K_eql); exact rfl; exact rfl)
    | ((with_reducible apply K_neq); exact rfl; exact rfl)
    | ((with_reducible apply K_eqlS); exact rfl; exact rfl)
    | ((with_reducible apply K_neqS); exact rfl; exact rfl)
    | ((with_reducible apply K_not_t); exact rfl)
    | ((with_reducible apply K_not_f); exact rfl)
    | ((with_reducible apply K_notP); exact rfl)
    | ((with_reducible apply K_mov_ref); exact rfl)
    | ((with_reducible apply K_mov_ptr); exact rfl)
    | ((with_reducible apply K_mov_tup); exact rfl)
    | ((with_reducible apply K_mov_yld); exact rfl)
    | ((with_reducible apply K_ext); exact rfl; exact rfl)
  exact ends_b rfl rfl
end Go.Abs
/- Bits that are changed twice. -/
namespace Go.Abs
theorem mask_bit {j k : Nat} (hj : j < 8) (hk : k < 8) : (mask k).toNat.testBit j = decide (k = j) := by
  rw [mask_toNat hk, Nat.testBit_two_pow]
theorem bitAt_flip {s : List UInt8} {k i : Nat} (hk : k < 8 * s.length) (hi : i < 8 * s.length) : bitAt (flip s k) i = (bitAt s i ^^ decide (k = i)) := by
  have h1 : k / 8 < s.length := by omega
  unfold bitAt flip
  simp only [List.getD_eq_getElem?_getD, List.getElem?_set]
  by_cases h : k / 8 = i / 8
  · rw [if_pos h, if_pos h1, Option.getD_some, UInt8.toNat_xor, Nat.testBit_xor, mask_bit (by omega) (by omega), h]
    congr 1
    rw [Bool.eq_iff_iff]; simp only [decide_eq_true_eq]; omega
  · rw [if_neg h]
    have : decide (k = i) = false := decide_eq_false (by omega)
    rw [this]; simp
theorem bitAt_flips {s : List UInt8} {f p i : Nat} (hi : i < 8 * s.length) : ∀ n, bitAt (flipsN s f p n) i = (bitAt s i ^^ decide (f ≤ i ∧ i - f < n ∧ p.testBit (i - f) = true))
  | 0 => by
    have : decide (f ≤ i ∧ i - f < 0 ∧ p.testBit (i - f) = true) = false := decide_eq_false (by omega)
    rw [this]; simp [flipsN]
  | n + 1 => by
    have ih := bitAt_flips (s := s) (f := f) (p := p) hi n
    have hl := flipsN_len s f p n
    by_cases h : p.testBit n = true ∧ (f + n) / 8 < s.length
    · rw [flipsN_y h.1 h.2, bitAt_flip (by omega) (by omega), ih, Bool.xor_assoc]
      congr 1
      by_cases he : f + n = i
      · have e1 : decide (f + n = i) = true := decide_eq_true he
        have e2 : decide (f ≤ i ∧ i - f < n ∧ p.testBit (i - f) = true) = false := decide_eq_false (by omega)
        have e3 : decide (f ≤ i ∧ i - f < n + 1 ∧ p.testBit (i - f) = true) = true := decide_eq_true ⟨by omega, by omega, by rw [show i - f = n by omega]; exact h.1⟩
        rw [e1, e2, e3]; rfl
      · have e1 : decide (f + n = i) = false := decide_eq_false he
        rw [e1, Bool.xor_false, Bool.eq_iff_iff]
        simp only [decide_eq_true_eq]
        constructor
        · rintro ⟨a, b, c⟩; exact ⟨a, by omega, c⟩
        · rintro ⟨a, b, c⟩; exact ⟨a, by omega, c⟩
    · rw [flipsN_n h, ih]
      congr 1
      rw [Bool.eq_iff_iff]
      simp only [decide_eq_true_eq]
      constructor
      · rintro ⟨a, b, c⟩; exact ⟨a, by omega, c⟩
      · rintro ⟨a, b, c⟩
        refine ⟨a, Nat.lt_of_le_of_ne (by omega) fun e => h ⟨by rw [← e]; exact c, by omega⟩, c⟩
theorem flip_flip {s : List UInt8} {k : Nat} (hk : k < 8 * s.length) : flip (flip s k) k = s := by
  apply bits_eq (by rw [flip_len, flip_len])
  intro i hi
  rw [flip_len, flip_len] at hi
  rw [bitAt_flip (by rw [flip_len]; exact hk) (by rw [flip_len]; exact hi), bitAt_flip hk hi, Bool.xor_assoc, Bool.xor_self, Bool.xor_false]
theorem flip_ne {s : List UInt8} {k : Nat} (hk : k < 8 * s.length) : flip s k ≠ s := fun h => by
  have := bitAt_flip hk hk
  rw [h] at this
  simp at this
theorem flips_flips {s : List UInt8} {f p : Nat} : flips (flips s f p) f p = s := by
  have hl : ∀ s, (flips s f p).length = s.length := fun s => flipsN_len s f p 32
  apply bits_eq (by rw [hl, hl])
  intro i hi
  rw [hl, hl] at hi
  unfold flips
  rw [bitAt_flips (by rw [flipsN_len]; exact hi), bitAt_flips hi, Bool.xor_assoc, Bool.xor_self, Bool.xor_false]
theorem flips_diff {s : List UInt8} {f p i : Nat} (hi : i < 8 * s.length) : bitAt s i ≠ bitAt (flips s f p) i ↔ (f ≤ i ∧ i - f < 32 ∧ p.testBit (i - f) = true) := by
  unfold flips
  rw [bitAt_flips hi]
  by_cases h : f ≤ i ∧ i - f < 32 ∧ p.testBit (i - f) = true
  · rw [decide_eq_true h]
    simp [h]
  · rw [decide_eq_false h]
    simp only [Bool.xor_false, ne_eq, not_true, false_iff]
    exact h
/-- The span of a burst. -/
theorem flips_span {s : List UInt8} {f p : Nat} (hf : f < 8 * s.length) (hp : p.testBit 0 = true) : ∃ l : Nat, spanN s (flips s f p) (8 * s.length) = ((f : Int), (l : Int)) ∧ (l : Int) - f ≤ 31 ∧ f ≤ l := by
  have hd := flips_diff (s := s) (f := f) (p := p) hf
  have h0 : bitAt s f ≠ bitAt (flips s f p) f := hd.2 ⟨Nat.le_refl _, by omega, by rw [Nat.sub_self]; exact hp⟩
  rcases spanN_spec s (flips s f p) (8 * s.length) with ⟨_, h2⟩ | ⟨g, l, h1, h2, h3, h4, h5, h6, h7⟩
  · exact absurd (h2 f hf) h0
  · have e1 := (flips_diff (by omega)).1 h4
    have e2 := (flips_diff (by omega)).1 h5
    have e3 : g ≤ f := Nat.le_of_not_lt fun h => h0 (h6 f h)
    have : g = f := by omega
    subst this
    exact ⟨l, h1, by omega, h2⟩
theorem spanN_symm (a b : List UInt8) : ∀ k, spanN a b k = spanN b a k
  | 0 => rfl
  | k + 1 => by
    simp only [spanN]
    rw [spanN_symm a b k]
    by_cases h : bitAt a k ≠ bitAt b k
    · rw [if_pos h, if_pos (Ne.symm h)]
    · rw [if_neg h, if_neg fun h2 => h (Ne.symm h2)]
theorem isS_symm (a b : List UInt8) : isS a b = isS b a := by
  unfold isS
  by_cases h : a.length = b.length
  · rw [h, spanN_symm a b]
  · rw [decide_eq_false h, decide_eq_false (Ne.symm h)]; rfl
theorem isS_burst {s : List UInt8} {f p : Nat} (hf : f < 8 * s.length) (hp : p.testBit 0 = true) : isS s (flips s f p) = true := by
  obtain ⟨l, h1, h2, h3⟩ := flips_span hf hp
  unfold isS
  rw [h1]
  have hl : s.length = (flips s f p).length := (flipsN_len s f p 32).symm
  have e : ((f : Int), (l : Int)) ≠ (-1, -1) := fun h => by injection h with h _; omega
  rw [decide_eq_true hl, decide_eq_true e, decide_eq_true (by simp only; omega)]; rfl
theorem isS_self (s : List UInt8) : isS s s = false := by
  unfold isS; rw [(span_none rfl).2 rfl]; simp
end Go.Abs
/- The law: flipping twice, a burst twice. -/
namespace Go.Abs
open Go.Proofs
set_option maxHeartbeats 2000000 in
set_option maxRecDepth 4000 in
theorem cr6 (s : List UInt8) (bit : Int) (p0 : Nat) (hp0 : p0 < 4294967296) : CR Try.prog 6 [st s, i64 bit, .d (.int .u32 p0)] [] (.d (.bool true)) [] := by
  refine fn_cr fn6 (Nat.le_of_ble_eq_true rfl) rfl ?_
  unfold sc6
  by_cases h : s.length < 1 ∨ 40 < s.length
  · repeat' first
      | ((with_reducible apply K_call_0 (f := 13) (ys := [])); exact rfl; exact cr13; exact rfl)
      | with_reducible refine T_seq ?_
      | with_reducible refine S_ops ?_
      | with_reducible refine O_step ?_
      | ((with_reducible apply K_mov_d); exact rfl)
      | with_reducible refine O_nil ?_
      | with_reducible refine seq_n ?_
      | with_reducible refine S_skip ?_
      | ((with_reducible apply T_itet); exact rfl)
      | ((with_reducible apply T_itef); exact rfl)
      | ((with_reducible apply T_ite1); exact rfl; (first | with_reducible assumption | omega))
      | ((with_reducible apply T_ite0); exact rfl; (first | with_reducible assumption | omega))
      | ((with_reducible apply T_iteP); exact rfl; all_goals intro _)
      | with_reducible refine S_ret ?_
      | with_reducible refine seq_r ?_
      | with_reducible refine rnd_r ?_
      | ((with_reducible apply G_skip'); exact rfl)
      | ((with_reducible apply G_1tt); exact rfl)
      | ((with_reducible apply G_1ff); exact rfl)
      | ((with_reducible apply G_0tt); exact rfl)
      | ((with_reducible apply G_0ff); exact rfl)
      | ((with_reducible apply G_1y); exact rfl; (first | with_reducible assumption | omega))
      | ((with_reducible apply G_1n); exact rfl; (first | with_reducible assumption | omega))
      | ((with_reducible apply G_0y); exact rfl; (first | with_reducible assumption | omega))
      | ((with_reducible apply G_0n); exact rfl; (first | with_reducible assumption | omega))
      | ((with_reducible apply G_1P); exact rfl; all_goals intro _)
      | ((with_reducible apply G_0P); exact rfl; all_goals intro _)
      | ((with_reducible apply K_pickt); exact rfl; exact rfl)
      | ((with_reducible apply K_pickf); exact rfl; exact rfl)
      | ((with_reducible apply K_pickT); exact rfl; (first | with_reducible assumption | omega); exact rfl)
      | ((with_reducible apply K_pickF); exact rfl; (first | with_reducible assumption | omega); exact rfl)
      | ((with_reducible apply K_lss); exact rfl; exact rfl)
      | ((with_reducible apply K_leq); exact rfl; exact rfl)
      | ((with_reducible apply K_gtr); exact rfl; exact rfl)
      | ((with_reducible apply K_eql); exact rfl; exact rfl)
      | ((with_reducible apply K_neq); exact rfl; exact rfl)
      | ((with_reducible apply K_eqlS); exact rfl; exact rfl)
      | ((with_reducible apply K_neqS); exact rfl; exact rfl)
      | ((with_reducible apply K_sub); exact rfl; exact rfl; (first | omega | decide))
      | ((with_reducible apply K_mul); exact rfl; exact rfl; (first | omega | decide))
      | ((with_reducible apply K_subw); exact rfl; exact rfl)
      | ((with_reducible apply K_mulw); exact rfl; exact rfl)
      | ((with_reducible apply K_or); exact rfl; exact rfl)
      | ((with_reducible apply K_not_t); exact rfl)
      | ((with_reducible apply K_not_f); exact rfl)
      | ((with_reducible apply K_notP); exact rfl)
      | ((with_reducible apply K_lenS); exact rfl)
      | ((with_reducible apply K_mov_ref); exact rfl)
      | ((with_reducible apply K_mov_ptr); exact rfl)
      | ((with_reducible apply K_mov_tup); exact rfl)
      | ((with_reducible apply K_mov_yld); exact rfl)
      | ((with_reducible apply K_ext); exact rfl; exact rfl)
    all_goals exact ends_b rfl rfl
  have h14 := cr14 bit (8 * (s.length : Int)) (by omega)
  obtain ⟨k, hk, hlt⟩ : ∃ k : Nat, modS bit (8 * (s.length : Int)) = k ∧ k < 8 * s.length :=
    ⟨(bit % (8 * (s.length : Int))).toNat, by
      have := Int.emod_nonneg bit (show (8 * (s.length : Int)) ≠ 0 by omega)
      unfold modS; rw [if_neg (by omega)]; omega, by
      have h1 := Int.emod_nonneg bit (show (8 * (s.length : Int)) ≠ 0 by omega)
      have h2 := Int.emod_lt_of_pos bit (show 0 < (8 * (s.length : Int)) by omega)
      omega⟩
  rw [hk] at h14
  have hb0 : bitS s k = 0 := by unfold bitS; rw [if_neg (by omega), if_neg (by omega)]
  obtain ⟨a, ha⟩ : ∃ a, a = flip s k := ⟨_, rfl⟩
  have hal : a.length = s.length := by rw [ha, flip_len]
  have hba : bitS a k = 0 := by unfold bitS; rw [hal, if_neg (by omega), if_neg (by omega)]
  have h16a : CR Try.prog 16 [st s, i64 k] [] (.tup [st a, i64 0]) [] := by
    have c := cr16 s k
    rw [show flipS s k = (a, 0) by unfold flipS; rw [if_neg (by omega), ha]; rfl] at c; exact c
  have h16b : CR Try.prog 16 [st a, i64 k] [] (.tup [st s, i64 0]) [] := by
    have c := cr16 a k
    rw [show flipS a k = (s, 0) by unfold flipS; rw [if_neg (by omega), ha]; simp only [Int.toNat_natCast]; rw [flip_flip hlt]] at c; exact c
  have hne : ¬ a = s := by rw [ha]; exact flip_ne hlt
  have h25a : CR Try.prog 25 [st a, st s] [] (.d (.bool true)) [] := by
    have c := cr25 a s (by omega)
    rw [isS_symm, ha, ← flips_one (by omega), isS_burst hlt (by decide)] at c
    rw [ha, ← flips_one (by omega)]; exact c
  have h25s : CR Try.prog 25 [st s, st s] [] (.d (.bool false)) [] := by
    have c := cr25 s s (by omega)
    rw [isS_self] at c; exact c
  have hor : ibit .or .u32 (p0 : Int) 1 = ((p0 ||| 1 : Nat) : Int) := or_u32 (a := p0) (b := 1) hp0 (by omega)
  obtain ⟨p, hp⟩ : ∃ p, p = p0 ||| 1 := ⟨_, rfl⟩
  have hpl : p < 4294967296 := by rw [hp]; exact Nat.or_lt_two_pow (n := 32) hp0 (by omega)
  have hpb : p.testBit 0 = true := by rw [hp, Nat.testBit_or]; simp
  rw [← hp] at hor
  have hpn : p ≠ 0 := fun e => by rw [e] at hpb; simp at hpb
  have hE : burstE s k p = 0 ∨ burstE s k p = 2 := by
    unfold burstE
    rw [if_neg (by omega), if_neg hpn]
    split
    · exact .inr rfl
    · exact .inl rfl
  rcases hE with hE | hE
  · obtain ⟨c, hc⟩ : ∃ c, c = flips s k p := ⟨_, rfl⟩
    have hcl : c.length = s.length := by rw [hc]; exact flipsN_len s k p 32
    have h18a : CR Try.prog 18 [st s, i64 k, .d (.int .u32 p)] [] (.tup [st c, i64 0]) [] := by
      have d := cr18 s k p hpl
      rw [show burstS s k p = (c, 0) by unfold burstS; rw [if_neg (by omega), hc]; rfl] at d; exact d
    have hEc : burstE c k p = 0 := by
      unfold burstE bitS at hE ⊢
      rw [hcl]; exact hE
    have h18b : CR Try.prog 18 [st c, i64 k, .d (.int .u32 p)] [] (.tup [st s, i64 0]) [] := by
      have d := cr18 c k p hpl
      rw [show burstS c k p = (s, 0) by unfold burstS; rw [if_neg (by omega), hc]; simp only [Int.toNat_natCast]; rw [flips_flips]] at d; exact d
    obtain ⟨l, hl1, hl2, hl3⟩ := flips_span (p := p) hlt hpb
    rw [← hc] at hl1
    have hsc : ¬ s = c := fun e => by
      have := (span_none hcl.symm).2 e
      rw [hl1] at this; injection this with h _; omega
    have h23 : CR Try.prog 23 [st s, st c] [] (.tup [i64 k, i64 l, i64 0]) [] := by
      have d := cr23 s c
      rw [show spanS s c = ((k : Int), (l : Int), 0) by unfold spanS; rw [if_neg (by omega), if_neg hsc, hl1]] at d; exact d
    have h25c : CR Try.prog 25 [st s, st c] [] (.d (.bool true)) [] := by
      have d := cr25 s c (by omega)
      rw [show isS s c = true by rw [hc]; exact isS_burst hlt hpb] at d; exact d
    have h25d : CR Try.prog 25 [st c, st s] [] (.d (.bool true)) [] := by
      have d := cr25 c s (by omega)
      rw [show isS c s = true by rw [isS_symm, hc]; exact isS_burst hlt hpb] at d; exact d
    repeat' first
      | ((with_reducible apply K_eqlS_same); exact rfl; exact rfl)
      | ((with_reducible apply K_neqS_same); exact rfl; exact rfl)
      | ((with_reducible apply K_eql_same); exact rfl; exact rfl)
      | ((with_reducible apply K_neq_same); exact rfl; exact rfl)
      | ((with_reducible apply K_call_0 (f := 13) (ys := [])); exact rfl; exact cr13; exact rfl)
      | ((with_reducible apply K_call_0 (f := 14) (ys := [.int .i64 bit, .int .i64 (8 * (s.length : Int))])); exact rfl; exact h14; exact rfl)
      | ((with_reducible apply K_call_0 (f := 16) (ys := [.str s, .int .i64 k])); exact rfl; exact h16a; exact rfl)
      | ((with_reducible apply K_call_0 (f := 16) (ys := [.str a, .int .i64 k])); exact rfl; exact h16b; exact rfl)
      | ((with_reducible apply K_call_0 (f := 25) (ys := [.str a, .str s])); exact rfl; exact h25a; exact rfl)
      | ((with_reducible apply K_call_0 (f := 25) (ys := [.str s, .str s])); exact rfl; exact h25s; exact rfl)
      | ((with_reducible apply K_orv p); exact rfl; exact rfl; exact hor)
      | ((with_reducible apply K_call_0 (f := 18) (ys := [.str s, .int .i64 k, .int .u32 p])); exact rfl; exact h18a; exact rfl)
      | ((with_reducible apply K_call_0 (f := 18) (ys := [.str c, .int .i64 k, .int .u32 p])); exact rfl; exact h18b; exact rfl)
      | ((with_reducible apply K_call_0 (f := 23) (ys := [.str s, .str c])); exact rfl; exact h23; exact rfl)
      | ((with_reducible apply K_call_0 (f := 25) (ys := [.str s, .str c])); exact rfl; exact h25c; exact rfl)
      | ((with_reducible apply K_call_0 (f := 25) (ys := [.str c, .str s])); exact rfl; exact h25d; exact rfl)
      | with_reducible refine T_seq ?_
      | with_reducible refine S_ops ?_
      | with_reducible refine O_step ?_
      | ((with_reducible apply K_mov_d); exact rfl)
      | with_reducible refine O_nil ?_
      | with_reducible refine seq_n ?_
      | with_reducible refine S_skip ?_
      | ((with_reducible apply T_itet); exact rfl)
      | ((with_reducible apply T_itef); exact rfl)
      | ((with_reducible apply T_ite1); exact rfl; (first | with_reducible assumption | omega))
      | ((with_reducible apply T_ite0); exact rfl; (first | with_reducible assumption | omega))
      | ((with_reducible apply T_iteP); exact rfl; all_goals intro _)
      | with_reducible refine S_ret ?_
      | with_reducible refine seq_r ?_
      | with_reducible refine rnd_r ?_
      | ((with_reducible apply G_skip'); exact rfl)
      | ((with_reducible apply G_1tt); exact rfl)
      | ((with_reducible apply G_1ff); exact rfl)
      | ((with_reducible apply G_0tt); exact rfl)
      | ((with_reducible apply G_0ff); exact rfl)
      | ((with_reducible apply G_1y); exact rfl; (first | with_reducible assumption | omega))
      | ((with_reducible apply G_1n); exact rfl; (first | with_reducible assumption | omega))
      | ((with_reducible apply G_0y); exact rfl; (first | with_reducible assumption | omega))
      | ((with_reducible apply G_0n); exact rfl; (first | with_reducible assumption | omega))
      | ((with_reducible apply G_1P); exact rfl; all_goals intro _)
      | ((with_reducible apply G_0P); exact rfl; all_goals intro _)
      | ((with_reducible apply K_pickt); exact rfl; exact rfl)
      | ((with_reducible apply K_pickf); exact rfl; exact rfl)
      | ((with_reducible apply K_pickT); exact rfl; (first | with_reducible assumption | omega); exact rfl)
      | ((with_reducible apply K_pickF); exact rfl; (first | with_reducible assumption | omega); exact rfl)
      | ((with_reducible apply K_lss); exact rfl; exact rfl)
      | ((with_reducible apply K_leq); exact rfl; exact rfl)
      | ((with_reducible apply K_gtr); exact rfl; exact rfl)
      | ((with_reducible apply K_eql); exact rfl; exact rfl)
      | ((with_reducible apply K_neq); exact rfl; exact rfl)
      | ((with_reducible apply K_eqlS); exact rfl; exact rfl)
      | ((with_reducible apply K_neqS); exact rfl; exact rfl)
      | ((with_reducible apply K_sub); exact rfl; exact rfl; (first | omega | decide))
      | ((with_reducible apply K_mul); exact rfl; exact rfl; (first | omega | decide))
      | ((with_reducible apply K_subw); exact rfl; exact rfl)
      | ((with_reducible apply K_mulw); exact rfl; exact rfl)
      | ((with_reducible apply K_or); exact rfl; exact rfl)
      | ((with_reducible apply K_not_t); exact rfl)
      | ((with_reducible apply K_not_f); exact rfl)
      | ((with_reducible apply K_notP); exact rfl)
      | ((with_reducible apply K_lenS); exact rfl)
      | ((with_reducible apply K_mov_ref); exact rfl)
      | ((with_reducible apply K_mov_ptr); exact rfl)
      | ((with_reducible apply K_mov_tup); exact rfl)
      | ((with_reducible apply K_mov_yld); exact rfl)
      | ((with_reducible apply K_ext); exact rfl; exact rfl)
    exact ends_b rfl rfl
  · have h18a : CR Try.prog 18 [st s, i64 k, .d (.int .u32 p)] [] (.tup [st [], i64 2]) [] := by
      have d := cr18 s k p hpl
      rw [show burstS s k p = ([], 2) by unfold burstS; rw [hE, if_pos (by decide)]] at d; exact d
    repeat' first
      | ((with_reducible apply K_eqlS_same); exact rfl; exact rfl)
      | ((with_reducible apply K_neqS_same); exact rfl; exact rfl)
      | ((with_reducible apply K_eql_same); exact rfl; exact rfl)
      | ((with_reducible apply K_neq_same); exact rfl; exact rfl)
      | ((with_reducible apply K_call_0 (f := 13) (ys := [])); exact rfl; exact cr13; exact rfl)
      | ((with_reducible apply K_call_0 (f := 14) (ys := [.int .i64 bit, .int .i64 (8 * (s.length : Int))])); exact rfl; exact h14; exact rfl)
      | ((with_reducible apply K_call_0 (f := 16) (ys := [.str s, .int .i64 k])); exact rfl; exact h16a; exact rfl)
      | ((with_reducible apply K_call_0 (f := 16) (ys := [.str a, .int .i64 k])); exact rfl; exact h16b; exact rfl)
      | ((with_reducible apply K_call_0 (f := 25) (ys := [.str a, .str s])); exact rfl; exact h25a; exact rfl)
      | ((with_reducible apply K_call_0 (f := 25) (ys := [.str s, .str s])); exact rfl; exact h25s; exact rfl)
      | ((with_reducible apply K_orv p); exact rfl; exact rfl; exact hor)
      | ((with_reducible apply K_call_0 (f := 18) (ys := [.str s, .int .i64 k, .int .u32 p])); exact rfl; exact h18a; exact rfl)
      | with_reducible refine T_seq ?_
      | with_reducible refine S_ops ?_
      | with_reducible refine O_step ?_
      | ((with_reducible apply K_mov_d); exact rfl)
      | with_reducible refine O_nil ?_
      | with_reducible refine seq_n ?_
      | with_reducible refine S_skip ?_
      | ((with_reducible apply T_itet); exact rfl)
      | ((with_reducible apply T_itef); exact rfl)
      | ((with_reducible apply T_ite1); exact rfl; (first | with_reducible assumption | omega))
      | ((with_reducible apply T_ite0); exact rfl; (first | with_reducible assumption | omega))
      | ((with_reducible apply T_iteP); exact rfl; all_goals intro _)
      | with_reducible refine S_ret ?_
      | with_reducible refine seq_r ?_
      | with_reducible refine rnd_r ?_
      | ((with_reducible apply G_skip'); exact rfl)
      | ((with_reducible apply G_1tt); exact rfl)
      | ((with_reducible apply G_1ff); exact rfl)
      | ((with_reducible apply G_0tt); exact rfl)
      | ((with_reducible apply G_0ff); exact rfl)
      | ((with_reducible apply G_1y); exact rfl; (first | with_reducible assumption | omega))
      | ((with_reducible apply G_1n); exact rfl; (first | with_reducible assumption | omega))
      | ((with_reducible apply G_0y); exact rfl; (first | with_reducible assumption | omega))
      | ((with_reducible apply G_0n); exact rfl; (first | with_reducible assumption | omega))
      | ((with_reducible apply G_1P); exact rfl; all_goals intro _)
      | ((with_reducible apply G_0P); exact rfl; all_goals intro _)
      | ((with_reducible apply K_pickt); exact rfl; exact rfl)
      | ((with_reducible apply K_pickf); exact rfl; exact rfl)
      | ((with_reducible apply K_pickT); exact rfl; (first | with_reducible assumption | omega); exact rfl)
      | ((with_reducible apply K_pickF); exact rfl; (first | with_reducible assumption | omega); exact rfl)
      | ((with_reducible apply K_lss); exact rfl; exact rfl)
      | ((with_reducible apply K_leq); exact rfl; exact rfl)
      | ((with_reducible apply K_gtr); exact rfl; exact rfl)
      | ((with_reducible apply K_eql); exact rfl; exact rfl)
      | ((with_reducible apply K_neq); exact rfl; exact rfl)
      | ((with_reducible apply K_eqlS); exact rfl; exact rfl)
      | ((with_reducible apply K_neqS); exact rfl; exact rfl)
      | ((with_reducible apply K_sub); exact rfl; exact rfl; (first | omega | decide))
      | ((with_reducible apply K_mul); exact rfl; exact rfl; (first | omega | decide))
      | ((with_reducible apply K_subw); exact rfl; exact rfl)
      | ((with_reducible apply K_mulw); exact rfl; exact rfl)
      | ((with_reducible apply K_or); exact rfl; exact rfl)
      | ((with_reducible apply K_not_t); exact rfl)
      | ((with_reducible apply K_not_f); exact rfl)
      | ((with_reducible apply K_notP); exact rfl)
      | ((with_reducible apply K_lenS); exact rfl)
      | ((with_reducible apply K_mov_ref); exact rfl)
      | ((with_reducible apply K_mov_ptr); exact rfl)
      | ((with_reducible apply K_mov_tup); exact rfl)
      | ((with_reducible apply K_mov_yld); exact rfl)
      | ((with_reducible apply K_ext); exact rfl; exact rfl)
    exact ends_b rfl rfl
end Go.Abs
