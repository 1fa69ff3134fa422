/- Contracts of the functions that the laws on bursts reach: what each hands back; a library for the laws, it claims nothing by itself. -/
import Derived.Test.YtkdcdcdeffednaaAbsF
set_option linter.unusedVariables false
set_option linter.unusedSimpArgs false
/- Strings with bits changed: plain lists of bytes. -/
namespace Go.Abs
def flip (b : List UInt8) (n : Nat) : List UInt8 := b.set (n / 8) (b.getD (n / 8) 0 ^^^ mask (n % 8))
def flipsN (b : List UInt8) (f p : Nat) : Nat → List UInt8
  | 0 => b
  | k + 1 => if p.testBit k = true ∧ (f + k) / 8 < b.length then flip (flipsN b f p k) (f + k) else flipsN b f p k
def flips (b : List UInt8) (f p : Nat) : List UInt8 := flipsN b f p 32
theorem flip_len (b : List UInt8) (n : Nat) : (flip b n).length = b.length := by simp [flip]
theorem flipsN_len (b : List UInt8) (f p : Nat) : ∀ k, (flipsN b f p k).length = b.length
  | 0 => rfl
  | k + 1 => by
    simp only [flipsN]
    split
    · rw [flip_len, flipsN_len b f p k]
    · exact flipsN_len b f p k
theorem flip_byte {b : List UInt8} {n j : Nat} {m : Int} (hj : j = n / 8) (hm : m.toNat = n % 8) :
    ibit .xor .u8 ((b.getD j 0).toNat : Int) (IntKind.u8.wrap (1 * 2 ^ min m.toNat IntKind.u8.bits)) = ((b.getD (n / 8) 0 ^^^ mask (n % 8)).toNat : Int) := by
  rw [hm, shl1 (Nat.mod_lt _ (by omega)), xorb, hj]
theorem flipsN_y {b : List UInt8} {f p k : Nat} (h1 : p.testBit k = true) (h2 : (f + k) / 8 < b.length) : flipsN b f p (k + 1) = flip (flipsN b f p k) (f + k) := by simp only [flipsN]; rw [if_pos ⟨h1, h2⟩]
theorem flipsN_n {b : List UInt8} {f p k : Nat} (h : ¬ (p.testBit k = true ∧ (f + k) / 8 < b.length)) : flipsN b f p (k + 1) = flipsN b f p k := by simp only [flipsN]; rw [if_neg h]
theorem flipsN_one (b : List UInt8) (f : Nat) (h : f / 8 < b.length) : ∀ k, flipsN b f 1 (k + 1) = flip b f
  | 0 => flipsN_y (by decide) (by simpa using h)
  | k + 1 => by
    rw [flipsN_n (fun h => ?_), flipsN_one b f h k]
    have := h.1
    rw [Nat.testBit_one_eq_true_iff_self_eq_zero] at this
    omega
theorem flips_one {b : List UInt8} {f : Nat} (h : f / 8 < b.length) : flips b f 1 = flip b f := flipsN_one b f h 31
/-- Two elements change places. -/
def swap (b : List UInt8) (i j : Nat) : List UInt8 := (b.set i (b.getD j 0)).set j (b.getD i 0)
def pat (m : Int) : Int := ibit .or .u32 (IntKind.u32.wrap (IntKind.u64.wrap (IntKind.u64.wrap (IntKind.u64.wrap m * 2654435761) + 1))) 1
theorem pat_range (m : Int) : 0 ≤ pat m ∧ pat m < 4294967296 := by
  unfold pat ibit
  simp only [IntKind.wrap_u32]
  omega
def patN (m : Nat) : Nat := (pat m).toNat
theorem patN_lt (m : Nat) : patN m < 4294967296 := by have := pat_range m; unfold patN; omega
theorem pat_nat {m : Nat} (h : m < 9223372036854775808) : ibit .or .u32 (IntKind.u32.wrap (IntKind.u64.wrap (IntKind.u64.wrap ((m : Int) * 2654435761) + 1))) 1 = pat m := by
  unfold pat; rw [IntWalk.u64_in (m : Int) (by omega)]
theorem patN_eq (m : Nat) : ((patN m : Nat) : Int) = pat m := by have := pat_range m; unfold patN; omega
def longS (s : List UInt8) : Int := if s.length > 20000 then 4 else 0
def bitS (s : List UInt8) (n : Int) : Int := if s.length > 20000 then 4 else if n < 0 ∨ 8 * (s.length : Int) ≤ n then 2 else 0
def flipS (s : List UInt8) (n : Int) : List UInt8 × Int := if bitS s n ≠ 0 then ([], bitS s n) else (flip s n.toNat, 0)
def burstE (s : List UInt8) (f : Int) (p : Nat) : Int :=
  if bitS s f ≠ 0 then bitS s f else if p = 0 then 3 else if 8 * (s.length : Int) - f < 32 ∧ p / 2 ^ (8 * (s.length : Int) - f).toNat ≠ 0 then 2 else 0
def burstS (s : List UInt8) (f : Int) (p : Nat) : List UInt8 × Int := if burstE s f p ≠ 0 then ([], burstE s f p) else (flips s f.toNat p, 0)
def cutS (s : List UInt8) (n : Int) : List UInt8 × Int := if s.length > 20000 then ([], 4) else if n < 0 ∨ (s.length : Int) < n then ([], 2) else (s.take n.toNat, 0)
def kindS (s : List UInt8) (m k : Nat) : List UInt8 :=
  if k = 0 then flip s (m % (8 * s.length)) else if k = 1 then flips s (m % (8 * s.length)) (patN m) else if k = 2 then s.take (m % (s.length + 1)) else
  if k = 3 then s ++ [UInt8.ofNat m] else swap s (m % s.length) (m / 7 % s.length)
theorem kindS_0 (s : List UInt8) (m : Nat) : kindS s m 0 = flip s (m % (8 * s.length)) := if_pos rfl
theorem kindS_1 (s : List UInt8) (m : Nat) : kindS s m 1 = flips s (m % (8 * s.length)) (patN m) := by unfold kindS; rw [if_neg (by decide), if_pos rfl]
theorem kindS_2 (s : List UInt8) (m : Nat) : kindS s m 2 = s.take (m % (s.length + 1)) := by unfold kindS; rw [if_neg (by decide), if_neg (by decide), if_pos rfl]
theorem kindS_3 (s : List UInt8) (m : Nat) : kindS s m 3 = s ++ [UInt8.ofNat m] := by unfold kindS; rw [if_neg (by decide), if_neg (by decide), if_neg (by decide), if_pos rfl]
theorem kindS_4 (s : List UInt8) (m : Nat) : kindS s m 4 = swap s (m % s.length) (m / 7 % s.length) := by unfold kindS; rw [if_neg (by decide), if_neg (by decide), if_neg (by decide), if_neg (by decide)]
def changeS (s : List UInt8) (n : Int) : List UInt8 × Int :=
  if s.length > 20000 then ([], 4) else if n < 0 then ([], 2) else
    if s = [] ∧ n.toNat % 5 ≠ 2 ∧ n.toNat % 5 ≠ 3 then (s, 0) else (kindS s (n.toNat / 5) (n.toNat % 5), 0)
/-- Whether all bits of a pattern have a place. -/
theorem div_ne {p d : Nat} (hp : p < 2 ^ 32) : p / 2 ^ d ≠ 0 ↔ ∃ i, i < 32 ∧ d ≤ i ∧ p.testBit i = true := by
  constructor
  · intro h
    obtain ⟨j, hj⟩ := Nat.exists_testBit_of_ne_zero h
    rw [← Nat.shiftRight_eq_div_pow, Nat.testBit_shiftRight] at hj
    refine ⟨d + j, ?_, by omega, hj⟩
    exact Nat.lt_of_not_le fun h' => by
      have := Nat.testBit_lt_two_pow (x := p) (i := d + j) (Nat.lt_of_lt_of_le hp (Nat.pow_le_pow_right (by omega) h'))
      rw [hj] at this; cases this
  · rintro ⟨i, h1, h2, h3⟩ h
    have : (p / 2 ^ d).testBit (i - d) = true := by
      rw [← Nat.shiftRight_eq_div_pow, Nat.testBit_shiftRight]
      rw [show d + (i - d) = i by omega]; exact h3
    rw [h] at this; simp at this
theorem bitS_ok {s : List UInt8} {n : Int} (h : bitS s n = 0) : s.length ≤ 20000 ∧ 0 ≤ n ∧ n < 8 * s.length := by
  unfold bitS at h; split at h <;> (try split at h) <;> omega
theorem burstS_e {s : List UInt8} {f : Int} {p : Nat} {c : Int} (h : burstE s f p = c) (hc : c ≠ 0) : ([], c) = ((burstS s f p).1, (burstS s f p).2) := by
  subst h; unfold burstS; rw [if_pos hc]
theorem burstS_0 {s : List UInt8} {f : Int} {p : Nat} (h : burstE s f p = 0) : (flips s f.toNat p, 0) = ((burstS s f p).1, (burstS s f p).2) := by
  unfold burstS; rw [if_neg (by omega)]
theorem burst_out {p n L k : Nat} (hp : p < 4294967296) (h1 : p.testBit k = true) (h2 : 8 * (L : Int) ≤ n + k) (hn : n < 8 * L) (hk : k < 32) : 8 * (L : Int) - n < 32 ∧ p / 2 ^ (8 * (L : Int) - n).toNat ≠ 0 :=
  ⟨by omega, (div_ne hp).2 ⟨k, hk, by omega, h1⟩⟩
theorem burst_in {p n L : Nat} (hp : p < 4294967296) (hn : n < 8 * L) (h : ∀ i, i < 32 → p.testBit i = true → n + i < 8 * L) : ¬ (8 * (L : Int) - n < 32 ∧ p / 2 ^ (8 * (L : Int) - n).toNat ≠ 0) := by
  rintro ⟨_, h2⟩
  obtain ⟨i, h3, h4, h5⟩ := (div_ne hp).1 h2
  have := h i h3 h5
  omega
def modS (n m : Int) : Int := if m < 1 then 0 else n % m
theorem tmod_fix {n m : Int} (hm : 0 < m) : (n.tmod m < 0 → n.tmod m + m = n % m) ∧ (¬ n.tmod m < 0 → n.tmod m = n % m) := by
  have h1 := Int.emod_nonneg n (show m ≠ 0 by omega)
  have h2 := Int.emod_lt_of_pos n hm
  have h := Int.tmod_eq_emod (a := n) (b := m)
  have h3 : ((m.natAbs : Nat) : Int) = m := by omega
  split at h
  · omega
  · rw [h3] at h; omega
theorem tmod_lt {n m : Int} (hm : 0 < m) : -m ≤ n.tmod m ∧ n.tmod m < m := by
  have h := tmod_fix (n := n) hm
  have h1 := Int.emod_nonneg n (show m ≠ 0 by omega)
  have h2 := Int.emod_lt_of_pos n hm
  by_cases h3 : n.tmod m < 0
  · have := h.1 h3; omega
  · have := h.2 h3; omega
theorem swap_len (b : List UInt8) (i j : Nat) : (swap b i j).length = b.length := by simp [swap]
theorem swap_swap {b : List UInt8} {i j : Nat} (hi : i < b.length) (hj : j < b.length) : swap (swap b i j) i j = b := by
  apply List.ext_getElem?
  intro k
  simp only [swap, List.getD_eq_getElem?_getD, List.getElem?_set, List.length_set]
  by_cases h1 : j = k
  · subst h1
    by_cases h2 : i = j
    · subst h2; simp [hi]
    · simp [hi, hj, Ne.symm h2]
  · by_cases h2 : i = k
    · subst h2; simp [hi, hj, h1]
    · simp [h1, h2]
theorem changeS_len {s : List UInt8} {n : Int} (h : (s.length : Int) ≤ 20000) (h0 : 0 ≤ n) : changeS s n = if s = [] ∧ n.toNat % 5 ≠ 2 ∧ n.toNat % 5 ≠ 3 then (s, 0) else (kindS s (n.toNat / 5) (n.toNat % 5), 0) := by
  unfold changeS; rw [if_neg (by omega), if_neg (by omega)]
theorem change4 {s : List UInt8} {m : Nat} (h : s.length ≤ 60) : changeS s ((5 * m + 4 : Nat) : Int) = (if s = [] then [] else swap s (m % s.length) (m / 7 % s.length), 0) := by
  rw [changeS_len (by omega) (by omega)]
  have e1 : (((5 * m + 4 : Nat) : Int)).toNat % 5 = 4 := by omega
  have e2 : (((5 * m + 4 : Nat) : Int)).toNat / 5 = m := by omega
  rw [e1, e2, kindS_4]
  by_cases hs : s = []
  · subst hs; simp
  · simp [hs]
theorem flipsN_rest {b : List UInt8} {f p k : Nat} (h : 8 * b.length ≤ f + k) : ∀ j, k ≤ j → flipsN b f p j = flipsN b f p k
  | 0, h1 => by have : k = 0 := by omega
                rw [this]
  | j + 1, h1 => by
    rcases Nat.lt_or_ge k (j + 1) with h2 | h2
    · rw [flipsN_n (fun h3 => by omega), flipsN_rest h j (by omega)]
    · have : k = j + 1 := by omega
      rw [this]
end Go.Abs
/- Contracts: package burst. -/
namespace Go.Abs
open Go.Proofs
abbrev i64 (n : Int) : AV := .d (.int .i64 n)
abbrev st (s : List UInt8) : AV := .d (.str s)
theorem cr52 (s : List UInt8) : CR Try.prog 52 [st s] [] (i64 (longS s)) [] := by
  refine fn_cr fn52 (Nat.le_of_ble_eq_true rfl) rfl ?_
  unfold sc52
  repeat' first
    | with_reducible refine T_seq ?_
    | with_reducible refine S_ops ?_
    | with_reducible refine O_step ?_
    | ((with_reducible apply K_mov_d); exact rfl)
    | with_reducible refine O_nil ?_
    | with_reducible refine seq_n ?_
    | with_reducible refine S_skip ?_
    | ((with_reducible apply T_itet); exact rfl)
    | ((with_reducible apply T_itef); exact rfl)
    | ((with_reducible apply T_ite1); exact rfl; (first | with_reducible assumption | omega))
    | ((with_reducible apply T_ite0); exact rfl; (first | with_reducible assumption | omega))
    | ((with_reducible apply T_iteP); exact rfl; all_goals intro _)
    | with_reducible refine S_ret ?_
    | with_reducible refine seq_r ?_
    | with_reducible refine rnd_r ?_
    | ((with_reducible apply K_gtr); exact rfl; exact rfl)
    | ((with_reducible apply K_lenS); exact rfl)
    | ((with_reducible apply K_mov_ref); exact rfl)
    | ((with_reducible apply K_mov_ptr); exact rfl)
    | ((with_reducible apply K_mov_yld); exact rfl)
  · exact ends_i rfl (by unfold longS; rw [if_pos (by omega)])
  · exact ends_i rfl (by unfold longS; rw [if_neg (by omega)])
theorem cr54 (s : List UInt8) (n : Int) : CR Try.prog 54 [st s, i64 n] [] (i64 (bitS s n)) [] := by
  refine fn_cr fn54 (Nat.le_of_ble_eq_true rfl) rfl ?_
  unfold sc54
  by_cases h : s.length > 20000
  · have e1 : longS s = 4 := if_pos h
    have e2 : bitS s n = 4 := if_pos h
    repeat' first
      | ((with_reducible apply K_call_0 (ys := [.str s])); exact rfl; exact cr52 s; exact rfl)
      | with_reducible refine T_seq ?_
      | with_reducible refine S_ops ?_
      | with_reducible refine O_step ?_
      | ((with_reducible apply K_mov_d); exact rfl)
      | with_reducible refine O_nil ?_
      | with_reducible refine seq_n ?_
      | with_reducible refine S_skip ?_
      | ((with_reducible apply T_itet); exact rfl)
      | ((with_reducible apply T_itef); exact rfl)
      | ((with_reducible apply T_ite1); exact rfl; (first | with_reducible assumption | omega))
      | ((with_reducible apply T_ite0); exact rfl; (first | with_reducible assumption | omega))
      | ((with_reducible apply T_iteP); exact rfl; all_goals intro _)
      | with_reducible refine S_ret ?_
      | with_reducible refine seq_r ?_
      | with_reducible refine rnd_r ?_
      | ((with_reducible apply G_skip'); exact rfl)
      | ((with_reducible apply G_1tt); exact rfl)
      | ((with_reducible apply G_1ff); exact rfl)
      | ((with_reducible apply G_0tt); exact rfl)
      | ((with_reducible apply G_0ff); exact rfl)
      | ((with_reducible apply G_1y); exact rfl; (first | with_reducible assumption | omega))
      | ((with_reducible apply G_1n); exact rfl; (first | with_reducible assumption | omega))
      | ((with_reducible apply G_0y); exact rfl; (first | with_reducible assumption | omega))
      | ((with_reducible apply G_0n); exact rfl; (first | with_reducible assumption | omega))
      | ((with_reducible apply G_1P); exact rfl; all_goals intro _)
      | ((with_reducible apply G_0P); exact rfl; all_goals intro _)
      | ((with_reducible apply K_pickt); exact rfl; exact rfl)
      | ((with_reducible apply K_pickf); exact rfl; exact rfl)
      | ((with_reducible apply K_pickT); exact rfl; (first | with_reducible assumption | omega); exact rfl)
      | ((with_reducible apply K_pickF); exact rfl; (first | with_reducible assumption | omega); exact rfl)
      | ((with_reducible apply K_lss); exact rfl; exact rfl)
      | ((with_reducible apply K_geq); exact rfl; exact rfl)
      | ((with_reducible apply K_eql); exact rfl; exact rfl)
      | ((with_reducible apply K_eqlS); exact rfl; exact rfl)
      | ((with_reducible apply K_mul); exact rfl; exact rfl; (first | omega | decide))
      | ((with_reducible apply K_mulw); exact rfl; exact rfl)
      | ((with_reducible apply K_lenS); exact rfl)
      | ((with_reducible apply K_mov_ref); exact rfl)
      | ((with_reducible apply K_mov_ptr); exact rfl)
      | ((with_reducible apply K_mov_yld); exact rfl)
    exact ends_i rfl (by rw [e1, e2])
  · have e1 : longS s = 0 := if_neg h
    have e2 : bitS s n = if n < 0 ∨ 8 * (s.length : Int) ≤ n then 2 else 0 := if_neg h
    repeat' first
      | ((with_reducible apply K_call_0 (ys := [.str s])); exact rfl; exact cr52 s; exact rfl)
      | with_reducible refine T_seq ?_
      | with_reducible refine S_ops ?_
      | with_reducible refine O_step ?_
      | ((with_reducible apply K_mov_d); exact rfl)
      | with_reducible refine O_nil ?_
      | with_reducible refine seq_n ?_
      | with_reducible refine S_skip ?_
      | ((with_reducible apply T_itet); exact rfl)
      | ((with_reducible apply T_itef); exact rfl)
      | ((with_reducible apply T_ite1); exact rfl; (first | with_reducible assumption | omega))
      | ((with_reducible apply T_ite0); exact rfl; (first | with_reducible assumption | omega))
      | ((with_reducible apply T_iteP); exact rfl; all_goals intro _)
      | with_reducible refine S_ret ?_
      | with_reducible refine seq_r ?_
      | with_reducible refine rnd_r ?_
      | ((with_reducible apply G_skip'); exact rfl)
      | ((with_reducible apply G_1tt); exact rfl)
      | ((with_reducible apply G_1ff); exact rfl)
      | ((with_reducible apply G_0tt); exact rfl)
      | ((with_reducible apply G_0ff); exact rfl)
      | ((with_reducible apply G_1y); exact rfl; (first | with_reducible assumption | omega))
      | ((with_reducible apply G_1n); exact rfl; (first | with_reducible assumption | omega))
      | ((with_reducible apply G_0y); exact rfl; (first | with_reducible assumption | omega))
      | ((with_reducible apply G_0n); exact rfl; (first | with_reducible assumption | omega))
      | ((with_reducible apply G_1P); exact rfl; all_goals intro _)
      | ((with_reducible apply G_0P); exact rfl; all_goals intro _)
      | ((with_reducible apply K_pickt); exact rfl; exact rfl)
      | ((with_reducible apply K_pickf); exact rfl; exact rfl)
      | ((with_reducible apply K_pickT); exact rfl; (first | with_reducible assumption | omega); exact rfl)
      | ((with_reducible apply K_pickF); exact rfl; (first | with_reducible assumption | omega); exact rfl)
      | ((with_reducible apply K_lss); exact rfl; exact rfl)
      | ((with_reducible apply K_geq); exact rfl; exact rfl)
      | ((with_reducible apply K_eql); exact rfl; exact rfl)
      | ((with_reducible apply K_eqlS); exact rfl; exact rfl)
      | ((with_reducible apply K_mul); exact rfl; exact rfl; (first | omega | decide))
      | ((with_reducible apply K_mulw); exact rfl; exact rfl)
      | ((with_reducible apply K_lenS); exact rfl)
      | ((with_reducible apply K_mov_ref); exact rfl)
      | ((with_reducible apply K_mov_ptr); exact rfl)
      | ((with_reducible apply K_mov_yld); exact rfl)
    · exact ends_i rfl (by rw [e2, if_pos (by omega)])
    · exact ends_i rfl (by rw [e2, if_neg (by omega)]; exact e1)
    · exact ends_i rfl (by rw [e2, if_pos (by omega)])
theorem cr55 (s : List UInt8) (f p : Nat) (hf : f < 200000) (hp : p < 4294967296) : CR Try.prog 55 [st s, i64 f, .d (.int .u32 p)] [] (st (flips s f p)) [] := by
  refine fn_cr fn55 (Nat.le_of_ble_eq_true rfl) rfl ?_
  unfold sc55
  repeat' first
    | with_reducible refine T_seq ?_
    | with_reducible refine S_ops ?_
    | with_reducible refine O_step ?_
    | ((with_reducible apply K_mov_d); exact rfl)
    | with_reducible refine O_nil ?_
    | with_reducible refine seq_n ?_
    | with_reducible refine S_skip ?_
    | ((with_reducible apply T_itet); exact rfl)
    | ((with_reducible apply T_itef); exact rfl)
    | ((with_reducible apply T_ite1); exact rfl; (first | with_reducible assumption | omega))
    | ((with_reducible apply T_ite0); exact rfl; (first | with_reducible assumption | omega))
    | ((with_reducible apply T_iteP); exact rfl; all_goals intro _)
    | with_reducible refine S_ret ?_
    | with_reducible refine seq_r ?_
    | with_reducible refine S_exit ?_
    | with_reducible refine seq_e ?_
    | with_reducible refine T_block ?_
    | with_reducible refine blk_1 ?_
    | with_reducible refine blk_0 rfl ?_
    | with_reducible refine blk_n ?_
    | with_reducible refine blk_r ?_
    | with_reducible refine rnd_r ?_
    | with_reducible refine rnd_e ?_
    | ((with_reducible apply G_skip'); exact rfl)
    | ((with_reducible apply G_1tt); exact rfl)
    | ((with_reducible apply G_1ff); exact rfl)
    | ((with_reducible apply G_0tt); exact rfl)
    | ((with_reducible apply G_0ff); exact rfl)
    | ((with_reducible apply G_1y); exact rfl; (first | with_reducible assumption | omega))
    | ((with_reducible apply G_1n); exact rfl; (first | with_reducible assumption | omega))
    | ((with_reducible apply G_0y); exact rfl; (first | with_reducible assumption | omega))
    | ((with_reducible apply G_0n); exact rfl; (first | with_reducible assumption | omega))
    | ((with_reducible apply G_1P); exact rfl; all_goals intro _)
    | ((with_reducible apply G_0P); exact rfl; all_goals intro _)
    | ((with_reducible apply K_pickt); exact rfl; exact rfl)
    | ((with_reducible apply K_pickf); exact rfl; exact rfl)
    | ((with_reducible apply K_pickT); exact rfl; (first | with_reducible assumption | omega); exact rfl)
    | ((with_reducible apply K_pickF); exact rfl; (first | with_reducible assumption | omega); exact rfl)
    | ((with_reducible apply K_lss); exact rfl; exact rfl)
    | ((with_reducible apply K_eql); exact rfl; exact rfl)
    | ((with_reducible apply K_eqlS); exact rfl; exact rfl)
    | ((with_reducible apply K_add); exact rfl; exact rfl; (first | omega | decide))
    | ((with_reducible apply K_addw); exact rfl; exact rfl)
    | ((with_reducible apply K_and3); exact rfl; exact rfl; (first | omega | decide))
    | ((with_reducible apply K_and7); exact rfl; exact rfl; (first | omega | decide))
    | ((with_reducible apply K_shrc 2); exact rfl; exact rfl; exact rfl; (first | omega | decide))
    | ((with_reducible apply K_shrc 4); exact rfl; exact rfl; exact rfl; (first | omega | decide))
    | ((with_reducible apply K_shrc 8); exact rfl; exact rfl; exact rfl; (first | omega | decide))
    | ((with_reducible apply K_and); exact rfl; exact rfl)
    | ((with_reducible apply K_xor); exact rfl; exact rfl)
    | ((with_reducible apply K_shr); exact rfl; exact rfl; (first | omega | decide))
    | ((with_reducible apply K_shl); exact rfl; exact rfl; (first | omega | decide))
    | ((with_reducible apply K_len_d); exact rfl)
    | ((with_reducible apply K_len_nil); exact rfl)
    | ((with_reducible apply K_len_ref); exact rfl; exact rfl)
    | ((with_reducible apply K_bytes); exact rfl)
    | with_reducible refine S_draw0 ?_
    | with_reducible refine D_nil ?_
    | with_reducible refine D_step0 ?_
    | ((with_reducible apply DG_1y); exact rfl; (first | with_reducible assumption | omega))
    | ((with_reducible apply DG_1n); exact rfl; (first | with_reducible assumption | omega))
    | ((with_reducible apply DG_0y); exact rfl; (first | with_reducible assumption | omega))
    | ((with_reducible apply DG_0n); exact rfl; (first | with_reducible assumption | omega))
    | ((with_reducible apply DG_1P); exact rfl; all_goals intro _)
    | ((with_reducible apply DG_0P); exact rfl; all_goals intro _)
    | ((with_reducible apply K_idxA_ref); exact rfl; exact rfl; exact rfl; (first | omega | decide))
    | ((with_reducible apply K_idxA_d); exact rfl; exact rfl; (first | omega | decide))
    | ((with_reducible apply K_load1_ptr); exact rfl; exact rfl; exact rfl)
    | ((with_reducible apply K_load1_fp); exact rfl)
    | ((with_reducible apply K_load1_byte); exact rfl; exact rfl; (first | omega | decide))
    | ((with_reducible apply K_ofBytes_ref); exact rfl; exact rfl; (first | omega | simp))
    | ((with_reducible apply K_mov_ref); exact rfl)
    | ((with_reducible apply K_mov_ptr); exact rfl)
    | ((with_reducible apply K_mov_yld); exact rfl)
    | ((with_reducible apply K_store1_pd); exact rfl; exact rfl; exact rfl; (first | decide | simp); exact rfl)
    | ((with_reducible apply K_store1_pr); exact rfl; exact rfl; exact rfl; (first | decide | simp))
  refine T_loop (Nat.ble 8) [12] (fun k : Nat => [i64 k]) (fun k => [.arr 0 1 ((flipsN s f p k).map byteD)]) (· ≤ 32) (32 - ·) 0 rfl (by omega) rfl rfl ?_
  intro k g hk
  have hl := flipsN_len s f p k
  repeat' first
    | with_reducible refine T_seq ?_
    | with_reducible refine S_ops ?_
    | with_reducible refine O_step ?_
    | ((with_reducible apply K_mov_d); exact rfl)
    | with_reducible refine O_nil ?_
    | with_reducible refine seq_n ?_
    | with_reducible refine S_skip ?_
    | ((with_reducible apply T_itet); exact rfl)
    | ((with_reducible apply T_itef); exact rfl)
    | ((with_reducible apply T_ite1); exact rfl; (first | with_reducible assumption | omega))
    | ((with_reducible apply T_ite0); exact rfl; (first | with_reducible assumption | omega))
    | ((with_reducible apply T_iteP); exact rfl; all_goals intro _)
    | with_reducible refine S_ret ?_
    | with_reducible refine seq_r ?_
    | with_reducible refine S_exit ?_
    | with_reducible refine seq_e ?_
    | with_reducible refine T_block ?_
    | with_reducible refine blk_1 ?_
    | with_reducible refine blk_0 rfl ?_
    | with_reducible refine blk_n ?_
    | with_reducible refine blk_r ?_
    | with_reducible refine rnd_r ?_
    | with_reducible refine rnd_e ?_
    | ((with_reducible apply G_skip'); exact rfl)
    | ((with_reducible apply G_1tt); exact rfl)
    | ((with_reducible apply G_1ff); exact rfl)
    | ((with_reducible apply G_0tt); exact rfl)
    | ((with_reducible apply G_0ff); exact rfl)
    | ((with_reducible apply G_1y); exact rfl; (first | with_reducible assumption | omega))
    | ((with_reducible apply G_1n); exact rfl; (first | with_reducible assumption | omega))
    | ((with_reducible apply G_0y); exact rfl; (first | with_reducible assumption | omega))
    | ((with_reducible apply G_0n); exact rfl; (first | with_reducible assumption | omega))
    | ((with_reducible apply G_1P); exact rfl; all_goals intro _)
    | ((with_reducible apply G_0P); exact rfl; all_goals intro _)
    | ((with_reducible apply K_pickt); exact rfl; exact rfl)
    | ((with_reducible apply K_pickf); exact rfl; exact rfl)
    | ((with_reducible apply K_pickT); exact rfl; (first | with_reducible assumption | omega); exact rfl)
    | ((with_reducible apply K_pickF); exact rfl; (first | with_reducible assumption | omega); exact rfl)
    | ((with_reducible apply K_lss); exact rfl; exact rfl)
    | ((with_reducible apply K_eql); exact rfl; exact rfl)
    | ((with_reducible apply K_eqlS); exact rfl; exact rfl)
    | ((with_reducible apply K_add); exact rfl; exact rfl; (first | omega | decide))
    | ((with_reducible apply K_addw); exact rfl; exact rfl)
    | ((with_reducible apply K_and3); exact rfl; exact rfl; (first | omega | decide))
    | ((with_reducible apply K_and7); exact rfl; exact rfl; (first | omega | decide))
    | ((with_reducible apply K_shrc 2); exact rfl; exact rfl; exact rfl; (first | omega | decide))
    | ((with_reducible apply K_shrc 4); exact rfl; exact rfl; exact rfl; (first | omega | decide))
    | ((with_reducible apply K_shrc 8); exact rfl; exact rfl; exact rfl; (first | omega | decide))
    | ((with_reducible apply K_and); exact rfl; exact rfl)
    | ((with_reducible apply K_xor); exact rfl; exact rfl)
    | ((with_reducible apply K_shr); exact rfl; exact rfl; (first | omega | decide))
    | ((with_reducible apply K_shl); exact rfl; exact rfl; (first | omega | decide))
    | ((with_reducible apply K_len_d); exact rfl)
    | ((with_reducible apply K_len_nil); exact rfl)
    | ((with_reducible apply K_len_ref); exact rfl; exact rfl)
    | ((with_reducible apply K_bytes); exact rfl)
    | with_reducible refine S_draw0 ?_
    | with_reducible refine D_nil ?_
    | with_reducible refine D_step0 ?_
    | ((with_reducible apply DG_1y); exact rfl; (first | with_reducible assumption | omega))
    | ((with_reducible apply DG_1n); exact rfl; (first | with_reducible assumption | omega))
    | ((with_reducible apply DG_0y); exact rfl; (first | with_reducible assumption | omega))
    | ((with_reducible apply DG_0n); exact rfl; (first | with_reducible assumption | omega))
    | ((with_reducible apply DG_1P); exact rfl; all_goals intro _)
    | ((with_reducible apply DG_0P); exact rfl; all_goals intro _)
    | ((with_reducible apply K_idxA_ref); exact rfl; exact rfl; exact rfl; (first | omega | decide))
    | ((with_reducible apply K_idxA_d); exact rfl; exact rfl; (first | omega | decide))
    | ((with_reducible apply K_load1_ptr); exact rfl; exact rfl; exact rfl)
    | ((with_reducible apply K_load1_fp); exact rfl)
    | ((with_reducible apply K_load1_byte); exact rfl; exact rfl; (first | omega | decide))
    | ((with_reducible apply K_ofBytes_ref); exact rfl; exact rfl; (first | omega | simp))
    | ((with_reducible apply K_mov_ref); exact rfl)
    | ((with_reducible apply K_mov_ptr); exact rfl)
    | ((with_reducible apply K_mov_yld); exact rfl)
    | ((with_reducible apply K_store1_pd); exact rfl; exact rfl; exact rfl; (first | decide | simp); exact rfl)
    | ((with_reducible apply K_store1_pr); exact rfl; exact rfl; exact rfl; (first | decide | simp))
  · -- the bit is changed
    have hb : p.testBit k = true := (tb32 hp (by omega)).1 ‹_›
    have ej : 0 + (((f : Int) + k) / 8).toNat = (f + k) / 8 := by omega
    refine K_store1_byte ((flipsN s f p k).getD ((f + k) / 8) 0 ^^^ mask ((f + k) % 8)) rfl rfl rfl (by omega) (flip_byte ej (by omega)) ?_
    rw [ej]
    repeat' first
      | with_reducible refine T_seq ?_
      | with_reducible refine S_ops ?_
      | with_reducible refine O_step ?_
      | ((with_reducible apply K_mov_d); exact rfl)
      | with_reducible refine O_nil ?_
      | with_reducible refine seq_n ?_
      | with_reducible refine S_skip ?_
      | ((with_reducible apply T_itet); exact rfl)
      | ((with_reducible apply T_itef); exact rfl)
      | ((with_reducible apply T_ite1); exact rfl; (first | with_reducible assumption | omega))
      | ((with_reducible apply T_ite0); exact rfl; (first | with_reducible assumption | omega))
      | ((with_reducible apply T_iteP); exact rfl; all_goals intro _)
      | with_reducible refine S_ret ?_
      | with_reducible refine seq_r ?_
      | with_reducible refine S_exit ?_
      | with_reducible refine seq_e ?_
      | with_reducible refine T_block ?_
      | with_reducible refine blk_1 ?_
      | with_reducible refine blk_0 rfl ?_
      | with_reducible refine blk_n ?_
      | with_reducible refine blk_r ?_
      | with_reducible refine rnd_r ?_
      | with_reducible refine rnd_e ?_
      | ((with_reducible apply G_skip'); exact rfl)
      | ((with_reducible apply G_1tt); exact rfl)
      | ((with_reducible apply G_1ff); exact rfl)
      | ((with_reducible apply G_0tt); exact rfl)
      | ((with_reducible apply G_0ff); exact rfl)
      | ((with_reducible apply G_1y); exact rfl; (first | with_reducible assumption | omega))
      | ((with_reducible apply G_1n); exact rfl; (first | with_reducible assumption | omega))
      | ((with_reducible apply G_0y); exact rfl; (first | with_reducible assumption | omega))
      | ((with_reducible apply G_0n); exact rfl; (first | with_reducible assumption | omega))
      | ((with_reducible apply G_1P); exact rfl; all_goals intro _)
      | ((with_reducible apply G_0P); exact rfl; all_goals intro _)
      | ((with_reducible apply K_pickt); exact rfl; exact rfl)
      | ((with_reducible apply K_pickf); exact rfl; exact rfl)
      | ((with_reducible apply K_pickT); exact rfl; (first | with_reducible assumption | omega); exact rfl)
      | ((with_reducible apply K_pickF); exact rfl; (first | with_reducible assumption | omega); exact rfl)
      | ((with_reducible apply K_lss); exact rfl; exact rfl)
      | ((with_reducible apply K_eql); exact rfl; exact rfl)
      | ((with_reducible apply K_eqlS); exact rfl; exact rfl)
      | ((with_reducible apply K_add); exact rfl; exact rfl; (first | omega | decide))
      | ((with_reducible apply K_addw); exact rfl; exact rfl)
      | ((with_reducible apply K_and3); exact rfl; exact rfl; (first | omega | decide))
      | ((with_reducible apply K_and7); exact rfl; exact rfl; (first | omega | decide))
      | ((with_reducible apply K_shrc 2); exact rfl; exact rfl; exact rfl; (first | omega | decide))
      | ((with_reducible apply K_shrc 4); exact rfl; exact rfl; exact rfl; (first | omega | decide))
      | ((with_reducible apply K_shrc 8); exact rfl; exact rfl; exact rfl; (first | omega | decide))
      | ((with_reducible apply K_and); exact rfl; exact rfl)
      | ((with_reducible apply K_xor); exact rfl; exact rfl)
      | ((with_reducible apply K_shr); exact rfl; exact rfl; (first | omega | decide))
      | ((with_reducible apply K_shl); exact rfl; exact rfl; (first | omega | decide))
      | ((with_reducible apply K_len_d); exact rfl)
      | ((with_reducible apply K_len_nil); exact rfl)
      | ((with_reducible apply K_len_ref); exact rfl; exact rfl)
      | ((with_reducible apply K_bytes); exact rfl)
      | with_reducible refine S_draw0 ?_
      | with_reducible refine D_nil ?_
      | with_reducible refine D_step0 ?_
      | ((with_reducible apply DG_1y); exact rfl; (first | with_reducible assumption | omega))
      | ((with_reducible apply DG_1n); exact rfl; (first | with_reducible assumption | omega))
      | ((with_reducible apply DG_0y); exact rfl; (first | with_reducible assumption | omega))
      | ((with_reducible apply DG_0n); exact rfl; (first | with_reducible assumption | omega))
      | ((with_reducible apply DG_1P); exact rfl; all_goals intro _)
      | ((with_reducible apply DG_0P); exact rfl; all_goals intro _)
      | ((with_reducible apply K_idxA_ref); exact rfl; exact rfl; exact rfl; (first | omega | decide))
      | ((with_reducible apply K_idxA_d); exact rfl; exact rfl; (first | omega | decide))
      | ((with_reducible apply K_load1_ptr); exact rfl; exact rfl; exact rfl)
      | ((with_reducible apply K_load1_fp); exact rfl)
      | ((with_reducible apply K_load1_byte); exact rfl; exact rfl; (first | omega | decide))
      | ((with_reducible apply K_ofBytes_ref); exact rfl; exact rfl; (first | omega | simp))
      | ((with_reducible apply K_mov_ref); exact rfl)
      | ((with_reducible apply K_mov_ptr); exact rfl)
      | ((with_reducible apply K_mov_yld); exact rfl)
      | ((with_reducible apply K_store1_pd); exact rfl; exact rfl; exact rfl; (first | decide | simp); exact rfl)
      | ((with_reducible apply K_store1_pr); exact rfl; exact rfl; exact rfl; (first | decide | simp))
    exact rnd_n (k + 1) (by omega) rfl (by rw [flipsN_y hb (by omega)]; rfl)
  · exact rnd_n (k + 1) (by omega) rfl (by rw [flipsN_n (by omega)])
  · have hb : ¬ p.testBit k = true := fun h => absurd ((tb32 hp (by omega)).2 h) ‹_›
    exact rnd_n (k + 1) (by omega) rfl (by rw [flipsN_n (fun h => hb h.1)])
  · have : k = 32 := by omega
    subst this
    exact ends_s rfl rfl
theorem cr16 (s : List UInt8) (n : Int) : CR Try.prog 16 [st s, i64 n] [] (.tup [st (flipS s n).1, i64 (flipS s n).2]) [] := by
  refine fn_cr fn16 (Nat.le_of_ble_eq_true rfl) rfl ?_
  unfold sc16
  by_cases h : bitS s n = 0
  · have e2 : flipS s n = (flip s n.toNat, 0) := by unfold flipS; rw [if_neg (by omega)]
    have hb := bitS_ok h
    rw [e2, ← flips_one (by omega)]
    obtain ⟨k, rfl⟩ : ∃ k : Nat, n = k := ⟨n.toNat, by omega⟩
    repeat' first
      | ((with_reducible apply K_call_0 (ys := [.str s, .int .i64 k])); exact rfl; exact cr54 s k; exact rfl)
      | ((with_reducible apply K_call_0 (ys := [.str s, .int .i64 k, .int .u32 (1 : Nat)])); exact rfl; exact cr55 s k 1 (by omega) (by omega); exact rfl)
      | with_reducible refine T_seq ?_
      | with_reducible refine S_ops ?_
      | with_reducible refine O_step ?_
      | ((with_reducible apply K_mov_d); exact rfl)
      | with_reducible refine O_nil ?_
      | with_reducible refine seq_n ?_
      | with_reducible refine S_skip ?_
      | ((with_reducible apply T_itet); exact rfl)
      | ((with_reducible apply T_itef); exact rfl)
      | ((with_reducible apply T_ite1); exact rfl; (first | with_reducible assumption | omega))
      | ((with_reducible apply T_ite0); exact rfl; (first | with_reducible assumption | omega))
      | ((with_reducible apply T_iteP); exact rfl; all_goals intro _)
      | with_reducible refine S_ret ?_
      | with_reducible refine seq_r ?_
      | with_reducible refine rnd_r ?_
      | ((with_reducible apply K_neq); exact rfl; exact rfl)
      | ((with_reducible apply K_neqS); exact rfl; exact rfl)
      | ((with_reducible apply K_mov_ref); exact rfl)
      | ((with_reducible apply K_mov_ptr); exact rfl)
      | ((with_reducible apply K_mov_yld); exact rfl)
    exact ends_si rfl rfl
  · have e2 : flipS s n = ([], bitS s n) := by unfold flipS; rw [if_pos (by omega)]
    rw [e2]
    repeat' first
      | ((with_reducible apply K_call_0 (ys := [.str s, .int .i64 n])); exact rfl; exact cr54 s n; exact rfl)
      | with_reducible refine T_seq ?_
      | with_reducible refine S_ops ?_
      | with_reducible refine O_step ?_
      | ((with_reducible apply K_mov_d); exact rfl)
      | with_reducible refine O_nil ?_
      | with_reducible refine seq_n ?_
      | with_reducible refine S_skip ?_
      | ((with_reducible apply T_itet); exact rfl)
      | ((with_reducible apply T_itef); exact rfl)
      | ((with_reducible apply T_ite1); exact rfl; (first | with_reducible assumption | omega))
      | ((with_reducible apply T_ite0); exact rfl; (first | with_reducible assumption | omega))
      | ((with_reducible apply T_iteP); exact rfl; all_goals intro _)
      | with_reducible refine S_ret ?_
      | with_reducible refine seq_r ?_
      | with_reducible refine rnd_r ?_
      | ((with_reducible apply K_neq); exact rfl; exact rfl)
      | ((with_reducible apply K_neqS); exact rfl; exact rfl)
      | ((with_reducible apply K_mov_ref); exact rfl)
      | ((with_reducible apply K_mov_ptr); exact rfl)
      | ((with_reducible apply K_mov_yld); exact rfl)
    exact ends_si rfl rfl
theorem cr18 (s : List UInt8) (f : Int) (p : Nat) (hp : p < 4294967296) : CR Try.prog 18 [st s, i64 f, .d (.int .u32 p)] [] (.tup [st (burstS s f p).1, i64 (burstS s f p).2]) [] := by
  refine fn_cr fn18 (Nat.le_of_ble_eq_true rfl) rfl ?_
  unfold sc18
  by_cases h : bitS s f = 0
  · have hb := bitS_ok h
    have e1 : burstE s f p = if p = 0 then 3 else if 8 * (s.length : Int) - f < 32 ∧ p / 2 ^ (8 * (s.length : Int) - f).toNat ≠ 0 then 2 else 0 := by unfold burstE; rw [if_neg (by omega)]
    obtain ⟨k, rfl⟩ : ∃ k : Nat, f = k := ⟨f.toNat, by omega⟩
    have ex : 8 * (s.length : Int) - k < 32 → ((p : Int).fdiv (2 ^ min (8 * (s.length : Int) - k).toNat IntKind.u32.bits) = ((p / 2 ^ (8 * (s.length : Int) - k).toNat : Nat) : Int)) := fun h => by
      rw [Nat.min_eq_left (by simp only [IntKind.bits]; omega), shr_nat]
    repeat' first
      | ((with_reducible apply K_call_0 (ys := [.str s, .int .i64 k])); exact rfl; exact cr54 s k; exact rfl)
      | ((with_reducible apply K_call_0 (ys := [.str s, .int .i64 k, .int .u32 p])); exact rfl; exact cr55 s k p (by omega) hp; exact rfl)
      | with_reducible refine T_seq ?_
      | with_reducible refine S_ops ?_
      | with_reducible refine O_step ?_
      | ((with_reducible apply K_mov_d); exact rfl)
      | with_reducible refine O_nil ?_
      | with_reducible refine seq_n ?_
      | with_reducible refine S_skip ?_
      | ((with_reducible apply T_itet); exact rfl)
      | ((with_reducible apply T_itef); exact rfl)
      | ((with_reducible apply T_ite1); exact rfl; (first | with_reducible assumption | omega))
      | ((with_reducible apply T_ite0); exact rfl; (first | with_reducible assumption | omega))
      | ((with_reducible apply T_iteP); exact rfl; all_goals intro _)
      | with_reducible refine S_ret ?_
      | with_reducible refine seq_r ?_
      | with_reducible refine rnd_r ?_
      | ((with_reducible apply G_skip'); exact rfl)
      | ((with_reducible apply G_1tt); exact rfl)
      | ((with_reducible apply G_1ff); exact rfl)
      | ((with_reducible apply G_0tt); exact rfl)
      | ((with_reducible apply G_0ff); exact rfl)
      | ((with_reducible apply G_1y); exact rfl; (first | with_reducible assumption | omega))
      | ((with_reducible apply G_1n); exact rfl; (first | with_reducible assumption | omega))
      | ((with_reducible apply G_0y); exact rfl; (first | with_reducible assumption | omega))
      | ((with_reducible apply G_0n); exact rfl; (first | with_reducible assumption | omega))
      | ((with_reducible apply G_1P); exact rfl; all_goals intro _)
      | ((with_reducible apply G_0P); exact rfl; all_goals intro _)
      | ((with_reducible apply K_pickt); exact rfl; exact rfl)
      | ((with_reducible apply K_pickf); exact rfl; exact rfl)
      | ((with_reducible apply K_pickT); exact rfl; (first | with_reducible assumption | omega); exact rfl)
      | ((with_reducible apply K_pickF); exact rfl; (first | with_reducible assumption | omega); exact rfl)
      | ((with_reducible apply K_lss); exact rfl; exact rfl)
      | ((with_reducible apply K_eql); exact rfl; exact rfl)
      | ((with_reducible apply K_neq); exact rfl; exact rfl)
      | ((with_reducible apply K_eqlS); exact rfl; exact rfl)
      | ((with_reducible apply K_neqS); exact rfl; exact rfl)
      | ((with_reducible apply K_sub); exact rfl; exact rfl; (first | omega | decide))
      | ((with_reducible apply K_mul); exact rfl; exact rfl; (first | omega | decide))
      | ((with_reducible apply K_subw); exact rfl; exact rfl)
      | ((with_reducible apply K_mulw); exact rfl; exact rfl)
      | ((with_reducible apply K_shrc 2); exact rfl; exact rfl; exact rfl; (first | omega | decide))
      | ((with_reducible apply K_shrc 4); exact rfl; exact rfl; exact rfl; (first | omega | decide))
      | ((with_reducible apply K_shrc 8); exact rfl; exact rfl; exact rfl; (first | omega | decide))
      | ((with_reducible apply K_shr); exact rfl; exact rfl; (first | omega | decide))
      | ((with_reducible apply K_lenS); exact rfl)
      | ((with_reducible apply K_mov_ref); exact rfl)
      | ((with_reducible apply K_mov_ptr); exact rfl)
      | ((with_reducible apply K_mov_yld); exact rfl)
    · exact ends_si rfl (burstS_e (by rw [e1, if_pos (by omega)]) (by decide))
    · exact ends_si rfl (burstS_e (by rw [e1, if_neg (by omega), if_pos ⟨by assumption, fun e => by have := ex (by assumption); rw [e] at this; contradiction⟩]) (by decide))
    · exact ends_si rfl (burstS_0 (by rw [e1, if_neg (by omega), if_neg (fun e => e.2 (by have := ex e.1; omega))]))
    · exact ends_si rfl (burstS_0 (by rw [e1, if_neg (by omega), if_neg (by omega)]))
  · have e2 : burstE s f p = bitS s f := by unfold burstE; rw [if_pos (by omega)]
    have e3 : burstS s f p = ([], bitS s f) := by unfold burstS; rw [e2, if_pos (by omega)]
    rw [e3]
    repeat' first
      | ((with_reducible apply K_call_0 (ys := [.str s, .int .i64 f])); exact rfl; exact cr54 s f; exact rfl)
      | with_reducible refine T_seq ?_
      | with_reducible refine S_ops ?_
      | with_reducible refine O_step ?_
      | ((with_reducible apply K_mov_d); exact rfl)
      | with_reducible refine O_nil ?_
      | with_reducible refine seq_n ?_
      | with_reducible refine S_skip ?_
      | ((with_reducible apply T_itet); exact rfl)
      | ((with_reducible apply T_itef); exact rfl)
      | ((with_reducible apply T_ite1); exact rfl; (first | with_reducible assumption | omega))
      | ((with_reducible apply T_ite0); exact rfl; (first | with_reducible assumption | omega))
      | ((with_reducible apply T_iteP); exact rfl; all_goals intro _)
      | with_reducible refine S_ret ?_
      | with_reducible refine seq_r ?_
      | with_reducible refine rnd_r ?_
      | ((with_reducible apply G_skip'); exact rfl)
      | ((with_reducible apply G_1tt); exact rfl)
      | ((with_reducible apply G_1ff); exact rfl)
      | ((with_reducible apply G_0tt); exact rfl)
      | ((with_reducible apply G_0ff); exact rfl)
      | ((with_reducible apply G_1y); exact rfl; (first | with_reducible assumption | omega))
      | ((with_reducible apply G_1n); exact rfl; (first | with_reducible assumption | omega))
      | ((with_reducible apply G_0y); exact rfl; (first | with_reducible assumption | omega))
      | ((with_reducible apply G_0n); exact rfl; (first | with_reducible assumption | omega))
      | ((with_reducible apply G_1P); exact rfl; all_goals intro _)
      | ((with_reducible apply G_0P); exact rfl; all_goals intro _)
      | ((with_reducible apply K_pickt); exact rfl; exact rfl)
      | ((with_reducible apply K_pickf); exact rfl; exact rfl)
      | ((with_reducible apply K_pickT); exact rfl; (first | with_reducible assumption | omega); exact rfl)
      | ((with_reducible apply K_pickF); exact rfl; (first | with_reducible assumption | omega); exact rfl)
      | ((with_reducible apply K_lss); exact rfl; exact rfl)
      | ((with_reducible apply K_eql); exact rfl; exact rfl)
      | ((with_reducible apply K_neq); exact rfl; exact rfl)
      | ((with_reducible apply K_eqlS); exact rfl; exact rfl)
      | ((with_reducible apply K_neqS); exact rfl; exact rfl)
      | ((with_reducible apply K_sub); exact rfl; exact rfl; (first | omega | decide))
      | ((with_reducible apply K_mul); exact rfl; exact rfl; (first | omega | decide))
      | ((with_reducible apply K_subw); exact rfl; exact rfl)
      | ((with_reducible apply K_mulw); exact rfl; exact rfl)
      | ((with_reducible apply K_shrc 2); exact rfl; exact rfl; exact rfl; (first | omega | decide))
      | ((with_reducible apply K_shrc 4); exact rfl; exact rfl; exact rfl; (first | omega | decide))
      | ((with_reducible apply K_shrc 8); exact rfl; exact rfl; exact rfl; (first | omega | decide))
      | ((with_reducible apply K_shr); exact rfl; exact rfl; (first | omega | decide))
      | ((with_reducible apply K_lenS); exact rfl)
      | ((with_reducible apply K_mov_ref); exact rfl)
      | ((with_reducible apply K_mov_ptr); exact rfl)
      | ((with_reducible apply K_mov_yld); exact rfl)
    exact ends_si rfl rfl
theorem cr20 (s : List UInt8) (n : Int) : CR Try.prog 20 [st s, i64 n] [] (.tup [st (cutS s n).1, i64 (cutS s n).2]) [] := by
  refine fn_cr fn20 (Nat.le_of_ble_eq_true rfl) rfl ?_
  unfold sc20
  by_cases h : s.length > 20000
  · have e1 : longS s = 4 := if_pos h
    rw [show cutS s n = ([], 4) from if_pos h]
    repeat' first
      | ((with_reducible apply K_call_0 (ys := [.str s])); exact rfl; exact cr52 s; exact rfl)
      | with_reducible refine T_seq ?_
      | with_reducible refine S_ops ?_
      | with_reducible refine O_step ?_
      | ((with_reducible apply K_mov_d); exact rfl)
      | with_reducible refine O_nil ?_
      | with_reducible refine seq_n ?_
      | with_reducible refine S_skip ?_
      | ((with_reducible apply T_itet); exact rfl)
      | ((with_reducible apply T_itef); exact rfl)
      | ((with_reducible apply T_ite1); exact rfl; (first | with_reducible assumption | omega))
      | ((with_reducible apply T_ite0); exact rfl; (first | with_reducible assumption | omega))
      | ((with_reducible apply T_iteP); exact rfl; all_goals intro _)
      | with_reducible refine S_ret ?_
      | with_reducible refine seq_r ?_
      | with_reducible refine rnd_r ?_
      | ((with_reducible apply G_skip'); exact rfl)
      | ((with_reducible apply G_1tt); exact rfl)
      | ((with_reducible apply G_1ff); exact rfl)
      | ((with_reducible apply G_0tt); exact rfl)
      | ((with_reducible apply G_0ff); exact rfl)
      | ((with_reducible apply G_1y); exact rfl; (first | with_reducible assumption | omega))
      | ((with_reducible apply G_1n); exact rfl; (first | with_reducible assumption | omega))
      | ((with_reducible apply G_0y); exact rfl; (first | with_reducible assumption | omega))
      | ((with_reducible apply G_0n); exact rfl; (first | with_reducible assumption | omega))
      | ((with_reducible apply G_1P); exact rfl; all_goals intro _)
      | ((with_reducible apply G_0P); exact rfl; all_goals intro _)
      | ((with_reducible apply K_pickt); exact rfl; exact rfl)
      | ((with_reducible apply K_pickf); exact rfl; exact rfl)
      | ((with_reducible apply K_pickT); exact rfl; (first | with_reducible assumption | omega); exact rfl)
      | ((with_reducible apply K_pickF); exact rfl; (first | with_reducible assumption | omega); exact rfl)
      | ((with_reducible apply K_lss); exact rfl; exact rfl)
      | ((with_reducible apply K_gtr); exact rfl; exact rfl)
      | ((with_reducible apply K_neq); exact rfl; exact rfl)
      | ((with_reducible apply K_neqS); exact rfl; exact rfl)
      | ((with_reducible apply K_lenS); exact rfl)
      | ((with_reducible apply K_mov_ref); exact rfl)
      | ((with_reducible apply K_mov_ptr); exact rfl)
      | ((with_reducible apply K_mov_yld); exact rfl)
      | ((with_reducible apply K_slS_hi); exact rfl; exact rfl; (first | omega | decide))
      | ((with_reducible apply K_slS_lo); exact rfl; exact rfl; (first | omega | decide))
      | ((with_reducible apply K_slS_2); exact rfl; exact rfl; exact rfl; (first | omega | decide); (first | omega | decide))
    exact ends_si rfl (by rw [e1])
  · have e1 : longS s = 0 := if_neg h
    have e2 : cutS s n = if n < 0 ∨ (s.length : Int) < n then ([], 2) else (s.take n.toNat, 0) := if_neg h
    repeat' first
      | ((with_reducible apply K_call_0 (ys := [.str s])); exact rfl; exact cr52 s; exact rfl)
      | with_reducible refine T_seq ?_
      | with_reducible refine S_ops ?_
      | with_reducible refine O_step ?_
      | ((with_reducible apply K_mov_d); exact rfl)
      | with_reducible refine O_nil ?_
      | with_reducible refine seq_n ?_
      | with_reducible refine S_skip ?_
      | ((with_reducible apply T_itet); exact rfl)
      | ((with_reducible apply T_itef); exact rfl)
      | ((with_reducible apply T_ite1); exact rfl; (first | with_reducible assumption | omega))
      | ((with_reducible apply T_ite0); exact rfl; (first | with_reducible assumption | omega))
      | ((with_reducible apply T_iteP); exact rfl; all_goals intro _)
      | with_reducible refine S_ret ?_
      | with_reducible refine seq_r ?_
      | with_reducible refine rnd_r ?_
      | ((with_reducible apply G_skip'); exact rfl)
      | ((with_reducible apply G_1tt); exact rfl)
      | ((with_reducible apply G_1ff); exact rfl)
      | ((with_reducible apply G_0tt); exact rfl)
      | ((with_reducible apply G_0ff); exact rfl)
      | ((with_reducible apply G_1y); exact rfl; (first | with_reducible assumption | omega))
      | ((with_reducible apply G_1n); exact rfl; (first | with_reducible assumption | omega))
      | ((with_reducible apply G_0y); exact rfl; (first | with_reducible assumption | omega))
      | ((with_reducible apply G_0n); exact rfl; (first | with_reducible assumption | omega))
      | ((with_reducible apply G_1P); exact rfl; all_goals intro _)
      | ((with_reducible apply G_0P); exact rfl; all_goals intro _)
      | ((with_reducible apply K_pickt); exact rfl; exact rfl)
      | ((with_reducible apply K_pickf); exact rfl; exact rfl)
      | ((with_reducible apply K_pickT); exact rfl; (first | with_reducible assumption | omega); exact rfl)
      | ((with_reducible apply K_pickF); exact rfl; (first | with_reducible assumption | omega); exact rfl)
      | ((with_reducible apply K_lss); exact rfl; exact rfl)
      | ((with_reducible apply K_gtr); exact rfl; exact rfl)
      | ((with_reducible apply K_neq); exact rfl; exact rfl)
      | ((with_reducible apply K_neqS); exact rfl; exact rfl)
      | ((with_reducible apply K_lenS); exact rfl)
      | ((with_reducible apply K_mov_ref); exact rfl)
      | ((with_reducible apply K_mov_ptr); exact rfl)
      | ((with_reducible apply K_mov_yld); exact rfl)
      | ((with_reducible apply K_slS_hi); exact rfl; exact rfl; (first | omega | decide))
      | ((with_reducible apply K_slS_lo); exact rfl; exact rfl; (first | omega | decide))
      | ((with_reducible apply K_slS_2); exact rfl; exact rfl; exact rfl; (first | omega | decide); (first | omega | decide))
    · exact ends_si rfl (by rw [e2, if_pos (by omega)])
    · exact ends_si rfl (by rw [e2, if_neg (by omega)])
    · exact ends_si rfl (by rw [e2, if_pos (by omega)])
end Go.Abs
/- Contracts: the reference of package burst, its first functions. -/
namespace Go.Abs
open Go.Proofs
theorem cr57 (m : Int) : CR Try.prog 57 [i64 m] [] (.d (.int .u32 (pat m))) [] := by
  refine fn_cr fn57 (Nat.le_of_ble_eq_true rfl) rfl ?_
  unfold sc57
  repeat' first
    | with_reducible refine T_seq ?_
    | with_reducible refine S_ops ?_
    | with_reducible refine O_step ?_
    | ((with_reducible apply K_mov_d); exact rfl)
    | with_reducible refine O_nil ?_
    | with_reducible refine seq_n ?_
    | with_reducible refine S_ret ?_
    | with_reducible refine seq_r ?_
    | with_reducible refine rnd_r ?_
    | ((with_reducible apply K_add); exact rfl; exact rfl; (first | omega | decide))
    | ((with_reducible apply K_mul); exact rfl; exact rfl; (first | omega | decide))
    | ((with_reducible apply K_addw); exact rfl; exact rfl)
    | ((with_reducible apply K_mulw); exact rfl; exact rfl)
    | ((with_reducible apply K_or); exact rfl; exact rfl)
    | ((with_reducible apply K_convu64); exact rfl; (first | omega | decide))
    | ((with_reducible apply K_convu32); exact rfl; (first | omega | decide))
    | ((with_reducible apply K_conv); exact rfl)
    | ((with_reducible apply K_mov_ref); exact rfl)
    | ((with_reducible apply K_mov_ptr); exact rfl)
    | ((with_reducible apply K_mov_yld); exact rfl)
  exact ends_i rfl rfl
theorem cr56 (s : List UInt8) (n : Nat) (hs : s.length ≤ 20000) (hn : n < 8 * s.length) : CR Try.prog 56 [st s, i64 n] [] (st (flip s n)) [] := by
  refine fn_cr fn56 (Nat.le_of_ble_eq_true rfl) rfl ?_
  unfold sc56
  repeat' first
    | with_reducible refine T_seq ?_
    | with_reducible refine S_ops ?_
    | with_reducible refine O_step ?_
    | ((with_reducible apply K_mov_d); exact rfl)
    | with_reducible refine O_nil ?_
    | with_reducible refine seq_n ?_
    | with_reducible refine S_ret ?_
    | with_reducible refine seq_r ?_
    | with_reducible refine rnd_r ?_
    | ((with_reducible apply K_quo0); exact rfl; exact rfl; (first | omega | decide); (first | omega | decide))
    | ((with_reducible apply K_rem0); exact rfl; exact rfl; (first | omega | decide); (first | omega | decide))
    | ((with_reducible apply K_quo); exact rfl; exact rfl; (first | omega | decide))
    | ((with_reducible apply K_rem); exact rfl; exact rfl; (first | omega | decide))
    | ((with_reducible apply K_xor); exact rfl; exact rfl)
    | ((with_reducible apply K_shl); exact rfl; exact rfl; (first | omega | decide))
    | ((with_reducible apply K_convu64); exact rfl; (first | omega | decide))
    | ((with_reducible apply K_conv); exact rfl)
    | ((with_reducible apply K_bytes); exact rfl)
    | ((with_reducible apply K_idxA_ref); exact rfl; exact rfl; exact rfl; (first | omega | decide))
    | ((with_reducible apply K_idxA_d); exact rfl; exact rfl; (first | omega | decide))
    | ((with_reducible apply K_load1_ptr); exact rfl; exact rfl; exact rfl)
    | ((with_reducible apply K_load1_fp); exact rfl)
    | ((with_reducible apply K_load1_byte); exact rfl; exact rfl; (first | omega | decide))
    | ((with_reducible apply K_ofBytes_ref); exact rfl; exact rfl; (first | omega | simp))
    | ((with_reducible apply K_mov_ref); exact rfl)
    | ((with_reducible apply K_mov_ptr); exact rfl)
    | ((with_reducible apply K_mov_yld); exact rfl)
    | ((with_reducible apply K_store1_pd); exact rfl; exact rfl; exact rfl; (first | decide | simp); exact rfl)
    | ((with_reducible apply K_store1_pr); exact rfl; exact rfl; exact rfl; (first | decide | simp))
  have ej : 0 + ((n : Int) / 8).toNat = n / 8 := by omega
  have em : ((n : Int) % 8).toNat = n % 8 := by omega
  refine K_store1_byte (s.getD (n / 8) 0 ^^^ mask (n % 8)) rfl rfl rfl (by omega) (flip_byte ej em) ?_
  rw [ej]
  repeat' first
    | ((with_reducible apply K_ofBytes_ref (s := flip s n)); exact rfl; exact rfl; exact (flip_len s n).symm)
    | with_reducible refine T_seq ?_
    | with_reducible refine S_ops ?_
    | with_reducible refine O_step ?_
    | ((with_reducible apply K_mov_d); exact rfl)
    | with_reducible refine O_nil ?_
    | with_reducible refine seq_n ?_
    | with_reducible refine S_ret ?_
    | with_reducible refine seq_r ?_
    | with_reducible refine rnd_r ?_
    | ((with_reducible apply K_quo0); exact rfl; exact rfl; (first | omega | decide); (first | omega | decide))
    | ((with_reducible apply K_rem0); exact rfl; exact rfl; (first | omega | decide); (first | omega | decide))
    | ((with_reducible apply K_quo); exact rfl; exact rfl; (first | omega | decide))
    | ((with_reducible apply K_rem); exact rfl; exact rfl; (first | omega | decide))
    | ((with_reducible apply K_xor); exact rfl; exact rfl)
    | ((with_reducible apply K_shl); exact rfl; exact rfl; (first | omega | decide))
    | ((with_reducible apply K_convu64); exact rfl; (first | omega | decide))
    | ((with_reducible apply K_conv); exact rfl)
    | ((with_reducible apply K_bytes); exact rfl)
    | ((with_reducible apply K_idxA_ref); exact rfl; exact rfl; exact rfl; (first | omega | decide))
    | ((with_reducible apply K_idxA_d); exact rfl; exact rfl; (first | omega | decide))
    | ((with_reducible apply K_load1_ptr); exact rfl; exact rfl; exact rfl)
    | ((with_reducible apply K_load1_fp); exact rfl)
    | ((with_reducible apply K_load1_byte); exact rfl; exact rfl; (first | omega | decide))
    | ((with_reducible apply K_ofBytes_ref); exact rfl; exact rfl; (first | omega | simp))
    | ((with_reducible apply K_mov_ref); exact rfl)
    | ((with_reducible apply K_mov_ptr); exact rfl)
    | ((with_reducible apply K_mov_yld); exact rfl)
    | ((with_reducible apply K_store1_pd); exact rfl; exact rfl; exact rfl; (first | decide | simp); exact rfl)
    | ((with_reducible apply K_store1_pr); exact rfl; exact rfl; exact rfl; (first | decide | simp))
  exact ends_s rfl rfl
theorem cr17 (s : List UInt8) (n : Int) : CR Try.prog 17 [st s, i64 n] [] (.tup [st (flipS s n).1, i64 (flipS s n).2]) [] := by
  refine fn_cr fn17 (Nat.le_of_ble_eq_true rfl) rfl ?_
  unfold sc17
  by_cases h : s.length > 20000
  · have e2 : bitS s n = 4 := if_pos h
    have e3 : flipS s n = ([], 4) := by unfold flipS; rw [e2, if_pos (by decide)]
    rw [e3]
    repeat' first
      | with_reducible refine T_seq ?_
      | with_reducible refine S_ops ?_
      | with_reducible refine O_step ?_
      | ((with_reducible apply K_mov_d); exact rfl)
      | with_reducible refine O_nil ?_
      | with_reducible refine seq_n ?_
      | with_reducible refine S_skip ?_
      | ((with_reducible apply T_itet); exact rfl)
      | ((with_reducible apply T_itef); exact rfl)
      | ((with_reducible apply T_ite1); exact rfl; (first | with_reducible assumption | omega))
      | ((with_reducible apply T_ite0); exact rfl; (first | with_reducible assumption | omega))
      | ((with_reducible apply T_iteP); exact rfl; all_goals intro _)
      | with_reducible refine S_ret ?_
      | with_reducible refine seq_r ?_
      | with_reducible refine rnd_r ?_
      | ((with_reducible apply G_skip'); exact rfl)
      | ((with_reducible apply G_1tt); exact rfl)
      | ((with_reducible apply G_1ff); exact rfl)
      | ((with_reducible apply G_0tt); exact rfl)
      | ((with_reducible apply G_0ff); exact rfl)
      | ((with_reducible apply G_1y); exact rfl; (first | with_reducible assumption | omega))
      | ((with_reducible apply G_1n); exact rfl; (first | with_reducible assumption | omega))
      | ((with_reducible apply G_0y); exact rfl; (first | with_reducible assumption | omega))
      | ((with_reducible apply G_0n); exact rfl; (first | with_reducible assumption | omega))
      | ((with_reducible apply G_1P); exact rfl; all_goals intro _)
      | ((with_reducible apply G_0P); exact rfl; all_goals intro _)
      | ((with_reducible apply K_pickt); exact rfl; exact rfl)
      | ((with_reducible apply K_pickf); exact rfl; exact rfl)
      | ((with_reducible apply K_pickT); exact rfl; (first | with_reducible assumption | omega); exact rfl)
      | ((with_reducible apply K_pickF); exact rfl; (first | with_reducible assumption | omega); exact rfl)
      | ((with_reducible apply K_lss); exact rfl; exact rfl)
      | ((with_reducible apply K_gtr); exact rfl; exact rfl)
      | ((with_reducible apply K_geq); exact rfl; exact rfl)
      | ((with_reducible apply K_mul); exact rfl; exact rfl; (first | omega | decide))
      | ((with_reducible apply K_mulw); exact rfl; exact rfl)
      | ((with_reducible apply K_lenS); exact rfl)
      | ((with_reducible apply K_mov_ref); exact rfl)
      | ((with_reducible apply K_mov_ptr); exact rfl)
      | ((with_reducible apply K_mov_yld); exact rfl)
    exact ends_si rfl rfl
  · have e2 : bitS s n = if n < 0 ∨ 8 * (s.length : Int) ≤ n then 2 else 0 := if_neg h
    by_cases h2 : n < 0 ∨ 8 * (s.length : Int) ≤ n
    · have e3 : flipS s n = ([], 2) := by unfold flipS; rw [e2, if_pos h2, if_pos (by decide)]
      rw [e3]
      repeat' first
        | with_reducible refine T_seq ?_
        | with_reducible refine S_ops ?_
        | with_reducible refine O_step ?_
        | ((with_reducible apply K_mov_d); exact rfl)
        | with_reducible refine O_nil ?_
        | with_reducible refine seq_n ?_
        | with_reducible refine S_skip ?_
        | ((with_reducible apply T_itet); exact rfl)
        | ((with_reducible apply T_itef); exact rfl)
        | ((with_reducible apply T_ite1); exact rfl; (first | with_reducible assumption | omega))
        | ((with_reducible apply T_ite0); exact rfl; (first | with_reducible assumption | omega))
        | ((with_reducible apply T_iteP); exact rfl; all_goals intro _)
        | with_reducible refine S_ret ?_
        | with_reducible refine seq_r ?_
        | with_reducible refine rnd_r ?_
        | ((with_reducible apply G_skip'); exact rfl)
        | ((with_reducible apply G_1tt); exact rfl)
        | ((with_reducible apply G_1ff); exact rfl)
        | ((with_reducible apply G_0tt); exact rfl)
        | ((with_reducible apply G_0ff); exact rfl)
        | ((with_reducible apply G_1y); exact rfl; (first | with_reducible assumption | omega))
        | ((with_reducible apply G_1n); exact rfl; (first | with_reducible assumption | omega))
        | ((with_reducible apply G_0y); exact rfl; (first | with_reducible assumption | omega))
        | ((with_reducible apply G_0n); exact rfl; (first | with_reducible assumption | omega))
        | ((with_reducible apply G_1P); exact rfl; all_goals intro _)
        | ((with_reducible apply G_0P); exact rfl; all_goals intro _)
        | ((with_reducible apply K_pickt); exact rfl; exact rfl)
        | ((with_reducible apply K_pickf); exact rfl; exact rfl)
        | ((with_reducible apply K_pickT); exact rfl; (first | with_reducible assumption | omega); exact rfl)
        | ((with_reducible apply K_pickF); exact rfl; (first | with_reducible assumption | omega); exact rfl)
        | ((with_reducible apply K_lss); exact rfl; exact rfl)
        | ((with_reducible apply K_gtr); exact rfl; exact rfl)
        | ((with_reducible apply K_geq); exact rfl; exact rfl)
        | ((with_reducible apply K_mul); exact rfl; exact rfl; (first | omega | decide))
        | ((with_reducible apply K_mulw); exact rfl; exact rfl)
        | ((with_reducible apply K_lenS); exact rfl)
        | ((with_reducible apply K_mov_ref); exact rfl)
        | ((with_reducible apply K_mov_ptr); exact rfl)
        | ((with_reducible apply K_mov_yld); exact rfl)
      · exact ends_si rfl rfl
      · exact ends_si rfl rfl
    · have e3 : flipS s n = (flip s n.toNat, 0) := by unfold flipS; rw [e2, if_neg h2, if_neg (by decide)]
      rw [e3]
      obtain ⟨k, rfl⟩ : ∃ k : Nat, n = k := ⟨n.toNat, by omega⟩
      repeat' first
        | ((with_reducible apply K_call_0 (ys := [.str s, .int .i64 k])); exact rfl; exact cr56 s k (by omega) (by omega); exact rfl)
        | with_reducible refine T_seq ?_
        | with_reducible refine S_ops ?_
        | with_reducible refine O_step ?_
        | ((with_reducible apply K_mov_d); exact rfl)
        | with_reducible refine O_nil ?_
        | with_reducible refine seq_n ?_
        | with_reducible refine S_skip ?_
        | ((with_reducible apply T_itet); exact rfl)
        | ((with_reducible apply T_itef); exact rfl)
        | ((with_reducible apply T_ite1); exact rfl; (first | with_reducible assumption | omega))
        | ((with_reducible apply T_ite0); exact rfl; (first | with_reducible assumption | omega))
        | ((with_reducible apply T_iteP); exact rfl; all_goals intro _)
        | with_reducible refine S_ret ?_
        | with_reducible refine seq_r ?_
        | with_reducible refine rnd_r ?_
        | ((with_reducible apply G_skip'); exact rfl)
        | ((with_reducible apply G_1tt); exact rfl)
        | ((with_reducible apply G_1ff); exact rfl)
        | ((with_reducible apply G_0tt); exact rfl)
        | ((with_reducible apply G_0ff); exact rfl)
        | ((with_reducible apply G_1y); exact rfl; (first | with_reducible assumption | omega))
        | ((with_reducible apply G_1n); exact rfl; (first | with_reducible assumption | omega))
        | ((with_reducible apply G_0y); exact rfl; (first | with_reducible assumption | omega))
        | ((with_reducible apply G_0n); exact rfl; (first | with_reducible assumption | omega))
        | ((with_reducible apply G_1P); exact rfl; all_goals intro _)
        | ((with_reducible apply G_0P); exact rfl; all_goals intro _)
        | ((with_reducible apply K_pickt); exact rfl; exact rfl)
        | ((with_reducible apply K_pickf); exact rfl; exact rfl)
        | ((with_reducible apply K_pickT); exact rfl; (first | with_reducible assumption | omega); exact rfl)
        | ((with_reducible apply K_pickF); exact rfl; (first | with_reducible assumption | omega); exact rfl)
        | ((with_reducible apply K_lss); exact rfl; exact rfl)
        | ((with_reducible apply K_gtr); exact rfl; exact rfl)
        | ((with_reducible apply K_geq); exact rfl; exact rfl)
        | ((with_reducible apply K_mul); exact rfl; exact rfl; (first | omega | decide))
        | ((with_reducible apply K_mulw); exact rfl; exact rfl)
        | ((with_reducible apply K_lenS); exact rfl)
        | ((with_reducible apply K_mov_ref); exact rfl)
        | ((with_reducible apply K_mov_ptr); exact rfl)
        | ((with_reducible apply K_mov_yld); exact rfl)
      exact ends_si rfl rfl
theorem cr21 (s : List UInt8) (n : Int) : CR Try.prog 21 [st s, i64 n] [] (.tup [st (cutS s n).1, i64 (cutS s n).2]) [] := by
  refine fn_cr fn21 (Nat.le_of_ble_eq_true rfl) rfl ?_
  unfold sc21
  by_cases h : s.length > 20000
  · rw [show cutS s n = ([], 4) from if_pos h]
    repeat' first
      | with_reducible refine T_seq ?_
      | with_reducible refine S_ops ?_
      | with_reducible refine O_step ?_
      | ((with_reducible apply K_mov_d); exact rfl)
      | with_reducible refine O_nil ?_
      | with_reducible refine seq_n ?_
      | with_reducible refine S_skip ?_
      | ((with_reducible apply T_itet); exact rfl)
      | ((with_reducible apply T_itef); exact rfl)
      | ((with_reducible apply T_ite1); exact rfl; (first | with_reducible assumption | omega))
      | ((with_reducible apply T_ite0); exact rfl; (first | with_reducible assumption | omega))
      | ((with_reducible apply T_iteP); exact rfl; all_goals intro _)
      | with_reducible refine S_ret ?_
      | with_reducible refine seq_r ?_
      | with_reducible refine rnd_r ?_
      | ((with_reducible apply G_skip'); exact rfl)
      | ((with_reducible apply G_1tt); exact rfl)
      | ((with_reducible apply G_1ff); exact rfl)
      | ((with_reducible apply G_0tt); exact rfl)
      | ((with_reducible apply G_0ff); exact rfl)
      | ((with_reducible apply G_1y); exact rfl; (first | with_reducible assumption | omega))
      | ((with_reducible apply G_1n); exact rfl; (first | with_reducible assumption | omega))
      | ((with_reducible apply G_0y); exact rfl; (first | with_reducible assumption | omega))
      | ((with_reducible apply G_0n); exact rfl; (first | with_reducible assumption | omega))
      | ((with_reducible apply G_1P); exact rfl; all_goals intro _)
      | ((with_reducible apply G_0P); exact rfl; all_goals intro _)
      | ((with_reducible apply K_pickt); exact rfl; exact rfl)
      | ((with_reducible apply K_pickf); exact rfl; exact rfl)
      | ((with_reducible apply K_pickT); exact rfl; (first | with_reducible assumption | omega); exact rfl)
      | ((with_reducible apply K_pickF); exact rfl; (first | with_reducible assumption | omega); exact rfl)
      | ((with_reducible apply K_lss); exact rfl; exact rfl)
      | ((with_reducible apply K_gtr); exact rfl; exact rfl)
      | ((with_reducible apply K_lenS); exact rfl)
      | ((with_reducible apply K_mov_ref); exact rfl)
      | ((with_reducible apply K_mov_ptr); exact rfl)
      | ((with_reducible apply K_mov_yld); exact rfl)
      | ((with_reducible apply K_slS_hi); exact rfl; exact rfl; (first | omega | decide))
      | ((with_reducible apply K_slS_lo); exact rfl; exact rfl; (first | omega | decide))
      | ((with_reducible apply K_slS_2); exact rfl; exact rfl; exact rfl; (first | omega | decide); (first | omega | decide))
    exact ends_si rfl rfl
  · have e2 : cutS s n = if n < 0 ∨ (s.length : Int) < n then ([], 2) else (s.take n.toNat, 0) := if_neg h
    repeat' first
      | with_reducible refine T_seq ?_
      | with_reducible refine S_ops ?_
      | with_reducible refine O_step ?_
      | ((with_reducible apply K_mov_d); exact rfl)
      | with_reducible refine O_nil ?_
      | with_reducible refine seq_n ?_
      | with_reducible refine S_skip ?_
      | ((with_reducible apply T_itet); exact rfl)
      | ((with_reducible apply T_itef); exact rfl)
      | ((with_reducible apply T_ite1); exact rfl; (first | with_reducible assumption | omega))
      | ((with_reducible apply T_ite0); exact rfl; (first | with_reducible assumption | omega))
      | ((with_reducible apply T_iteP); exact rfl; all_goals intro _)
      | with_reducible refine S_ret ?_
      | with_reducible refine seq_r ?_
      | with_reducible refine rnd_r ?_
      | ((with_reducible apply G_skip'); exact rfl)
      | ((with_reducible apply G_1tt); exact rfl)
      | ((with_reducible apply G_1ff); exact rfl)
      | ((with_reducible apply G_0tt); exact rfl)
      | ((with_reducible apply G_0ff); exact rfl)
      | ((with_reducible apply G_1y); exact rfl; (first | with_reducible assumption | omega))
      | ((with_reducible apply G_1n); exact rfl; (first | with_reducible assumption | omega))
      | ((with_reducible apply G_0y); exact rfl; (first | with_reducible assumption | omega))
      | ((with_reducible apply G_0n); exact rfl; (first | with_reducible assumption | omega))
      | ((with_reducible apply G_1P); exact rfl; all_goals intro _)
      | ((with_reducible apply G_0P); exact rfl; all_goals intro _)
      | ((with_reducible apply K_pickt); exact rfl; exact rfl)
      | ((with_reducible apply K_pickf); exact rfl; exact rfl)
      | ((with_reducible apply K_pickT); exact rfl; (first | with_reducible assumption | omega); exact rfl)
      | ((with_reducible apply K_pickF); exact rfl; (first | with_reducible assumption | omega); exact rfl)
      | ((with_reducible apply K_lss); exact rfl; exact rfl)
      | ((with_reducible apply K_gtr); exact rfl; exact rfl)
      | ((with_reducible apply K_lenS); exact rfl)
      | ((with_reducible apply K_mov_ref); exact rfl)
      | ((with_reducible apply K_mov_ptr); exact rfl)
      | ((with_reducible apply K_mov_yld); exact rfl)
      | ((with_reducible apply K_slS_hi); exact rfl; exact rfl; (first | omega | decide))
      | ((with_reducible apply K_slS_lo); exact rfl; exact rfl; (first | omega | decide))
      | ((with_reducible apply K_slS_2); exact rfl; exact rfl; exact rfl; (first | omega | decide); (first | omega | decide))
    · exact ends_si rfl (by rw [e2, if_pos (by omega)])
    · exact ends_si rfl (by rw [e2, if_neg (by omega)])
    · exact ends_si rfl (by rw [e2, if_pos (by omega)])
theorem cr19 (s : List UInt8) (f : Int) (p : Nat) (hp : p < 4294967296) : CR Try.prog 19 [st s, i64 f, .d (.int .u32 p)] [] (.tup [st (burstS s f p).1, i64 (burstS s f p).2]) [] := by
  refine fn_cr fn19 (Nat.le_of_ble_eq_true rfl) rfl ?_
  unfold sc19
  by_cases h : s.length > 20000
  · have e2 : bitS s f = 4 := if_pos h
    have e3 : burstE s f p = 4 := by unfold burstE; rw [e2, if_pos (by decide)]
    repeat' first
      | with_reducible refine T_seq ?_
      | with_reducible refine S_ops ?_
      | with_reducible refine O_step ?_
      | ((with_reducible apply K_mov_d); exact rfl)
      | with_reducible refine O_nil ?_
      | with_reducible refine seq_n ?_
      | with_reducible refine S_skip ?_
      | ((with_reducible apply T_itet); exact rfl)
      | ((with_reducible apply T_itef); exact rfl)
      | ((with_reducible apply T_ite1); exact rfl; (first | with_reducible assumption | omega))
      | ((with_reducible apply T_ite0); exact rfl; (first | with_reducible assumption | omega))
      | ((with_reducible apply T_iteP); exact rfl; all_goals intro _)
      | with_reducible refine S_ret ?_
      | with_reducible refine seq_r ?_
      | with_reducible refine S_exit ?_
      | with_reducible refine seq_e ?_
      | with_reducible refine T_block ?_
      | with_reducible refine blk_1 ?_
      | with_reducible refine blk_0 rfl ?_
      | with_reducible refine blk_n ?_
      | with_reducible refine blk_r ?_
      | with_reducible refine rnd_r ?_
      | with_reducible refine rnd_e ?_
      | ((with_reducible apply G_skip'); exact rfl)
      | ((with_reducible apply G_1tt); exact rfl)
      | ((with_reducible apply G_1ff); exact rfl)
      | ((with_reducible apply G_0tt); exact rfl)
      | ((with_reducible apply G_0ff); exact rfl)
      | ((with_reducible apply G_1y); exact rfl; (first | with_reducible assumption | omega))
      | ((with_reducible apply G_1n); exact rfl; (first | with_reducible assumption | omega))
      | ((with_reducible apply G_0y); exact rfl; (first | with_reducible assumption | omega))
      | ((with_reducible apply G_0n); exact rfl; (first | with_reducible assumption | omega))
      | ((with_reducible apply G_1P); exact rfl; all_goals intro _)
      | ((with_reducible apply G_0P); exact rfl; all_goals intro _)
      | ((with_reducible apply K_pickt); exact rfl; exact rfl)
      | ((with_reducible apply K_pickf); exact rfl; exact rfl)
      | ((with_reducible apply K_pickT); exact rfl; (first | with_reducible assumption | omega); exact rfl)
      | ((with_reducible apply K_pickF); exact rfl; (first | with_reducible assumption | omega); exact rfl)
      | ((with_reducible apply K_lss); exact rfl; exact rfl)
      | ((with_reducible apply K_gtr); exact rfl; exact rfl)
      | ((with_reducible apply K_geq); exact rfl; exact rfl)
      | ((with_reducible apply K_eql); exact rfl; exact rfl)
      | ((with_reducible apply K_eqlS); exact rfl; exact rfl)
      | ((with_reducible apply K_add); exact rfl; exact rfl; (first | omega | decide))
      | ((with_reducible apply K_mul); exact rfl; exact rfl; (first | omega | decide))
      | ((with_reducible apply K_addw); exact rfl; exact rfl)
      | ((with_reducible apply K_mulw); exact rfl; exact rfl)
      | ((with_reducible apply K_and3); exact rfl; exact rfl; (first | omega | decide))
      | ((with_reducible apply K_and7); exact rfl; exact rfl; (first | omega | decide))
      | ((with_reducible apply K_shrc 2); exact rfl; exact rfl; exact rfl; (first | omega | decide))
      | ((with_reducible apply K_shrc 4); exact rfl; exact rfl; exact rfl; (first | omega | decide))
      | ((with_reducible apply K_shrc 8); exact rfl; exact rfl; exact rfl; (first | omega | decide))
      | ((with_reducible apply K_and); exact rfl; exact rfl)
      | ((with_reducible apply K_shr); exact rfl; exact rfl; (first | omega | decide))
      | ((with_reducible apply K_lenS); exact rfl)
      | ((with_reducible apply K_convu64); exact rfl; (first | omega | decide))
      | ((with_reducible apply K_conv); exact rfl)
      | ((with_reducible apply K_mov_ref); exact rfl)
      | ((with_reducible apply K_mov_ptr); exact rfl)
      | ((with_reducible apply K_mov_yld); exact rfl)
    exact ends_si rfl (burstS_e e3 (by decide))
  · have e2 : bitS s f = if f < 0 ∨ 8 * (s.length : Int) ≤ f then 2 else 0 := if_neg h
    by_cases h2 : f < 0 ∨ 8 * (s.length : Int) ≤ f
    · have e3 : burstE s f p = 2 := by unfold burstE; rw [e2, if_pos h2, if_pos (by decide)]
      repeat' first
        | with_reducible refine T_seq ?_
        | with_reducible refine S_ops ?_
        | with_reducible refine O_step ?_
        | ((with_reducible apply K_mov_d); exact rfl)
        | with_reducible refine O_nil ?_
        | with_reducible refine seq_n ?_
        | with_reducible refine S_skip ?_
        | ((with_reducible apply T_itet); exact rfl)
        | ((with_reducible apply T_itef); exact rfl)
        | ((with_reducible apply T_ite1); exact rfl; (first | with_reducible assumption | omega))
        | ((with_reducible apply T_ite0); exact rfl; (first | with_reducible assumption | omega))
        | ((with_reducible apply T_iteP); exact rfl; all_goals intro _)
        | with_reducible refine S_ret ?_
        | with_reducible refine seq_r ?_
        | with_reducible refine S_exit ?_
        | with_reducible refine seq_e ?_
        | with_reducible refine T_block ?_
        | with_reducible refine blk_1 ?_
        | with_reducible refine blk_0 rfl ?_
        | with_reducible refine blk_n ?_
        | with_reducible refine blk_r ?_
        | with_reducible refine rnd_r ?_
        | with_reducible refine rnd_e ?_
        | ((with_reducible apply G_skip'); exact rfl)
        | ((with_reducible apply G_1tt); exact rfl)
        | ((with_reducible apply G_1ff); exact rfl)
        | ((with_reducible apply G_0tt); exact rfl)
        | ((with_reducible apply G_0ff); exact rfl)
        | ((with_reducible apply G_1y); exact rfl; (first | with_reducible assumption | omega))
        | ((with_reducible apply G_1n); exact rfl; (first | with_reducible assumption | omega))
        | ((with_reducible apply G_0y); exact rfl; (first | with_reducible assumption | omega))
        | ((with_reducible apply G_0n); exact rfl; (first | with_reducible assumption | omega))
        | ((with_reducible apply G_1P); exact rfl; all_goals intro _)
        | ((with_reducible apply G_0P); exact rfl; all_goals intro _)
        | ((with_reducible apply K_pickt); exact rfl; exact rfl)
        | ((with_reducible apply K_pickf); exact rfl; exact rfl)
        | ((with_reducible apply K_pickT); exact rfl; (first | with_reducible assumption | omega); exact rfl)
        | ((with_reducible apply K_pickF); exact rfl; (first | with_reducible assumption | omega); exact rfl)
        | ((with_reducible apply K_lss); exact rfl; exact rfl)
        | ((with_reducible apply K_gtr); exact rfl; exact rfl)
        | ((with_reducible apply K_geq); exact rfl; exact rfl)
        | ((with_reducible apply K_eql); exact rfl; exact rfl)
        | ((with_reducible apply K_eqlS); exact rfl; exact rfl)
        | ((with_reducible apply K_add); exact rfl; exact rfl; (first | omega | decide))
        | ((with_reducible apply K_mul); exact rfl; exact rfl; (first | omega | decide))
        | ((with_reducible apply K_addw); exact rfl; exact rfl)
        | ((with_reducible apply K_mulw); exact rfl; exact rfl)
        | ((with_reducible apply K_and3); exact rfl; exact rfl; (first | omega | decide))
        | ((with_reducible apply K_and7); exact rfl; exact rfl; (first | omega | decide))
        | ((with_reducible apply K_shrc 2); exact rfl; exact rfl; exact rfl; (first | omega | decide))
        | ((with_reducible apply K_shrc 4); exact rfl; exact rfl; exact rfl; (first | omega | decide))
        | ((with_reducible apply K_shrc 8); exact rfl; exact rfl; exact rfl; (first | omega | decide))
        | ((with_reducible apply K_and); exact rfl; exact rfl)
        | ((with_reducible apply K_shr); exact rfl; exact rfl; (first | omega | decide))
        | ((with_reducible apply K_lenS); exact rfl)
        | ((with_reducible apply K_convu64); exact rfl; (first | omega | decide))
        | ((with_reducible apply K_conv); exact rfl)
        | ((with_reducible apply K_mov_ref); exact rfl)
        | ((with_reducible apply K_mov_ptr); exact rfl)
        | ((with_reducible apply K_mov_yld); exact rfl)
      · exact ends_si rfl (burstS_e e3 (by decide))
      · exact ends_si rfl (burstS_e e3 (by decide))
    · have e1 : burstE s f p = if p = 0 then 3 else if 8 * (s.length : Int) - f < 32 ∧ p / 2 ^ (8 * (s.length : Int) - f).toNat ≠ 0 then 2 else 0 := by unfold burstE; rw [e2, if_neg h2, if_neg (by decide)]
      obtain ⟨n, rfl⟩ : ∃ n : Nat, f = n := ⟨f.toNat, by omega⟩
      by_cases h3 : p = 0
      · repeat' first
          | with_reducible refine T_seq ?_
          | with_reducible refine S_ops ?_
          | with_reducible refine O_step ?_
          | ((with_reducible apply K_mov_d); exact rfl)
          | with_reducible refine O_nil ?_
          | with_reducible refine seq_n ?_
          | with_reducible refine S_skip ?_
          | ((with_reducible apply T_itet); exact rfl)
          | ((with_reducible apply T_itef); exact rfl)
          | ((with_reducible apply T_ite1); exact rfl; (first | with_reducible assumption | omega))
          | ((with_reducible apply T_ite0); exact rfl; (first | with_reducible assumption | omega))
          | ((with_reducible apply T_iteP); exact rfl; all_goals intro _)
          | with_reducible refine S_ret ?_
          | with_reducible refine seq_r ?_
          | with_reducible refine S_exit ?_
          | with_reducible refine seq_e ?_
          | with_reducible refine T_block ?_
          | with_reducible refine blk_1 ?_
          | with_reducible refine blk_0 rfl ?_
          | with_reducible refine blk_n ?_
          | with_reducible refine blk_r ?_
          | with_reducible refine rnd_r ?_
          | with_reducible refine rnd_e ?_
          | ((with_reducible apply G_skip'); exact rfl)
          | ((with_reducible apply G_1tt); exact rfl)
          | ((with_reducible apply G_1ff); exact rfl)
          | ((with_reducible apply G_0tt); exact rfl)
          | ((with_reducible apply G_0ff); exact rfl)
          | ((with_reducible apply G_1y); exact rfl; (first | with_reducible assumption | omega))
          | ((with_reducible apply G_1n); exact rfl; (first | with_reducible assumption | omega))
          | ((with_reducible apply G_0y); exact rfl; (first | with_reducible assumption | omega))
          | ((with_reducible apply G_0n); exact rfl; (first | with_reducible assumption | omega))
          | ((with_reducible apply G_1P); exact rfl; all_goals intro _)
          | ((with_reducible apply G_0P); exact rfl; all_goals intro _)
          | ((with_reducible apply K_pickt); exact rfl; exact rfl)
          | ((with_reducible apply K_pickf); exact rfl; exact rfl)
          | ((with_reducible apply K_pickT); exact rfl; (first | with_reducible assumption | omega); exact rfl)
          | ((with_reducible apply K_pickF); exact rfl; (first | with_reducible assumption | omega); exact rfl)
          | ((with_reducible apply K_lss); exact rfl; exact rfl)
          | ((with_reducible apply K_gtr); exact rfl; exact rfl)
          | ((with_reducible apply K_geq); exact rfl; exact rfl)
          | ((with_reducible apply K_eql); exact rfl; exact rfl)
          | ((with_reducible apply K_eqlS); exact rfl; exact rfl)
          | ((with_reducible apply K_add); exact rfl; exact rfl; (first | omega | decide))
          | ((with_reducible apply K_mul); exact rfl; exact rfl; (first | omega | decide))
          | ((with_reducible apply K_addw); exact rfl; exact rfl)
          | ((with_reducible apply K_mulw); exact rfl; exact rfl)
          | ((with_reducible apply K_and3); exact rfl; exact rfl; (first | omega | decide))
          | ((with_reducible apply K_and7); exact rfl; exact rfl; (first | omega | decide))
          | ((with_reducible apply K_shrc 2); exact rfl; exact rfl; exact rfl; (first | omega | decide))
          | ((with_reducible apply K_shrc 4); exact rfl; exact rfl; exact rfl; (first | omega | decide))
          | ((with_reducible apply K_shrc 8); exact rfl; exact rfl; exact rfl; (first | omega | decide))
          | ((with_reducible apply K_and); exact rfl; exact rfl)
          | ((with_reducible apply K_shr); exact rfl; exact rfl; (first | omega | decide))
          | ((with_reducible apply K_lenS); exact rfl)
          | ((with_reducible apply K_convu64); exact rfl; (first | omega | decide))
          | ((with_reducible apply K_conv); exact rfl)
          | ((with_reducible apply K_mov_ref); exact rfl)
          | ((with_reducible apply K_mov_ptr); exact rfl)
          | ((with_reducible apply K_mov_yld); exact rfl)
        exact ends_si rfl (burstS_e (by rw [e1, if_pos h3]) (by decide))
      · repeat' first
          | with_reducible refine T_seq ?_
          | with_reducible refine S_ops ?_
          | with_reducible refine O_step ?_
          | ((with_reducible apply K_mov_d); exact rfl)
          | with_reducible refine O_nil ?_
          | with_reducible refine seq_n ?_
          | with_reducible refine S_skip ?_
          | ((with_reducible apply T_itet); exact rfl)
          | ((with_reducible apply T_itef); exact rfl)
          | ((with_reducible apply T_ite1); exact rfl; (first | with_reducible assumption | omega))
          | ((with_reducible apply T_ite0); exact rfl; (first | with_reducible assumption | omega))
          | ((with_reducible apply T_iteP); exact rfl; all_goals intro _)
          | with_reducible refine S_ret ?_
          | with_reducible refine seq_r ?_
          | with_reducible refine S_exit ?_
          | with_reducible refine seq_e ?_
          | with_reducible refine T_block ?_
          | with_reducible refine blk_1 ?_
          | with_reducible refine blk_0 rfl ?_
          | with_reducible refine blk_n ?_
          | with_reducible refine blk_r ?_
          | with_reducible refine rnd_r ?_
          | with_reducible refine rnd_e ?_
          | ((with_reducible apply G_skip'); exact rfl)
          | ((with_reducible apply G_1tt); exact rfl)
          | ((with_reducible apply G_1ff); exact rfl)
          | ((with_reducible apply G_0tt); exact rfl)
          | ((with_reducible apply G_0ff); exact rfl)
          | ((with_reducible apply G_1y); exact rfl; (first | with_reducible assumption | omega))
          | ((with_reducible apply G_1n); exact rfl; (first | with_reducible assumption | omega))
          | ((with_reducible apply G_0y); exact rfl; (first | with_reducible assumption | omega))
          | ((with_reducible apply G_0n); exact rfl; (first | with_reducible assumption | omega))
          | ((with_reducible apply G_1P); exact rfl; all_goals intro _)
          | ((with_reducible apply G_0P); exact rfl; all_goals intro _)
          | ((with_reducible apply K_pickt); exact rfl; exact rfl)
          | ((with_reducible apply K_pickf); exact rfl; exact rfl)
          | ((with_reducible apply K_pickT); exact rfl; (first | with_reducible assumption | omega); exact rfl)
          | ((with_reducible apply K_pickF); exact rfl; (first | with_reducible assumption | omega); exact rfl)
          | ((with_reducible apply K_lss); exact rfl; exact rfl)
          | ((with_reducible apply K_gtr); exact rfl; exact rfl)
          | ((with_reducible apply K_geq); exact rfl; exact rfl)
          | ((with_reducible apply K_eql); exact rfl; exact rfl)
          | ((with_reducible apply K_eqlS); exact rfl; exact rfl)
          | ((with_reducible apply K_add); exact rfl; exact rfl; (first | omega | decide))
          | ((with_reducible apply K_mul); exact rfl; exact rfl; (first | omega | decide))
          | ((with_reducible apply K_addw); exact rfl; exact rfl)
          | ((with_reducible apply K_mulw); exact rfl; exact rfl)
          | ((with_reducible apply K_and3); exact rfl; exact rfl; (first | omega | decide))
          | ((with_reducible apply K_and7); exact rfl; exact rfl; (first | omega | decide))
          | ((with_reducible apply K_shrc 2); exact rfl; exact rfl; exact rfl; (first | omega | decide))
          | ((with_reducible apply K_shrc 4); exact rfl; exact rfl; exact rfl; (first | omega | decide))
          | ((with_reducible apply K_shrc 8); exact rfl; exact rfl; exact rfl; (first | omega | decide))
          | ((with_reducible apply K_and); exact rfl; exact rfl)
          | ((with_reducible apply K_shr); exact rfl; exact rfl; (first | omega | decide))
          | ((with_reducible apply K_lenS); exact rfl)
          | ((with_reducible apply K_convu64); exact rfl; (first | omega | decide))
          | ((with_reducible apply K_conv); exact rfl)
          | ((with_reducible apply K_mov_ref); exact rfl)
          | ((with_reducible apply K_mov_ptr); exact rfl)
          | ((with_reducible apply K_mov_yld); exact rfl)
        refine T_loop (fun t => Nat.beq t 0 || Nat.ble 6 t) [0, 8] (fun k : Nat => [st (flipsN s n p k), i64 k]) (fun _ => []) (fun k => k ≤ 32 ∧ ∀ i, i < k → p.testBit i = true → n + i < 8 * s.length) (32 - ·) 0 rfl ⟨by omega, fun i h => by omega⟩ rfl rfl ?_
        rintro k g ⟨hk, hin⟩
        have hl := flipsN_len s n p k
        repeat' first
          | ((with_reducible apply K_call_0 (ys := [.str (flipsN s n p k), .int .i64 ((n + k : Nat))])); exact rfl; exact cr56 (flipsN s n p k) (n + k) (by omega) (by omega); exact rfl)
          | with_reducible refine T_seq ?_
          | with_reducible refine S_ops ?_
          | with_reducible refine O_step ?_
          | ((with_reducible apply K_mov_d); exact rfl)
          | with_reducible refine O_nil ?_
          | with_reducible refine seq_n ?_
          | with_reducible refine S_skip ?_
          | ((with_reducible apply T_itet); exact rfl)
          | ((with_reducible apply T_itef); exact rfl)
          | ((with_reducible apply T_ite1); exact rfl; (first | with_reducible assumption | omega))
          | ((with_reducible apply T_ite0); exact rfl; (first | with_reducible assumption | omega))
          | ((with_reducible apply T_iteP); exact rfl; all_goals intro _)
          | with_reducible refine S_ret ?_
          | with_reducible refine seq_r ?_
          | with_reducible refine S_exit ?_
          | with_reducible refine seq_e ?_
          | with_reducible refine T_block ?_
          | with_reducible refine blk_1 ?_
          | with_reducible refine blk_0 rfl ?_
          | with_reducible refine blk_n ?_
          | with_reducible refine blk_r ?_
          | with_reducible refine rnd_r ?_
          | with_reducible refine rnd_e ?_
          | ((with_reducible apply G_skip'); exact rfl)
          | ((with_reducible apply G_1tt); exact rfl)
          | ((with_reducible apply G_1ff); exact rfl)
          | ((with_reducible apply G_0tt); exact rfl)
          | ((with_reducible apply G_0ff); exact rfl)
          | ((with_reducible apply G_1y); exact rfl; (first | with_reducible assumption | omega))
          | ((with_reducible apply G_1n); exact rfl; (first | with_reducible assumption | omega))
          | ((with_reducible apply G_0y); exact rfl; (first | with_reducible assumption | omega))
          | ((with_reducible apply G_0n); exact rfl; (first | with_reducible assumption | omega))
          | ((with_reducible apply G_1P); exact rfl; all_goals intro _)
          | ((with_reducible apply G_0P); exact rfl; all_goals intro _)
          | ((with_reducible apply K_pickt); exact rfl; exact rfl)
          | ((with_reducible apply K_pickf); exact rfl; exact rfl)
          | ((with_reducible apply K_pickT); exact rfl; (first | with_reducible assumption | omega); exact rfl)
          | ((with_reducible apply K_pickF); exact rfl; (first | with_reducible assumption | omega); exact rfl)
          | ((with_reducible apply K_lss); exact rfl; exact rfl)
          | ((with_reducible apply K_gtr); exact rfl; exact rfl)
          | ((with_reducible apply K_geq); exact rfl; exact rfl)
          | ((with_reducible apply K_eql); exact rfl; exact rfl)
          | ((with_reducible apply K_eqlS); exact rfl; exact rfl)
          | ((with_reducible apply K_add); exact rfl; exact rfl; (first | omega | decide))
          | ((with_reducible apply K_mul); exact rfl; exact rfl; (first | omega | decide))
          | ((with_reducible apply K_addw); exact rfl; exact rfl)
          | ((with_reducible apply K_mulw); exact rfl; exact rfl)
          | ((with_reducible apply K_and3); exact rfl; exact rfl; (first | omega | decide))
          | ((with_reducible apply K_and7); exact rfl; exact rfl; (first | omega | decide))
          | ((with_reducible apply K_shrc 2); exact rfl; exact rfl; exact rfl; (first | omega | decide))
          | ((with_reducible apply K_shrc 4); exact rfl; exact rfl; exact rfl; (first | omega | decide))
          | ((with_reducible apply K_shrc 8); exact rfl; exact rfl; exact rfl; (first | omega | decide))
          | ((with_reducible apply K_and); exact rfl; exact rfl)
          | ((with_reducible apply K_shr); exact rfl; exact rfl; (first | omega | decide))
          | ((with_reducible apply K_lenS); exact rfl)
          | ((with_reducible apply K_convu64); exact rfl; (first | omega | decide))
          | ((with_reducible apply K_conv); exact rfl)
          | ((with_reducible apply K_mov_ref); exact rfl)
          | ((with_reducible apply K_mov_ptr); exact rfl)
          | ((with_reducible apply K_mov_yld); exact rfl)
        · have hb := (tb32_0 (i := k) hp (by omega)).1 (by assumption)
          exact rnd_n (k + 1) ⟨⟨by omega, fun i h4 h5 => if h6 : i = k then absurd (h6 ▸ h5) hb else hin i (by omega) h5⟩, by omega⟩ (by rw [flipsN_n fun h => hb h.1]; rfl) rfl
        · have hb : p.testBit k = true := Decidable.byContradiction fun h => absurd ((tb32_0 (i := k) hp (by omega)).2 h) (by assumption)
          exact ends_si rfl (burstS_e (by rw [e1, if_neg h3, if_pos (burst_out hp hb (by omega) (by omega) (by omega))]) (by decide))
        · have hb : p.testBit k = true := Decidable.byContradiction fun h => absurd ((tb32_0 (i := k) hp (by omega)).2 h) (by assumption)
          exact rnd_n (k + 1) ⟨⟨by omega, fun i h4 h5 => if h6 : i = k then by omega else hin i (by omega) h5⟩, by omega⟩ (by rw [flipsN_y hb (by omega)]; rfl) rfl
        · have : k = 32 := by omega
          subst this
          exact ends_si rfl (burstS_0 (s := s) (f := (n : Int)) (p := p) (by rw [e1, if_neg h3, if_neg (burst_in hp (by omega) hin)]))
end Go.Abs
/- Contracts: changes by a number. -/
namespace Go.Abs
open Go.Proofs
theorem cr53 : CR Try.prog 53 [] [] (.d (.agg [.fn 70, .fn 71, .fn 72, .fn 73, .fn 74])) [] := by
  refine fn_cr fn53 (Nat.le_of_ble_eq_true rfl) rfl ?_
  unfold sc53
  repeat' first
    | with_reducible refine T_seq ?_
    | with_reducible refine S_ops ?_
    | with_reducible refine O_step ?_
    | ((with_reducible apply K_mov_d); exact rfl)
    | with_reducible refine O_nil ?_
    | with_reducible refine seq_n ?_
    | with_reducible refine S_ret ?_
    | with_reducible refine seq_r ?_
    | with_reducible refine rnd_r ?_
    | ((with_reducible apply K_mov_ref); exact rfl)
    | ((with_reducible apply K_mov_ptr); exact rfl)
    | ((with_reducible apply K_mov_agg); exact rfl)
    | ((with_reducible apply K_mov_yld); exact rfl)
    | with_reducible refine K_alloc ?_
    | ((with_reducible apply K_build_d); exact rfl; exact rfl)
    | ((with_reducible apply K_storeA_pd); exact rfl; exact rfl; exact rfl; exact rfl; (first | decide | simp))
  exact ends_dd rfl rfl
theorem cr70 (s : List UInt8) (m : Nat) (h0 : 0 < s.length) (hs : s.length ≤ 20000) (hm : m < 9223372036854775808) : CR Try.prog 70 [st s, i64 m] [] (st (kindS s m 0)) [] := by
  refine fn_cr fn70 (Nat.le_of_ble_eq_true rfl) rfl ?_
  unfold sc70
  have hlt : m % (8 * s.length) < 8 * s.length := Nat.mod_lt _ (by omega)
  repeat' first
    | ((with_reducible apply K_call_0 (ys := [.str s, .int .i64 ((m % (8 * s.length) : Nat)), .int .u32 (1 : Nat)])); exact rfl; exact cr55 s _ 1 (by omega) (by omega); exact rfl)
    | with_reducible refine T_seq ?_
    | with_reducible refine S_ops ?_
    | with_reducible refine O_step ?_
    | ((with_reducible apply K_mov_d); exact rfl)
    | with_reducible refine O_nil ?_
    | with_reducible refine seq_n ?_
    | with_reducible refine S_ret ?_
    | with_reducible refine seq_r ?_
    | with_reducible refine rnd_r ?_
    | ((with_reducible apply K_mul); exact rfl; exact rfl; (first | omega | decide))
    | ((with_reducible apply K_mulw); exact rfl; exact rfl)
    | ((with_reducible apply K_rem0); exact rfl; exact rfl; (first | omega | decide); (first | omega | decide))
    | ((with_reducible apply K_rem); exact rfl; exact rfl; (first | omega | decide))
    | ((with_reducible apply K_lenS); exact rfl)
    | ((with_reducible apply K_mov_ref); exact rfl)
    | ((with_reducible apply K_mov_ptr); exact rfl)
    | ((with_reducible apply K_mov_yld); exact rfl)
  exact ends_s rfl ((flips_one (by omega)).trans (kindS_0 s m).symm)
theorem cr71 (s : List UInt8) (m : Nat) (h0 : 0 < s.length) (hs : s.length ≤ 20000) (hm : m < 9223372036854775808) : CR Try.prog 71 [st s, i64 m] [] (st (kindS s m 1)) [] := by
  refine fn_cr fn71 (Nat.le_of_ble_eq_true rfl) rfl ?_
  unfold sc71
  have hlt : m % (8 * s.length) < 8 * s.length := Nat.mod_lt _ (by omega)
  repeat' first
    | ((with_reducible apply K_orv (patN m)); exact rfl; exact rfl; (rw [patN_eq]; exact pat_nat hm))
    | ((with_reducible apply K_call_0 (ys := [.str s, .int .i64 ((m % (8 * s.length) : Nat)), .int .u32 (patN m)])); exact rfl; exact cr55 s _ (patN m) (by omega) (patN_lt m); exact rfl)
    | with_reducible refine T_seq ?_
    | with_reducible refine S_ops ?_
    | with_reducible refine O_step ?_
    | ((with_reducible apply K_mov_d); exact rfl)
    | with_reducible refine O_nil ?_
    | with_reducible refine seq_n ?_
    | with_reducible refine S_ret ?_
    | with_reducible refine seq_r ?_
    | with_reducible refine rnd_r ?_
    | ((with_reducible apply K_add); exact rfl; exact rfl; (first | omega | decide))
    | ((with_reducible apply K_mul); exact rfl; exact rfl; (first | omega | decide))
    | ((with_reducible apply K_addw); exact rfl; exact rfl)
    | ((with_reducible apply K_mulw); exact rfl; exact rfl)
    | ((with_reducible apply K_rem0); exact rfl; exact rfl; (first | omega | decide); (first | omega | decide))
    | ((with_reducible apply K_rem); exact rfl; exact rfl; (first | omega | decide))
    | ((with_reducible apply K_or); exact rfl; exact rfl)
    | ((with_reducible apply K_lenS); exact rfl)
    | ((with_reducible apply K_convu64); exact rfl; (first | omega | decide))
    | ((with_reducible apply K_convu32); exact rfl; (first | omega | decide))
    | ((with_reducible apply K_conv); exact rfl)
    | ((with_reducible apply K_mov_ref); exact rfl)
    | ((with_reducible apply K_mov_ptr); exact rfl)
    | ((with_reducible apply K_mov_yld); exact rfl)
  exact ends_s rfl (kindS_1 s m).symm
theorem cr72 (s : List UInt8) (m : Nat) (hs : s.length ≤ 20000) (hm : m < 9223372036854775808) : CR Try.prog 72 [st s, i64 m] [] (st (kindS s m 2)) [] := by
  refine fn_cr fn72 (Nat.le_of_ble_eq_true rfl) rfl ?_
  unfold sc72
  have hlt : (m : Int) % (s.length + 1) < s.length + 1 := Int.emod_lt_of_pos _ (by omega)
  have hge : 0 ≤ (m : Int) % (s.length + 1) := Int.emod_nonneg _ (by omega)
  repeat' first
    | with_reducible refine T_seq ?_
    | with_reducible refine S_ops ?_
    | with_reducible refine O_step ?_
    | ((with_reducible apply K_mov_d); exact rfl)
    | with_reducible refine O_nil ?_
    | with_reducible refine seq_n ?_
    | with_reducible refine S_ret ?_
    | with_reducible refine seq_r ?_
    | with_reducible refine rnd_r ?_
    | ((with_reducible apply K_add); exact rfl; exact rfl; (first | omega | decide))
    | ((with_reducible apply K_addw); exact rfl; exact rfl)
    | ((with_reducible apply K_rem0); exact rfl; exact rfl; (first | omega | decide); (first | omega | decide))
    | ((with_reducible apply K_rem); exact rfl; exact rfl; (first | omega | decide))
    | ((with_reducible apply K_lenS); exact rfl)
    | ((with_reducible apply K_mov_ref); exact rfl)
    | ((with_reducible apply K_mov_ptr); exact rfl)
    | ((with_reducible apply K_mov_yld); exact rfl)
    | ((with_reducible apply K_slS_hi); exact rfl; exact rfl; (first | omega | decide))
    | ((with_reducible apply K_slS_lo); exact rfl; exact rfl; (first | omega | decide))
    | ((with_reducible apply K_slS_2); exact rfl; exact rfl; exact rfl; (first | omega | decide); (first | omega | decide))
  exact ends_s rfl (kindS_2 s m).symm
theorem u8_ofNat (m : Nat) : IntKind.u8.wrap (m : Int) = ((UInt8.ofNat m).toNat : Int) := by
  rw [IntKind.wrap_u8]; simp
theorem cr73 (s : List UInt8) (m : Nat) (hs : s.length ≤ 20000) : CR Try.prog 73 [st s, i64 m] [] (st (kindS s m 3)) [] := by
  refine fn_cr fn73 (Nat.le_of_ble_eq_true rfl) rfl ?_
  unfold sc73
  have ew := u8_ofNat m
  repeat' first
    | ((with_reducible apply K_ofBytes_ref (s := [UInt8.ofNat m])); exact rfl; (show some (0, 1, [D.int .u8 (IntKind.u8.wrap m)]) = _; rw [ew]; rfl); exact rfl)
    | ((with_reducible apply K_cat); exact rfl; exact rfl; (simp; omega))
    | with_reducible refine T_seq ?_
    | with_reducible refine S_ops ?_
    | with_reducible refine O_step ?_
    | ((with_reducible apply K_mov_d); exact rfl)
    | with_reducible refine O_nil ?_
    | with_reducible refine seq_n ?_
    | with_reducible refine S_ret ?_
    | with_reducible refine seq_r ?_
    | with_reducible refine rnd_r ?_
    | ((with_reducible apply K_add); exact rfl; exact rfl; (first | omega | decide))
    | ((with_reducible apply K_addw); exact rfl; exact rfl)
    | ((with_reducible apply K_convu8); exact rfl; (first | omega | decide))
    | ((with_reducible apply K_conv); exact rfl)
    | ((with_reducible apply K_ofBytes_ref); exact rfl; exact rfl; (first | omega | simp))
    | ((with_reducible apply K_mov_ref); exact rfl)
    | ((with_reducible apply K_mov_ptr); exact rfl)
    | ((with_reducible apply K_mov_yld); exact rfl)
    | ((with_reducible apply K_bslice); exact rfl)
  exact ends_s rfl (kindS_3 s m).symm
theorem cr74 (s : List UInt8) (m : Nat) (h0 : 0 < s.length) (hs : s.length ≤ 20000) (hm : m < 9223372036854775808) : CR Try.prog 74 [st s, i64 m] [] (st (kindS s m 4)) [] := by
  refine fn_cr fn74 (Nat.le_of_ble_eq_true rfl) rfl ?_
  unfold sc74
  have h1 : (m : Int) % s.length < s.length := Int.emod_lt_of_pos _ (by omega)
  have h2 : 0 ≤ (m : Int) % s.length := Int.emod_nonneg _ (by omega)
  have h3 : (m : Int) / 7 % s.length < s.length := Int.emod_lt_of_pos _ (by omega)
  have h4 : 0 ≤ (m : Int) / 7 % s.length := Int.emod_nonneg _ (by omega)
  repeat' first
    | with_reducible refine T_seq ?_
    | with_reducible refine S_ops ?_
    | with_reducible refine O_step ?_
    | ((with_reducible apply K_mov_d); exact rfl)
    | with_reducible refine O_nil ?_
    | with_reducible refine seq_n ?_
    | with_reducible refine S_ret ?_
    | with_reducible refine seq_r ?_
    | with_reducible refine rnd_r ?_
    | ((with_reducible apply K_quo0); exact rfl; exact rfl; (first | omega | decide); (first | omega | decide))
    | ((with_reducible apply K_rem0); exact rfl; exact rfl; (first | omega | decide); (first | omega | decide))
    | ((with_reducible apply K_quo); exact rfl; exact rfl; (first | omega | decide))
    | ((with_reducible apply K_rem); exact rfl; exact rfl; (first | omega | decide))
    | ((with_reducible apply K_len_d); exact rfl)
    | ((with_reducible apply K_len_nil); exact rfl)
    | ((with_reducible apply K_len_ref); exact rfl; exact rfl)
    | ((with_reducible apply K_bytes); exact rfl)
    | with_reducible refine S_draw0 ?_
    | with_reducible refine D_nil ?_
    | with_reducible refine D_step0 ?_
    | ((with_reducible apply K_idxA_ref); exact rfl; exact rfl; exact rfl; (first | omega | decide))
    | ((with_reducible apply K_idxA_d); exact rfl; exact rfl; (first | omega | decide))
    | ((with_reducible apply K_load1_ptr); exact rfl; exact rfl; exact rfl)
    | ((with_reducible apply K_load1_fp); exact rfl)
    | ((with_reducible apply K_load1_byte); exact rfl; exact rfl; (first | omega | decide))
    | ((with_reducible apply K_ofBytes_ref); exact rfl; exact rfl; (first | omega | simp))
    | ((with_reducible apply K_mov_ref); exact rfl)
    | ((with_reducible apply K_mov_ptr); exact rfl)
    | ((with_reducible apply K_mov_yld); exact rfl)
    | ((with_reducible apply K_store1_pd); exact rfl; exact rfl; exact rfl; (first | decide | simp); exact rfl)
    | ((with_reducible apply K_store1_pr); exact rfl; exact rfl; exact rfl; (first | decide | simp))
  have e1 : 0 + ((m : Int) % s.length).toNat = m % s.length := by
    rw [show (m : Int) % s.length = ((m % s.length : Nat) : Int) from rfl]; omega
  have e2 : 0 + ((m : Int) / 7 % s.length).toNat = m / 7 % s.length := by
    rw [show (m : Int) / 7 % s.length = ((m / 7 % s.length : Nat) : Int) from rfl]; omega
  have h5 : m % s.length < s.length := Nat.mod_lt _ h0
  have h6 : m / 7 % s.length < s.length := Nat.mod_lt _ h0
  refine K_store1_byte (s.getD (m / 7 % s.length) 0) rfl rfl rfl (by omega) (by rw [e2]) ?_
  rw [e1]
  repeat' first
    | with_reducible refine T_seq ?_
    | with_reducible refine S_ops ?_
    | with_reducible refine O_step ?_
    | ((with_reducible apply K_mov_d); exact rfl)
    | with_reducible refine O_nil ?_
    | with_reducible refine seq_n ?_
    | with_reducible refine S_ret ?_
    | with_reducible refine seq_r ?_
    | with_reducible refine rnd_r ?_
    | ((with_reducible apply K_quo0); exact rfl; exact rfl; (first | omega | decide); (first | omega | decide))
    | ((with_reducible apply K_rem0); exact rfl; exact rfl; (first | omega | decide); (first | omega | decide))
    | ((with_reducible apply K_quo); exact rfl; exact rfl; (first | omega | decide))
    | ((with_reducible apply K_rem); exact rfl; exact rfl; (first | omega | decide))
    | ((with_reducible apply K_len_d); exact rfl)
    | ((with_reducible apply K_len_nil); exact rfl)
    | ((with_reducible apply K_len_ref); exact rfl; exact rfl)
    | ((with_reducible apply K_bytes); exact rfl)
    | with_reducible refine S_draw0 ?_
    | with_reducible refine D_nil ?_
    | with_reducible refine D_step0 ?_
    | ((with_reducible apply K_idxA_ref); exact rfl; exact rfl; exact rfl; (first | omega | decide))
    | ((with_reducible apply K_idxA_d); exact rfl; exact rfl; (first | omega | decide))
    | ((with_reducible apply K_load1_ptr); exact rfl; exact rfl; exact rfl)
    | ((with_reducible apply K_load1_fp); exact rfl)
    | ((with_reducible apply K_load1_byte); exact rfl; exact rfl; (first | omega | decide))
    | ((with_reducible apply K_ofBytes_ref); exact rfl; exact rfl; (first | omega | simp))
    | ((with_reducible apply K_mov_ref); exact rfl)
    | ((with_reducible apply K_mov_ptr); exact rfl)
    | ((with_reducible apply K_mov_yld); exact rfl)
    | ((with_reducible apply K_store1_pd); exact rfl; exact rfl; exact rfl; (first | decide | simp); exact rfl)
    | ((with_reducible apply K_store1_pr); exact rfl; exact rfl; exact rfl; (first | decide | simp))
  refine K_store1_byte (s.getD (m % s.length) 0) rfl rfl rfl (by simp; omega) rfl ?_
  rw [e2]
  repeat' first
    | ((with_reducible apply K_ofBytes_ref (s := swap s (m % s.length) (m / 7 % s.length))); exact rfl; exact rfl; (simp [swap]))
    | with_reducible refine T_seq ?_
    | with_reducible refine S_ops ?_
    | with_reducible refine O_step ?_
    | ((with_reducible apply K_mov_d); exact rfl)
    | with_reducible refine O_nil ?_
    | with_reducible refine seq_n ?_
    | with_reducible refine S_ret ?_
    | with_reducible refine seq_r ?_
    | with_reducible refine rnd_r ?_
    | ((with_reducible apply K_quo0); exact rfl; exact rfl; (first | omega | decide); (first | omega | decide))
    | ((with_reducible apply K_rem0); exact rfl; exact rfl; (first | omega | decide); (first | omega | decide))
    | ((with_reducible apply K_quo); exact rfl; exact rfl; (first | omega | decide))
    | ((with_reducible apply K_rem); exact rfl; exact rfl; (first | omega | decide))
    | ((with_reducible apply K_len_d); exact rfl)
    | ((with_reducible apply K_len_nil); exact rfl)
    | ((with_reducible apply K_len_ref); exact rfl; exact rfl)
    | ((with_reducible apply K_bytes); exact rfl)
    | with_reducible refine S_draw0 ?_
    | with_reducible refine D_nil ?_
    | with_reducible refine D_step0 ?_
    | ((with_reducible apply K_idxA_ref); exact rfl; exact rfl; exact rfl; (first | omega | decide))
    | ((with_reducible apply K_idxA_d); exact rfl; exact rfl; (first | omega | decide))
    | ((with_reducible apply K_load1_ptr); exact rfl; exact rfl; exact rfl)
    | ((with_reducible apply K_load1_fp); exact rfl)
    | ((with_reducible apply K_load1_byte); exact rfl; exact rfl; (first | omega | decide))
    | ((with_reducible apply K_ofBytes_ref); exact rfl; exact rfl; (first | omega | simp))
    | ((with_reducible apply K_mov_ref); exact rfl)
    | ((with_reducible apply K_mov_ptr); exact rfl)
    | ((with_reducible apply K_mov_yld); exact rfl)
    | ((with_reducible apply K_store1_pd); exact rfl; exact rfl; exact rfl; (first | decide | simp); exact rfl)
    | ((with_reducible apply K_store1_pr); exact rfl; exact rfl; exact rfl; (first | decide | simp))
  exact ends_s rfl (kindS_4 s m).symm
end Go.Abs
/- Contracts: changes; the first law. -/
namespace Go.Abs
open Go.Proofs
theorem cr15 (s : List UInt8) (n : Int) (hn : n < 9223372036854775808) : CR Try.prog 15 [st s, i64 n] [] (.tup [st (changeS s n).1, i64 (changeS s n).2]) [] := by
  refine fn_cr fn15 (Nat.le_of_ble_eq_true rfl) rfl ?_
  unfold sc15
  by_cases h : s.length > 20000
  · have e1 : longS s = 4 := if_pos h
    rw [show changeS s n = ([], 4) from if_pos h]
    repeat' first
      | ((with_reducible apply K_call_0 (ys := [.str s])); exact rfl; exact cr52 s; exact rfl)
      | with_reducible refine T_seq ?_
      | with_reducible refine S_ops ?_
      | with_reducible refine O_step ?_
      | ((with_reducible apply K_mov_d); exact rfl)
      | with_reducible refine O_nil ?_
      | with_reducible refine seq_n ?_
      | with_reducible refine S_skip ?_
      | ((with_reducible apply T_itet); exact rfl)
      | ((with_reducible apply T_itef); exact rfl)
      | ((with_reducible apply T_ite1); exact rfl; (first | with_reducible assumption | omega))
      | ((with_reducible apply T_ite0); exact rfl; (first | with_reducible assumption | omega))
      | ((with_reducible apply T_iteP); exact rfl; all_goals intro _)
      | with_reducible refine S_ret ?_
      | with_reducible refine seq_r ?_
      | with_reducible refine rnd_r ?_
      | ((with_reducible apply G_skip'); exact rfl)
      | ((with_reducible apply G_1tt); exact rfl)
      | ((with_reducible apply G_1ff); exact rfl)
      | ((with_reducible apply G_0tt); exact rfl)
      | ((with_reducible apply G_0ff); exact rfl)
      | ((with_reducible apply G_1y); exact rfl; (first | with_reducible assumption | omega))
      | ((with_reducible apply G_1n); exact rfl; (first | with_reducible assumption | omega))
      | ((with_reducible apply G_0y); exact rfl; (first | with_reducible assumption | omega))
      | ((with_reducible apply G_0n); exact rfl; (first | with_reducible assumption | omega))
      | ((with_reducible apply G_1P); exact rfl; all_goals intro _)
      | ((with_reducible apply G_0P); exact rfl; all_goals intro _)
      | ((with_reducible apply K_pickt); exact rfl; exact rfl)
      | ((with_reducible apply K_pickf); exact rfl; exact rfl)
      | ((with_reducible apply K_pickT); exact rfl; (first | with_reducible assumption | omega); exact rfl)
      | ((with_reducible apply K_pickF); exact rfl; (first | with_reducible assumption | omega); exact rfl)
      | ((with_reducible apply K_lss); exact rfl; exact rfl)
      | ((with_reducible apply K_eql); exact rfl; exact rfl)
      | ((with_reducible apply K_neq); exact rfl; exact rfl)
      | ((with_reducible apply K_eqlS); exact rfl; exact rfl)
      | ((with_reducible apply K_neqS); exact rfl; exact rfl)
      | ((with_reducible apply K_quo0); exact rfl; exact rfl; (first | omega | decide); (first | omega | decide))
      | ((with_reducible apply K_rem0); exact rfl; exact rfl; (first | omega | decide); (first | omega | decide))
      | ((with_reducible apply K_quo); exact rfl; exact rfl; (first | omega | decide))
      | ((with_reducible apply K_rem); exact rfl; exact rfl; (first | omega | decide))
      | ((with_reducible apply K_mov_ref); exact rfl)
      | ((with_reducible apply K_mov_ptr); exact rfl)
      | ((with_reducible apply K_mov_yld); exact rfl)
      | ((with_reducible apply K_idxG_d); exact rfl; exact rfl; exact rfl; (first | omega | decide))
    exact ends_si rfl (by rw [e1])
  have e1 : longS s = 0 := if_neg h
  by_cases h2 : n < 0
  · rw [show changeS s n = ([], 2) from (if_neg h).trans (if_pos h2)]
    repeat' first
      | ((with_reducible apply K_call_0 (ys := [.str s])); exact rfl; exact cr52 s; exact rfl)
      | with_reducible refine T_seq ?_
      | with_reducible refine S_ops ?_
      | with_reducible refine O_step ?_
      | ((with_reducible apply K_mov_d); exact rfl)
      | with_reducible refine O_nil ?_
      | with_reducible refine seq_n ?_
      | with_reducible refine S_skip ?_
      | ((with_reducible apply T_itet); exact rfl)
      | ((with_reducible apply T_itef); exact rfl)
      | ((with_reducible apply T_ite1); exact rfl; (first | with_reducible assumption | omega))
      | ((with_reducible apply T_ite0); exact rfl; (first | with_reducible assumption | omega))
      | ((with_reducible apply T_iteP); exact rfl; all_goals intro _)
      | with_reducible refine S_ret ?_
      | with_reducible refine seq_r ?_
      | with_reducible refine rnd_r ?_
      | ((with_reducible apply G_skip'); exact rfl)
      | ((with_reducible apply G_1tt); exact rfl)
      | ((with_reducible apply G_1ff); exact rfl)
      | ((with_reducible apply G_0tt); exact rfl)
      | ((with_reducible apply G_0ff); exact rfl)
      | ((with_reducible apply G_1y); exact rfl; (first | with_reducible assumption | omega))
      | ((with_reducible apply G_1n); exact rfl; (first | with_reducible assumption | omega))
      | ((with_reducible apply G_0y); exact rfl; (first | with_reducible assumption | omega))
      | ((with_reducible apply G_0n); exact rfl; (first | with_reducible assumption | omega))
      | ((with_reducible apply G_1P); exact rfl; all_goals intro _)
      | ((with_reducible apply G_0P); exact rfl; all_goals intro _)
      | ((with_reducible apply K_pickt); exact rfl; exact rfl)
      | ((with_reducible apply K_pickf); exact rfl; exact rfl)
      | ((with_reducible apply K_pickT); exact rfl; (first | with_reducible assumption | omega); exact rfl)
      | ((with_reducible apply K_pickF); exact rfl; (first | with_reducible assumption | omega); exact rfl)
      | ((with_reducible apply K_lss); exact rfl; exact rfl)
      | ((with_reducible apply K_eql); exact rfl; exact rfl)
      | ((with_reducible apply K_neq); exact rfl; exact rfl)
      | ((with_reducible apply K_eqlS); exact rfl; exact rfl)
      | ((with_reducible apply K_neqS); exact rfl; exact rfl)
      | ((with_reducible apply K_quo0); exact rfl; exact rfl; (first | omega | decide); (first | omega | decide))
      | ((with_reducible apply K_rem0); exact rfl; exact rfl; (first | omega | decide); (first | omega | decide))
      | ((with_reducible apply K_quo); exact rfl; exact rfl; (first | omega | decide))
      | ((with_reducible apply K_rem); exact rfl; exact rfl; (first | omega | decide))
      | ((with_reducible apply K_mov_ref); exact rfl)
      | ((with_reducible apply K_mov_ptr); exact rfl)
      | ((with_reducible apply K_mov_yld); exact rfl)
      | ((with_reducible apply K_idxG_d); exact rfl; exact rfl; exact rfl; (first | omega | decide))
    exact ends_si rfl rfl
  rw [changeS_len (by omega) (by omega)]
  obtain ⟨m, rfl⟩ : ∃ m : Nat, n = m := ⟨n.toNat, by omega⟩
  rw [Int.toNat_natCast]
  by_cases h3 : s = [] ∧ m % 5 ≠ 2 ∧ m % 5 ≠ 3
  · rw [if_pos h3]
    have h4 := h3.1
    repeat' first
      | ((with_reducible apply K_call_0 (ys := [.str s])); exact rfl; exact cr52 s; exact rfl)
      | with_reducible refine T_seq ?_
      | with_reducible refine S_ops ?_
      | with_reducible refine O_step ?_
      | ((with_reducible apply K_mov_d); exact rfl)
      | with_reducible refine O_nil ?_
      | with_reducible refine seq_n ?_
      | with_reducible refine S_skip ?_
      | ((with_reducible apply T_itet); exact rfl)
      | ((with_reducible apply T_itef); exact rfl)
      | ((with_reducible apply T_ite1); exact rfl; (first | with_reducible assumption | omega))
      | ((with_reducible apply T_ite0); exact rfl; (first | with_reducible assumption | omega))
      | ((with_reducible apply T_iteP); exact rfl; all_goals intro _)
      | with_reducible refine S_ret ?_
      | with_reducible refine seq_r ?_
      | with_reducible refine rnd_r ?_
      | ((with_reducible apply G_skip'); exact rfl)
      | ((with_reducible apply G_1tt); exact rfl)
      | ((with_reducible apply G_1ff); exact rfl)
      | ((with_reducible apply G_0tt); exact rfl)
      | ((with_reducible apply G_0ff); exact rfl)
      | ((with_reducible apply G_1y); exact rfl; (first | with_reducible assumption | omega))
      | ((with_reducible apply G_1n); exact rfl; (first | with_reducible assumption | omega))
      | ((with_reducible apply G_0y); exact rfl; (first | with_reducible assumption | omega))
      | ((with_reducible apply G_0n); exact rfl; (first | with_reducible assumption | omega))
      | ((with_reducible apply G_1P); exact rfl; all_goals intro _)
      | ((with_reducible apply G_0P); exact rfl; all_goals intro _)
      | ((with_reducible apply K_pickt); exact rfl; exact rfl)
      | ((with_reducible apply K_pickf); exact rfl; exact rfl)
      | ((with_reducible apply K_pickT); exact rfl; (first | with_reducible assumption | omega); exact rfl)
      | ((with_reducible apply K_pickF); exact rfl; (first | with_reducible assumption | omega); exact rfl)
      | ((with_reducible apply K_lss); exact rfl; exact rfl)
      | ((with_reducible apply K_eql); exact rfl; exact rfl)
      | ((with_reducible apply K_neq); exact rfl; exact rfl)
      | ((with_reducible apply K_eqlS); exact rfl; exact rfl)
      | ((with_reducible apply K_neqS); exact rfl; exact rfl)
      | ((with_reducible apply K_quo0); exact rfl; exact rfl; (first | omega | decide); (first | omega | decide))
      | ((with_reducible apply K_rem0); exact rfl; exact rfl; (first | omega | decide); (first | omega | decide))
      | ((with_reducible apply K_quo); exact rfl; exact rfl; (first | omega | decide))
      | ((with_reducible apply K_rem); exact rfl; exact rfl; (first | omega | decide))
      | ((with_reducible apply K_mov_ref); exact rfl)
      | ((with_reducible apply K_mov_ptr); exact rfl)
      | ((with_reducible apply K_mov_yld); exact rfl)
      | ((with_reducible apply K_idxG_d); exact rfl; exact rfl; exact rfl; (first | omega | decide))
    exact ends_si rfl rfl
  rw [if_neg h3]
  have h0 : m % 5 ≠ 2 → m % 5 ≠ 3 → 0 < s.length := fun h5 h6 => by
    rcases Nat.eq_zero_or_pos s.length with h7 | h7
    · exact absurd ⟨List.length_eq_zero_iff.1 h7, h5, h6⟩ h3
    · exact h7
  have hcase : m % 5 = 0 ∨ m % 5 = 1 ∨ m % 5 = 2 ∨ m % 5 = 3 ∨ m % 5 = 4 := by omega
  rcases hcase with hk | hk | hk | hk | hk
  · have hk' : (m : Int) % 5 = 0 := by omega
    have hne : ¬ s = [] := fun e => by have := h0 (by omega) (by omega); rw [e] at this; simp at this
    rw [hk]
    repeat' first
      | ((with_reducible apply K_call_0 (ys := [.str s])); exact rfl; exact cr52 s; exact rfl)
      | ((with_reducible apply K_remv 0); exact rfl; exact rfl; omega; omega; exact hk')
      | ((with_reducible apply K_call_0 (ys := [])); exact rfl; exact cr53; exact rfl)
      | ((with_reducible apply K_callV_0 (ys := [.str s, .int .i64 ((m / 5 : Nat))])); exact rfl; exact rfl; exact cr70 s (m / 5) (h0 (by omega) (by omega)) (by omega) (by omega); exact rfl)
      | with_reducible refine T_seq ?_
      | with_reducible refine S_ops ?_
      | with_reducible refine O_step ?_
      | ((with_reducible apply K_mov_d); exact rfl)
      | with_reducible refine O_nil ?_
      | with_reducible refine seq_n ?_
      | with_reducible refine S_skip ?_
      | ((with_reducible apply T_itet); exact rfl)
      | ((with_reducible apply T_itef); exact rfl)
      | ((with_reducible apply T_ite1); exact rfl; (first | with_reducible assumption | omega))
      | ((with_reducible apply T_ite0); exact rfl; (first | with_reducible assumption | omega))
      | ((with_reducible apply T_iteP); exact rfl; all_goals intro _)
      | with_reducible refine S_ret ?_
      | with_reducible refine seq_r ?_
      | with_reducible refine rnd_r ?_
      | ((with_reducible apply G_skip'); exact rfl)
      | ((with_reducible apply G_1tt); exact rfl)
      | ((with_reducible apply G_1ff); exact rfl)
      | ((with_reducible apply G_0tt); exact rfl)
      | ((with_reducible apply G_0ff); exact rfl)
      | ((with_reducible apply G_1y); exact rfl; (first | with_reducible assumption | omega))
      | ((with_reducible apply G_1n); exact rfl; (first | with_reducible assumption | omega))
      | ((with_reducible apply G_0y); exact rfl; (first | with_reducible assumption | omega))
      | ((with_reducible apply G_0n); exact rfl; (first | with_reducible assumption | omega))
      | ((with_reducible apply G_1P); exact rfl; all_goals intro _)
      | ((with_reducible apply G_0P); exact rfl; all_goals intro _)
      | ((with_reducible apply K_pickt); exact rfl; exact rfl)
      | ((with_reducible apply K_pickf); exact rfl; exact rfl)
      | ((with_reducible apply K_pickT); exact rfl; (first | with_reducible assumption | omega); exact rfl)
      | ((with_reducible apply K_pickF); exact rfl; (first | with_reducible assumption | omega); exact rfl)
      | ((with_reducible apply K_lss); exact rfl; exact rfl)
      | ((with_reducible apply K_eql); exact rfl; exact rfl)
      | ((with_reducible apply K_neq); exact rfl; exact rfl)
      | ((with_reducible apply K_eqlS); exact rfl; exact rfl)
      | ((with_reducible apply K_neqS); exact rfl; exact rfl)
      | ((with_reducible apply K_quo0); exact rfl; exact rfl; (first | omega | decide); (first | omega | decide))
      | ((with_reducible apply K_rem0); exact rfl; exact rfl; (first | omega | decide); (first | omega | decide))
      | ((with_reducible apply K_quo); exact rfl; exact rfl; (first | omega | decide))
      | ((with_reducible apply K_rem); exact rfl; exact rfl; (first | omega | decide))
      | ((with_reducible apply K_mov_ref); exact rfl)
      | ((with_reducible apply K_mov_ptr); exact rfl)
      | ((with_reducible apply K_mov_yld); exact rfl)
      | ((with_reducible apply K_idxG_d); exact rfl; exact rfl; exact rfl; (first | omega | decide))
    exact ends_si rfl rfl
  · have hk' : (m : Int) % 5 = 1 := by omega
    have hne : ¬ s = [] := fun e => by have := h0 (by omega) (by omega); rw [e] at this; simp at this
    rw [hk]
    repeat' first
      | ((with_reducible apply K_call_0 (ys := [.str s])); exact rfl; exact cr52 s; exact rfl)
      | ((with_reducible apply K_remv 1); exact rfl; exact rfl; omega; omega; exact hk')
      | ((with_reducible apply K_call_0 (ys := [])); exact rfl; exact cr53; exact rfl)
      | ((with_reducible apply K_callV_0 (ys := [.str s, .int .i64 ((m / 5 : Nat))])); exact rfl; exact rfl; exact cr71 s (m / 5) (h0 (by omega) (by omega)) (by omega) (by omega); exact rfl)
      | with_reducible refine T_seq ?_
      | with_reducible refine S_ops ?_
      | with_reducible refine O_step ?_
      | ((with_reducible apply K_mov_d); exact rfl)
      | with_reducible refine O_nil ?_
      | with_reducible refine seq_n ?_
      | with_reducible refine S_skip ?_
      | ((with_reducible apply T_itet); exact rfl)
      | ((with_reducible apply T_itef); exact rfl)
      | ((with_reducible apply T_ite1); exact rfl; (first | with_reducible assumption | omega))
      | ((with_reducible apply T_ite0); exact rfl; (first | with_reducible assumption | omega))
      | ((with_reducible apply T_iteP); exact rfl; all_goals intro _)
      | with_reducible refine S_ret ?_
      | with_reducible refine seq_r ?_
      | with_reducible refine rnd_r ?_
      | ((with_reducible apply G_skip'); exact rfl)
      | ((with_reducible apply G_1tt); exact rfl)
      | ((with_reducible apply G_1ff); exact rfl)
      | ((with_reducible apply G_0tt); exact rfl)
      | ((with_reducible apply G_0ff); exact rfl)
      | ((with_reducible apply G_1y); exact rfl; (first | with_reducible assumption | omega))
      | ((with_reducible apply G_1n); exact rfl; (first | with_reducible assumption | omega))
      | ((with_reducible apply G_0y); exact rfl; (first | with_reducible assumption | omega))
      | ((with_reducible apply G_0n); exact rfl; (first | with_reducible assumption | omega))
      | ((with_reducible apply G_1P); exact rfl; all_goals intro _)
      | ((with_reducible apply G_0P); exact rfl; all_goals intro _)
      | ((with_reducible apply K_pickt); exact rfl; exact rfl)
      | ((with_reducible apply K_pickf); exact rfl; exact rfl)
      | ((with_reducible apply K_pickT); exact rfl; (first | with_reducible assumption | omega); exact rfl)
      | ((with_reducible apply K_pickF); exact rfl; (first | with_reducible assumption | omega); exact rfl)
      | ((with_reducible apply K_lss); exact rfl; exact rfl)
      | ((with_reducible apply K_eql); exact rfl; exact rfl)
      | ((with_reducible apply K_neq); exact rfl; exact rfl)
      | ((with_reducible apply K_eqlS); exact rfl; exact rfl)
      | ((with_reducible apply K_neqS); exact rfl; exact rfl)
      | ((with_reducible apply K_quo0); exact rfl; exact rfl; (first | omega | decide); (first | omega | decide))
      | ((with_reducible apply K_rem0); exact rfl; exact rfl; (first | omega | decide); (first | omega | decide))
      | ((with_reducible apply K_quo); exact rfl; exact rfl; (first | omega | decide))
      | ((with_reducible apply K_rem); exact rfl; exact rfl; (first | omega | decide))
      | ((with_reducible apply K_mov_ref); exact rfl)
      | ((with_reducible apply K_mov_ptr); exact rfl)
      | ((with_reducible apply K_mov_yld); exact rfl)
      | ((with_reducible apply K_idxG_d); exact rfl; exact rfl; exact rfl; (first | omega | decide))
    exact ends_si rfl rfl
  · have hk' : (m : Int) % 5 = 2 := by omega
    rw [hk]
    repeat' first
      | ((with_reducible apply K_call_0 (ys := [.str s])); exact rfl; exact cr52 s; exact rfl)
      | ((with_reducible apply K_remv 2); exact rfl; exact rfl; omega; omega; exact hk')
      | ((with_reducible apply K_call_0 (ys := [])); exact rfl; exact cr53; exact rfl)
      | ((with_reducible apply K_callV_0 (ys := [.str s, .int .i64 ((m / 5 : Nat))])); exact rfl; exact rfl; exact cr72 s (m / 5) (by omega) (by omega); exact rfl)
      | with_reducible refine T_seq ?_
      | with_reducible refine S_ops ?_
      | with_reducible refine O_step ?_
      | ((with_reducible apply K_mov_d); exact rfl)
      | with_reducible refine O_nil ?_
      | with_reducible refine seq_n ?_
      | with_reducible refine S_skip ?_
      | ((with_reducible apply T_itet); exact rfl)
      | ((with_reducible apply T_itef); exact rfl)
      | ((with_reducible apply T_ite1); exact rfl; (first | with_reducible assumption | omega))
      | ((with_reducible apply T_ite0); exact rfl; (first | with_reducible assumption | omega))
      | ((with_reducible apply T_iteP); exact rfl; all_goals intro _)
      | with_reducible refine S_ret ?_
      | with_reducible refine seq_r ?_
      | with_reducible refine rnd_r ?_
      | ((with_reducible apply G_skip'); exact rfl)
      | ((with_reducible apply G_1tt); exact rfl)
      | ((with_reducible apply G_1ff); exact rfl)
      | ((with_reducible apply G_0tt); exact rfl)
      | ((with_reducible apply G_0ff); exact rfl)
      | ((with_reducible apply G_1y); exact rfl; (first | with_reducible assumption | omega))
      | ((with_reducible apply G_1n); exact rfl; (first | with_reducible assumption | omega))
      | ((with_reducible apply G_0y); exact rfl; (first | with_reducible assumption | omega))
      | ((with_reducible apply G_0n); exact rfl; (first | with_reducible assumption | omega))
      | ((with_reducible apply G_1P); exact rfl; all_goals intro _)
      | ((with_reducible apply G_0P); exact rfl; all_goals intro _)
      | ((with_reducible apply K_pickt); exact rfl; exact rfl)
      | ((with_reducible apply K_pickf); exact rfl; exact rfl)
      | ((with_reducible apply K_pickT); exact rfl; (first | with_reducible assumption | omega); exact rfl)
      | ((with_reducible apply K_pickF); exact rfl; (first | with_reducible assumption | omega); exact rfl)
      | ((with_reducible apply K_lss); exact rfl; exact rfl)
      | ((with_reducible apply K_eql); exact rfl; exact rfl)
      | ((with_reducible apply K_neq); exact rfl; exact rfl)
      | ((with_reducible apply K_eqlS); exact rfl; exact rfl)
      | ((with_reducible apply K_neqS); exact rfl; exact rfl)
      | ((with_reducible apply K_quo0); exact rfl; exact rfl; (first | omega | decide); (first | omega | decide))
      | ((with_reducible apply K_rem0); exact rfl; exact rfl; (first | omega | decide); (first | omega | decide))
      | ((with_reducible apply K_quo); exact rfl; exact rfl; (first | omega | decide))
      | ((with_reducible apply K_rem); exact rfl; exact rfl; (first | omega | decide))
      | ((with_reducible apply K_mov_ref); exact rfl)
      | ((with_reducible apply K_mov_ptr); exact rfl)
      | ((with_reducible apply K_mov_yld); exact rfl)
      | ((with_reducible apply K_idxG_d); exact rfl; exact rfl; exact rfl; (first | omega | decide))
    all_goals exact ends_si rfl rfl
  · have hk' : (m : Int) % 5 = 3 := by omega
    rw [hk]
    repeat' first
      | ((with_reducible apply K_call_0 (ys := [.str s])); exact rfl; exact cr52 s; exact rfl)
      | ((with_reducible apply K_remv 3); exact rfl; exact rfl; omega; omega; exact hk')
      | ((with_reducible apply K_call_0 (ys := [])); exact rfl; exact cr53; exact rfl)
      | ((with_reducible apply K_callV_0 (ys := [.str s, .int .i64 ((m / 5 : Nat))])); exact rfl; exact rfl; exact cr73 s (m / 5) (by omega); exact rfl)
      | with_reducible refine T_seq ?_
      | with_reducible refine S_ops ?_
      | with_reducible refine O_step ?_
      | ((with_reducible apply K_mov_d); exact rfl)
      | with_reducible refine O_nil ?_
      | with_reducible refine seq_n ?_
      | with_reducible refine S_skip ?_
      | ((with_reducible apply T_itet); exact rfl)
      | ((with_reducible apply T_itef); exact rfl)
      | ((with_reducible apply T_ite1); exact rfl; (first | with_reducible assumption | omega))
      | ((with_reducible apply T_ite0); exact rfl; (first | with_reducible assumption | omega))
      | ((with_reducible apply T_iteP); exact rfl; all_goals intro _)
      | with_reducible refine S_ret ?_
      | with_reducible refine seq_r ?_
      | with_reducible refine rnd_r ?_
      | ((with_reducible apply G_skip'); exact rfl)
      | ((with_reducible apply G_1tt); exact rfl)
      | ((with_reducible apply G_1ff); exact rfl)
      | ((with_reducible apply G_0tt); exact rfl)
      | ((with_reducible apply G_0ff); exact rfl)
      | ((with_reducible apply G_1y); exact rfl; (first | with_reducible assumption | omega))
      | ((with_reducible apply G_1n); exact rfl; (first | with_reducible assumption | omega))
      | ((with_reducible apply G_0y); exact rfl; (first | with_reducible assumption | omega))
      | ((with_reducible apply G_0n); exact rfl; (first | with_reducible assumption | omega))
      | ((with_reducible apply G_1P); exact rfl; all_goals intro _)
      | ((with_reducible apply G_0P); exact rfl; all_goals intro _)
      | ((with_reducible apply K_pickt); exact rfl; exact rfl)
      | ((with_reducible apply K_pickf); exact rfl; exact rfl)
      | ((with_reducible apply K_pickT); exact rfl; (first | with_reducible assumption | omega); exact rfl)
      | ((with_reducible apply K_pickF); exact rfl; (first | with_reducible assumption | omega); exact rfl)
      | ((with_reducible apply K_lss); exact rfl; exact rfl)
      | ((with_reducible apply K_eql); exact rfl; exact rfl)
      | ((with_reducible apply K_neq); exact rfl; exact rfl)
      | ((with_reducible apply K_eqlS); exact rfl; exact rfl)
      | ((with_reducible apply K_neqS); exact rfl; exact rfl)
      | ((with_reducible apply K_quo0); exact rfl; exact rfl; (first | omega | decide); (first | omega | decide))
      | ((with_reducible apply K_rem0); exact rfl; exact rfl; (first | omega | decide); (first | omega | decide))
      | ((with_reducible apply K_quo); exact rfl; exact rfl; (first | omega | decide))
      | ((with_reducible apply K_rem); exact rfl; exact rfl; (first | omega | decide))
      | ((with_reducible apply K_mov_ref); exact rfl)
      | ((with_reducible apply K_mov_ptr); exact rfl)
      | ((with_reducible apply K_mov_yld); exact rfl)
      | ((with_reducible apply K_idxG_d); exact rfl; exact rfl; exact rfl; (first | omega | decide))
    all_goals exact ends_si rfl rfl
  · have hk' : (m : Int) % 5 = 4 := by omega
    have hne : ¬ s = [] := fun e => by have := h0 (by omega) (by omega); rw [e] at this; simp at this
    rw [hk]
    repeat' first
      | ((with_reducible apply K_call_0 (ys := [.str s])); exact rfl; exact cr52 s; exact rfl)
      | ((with_reducible apply K_remv 4); exact rfl; exact rfl; omega; omega; exact hk')
      | ((with_reducible apply K_call_0 (ys := [])); exact rfl; exact cr53; exact rfl)
      | ((with_reducible apply K_callV_0 (ys := [.str s, .int .i64 ((m / 5 : Nat))])); exact rfl; exact rfl; exact cr74 s (m / 5) (h0 (by omega) (by omega)) (by omega) (by omega); exact rfl)
      | with_reducible refine T_seq ?_
      | with_reducible refine S_ops ?_
      | with_reducible refine O_step ?_
      | ((with_reducible apply K_mov_d); exact rfl)
      | with_reducible refine O_nil ?_
      | with_reducible refine seq_n ?_
      | with_reducible refine S_skip ?_
      | ((with_reducible apply T_itet); exact rfl)
      | ((with_reducible apply T_itef); exact rfl)
      | ((with_reducible apply T_ite1); exact rfl; (first | with_reducible assumption | omega))
      | ((with_reducible apply T_ite0); exact rfl; (first | with_reducible assumption | omega))
      | ((with_reducible apply T_iteP); exact rfl; all_goals intro _)
      | with_reducible refine S_ret ?_
      | with_reducible refine seq_r ?_
      | with_reducible refine rnd_r ?_
      | ((with_reducible apply G_skip'); exact rfl)
      | ((with_reducible apply G_1tt); exact rfl)
      | ((with_reducible apply G_1ff); exact rfl)
      | ((with_reducible apply G_0tt); exact rfl)
      | ((with_reducible apply G_0ff); exact rfl)
      | ((with_reducible apply G_1y); exact rfl; (first | with_reducible assumption | omega))
      | ((with_reducible apply G_1n); exact rfl; (first | with_reducible assumption | omega))
      | ((with_reducible apply G_0y); exact rfl; (first | with_reducible assumption | omega))
      | ((with_reducible apply G_0n); exact rfl; (first | with_reducible assumption | omega))
      | ((with_reducible apply G_1P); exact rfl; all_goals intro _)
      | ((with_reducible apply G_0P); exact rfl; all_goals intro _)
      | ((with_reducible apply K_pickt); exact rfl; exact rfl)
      | ((with_reducible apply K_pickf); exact rfl; exact rfl)
      | ((with_reducible apply K_pickT); exact rfl; (first | with_reducible assumption | omega); exact rfl)
      | ((with_reducible apply K_pickF); exact rfl; (first | with_reducible assumption | omega); exact rfl)
      | ((with_reducible apply K_lss); exact rfl; exact rfl)
      | ((with_reducible apply K_eql); exact rfl; exact rfl)
      | ((with_reducible apply K_neq); exact rfl; exact rfl)
      | ((with_reducible apply K_eqlS); exact rfl; exact rfl)
      | ((with_reducible apply K_neqS); exact rfl; exact rfl)
      | ((with_reducible apply K_quo0); exact rfl; exact rfl; (first | omega | decide); (first | omega | decide))
      | ((with_reducible apply K_rem0); exact rfl; exact rfl; (first | omega | decide); (first | omega | decide))
      | ((with_reducible apply K_quo); exact rfl; exact rfl; (first | omega | decide))
      | ((with_reducible apply K_rem); exact rfl; exact rfl; (first | omega | decide))
      | ((with_reducible apply K_mov_ref); exact rfl)
      | ((with_reducible apply K_mov_ptr); exact rfl)
      | ((with_reducible apply K_mov_yld); exact rfl)
      | ((with_reducible apply K_idxG_d); exact rfl; exact rfl; exact rfl; (first | omega | decide))
    exact ends_si rfl rfl
theorem cr14 (n m : Int) (hm : m < 4611686018427387904) : CR Try.prog 14 [i64 n, i64 m] [] (i64 (modS n m)) [] := by
  refine fn_cr fn14 (Nat.le_of_ble_eq_true rfl) rfl ?_
  unfold sc14
  by_cases h : m < 1
  · rw [show modS n m = 0 from if_pos h]
    repeat' first
      | with_reducible refine T_seq ?_
      | with_reducible refine S_ops ?_
      | with_reducible refine O_step ?_
      | ((with_reducible apply K_mov_d); exact rfl)
      | with_reducible refine O_nil ?_
      | with_reducible refine seq_n ?_
      | with_reducible refine S_skip ?_
      | ((with_reducible apply T_itet); exact rfl)
      | ((with_reducible apply T_itef); exact rfl)
      | ((with_reducible apply T_ite1); exact rfl; (first | with_reducible assumption | omega))
      | ((with_reducible apply T_ite0); exact rfl; (first | with_reducible assumption | omega))
      | ((with_reducible apply T_iteP); exact rfl; all_goals intro _)
      | with_reducible refine S_ret ?_
      | with_reducible refine seq_r ?_
      | with_reducible refine rnd_r ?_
      | ((with_reducible apply K_lss); exact rfl; exact rfl)
      | ((with_reducible apply K_add); exact rfl; exact rfl; (first | omega | decide))
      | ((with_reducible apply K_addw); exact rfl; exact rfl)
      | ((with_reducible apply K_rem0); exact rfl; exact rfl; (first | omega | decide); (first | omega | decide))
      | ((with_reducible apply K_rem); exact rfl; exact rfl; (first | omega | decide))
      | ((with_reducible apply K_mov_ref); exact rfl)
      | ((with_reducible apply K_mov_ptr); exact rfl)
      | ((with_reducible apply K_mov_yld); exact rfl)
    exact ends_i rfl rfl
  · rw [show modS n m = n % m from if_neg h]
    have h1 := tmod_lt (n := n) (m := m) (by omega)
    have h2 := tmod_fix (n := n) (m := m) (by omega)
    repeat' first
      | ((with_reducible apply K_rem); exact rfl; exact rfl; omega)
      | with_reducible refine T_seq ?_
      | with_reducible refine S_ops ?_
      | with_reducible refine O_step ?_
      | ((with_reducible apply K_mov_d); exact rfl)
      | with_reducible refine O_nil ?_
      | with_reducible refine seq_n ?_
      | with_reducible refine S_skip ?_
      | ((with_reducible apply T_itet); exact rfl)
      | ((with_reducible apply T_itef); exact rfl)
      | ((with_reducible apply T_ite1); exact rfl; (first | with_reducible assumption | omega))
      | ((with_reducible apply T_ite0); exact rfl; (first | with_reducible assumption | omega))
      | ((with_reducible apply T_iteP); exact rfl; all_goals intro _)
      | with_reducible refine S_ret ?_
      | with_reducible refine seq_r ?_
      | with_reducible refine rnd_r ?_
      | ((with_reducible apply K_lss); exact rfl; exact rfl)
      | ((with_reducible apply K_add); exact rfl; exact rfl; (first | omega | decide))
      | ((with_reducible apply K_addw); exact rfl; exact rfl)
      | ((with_reducible apply K_rem0); exact rfl; exact rfl; (first | omega | decide); (first | omega | decide))
      | ((with_reducible apply K_rem); exact rfl; exact rfl; (first | omega | decide))
      | ((with_reducible apply K_mov_ref); exact rfl)
      | ((with_reducible apply K_mov_ptr); exact rfl)
      | ((with_reducible apply K_mov_yld); exact rfl)
    · exact ends_i rfl (h2.1 (by assumption))
    · exact ends_i rfl (h2.2 (by assumption))
theorem cr13 : CR Try.prog 13 [] [] (.d (.bool true)) [] := by
  refine fn_cr fn13 (Nat.le_of_ble_eq_true rfl) rfl ?_
  unfold sc13
  have e1 : flipS [0, 0] 9 = ([0, 2], 0) := by decide
  have e2 : burstS [0, 0] 4 (17 : Nat) = ([16, 1], 0) := by decide
  have c1 := cr16 [0, 0] 9
  have c2 := cr18 [0, 0] 4 17 (by decide)
  rw [e1] at c1
  rw [e2] at c2
  repeat' first
    | ((with_reducible apply K_call_0 (ys := [.str [0, 0], .int .i64 9])); exact rfl; exact c1; exact rfl)
    | ((with_reducible apply K_call_0 (ys := [.str [0, 0], .int .i64 4, .int .u32 17])); exact rfl; exact c2; exact rfl)
    | with_reducible refine T_seq ?_
    | with_reducible refine S_ops ?_
    | with_reducible refine O_step ?_
    | ((with_reducible apply K_mov_d); exact rfl)
    | with_reducible refine O_nil ?_
    | with_reducible refine seq_n ?_
    | with_reducible refine S_ret ?_
    | with_reducible refine seq_r ?_
    | with_reducible refine rnd_r ?_
    | ((with_reducible apply G_skip'); exact rfl)
    | ((with_reducible apply G_1tt); exact rfl)
    | ((with_reducible apply G_1ff); exact rfl)
    | ((with_reducible apply G_0tt); exact rfl)
    | ((with_reducible apply G_0ff); exact rfl)
    | ((with_reducible apply G_1y); exact rfl; (first | with_reducible assumption | omega | decide))
    | ((with_reducible apply G_1n); exact rfl; (first | with_reducible assumption | omega | decide))
    | ((with_reducible apply G_0y); exact rfl; (first | with_reducible assumption | omega | decide))
    | ((with_reducible apply G_0n); exact rfl; (first | with_reducible assumption | omega | decide))
    | ((with_reducible apply G_1P); exact rfl; all_goals intro _)
    | ((with_reducible apply G_0P); exact rfl; all_goals intro _)
    | ((with_reducible apply K_pickt); exact rfl; exact rfl)
    | ((with_reducible apply K_pickf); exact rfl; exact rfl)
    | ((with_reducible apply K_pickT); exact rfl; (first | with_reducible assumption | omega | decide); exact rfl)
    | ((with_reducible apply K_pickF); exact rfl; (first | with_reducible assumption | omega | decide); exact rfl)
    | ((with_reducible apply K_eql); exact rfl; exact rfl)
    | ((with_reducible apply K_eqlS); exact rfl; exact rfl)
    | ((with_reducible apply K_mov_ref); exact rfl)
    | ((with_reducible apply K_mov_ptr); exact rfl)
    | ((with_reducible apply K_mov_tup); exact rfl)
    | ((with_reducible apply K_mov_yld); exact rfl)
    | ((with_reducible apply K_ext); exact rfl; exact rfl)
  exact ends_b rfl rfl
end Go.Abs
/- The law: a change of the kind 4 twice changes nothing. -/
namespace Go.Abs
open Go.Proofs
theorem cr3 (s : List UInt8) (n : Int) : CR Try.prog 3 [st s, i64 n] [] (.d (.bool true)) [] := by
  refine fn_cr fn3 (Nat.le_of_ble_eq_true rfl) rfl ?_
  unfold sc3
  by_cases h : s.length > 60
  · repeat' first
      | ((with_reducible apply K_call_0 (ys := [])); exact rfl; exact cr13; exact rfl)
      | with_reducible refine T_seq ?_
      | with_reducible refine S_ops ?_
      | with_reducible refine O_step ?_
      | ((with_reducible apply K_mov_d); exact rfl)
      | with_reducible refine O_nil ?_
      | with_reducible refine seq_n ?_
      | with_reducible refine S_skip ?_
      | ((with_reducible apply T_itet); exact rfl)
      | ((with_reducible apply T_itef); exact rfl)
      | ((with_reducible apply T_ite1); exact rfl; (first | with_reducible assumption | omega))
      | ((with_reducible apply T_ite0); exact rfl; (first | with_reducible assumption | omega))
      | ((with_reducible apply T_iteP); exact rfl; all_goals intro _)
      | with_reducible refine S_ret ?_
      | with_reducible refine seq_r ?_
      | with_reducible refine rnd_r ?_
      | ((with_reducible apply G_skip'); exact rfl)
      | ((with_reducible apply G_1tt); exact rfl)
      | ((with_reducible apply G_1ff); exact rfl)
      | ((with_reducible apply G_0tt); exact rfl)
      | ((with_reducible apply G_0ff); exact rfl)
      | ((with_reducible apply G_1y); exact rfl; (first | with_reducible assumption | omega))
      | ((with_reducible apply G_1n); exact rfl; (first | with_reducible assumption | omega))
      | ((with_reducible apply G_0y); exact rfl; (first | with_reducible assumption | omega))
      | ((with_reducible apply G_0n); exact rfl; (first | with_reducible assumption | omega))
      | ((with_reducible apply G_1P); exact rfl; all_goals intro _)
      | ((with_reducible apply G_0P); exact rfl; all_goals intro _)
      | ((with_reducible apply K_pickt); exact rfl; exact rfl)
      | ((with_reducible apply K_pickf); exact rfl; exact rfl)
      | ((with_reducible apply K_pickT); exact rfl; (first | with_reducible assumption | omega); exact rfl)
      | ((with_reducible apply K_pickF); exact rfl; (first | with_reducible assumption | omega); exact rfl)
      | ((with_reducible apply K_gtr); exact rfl; exact rfl)
      | ((with_reducible apply K_eql); exact rfl; exact rfl)
      | ((with_reducible apply K_eqlS); exact rfl; exact rfl)
      | ((with_reducible apply K_add); exact rfl; exact rfl; (first | omega | decide))
      | ((with_reducible apply K_mul); exact rfl; exact rfl; (first | omega | decide))
      | ((with_reducible apply K_addw); exact rfl; exact rfl)
      | ((with_reducible apply K_mulw); exact rfl; exact rfl)
      | ((with_reducible apply K_lenS); exact rfl)
      | ((with_reducible apply K_mov_ref); exact rfl)
      | ((with_reducible apply K_mov_ptr); exact rfl)
      | ((with_reducible apply K_mov_tup); exact rfl)
      | ((with_reducible apply K_mov_yld); exact rfl)
      | ((with_reducible apply K_ext); exact rfl; exact rfl)
    exact ends_b rfl rfl
  have c14 := cr14 n 1073741824 (by decide)
  obtain ⟨m, hm, hlt⟩ : ∃ m : Nat, modS n 1073741824 = m ∧ m < 1073741824 := ⟨(n % 1073741824).toNat, by unfold modS; rw [if_neg (by decide)]; omega, by omega⟩
  rw [hm] at c14
  obtain ⟨a, ha⟩ : ∃ a, a = if s = [] then [] else swap s (m % s.length) (m / 7 % s.length) := ⟨_, rfl⟩
  have c1 : CR Try.prog 15 [st s, i64 ((5 * m + 4 : Nat))] [] (.tup [st a, i64 0]) [] := by
    have c := cr15 s ((5 * m + 4 : Nat)) (by omega)
    rw [change4 (by omega), ← ha] at c; exact c
  have hl : a.length = s.length := by
    rw [ha]; split
    · rename_i e; rw [e]
    · exact swap_len _ _ _
  have hb : (if a = [] then [] else swap a (m % a.length) (m / 7 % a.length)) = s := by
    by_cases hs : s = []
    · subst hs; simp at ha; subst ha; rfl
    · have h0 : 0 < s.length := List.length_pos_iff.2 hs
      have hane : ¬ a = [] := fun e => by rw [e] at hl; simp at hl; omega
      rw [if_neg hane, hl, ha, if_neg hs]
      exact swap_swap (Nat.mod_lt _ h0) (Nat.mod_lt _ h0)
  have c2 : CR Try.prog 15 [st a, i64 ((5 * m + 4 : Nat))] [] (.tup [st s, i64 0]) [] := by
    have c := cr15 a ((5 * m + 4 : Nat)) (by omega)
    rw [change4 (by omega), hb] at c; exact c
  have hss : s = s := rfl
  repeat' first
    | ((with_reducible apply K_call_0 (ys := [])); exact rfl; exact cr13; exact rfl)
    | ((with_reducible apply K_call_0 (ys := [.int .i64 n, .int .i64 1073741824])); exact rfl; exact c14; exact rfl)
    | ((with_reducible apply K_call_0 (ys := [.str s, .int .i64 ((5 * m + 4 : Nat))])); exact rfl; exact c1; exact rfl)
    | ((with_reducible apply K_call_0 (ys := [.str a, .int .i64 ((5 * m + 4 : Nat))])); exact rfl; exact c2; exact rfl)
    | with_reducible refine T_seq ?_
    | with_reducible refine S_ops ?_
    | with_reducible refine O_step ?_
    | ((with_reducible apply K_mov_d); exact rfl)
    | with_reducible refine O_nil ?_
    | with_reducible refine seq_n ?_
    | with_reducible refine S_skip ?_
    | ((with_reducible apply T_itet); exact rfl)
    | ((with_reducible apply T_itef); exact rfl)
    | ((with_reducible apply T_ite1); exact rfl; (first | with_reducible assumption | omega))
    | ((with_reducible apply T_ite0); exact rfl; (first | with_reducible assumption | omega))
    | ((with_reducible apply T_iteP); exact rfl; all_goals intro _)
    | with_reducible refine S_ret ?_
    | with_reducible refine seq_r ?_
    | with_reducible refine rnd_r ?_
    | ((with_reducible apply G_skip'); exact rfl)
    | ((with_reducible apply G_1tt); exact rfl)
    | ((with_reducible apply G_1ff); exact rfl)
    | ((with_reducible apply G_0tt); exact rfl)
    | ((with_reducible apply G_0ff); exact rfl)
    | ((with_reducible apply G_1y); exact rfl; (first | with_reducible assumption | omega))
    | ((with_reducible apply G_1n); exact rfl; (first | with_reducible assumption | omega))
    | ((with_reducible apply G_0y); exact rfl; (first | with_reducible assumption | omega))
    | ((with_reducible apply G_0n); exact rfl; (first | with_reducible assumption | omega))
    | ((with_reducible apply G_1P); exact rfl; all_goals intro _)
    | ((with_reducible apply G_0P); exact rfl; all_goals intro _)
    | ((with_reducible apply K_pickt); exact rfl; exact rfl)
    | ((with_reducible apply K_pickf); exact rfl; exact rfl)
    | ((with_reducible apply K_pickT); exact rfl; (first | with_reducible assumption | omega); exact rfl)
    | ((with_reducible apply K_pickF); exact rfl; (first | with_reducible assumption | omega); exact rfl)
    | ((with_reducible apply K_gtr); exact rfl; exact rfl)
    | ((with_reducible apply K_eql); exact rfl; exact rfl)
    | ((with_reducible apply K_eqlS); exact rfl; exact rfl)
    | ((with_reducible apply K_add); exact rfl; exact rfl; (first | omega | decide))
    | ((with_reducible apply K_mul); exact rfl; exact rfl; (first | omega | decide))
    | ((with_reducible apply K_addw); exact rfl; exact rfl)
    | ((with_reducible apply K_mulw); exact rfl; exact rfl)
    | ((with_reducible apply K_lenS); exact rfl)
    | ((with_reducible apply K_mov_ref); exact rfl)
    | ((with_reducible apply K_mov_ptr); exact rfl)
    | ((with_reducible apply K_mov_tup); exact rfl)
    | ((with_reducible apply K_mov_yld); exact rfl)
    | ((with_reducible apply K_ext); exact rfl; exact rfl)
  exact ends_b rfl rfl
end Go.Abs
