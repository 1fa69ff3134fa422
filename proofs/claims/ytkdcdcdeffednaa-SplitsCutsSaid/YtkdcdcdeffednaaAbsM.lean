/- The contract of the law on parts: it hands back true; a library for the law, it claims nothing by itself. -/
import Derived.Test.YtkdcdcdeffednaaAbsL
set_option linter.unusedVariables false
set_option linter.unusedSimpArgs false
/- The law: the parts of a string, its scripts. -/
set_option linter.unusedVariables false
namespace Go.Abs
open Go.Proofs
theorem ifpair {p : Prop} {_ : Decidable p} {q : D} {e : Int} (h : p ↔ e = 0) : (if p then AV.tup [.d q, i64 0] else .tup [.d .nilsl, i64 e]) = .tup [.d (if p then q else .nilsl), i64 e] := by
  split
  · rename_i h2; rw [h.1 h2]
  · rfl
theorem SL_if {es : Nat} {p : Prop} {_ : Decidable p} {l : List D} : SL es (if p then slD es l else .nilsl) (if p then l else []) := by
  split
  · exact SL_slD _ _
  · exact SL_nil _
abbrev partsL (s : List UInt8) (l : List Int) : List (List UInt8) := if checkS s l.length = 0 then cutL s l else []
abbrev callsX (s : List UInt8) (l : List Int) : List Tri := if checkS s l.length = 0 then scriptT s l else []
theorem dTri_if {p : Prop} {_ : Decidable p} {l : List Tri} : dTri (if p then l else []) = if p then dTri l else [] := by split <;> rfl
theorem dStrs_if {p : Prop} {_ : Decidable p} {l : List (List UInt8)} : dStrs (if p then l else []) = if p then dStrs l else [] := by split <;> rfl
/-- What Cut and Calls give, in one. -/
theorem cuts_R (s : List UInt8) (d : D) (l : List Int) (hd : SL 1 d (dInts l)) (hl : l.length ≤ 1000) (hr : ∀ i ∈ l, -9223372036854775808 ≤ i ∧ i < 9223372036854775808) :
    ∃ (q : D) (e : Int) (ps : List (List UInt8)), SL 1 q (dStrs ps) ∧ ps.length ≤ 1001 ∧ (∀ d2, SL 1 d2 (dInts l) → CR Try.prog 29 [st s, .d d2] [] (.tup [.d q, i64 e]) []) ∧ (∀ d2, SL 1 d2 (dInts l) → CR Try.prog 30 [st s, .d d2] [] (.tup [.d q, i64 e]) []) := by
  refine ⟨_, checkS s l.length, partsL s l, (dStrs_if (p := checkS s l.length = 0)).symm ▸ SL_if (p := checkS s l.length = 0), ?_, fun d2 h2 => ?_, fun d2 h2 => ?_⟩
  · have : (cutL s l).length ≤ 1001 := by rw [cutL_len]; split <;> omega
    unfold partsL; split
    · exact this
    · exact Nat.zero_le _
  · have c := cr29 s d2 l h2 hl hr
    rw [ifpair Iff.rfl] at c; exact c
  · have c := cr30 s d2 l h2 hl hr
    rw [ifpair Iff.rfl] at c; exact c
theorem calls_R (s : List UInt8) (d : D) (l : List Int) (hd : SL 1 d (dInts l)) (hl : l.length ≤ 1000) (hr : ∀ i ∈ l, -9223372036854775808 ≤ i ∧ i < 9223372036854775808) :
    ∃ (q : D) (e : Int) (cs : List Tri), SL 3 q (dTri cs) ∧ cs.length ≤ 4000 ∧ (∀ d2, SL 1 d2 (dInts l) → CR Try.prog 31 [st s, .d d2] [] (.tup [.d q, i64 e]) []) ∧ (∀ d2, SL 1 d2 (dInts l) → CR Try.prog 32 [st s, .d d2] [] (.tup [.d q, i64 e]) []) := by
  refine ⟨_, checkS s l.length, callsX s l, (dTri_if (p := checkS s l.length = 0)).symm ▸ SL_if (p := checkS s l.length = 0), ?_, fun d2 h2 => ?_, fun d2 h2 => ?_⟩
  · have : (scriptT s l).length ≤ 4000 := scriptT_len hl
    unfold callsX; split
    · exact this
    · exact Nat.zero_le _
  · have c := cr31 s d2 l h2 hl hr
    rw [scriptT_eq, ifpair Iff.rfl] at c; exact c
  · have c := cr32 s d2 l h2 hl hr
    rw [scriptT_eq, ifpair Iff.rfl] at c; exact c
theorem plain_R (s : List UInt8) : ∃ (q : D) (e : Int) (cs : List Tri), SL 3 q (dTri cs) ∧ cs.length ≤ 4000 ∧ CR Try.prog 35 [st s] [] (.tup [.d q, i64 e]) [] ∧ CR Try.prog 36 [st s] [] (.tup [.d q, i64 e]) [] := by
  refine ⟨_, checkS s 0, callsX s [], (dTri_if (p := checkS s ([] : List Int).length = 0)).symm ▸ SL_if (p := checkS s ([] : List Int).length = 0), ?_, ?_, ?_⟩
  · have : (scriptT s []).length ≤ 4000 := scriptT_len (by decide)
    unfold callsX; split
    · exact this
    · exact Nat.zero_le _
  · have c := cr35 s
    rw [scriptT_eq, ifpair Iff.rfl] at c; exact c
  · have c := cr36 s
    rw [scriptT_eq, ifpair Iff.rfl] at c; exact c
theorem every_R (s : List UInt8) (n : Int) : ∃ (q : D) (e : Int) (ps : List (List UInt8)), SL 1 q (dStrs ps) ∧ ps.length ≤ 100000 ∧ CR Try.prog 37 [st s, i64 n] [] (.tup [.d q, i64 e]) [] ∧ CR Try.prog 38 [st s, i64 n] [] (.tup [.d q, i64 e]) [] := by
  refine ⟨_, everyE s n, if everyE s n = 0 then evL s n.toNat else [], (dStrs_if (p := everyE s n = 0)).symm ▸ SL_if (p := everyE s n = 0), ?_, ?_, ?_⟩
  · split
    · rename_i h
      have h1 : ¬ s.length > 20000 := fun h1 => by unfold everyE at h; rw [if_pos h1] at h; omega
      unfold evL; rw [evK_len]
      by_cases hn : n.toNat = 0
      · rw [hn, Nat.div_zero]; exact Nat.zero_le _
      · have h2 : n ≤ 20000 := by
          unfold everyE at h; rw [if_neg h1] at h; split at h <;> omega
        exact Nat.le_trans (Nat.div_le_self _ _) (by omega)
    · exact Nat.zero_le _
  · have c := cr37 s n
    rw [everyR, ifpair Iff.rfl] at c; exact c
  · have c := cr38 s n
    rw [everyR, ifpair Iff.rfl] at c; exact c
set_option maxHeartbeats 4000000 in
set_option maxRecDepth 4000 in
theorem cr7 (s : List UInt8) (d : D) (l : List Int) (n : Int) (hd : SL 1 d (dInts l)) (hr : ∀ i ∈ l, -9223372036854775808 ≤ i ∧ i < 9223372036854775808) : CR Try.prog 7 [st s, .d d, i64 n] [] (.d (.bool true)) [] := by
  have e0 : (dInts l).length = l.length := by simp
  by_cases h : (s.length > 300 ∧ s.length < 20000) ∨ s.length > 20010 ∨ l.length > 45 ∨ (s.length > 300 ∧ n < 1000 ∧ 0 < n)
  · refine fn_cr fn7 (Nat.le_of_ble_eq_true rfl) rfl ?_
    unfold sc7
    repeat' first
      | ((with_reducible apply G_1y); exact rfl; (first | with_reducible assumption | omega))
      | ((with_reducible apply G_1n); exact rfl; (first | with_reducible assumption | omega))
      | ((with_reducible apply G_0y); exact rfl; (first | with_reducible assumption | omega))
      | ((with_reducible apply G_0n); exact rfl; (first | with_reducible assumption | omega))
      | ((with_reducible apply G_1P); exact rfl; all_goals intro _)
      | ((with_reducible apply G_0P); exact rfl; all_goals intro _)
      | ((with_reducible apply K_pickT); exact rfl; (first | with_reducible assumption | omega); exact rfl)
      | ((with_reducible apply K_pickF); exact rfl; (first | with_reducible assumption | omega); exact rfl)
      | ((with_reducible apply T_ite1); exact rfl; (first | with_reducible assumption | omega))
      | ((with_reducible apply T_ite0); exact rfl; (first | with_reducible assumption | omega))
      | ((with_reducible apply T_iteP); exact rfl; all_goals intro _)
      | ((with_reducible apply K_len_SL hd); exact rfl)
      | ((with_reducible apply K_call_0 (f := 27) (ys := [])); exact rfl; exact cr27; exact rfl)
      | with_reducible refine T_seq ?_
      | with_reducible refine S_ops ?_
      | with_reducible refine O_step ?_
      | ((with_reducible apply K_mov_d); exact rfl)
      | with_reducible refine O_nil ?_
      | with_reducible refine seq_n ?_
      | with_reducible refine S_skip ?_
      | ((with_reducible apply T_itet); exact rfl)
      | ((with_reducible apply T_itef); exact rfl)
      | ((with_reducible apply T_ite1); exact rfl; (first | with_reducible assumption | omega))
      | ((with_reducible apply T_ite0); exact rfl; (first | with_reducible assumption | omega))
      | ((with_reducible apply T_iteP); exact rfl; all_goals intro _)
      | with_reducible refine S_ret ?_
      | with_reducible refine seq_r ?_
      | with_reducible refine rnd_r ?_
      | ((with_reducible apply G_skip'); exact rfl)
      | ((with_reducible apply G_1tt); exact rfl)
      | ((with_reducible apply G_1ff); exact rfl)
      | ((with_reducible apply G_0tt); exact rfl)
      | ((with_reducible apply G_0ff); exact rfl)
      | ((with_reducible apply G_1y); exact rfl; (first | with_reducible assumption | omega))
      | ((with_reducible apply G_1n); exact rfl; (first | with_reducible assumption | omega))
      | ((with_reducible apply G_0y); exact rfl; (first | with_reducible assumption | omega))
      | ((with_reducible apply G_0n); exact rfl; (first | with_reducible assumption | omega))
      | ((with_reducible apply G_1P); exact rfl; all_goals intro _)
      | ((with_reducible apply G_0P); exact rfl; all_goals intro _)
      | ((with_reducible apply K_pickt); exact rfl; exact rfl)
      | ((with_reducible apply K_pickf); exact rfl; exact rfl)
      | ((with_reducible apply K_pickT); exact rfl; (first | with_reducible assumption | omega); exact rfl)
      | ((with_reducible apply K_pickF); exact rfl; (first | with_reducible assumption | omega); exact rfl)
      | ((with_reducible apply K_lss); exact rfl; exact rfl)
      | ((with_reducible apply K_gtr); exact rfl; exact rfl)
      | ((with_reducible apply K_eql); exact rfl; exact rfl)
      | ((with_reducible apply K_neq); exact rfl; exact rfl)
      | ((with_reducible apply K_eqlS); exact rfl; exact rfl)
      | ((with_reducible apply K_neqS); exact rfl; exact rfl)
      | ((with_reducible apply K_not_t); exact rfl)
      | ((with_reducible apply K_not_f); exact rfl)
      | ((with_reducible apply K_notP); exact rfl)
      | ((with_reducible apply K_lenS); exact rfl)
      | ((with_reducible apply K_len_d); exact rfl)
      | ((with_reducible apply K_len_nil); exact rfl)
      | ((with_reducible apply K_len_ref); exact rfl; exact rfl)
      | ((with_reducible apply K_mov_ref); exact rfl)
      | ((with_reducible apply K_mov_ptr); exact rfl)
      | ((with_reducible apply K_mov_tup); exact rfl)
      | ((with_reducible apply K_mov_yld); exact rfl)
      | ((with_reducible apply K_ext); exact rfl; exact rfl)
    all_goals exact ends_b rfl rfl
  · have c28 := cr28 d l hd (by omega)
    have hi : SL 1 (.sl 1 (dInts l)) (dInts l) := .inr rfl
    obtain ⟨q1, x1, ps, hq1, hp1, c29, c30⟩ := cuts_R s d l hd (by omega) hr
    obtain ⟨q2, x2, cs, hq2, hp2, c31, c32⟩ := calls_R s d l hd (by omega) hr
    obtain ⟨q3, x3, cs3, hq3, hp3, c35, c36⟩ := plain_R s
    obtain ⟨q4, x4, ps4, hq4, hp4, c37, c38⟩ := every_R s n
    have c29 := c29 _ hi
    have c30 := c30 _ hd
    have c31 := c31 _ hi
    have c32 := c32 _ hd
    have c33a := cr33 q1 q1 ps hq1 hq1 (by omega)
    have c33b := cr33 q4 q4 ps4 hq4 hq4 hp4
    have c34a := cr34 q2 q2 cs hq2 hq2 (by omega)
    have c34b := cr34 q3 q3 cs3 hq3 hq3 (by omega)
    have c39 := cr39 _ d l hi hd (by omega)
    refine fn_cr fn7 (Nat.le_of_ble_eq_true rfl) rfl ?_
    unfold sc7
    by_cases h1 : s.length > 300
    · by_cases h2 : n < 1000
      · repeat' first
          | ((with_reducible apply G_1y); exact rfl; (first | with_reducible assumption | omega))
          | ((with_reducible apply G_1n); exact rfl; (first | with_reducible assumption | omega))
          | ((with_reducible apply G_0y); exact rfl; (first | with_reducible assumption | omega))
          | ((with_reducible apply G_0n); exact rfl; (first | with_reducible assumption | omega))
          | ((with_reducible apply G_1P); exact rfl; all_goals intro _)
          | ((with_reducible apply G_0P); exact rfl; all_goals intro _)
          | ((with_reducible apply K_pickT); exact rfl; (first | with_reducible assumption | omega); exact rfl)
          | ((with_reducible apply K_pickF); exact rfl; (first | with_reducible assumption | omega); exact rfl)
          | ((with_reducible apply T_ite1); exact rfl; (first | with_reducible assumption | omega))
          | ((with_reducible apply T_ite0); exact rfl; (first | with_reducible assumption | omega))
          | ((with_reducible apply T_iteP); exact rfl; all_goals intro _)
          | ((with_reducible apply K_len_SL hd); exact rfl)
          | ((with_reducible apply K_call_0 (f := 27) (ys := [])); exact rfl; exact cr27; exact rfl)
          | ((with_reducible apply K_eql_same); exact rfl; exact rfl)
          | ((with_reducible apply K_neq_same); exact rfl; exact rfl)
          | ((with_reducible apply K_call_0 (f := 28) (ys := [d])); exact rfl; exact c28; exact rfl)
          | ((with_reducible apply K_call_0 (f := 29) (ys := [.str s, (.sl 1 (dInts l))])); exact rfl; exact c29; exact rfl)
          | ((with_reducible apply K_call_0 (f := 30) (ys := [.str s, d])); exact rfl; exact c30; exact rfl)
          | ((with_reducible apply K_call_0 (f := 31) (ys := [.str s, (.sl 1 (dInts l))])); exact rfl; exact c31; exact rfl)
          | ((with_reducible apply K_call_0 (f := 32) (ys := [.str s, d])); exact rfl; exact c32; exact rfl)
          | ((with_reducible apply K_call_0 (f := 33) (ys := [q1, q1])); exact rfl; exact c33a; exact rfl)
          | ((with_reducible apply K_call_0 (f := 33) (ys := [q4, q4])); exact rfl; exact c33b; exact rfl)
          | ((with_reducible apply K_call_0 (f := 34) (ys := [q2, q2])); exact rfl; exact c34a; exact rfl)
          | ((with_reducible apply K_call_0 (f := 34) (ys := [q3, q3])); exact rfl; exact c34b; exact rfl)
          | ((with_reducible apply K_call_0 (f := 35) (ys := [.str s])); exact rfl; exact c35; exact rfl)
          | ((with_reducible apply K_call_0 (f := 36) (ys := [.str s])); exact rfl; exact c36; exact rfl)
          | ((with_reducible apply K_call_0 (f := 37) (ys := [.str s, .int .i64 n])); exact rfl; exact c37; exact rfl)
          | ((with_reducible apply K_call_0 (f := 38) (ys := [.str s, .int .i64 n])); exact rfl; exact c38; exact rfl)
          | ((with_reducible apply K_call_0 (f := 39) (ys := [(.sl 1 (dInts l)), d])); exact rfl; exact c39; exact rfl)
          | with_reducible refine T_seq ?_
          | with_reducible refine S_ops ?_
          | with_reducible refine O_step ?_
          | ((with_reducible apply K_mov_d); exact rfl)
          | with_reducible refine O_nil ?_
          | with_reducible refine seq_n ?_
          | with_reducible refine S_skip ?_
          | ((with_reducible apply T_itet); exact rfl)
          | ((with_reducible apply T_itef); exact rfl)
          | ((with_reducible apply T_ite1); exact rfl; (first | with_reducible assumption | omega))
          | ((with_reducible apply T_ite0); exact rfl; (first | with_reducible assumption | omega))
          | ((with_reducible apply T_iteP); exact rfl; all_goals intro _)
          | with_reducible refine S_ret ?_
          | with_reducible refine seq_r ?_
          | with_reducible refine rnd_r ?_
          | ((with_reducible apply G_skip'); exact rfl)
          | ((with_reducible apply G_1tt); exact rfl)
          | ((with_reducible apply G_1ff); exact rfl)
          | ((with_reducible apply G_0tt); exact rfl)
          | ((with_reducible apply G_0ff); exact rfl)
          | ((with_reducible apply G_1y); exact rfl; (first | with_reducible assumption | omega))
          | ((with_reducible apply G_1n); exact rfl; (first | with_reducible assumption | omega))
          | ((with_reducible apply G_0y); exact rfl; (first | with_reducible assumption | omega))
          | ((with_reducible apply G_0n); exact rfl; (first | with_reducible assumption | omega))
          | ((with_reducible apply G_1P); exact rfl; all_goals intro _)
          | ((with_reducible apply G_0P); exact rfl; all_goals intro _)
          | ((with_reducible apply K_pickt); exact rfl; exact rfl)
          | ((with_reducible apply K_pickf); exact rfl; exact rfl)
          | ((with_reducible apply K_pickT); exact rfl; (first | with_reducible assumption | omega); exact rfl)
          | ((with_reducible apply K_pickF); exact rfl; (first | with_reducible assumption | omega); exact rfl)
          | ((with_reducible apply K_lss); exact rfl; exact rfl)
          | ((with_reducible apply K_gtr); exact rfl; exact rfl)
          | ((with_reducible apply K_eql); exact rfl; exact rfl)
          | ((with_reducible apply K_neq); exact rfl; exact rfl)
          | ((with_reducible apply K_eqlS); exact rfl; exact rfl)
          | ((with_reducible apply K_neqS); exact rfl; exact rfl)
          | ((with_reducible apply K_not_t); exact rfl)
          | ((with_reducible apply K_not_f); exact rfl)
          | ((with_reducible apply K_notP); exact rfl)
          | ((with_reducible apply K_lenS); exact rfl)
          | ((with_reducible apply K_len_d); exact rfl)
          | ((with_reducible apply K_len_nil); exact rfl)
          | ((with_reducible apply K_len_ref); exact rfl; exact rfl)
          | ((with_reducible apply K_mov_ref); exact rfl)
          | ((with_reducible apply K_mov_ptr); exact rfl)
          | ((with_reducible apply K_mov_tup); exact rfl)
          | ((with_reducible apply K_mov_yld); exact rfl)
          | ((with_reducible apply K_ext); exact rfl; exact rfl)
        all_goals exact ends_b rfl rfl
      · repeat' first
          | ((with_reducible apply G_1y); exact rfl; (first | with_reducible assumption | omega))
          | ((with_reducible apply G_1n); exact rfl; (first | with_reducible assumption | omega))
          | ((with_reducible apply G_0y); exact rfl; (first | with_reducible assumption | omega))
          | ((with_reducible apply G_0n); exact rfl; (first | with_reducible assumption | omega))
          | ((with_reducible apply G_1P); exact rfl; all_goals intro _)
          | ((with_reducible apply G_0P); exact rfl; all_goals intro _)
          | ((with_reducible apply K_pickT); exact rfl; (first | with_reducible assumption | omega); exact rfl)
          | ((with_reducible apply K_pickF); exact rfl; (first | with_reducible assumption | omega); exact rfl)
          | ((with_reducible apply T_ite1); exact rfl; (first | with_reducible assumption | omega))
          | ((with_reducible apply T_ite0); exact rfl; (first | with_reducible assumption | omega))
          | ((with_reducible apply T_iteP); exact rfl; all_goals intro _)
          | ((with_reducible apply K_len_SL hd); exact rfl)
          | ((with_reducible apply K_call_0 (f := 27) (ys := [])); exact rfl; exact cr27; exact rfl)
          | ((with_reducible apply K_eql_same); exact rfl; exact rfl)
          | ((with_reducible apply K_neq_same); exact rfl; exact rfl)
          | ((with_reducible apply K_call_0 (f := 28) (ys := [d])); exact rfl; exact c28; exact rfl)
          | ((with_reducible apply K_call_0 (f := 29) (ys := [.str s, (.sl 1 (dInts l))])); exact rfl; exact c29; exact rfl)
          | ((with_reducible apply K_call_0 (f := 30) (ys := [.str s, d])); exact rfl; exact c30; exact rfl)
          | ((with_reducible apply K_call_0 (f := 31) (ys := [.str s, (.sl 1 (dInts l))])); exact rfl; exact c31; exact rfl)
          | ((with_reducible apply K_call_0 (f := 32) (ys := [.str s, d])); exact rfl; exact c32; exact rfl)
          | ((with_reducible apply K_call_0 (f := 33) (ys := [q1, q1])); exact rfl; exact c33a; exact rfl)
          | ((with_reducible apply K_call_0 (f := 33) (ys := [q4, q4])); exact rfl; exact c33b; exact rfl)
          | ((with_reducible apply K_call_0 (f := 34) (ys := [q2, q2])); exact rfl; exact c34a; exact rfl)
          | ((with_reducible apply K_call_0 (f := 34) (ys := [q3, q3])); exact rfl; exact c34b; exact rfl)
          | ((with_reducible apply K_call_0 (f := 35) (ys := [.str s])); exact rfl; exact c35; exact rfl)
          | ((with_reducible apply K_call_0 (f := 36) (ys := [.str s])); exact rfl; exact c36; exact rfl)
          | ((with_reducible apply K_call_0 (f := 37) (ys := [.str s, .int .i64 n])); exact rfl; exact c37; exact rfl)
          | ((with_reducible apply K_call_0 (f := 38) (ys := [.str s, .int .i64 n])); exact rfl; exact c38; exact rfl)
          | ((with_reducible apply K_call_0 (f := 39) (ys := [(.sl 1 (dInts l)), d])); exact rfl; exact c39; exact rfl)
          | with_reducible refine T_seq ?_
          | with_reducible refine S_ops ?_
          | with_reducible refine O_step ?_
          | ((with_reducible apply K_mov_d); exact rfl)
          | with_reducible refine O_nil ?_
          | with_reducible refine seq_n ?_
          | with_reducible refine S_skip ?_
          | ((with_reducible apply T_itet); exact rfl)
          | ((with_reducible apply T_itef); exact rfl)
          | ((with_reducible apply T_ite1); exact rfl; (first | with_reducible assumption | omega))
          | ((with_reducible apply T_ite0); exact rfl; (first | with_reducible assumption | omega))
          | ((with_reducible apply T_iteP); exact rfl; all_goals intro _)
          | with_reducible refine S_ret ?_
          | with_reducible refine seq_r ?_
          | with_reducible refine rnd_r ?_
          | ((with_reducible apply G_skip'); exact rfl)
          | ((with_reducible apply G_1tt); exact rfl)
          | ((with_reducible apply G_1ff); exact rfl)
          | ((with_reducible apply G_0tt); exact rfl)
          | ((with_reducible apply G_0ff); exact rfl)
          | ((with_reducible apply G_1y); exact rfl; (first | with_reducible assumption | omega))
          | ((with_reducible apply G_1n); exact rfl; (first | with_reducible assumption | omega))
          | ((with_reducible apply G_0y); exact rfl; (first | with_reducible assumption | omega))
          | ((with_reducible apply G_0n); exact rfl; (first | with_reducible assumption | omega))
          | ((with_reducible apply G_1P); exact rfl; all_goals intro _)
          | ((with_reducible apply G_0P); exact rfl; all_goals intro _)
          | ((with_reducible apply K_pickt); exact rfl; exact rfl)
          | ((with_reducible apply K_pickf); exact rfl; exact rfl)
          | ((with_reducible apply K_pickT); exact rfl; (first | with_reducible assumption | omega); exact rfl)
          | ((with_reducible apply K_pickF); exact rfl; (first | with_reducible assumption | omega); exact rfl)
          | ((with_reducible apply K_lss); exact rfl; exact rfl)
          | ((with_reducible apply K_gtr); exact rfl; exact rfl)
          | ((with_reducible apply K_eql); exact rfl; exact rfl)
          | ((with_reducible apply K_neq); exact rfl; exact rfl)
          | ((with_reducible apply K_eqlS); exact rfl; exact rfl)
          | ((with_reducible apply K_neqS); exact rfl; exact rfl)
          | ((with_reducible apply K_not_t); exact rfl)
          | ((with_reducible apply K_not_f); exact rfl)
          | ((with_reducible apply K_notP); exact rfl)
          | ((with_reducible apply K_lenS); exact rfl)
          | ((with_reducible apply K_len_d); exact rfl)
          | ((with_reducible apply K_len_nil); exact rfl)
          | ((with_reducible apply K_len_ref); exact rfl; exact rfl)
          | ((with_reducible apply K_mov_ref); exact rfl)
          | ((with_reducible apply K_mov_ptr); exact rfl)
          | ((with_reducible apply K_mov_tup); exact rfl)
          | ((with_reducible apply K_mov_yld); exact rfl)
          | ((with_reducible apply K_ext); exact rfl; exact rfl)
        all_goals exact ends_b rfl rfl
    · repeat' first
        | ((with_reducible apply G_1y); exact rfl; (first | with_reducible assumption | omega))
        | ((with_reducible apply G_1n); exact rfl; (first | with_reducible assumption | omega))
        | ((with_reducible apply G_0y); exact rfl; (first | with_reducible assumption | omega))
        | ((with_reducible apply G_0n); exact rfl; (first | with_reducible assumption | omega))
        | ((with_reducible apply G_1P); exact rfl; all_goals intro _)
        | ((with_reducible apply G_0P); exact rfl; all_goals intro _)
        | ((with_reducible apply K_pickT); exact rfl; (first | with_reducible assumption | omega); exact rfl)
        | ((with_reducible apply K_pickF); exact rfl; (first | with_reducible assumption | omega); exact rfl)
        | ((with_reducible apply T_ite1); exact rfl; (first | with_reducible assumption | omega))
        | ((with_reducible apply T_ite0); exact rfl; (first | with_reducible assumption | omega))
        | ((with_reducible apply T_iteP); exact rfl; all_goals intro _)
        | ((with_reducible apply K_len_SL hd); exact rfl)
        | ((with_reducible apply K_call_0 (f := 27) (ys := [])); exact rfl; exact cr27; exact rfl)
        | ((with_reducible apply K_eql_same); exact rfl; exact rfl)
        | ((with_reducible apply K_neq_same); exact rfl; exact rfl)
        | ((with_reducible apply K_call_0 (f := 28) (ys := [d])); exact rfl; exact c28; exact rfl)
        | ((with_reducible apply K_call_0 (f := 29) (ys := [.str s, (.sl 1 (dInts l))])); exact rfl; exact c29; exact rfl)
        | ((with_reducible apply K_call_0 (f := 30) (ys := [.str s, d])); exact rfl; exact c30; exact rfl)
        | ((with_reducible apply K_call_0 (f := 31) (ys := [.str s, (.sl 1 (dInts l))])); exact rfl; exact c31; exact rfl)
        | ((with_reducible apply K_call_0 (f := 32) (ys := [.str s, d])); exact rfl; exact c32; exact rfl)
        | ((with_reducible apply K_call_0 (f := 33) (ys := [q1, q1])); exact rfl; exact c33a; exact rfl)
        | ((with_reducible apply K_call_0 (f := 33) (ys := [q4, q4])); exact rfl; exact c33b; exact rfl)
        | ((with_reducible apply K_call_0 (f := 34) (ys := [q2, q2])); exact rfl; exact c34a; exact rfl)
        | ((with_reducible apply K_call_0 (f := 34) (ys := [q3, q3])); exact rfl; exact c34b; exact rfl)
        | ((with_reducible apply K_call_0 (f := 35) (ys := [.str s])); exact rfl; exact c35; exact rfl)
        | ((with_reducible apply K_call_0 (f := 36) (ys := [.str s])); exact rfl; exact c36; exact rfl)
        | ((with_reducible apply K_call_0 (f := 37) (ys := [.str s, .int .i64 n])); exact rfl; exact c37; exact rfl)
        | ((with_reducible apply K_call_0 (f := 38) (ys := [.str s, .int .i64 n])); exact rfl; exact c38; exact rfl)
        | ((with_reducible apply K_call_0 (f := 39) (ys := [(.sl 1 (dInts l)), d])); exact rfl; exact c39; exact rfl)
        | with_reducible refine T_seq ?_
        | with_reducible refine S_ops ?_
        | with_reducible refine O_step ?_
        | ((with_reducible apply K_mov_d); exact rfl)
        | with_reducible refine O_nil ?_
        | with_reducible refine seq_n ?_
        | with_reducible refine S_skip ?_
        | ((with_reducible apply T_itet); exact rfl)
        | ((with_reducible apply T_itef); exact rfl)
        | ((with_reducible apply T_ite1); exact rfl; (first | with_reducible assumption | omega))
        | ((with_reducible apply T_ite0); exact rfl; (first | with_reducible assumption | omega))
        | ((with_reducible apply T_iteP); exact rfl; all_goals intro _)
        | with_reducible refine S_ret ?_
        | with_reducible refine seq_r ?_
        | with_reducible refine rnd_r ?_
        | ((with_reducible apply G_skip'); exact rfl)
        | ((with_reducible apply G_1tt); exact rfl)
        | ((with_reducible apply G_1ff); exact rfl)
        | ((with_reducible apply G_0tt); exact rfl)
        | ((with_reducible apply G_0ff); exact rfl)
        | ((with_reducible apply G_1y); exact rfl; (first | with_reducible assumption | omega))
        | ((with_reducible apply G_1n); exact rfl; (first | with_reducible assumption | omega))
        | ((with_reducible apply G_0y); exact rfl; (first | with_reducible assumption | omega))
        | ((with_reducible apply G_0n); exact rfl; (first | with_reducible assumption | omega))
        | ((with_reducible apply G_1P); exact rfl; all_goals intro _)
        | ((with_reducible apply G_0P); exact rfl; all_goals intro _)
        | ((with_reducible apply K_pickt); exact rfl; exact rfl)
        | ((with_reducible apply K_pickf); exact rfl; exact rfl)
        | ((with_reducible apply K_pickT); exact rfl; (first | with_reducible assumption | omega); exact rfl)
        | ((with_reducible apply K_pickF); exact rfl; (first | with_reducible assumption | omega); exact rfl)
        | ((with_reducible apply K_lss); exact rfl; exact rfl)
        | ((with_reducible apply K_gtr); exact rfl; exact rfl)
        | ((with_reducible apply K_eql); exact rfl; exact rfl)
        | ((with_reducible apply K_neq); exact rfl; exact rfl)
        | ((with_reducible apply K_eqlS); exact rfl; exact rfl)
        | ((with_reducible apply K_neqS); exact rfl; exact rfl)
        | ((with_reducible apply K_not_t); exact rfl)
        | ((with_reducible apply K_not_f); exact rfl)
        | ((with_reducible apply K_notP); exact rfl)
        | ((with_reducible apply K_lenS); exact rfl)
        | ((with_reducible apply K_len_d); exact rfl)
        | ((with_reducible apply K_len_nil); exact rfl)
        | ((with_reducible apply K_len_ref); exact rfl; exact rfl)
        | ((with_reducible apply K_mov_ref); exact rfl)
        | ((with_reducible apply K_mov_ptr); exact rfl)
        | ((with_reducible apply K_mov_tup); exact rfl)
        | ((with_reducible apply K_mov_yld); exact rfl)
        | ((with_reducible apply K_ext); exact rfl; exact rfl)
      all_goals exact ends_b rfl rfl
end Go.Abs
