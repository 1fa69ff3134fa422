/- The contract of the law on whole strings: it hands back true; a library for the law, it claims nothing by itself. -/
import Derived.Test.YtkdcdcdeffednaaAbsN
set_option linter.unusedVariables false
set_option linter.unusedSimpArgs false
/- Scripts feed the string; parts have at most 39 bytes. -/
set_option linter.unusedVariables false
namespace Go.Abs
open Go.Proofs
def fedOf (cs : List Tri) : List (List UInt8) := (cs.filter fun c => decide (c.1 = 1)).map fun c => c.2.2
theorem fedOf_app (a b : List Tri) : fedOf (a ++ b) = fedOf a ++ fedOf b := by unfold fedOf; rw [List.filter_append, List.map_append]
theorem fedK_eq (cs : List Tri) : ∀ k, fedK cs k = fedOf (cs.take k)
  | 0 => rfl
  | k + 1 => by
    rw [fedK, fedK_eq cs k]
    by_cases h : k < cs.length
    · rw [List.take_succ_eq_append_getElem h, fedOf_app]
      have e : cs.getD k (0, 0, []) = cs[k] := by simp [List.getD_eq_getElem?_getD, h]
      rw [e]
      congr 1
      unfold fedOf
      split
      · rename_i h2; rw [List.filter_cons_of_pos (by simpa using h2)]; rfl
      · rename_i h2; rw [List.filter_cons_of_neg (by simpa using h2)]; rfl
    · have e : cs.getD k (0, 0, []) = (0, 0, []) := by rw [List.getD_eq_getElem?_getD, List.getElem?_eq_none (by omega)]; rfl
      rw [e, if_neg (by decide), List.append_nil, List.take_of_length_le (by omega), List.take_of_length_le (by omega)]
theorem otherT_kind (k n : Int) : (otherT k n).1 = 3 ∨ (otherT k n).1 = 4 ∨ (otherT k n).1 = 5 := by
  unfold otherT; repeat' split
  all_goals simp
theorem fedOf_none {cs : List Tri} (h : ∀ c ∈ cs, c.1 ≠ 1) : fedOf cs = [] := by
  unfold fedOf
  rw [List.filter_eq_nil_iff.2 fun c hc => by simpa using h c hc]; rfl
theorem fedOf_step (s : List UInt8) (l : List Int) (k : Nat) : fedOf (stepT s l k) = [(cutL s l).getD k []] := by
  unfold stepT
  rw [fedOf_app]
  have e : fedOf [((1 : Int), (0 : Int), (cutL s l).getD k [])] = [(cutL s l).getD k []] := rfl
  rw [e, fedOf_none ?_]
  · rfl
  · intro c hc
    split at hc
    · obtain ⟨q, _, rfl⟩ := List.mem_map.1 hc
      have := otherT_kind q (natS (l.getD k 0)); omega
    · simp at hc
theorem fedOf_calls (s : List UInt8) (l : List Int) : ∀ k, k ≤ (cutL s l).length → fedOf (callsT s l k) = (cutL s l).take k
  | 0, _ => rfl
  | k + 1, h => by
    have hk : k < (cutL s l).length := by omega
    rw [callsT, fedOf_app, fedOf_calls s l k (by omega), fedOf_step, List.take_succ_eq_append_getElem hk]
    simp [List.getD_eq_getElem?_getD, hk]
theorem fed_script (s : List UInt8) (l : List Int) : fedK (scriptT s l) (scriptT s l).length = cutL s l := by
  rw [fedK_eq, List.take_length]
  unfold scriptT
  rw [fedOf_app, fedOf_calls s l _ (Nat.le_refl _), List.take_length]
  have : fedOf endT = [] := by decide
  rw [this, List.append_nil]
theorem getD_join (l : List (List UInt8)) (k : Nat) : (l.getD k []).length ≤ l.flatten.length := by
  by_cases h : k < l.length
  · have h1 := catK_le l (k + 1)
    rw [catK_succ h, List.length_append] at h1; omega
  · rw [List.getD_eq_getElem?_getD, List.getElem?_eq_none (by omega)]; exact Nat.zero_le _
theorem otherT_text (k n : Int) : (otherT k n).2.2 = [] := by
  unfold otherT; repeat' split
  all_goals rfl
theorem calls_text (s : List UInt8) (l : List Int) : ∀ k, ∀ c ∈ callsT s l k, c.2.2.length ≤ s.length
  | 0, c, h => by simp [callsT] at h
  | k + 1, c, h => by
    rw [callsT, List.mem_append] at h
    rcases h with h | h
    · exact calls_text s l k c h
    · unfold stepT at h
      rw [List.mem_append] at h
      rcases h with h | h
      · split at h
        · obtain ⟨q, _, rfl⟩ := List.mem_map.1 h
          rw [otherT_text]; exact Nat.zero_le _
        · simp at h
      · rw [List.mem_singleton.1 h]
        have := getD_join (cutL s l) k
        rw [cutL_join] at this; exact this
theorem script_text (s : List UInt8) (l : List Int) (c : Tri) (h : c ∈ scriptT s l) : c.2.2.length ≤ s.length := by
  unfold scriptT at h
  rw [List.mem_append] at h
  rcases h with h | h
  · exact calls_text s l _ c h
  · have h2 : ∀ c ∈ endT, c.2.2 = [] := by decide
    rw [h2 c h]; exact Nat.zero_le _
theorem script_getD (s : List UInt8) (l : List Int) (k : Nat) : ((scriptT s l).getD k (0, 0, [])).2.2.length ≤ s.length := by
  rw [List.getD_eq_getElem?_getD]
  cases e : (scriptT s l)[k]? with
  | none => exact Nat.zero_le _
  | some c => exact script_text s l c (List.mem_of_getElem? e)
theorem sizes_get (ps : List (List UInt8)) (k : Nat) : (sizesL ps).getD k 0 = ((ps.getD k []).length : Int) := by
  unfold sizesL
  rw [List.getD_eq_getElem?_getD, List.getD_eq_getElem?_getD, List.getElem?_map]
  cases ps[k]? <;> rfl
theorem cut_small {s : List UInt8} {l : List Int} {k : Nat} (h : k < l.length) : ((cutL s l).getD k []).length ≤ 39 := by
  rw [cutL_get h, List.length_take]
  have := natS_ge (l.getD k 0)
  have h2 : sizeS (l.getD k 0) (cutN s l k).2.length ≤ 39 := by unfold sizeS; split <;> omega
  omega
set_option maxHeartbeats 4000000 in
set_option maxRecDepth 4000 in
theorem cr11 (c10 : CR Try.prog 10 [] [] (.d (.bool true)) []) (s : List UInt8) (d : D) (l : List Int) (hd : SL 1 d (dInts l)) (hr : ∀ i ∈ l, -9223372036854775808 ≤ i ∧ i < 9223372036854775808) : CR Try.prog 11 [st s, .d d] [] (.d (.bool true)) [] := by
  have e0 : (dInts l).length = l.length := by simp
  by_cases h : s.length > 300 ∨ l.length > 40
  · refine fn_cr fn11 (Nat.le_of_ble_eq_true rfl) rfl ?_
    unfold sc11
    repeat' first
      | ((with_reducible apply G_1y); exact rfl; (first | with_reducible assumption | omega))
      | ((with_reducible apply G_1n); exact rfl; (first | with_reducible assumption | omega))
      | ((with_reducible apply G_0y); exact rfl; (first | with_reducible assumption | omega))
      | ((with_reducible apply G_0n); exact rfl; (first | with_reducible assumption | omega))
      | ((with_reducible apply G_1P); exact rfl; all_goals intro _)
      | ((with_reducible apply G_0P); exact rfl; all_goals intro _)
      | ((with_reducible apply DG_1y); exact rfl; (first | with_reducible assumption | omega))
      | ((with_reducible apply DG_1n); exact rfl; (first | with_reducible assumption | omega))
      | ((with_reducible apply DG_0y); exact rfl; (first | with_reducible assumption | omega))
      | ((with_reducible apply DG_0n); exact rfl; (first | with_reducible assumption | omega))
      | ((with_reducible apply DG_1P); exact rfl; all_goals intro _)
      | ((with_reducible apply DG_0P); exact rfl; all_goals intro _)
      | ((with_reducible apply K_pickT); exact rfl; (first | with_reducible assumption | omega); exact rfl)
      | ((with_reducible apply K_pickF); exact rfl; (first | with_reducible assumption | omega); exact rfl)
      | ((with_reducible apply T_ite1); exact rfl; (first | with_reducible assumption | omega))
      | ((with_reducible apply T_ite0); exact rfl; (first | with_reducible assumption | omega))
      | ((with_reducible apply T_iteP); exact rfl; all_goals intro _)
      | ((with_reducible apply K_len_SL hd); exact rfl)
      | ((with_reducible apply K_call_0 (f := 10) (ys := [])); exact rfl; exact c10; exact rfl)
      | with_reducible refine T_seq ?_
      | with_reducible refine S_ops ?_
      | with_reducible refine O_step ?_
      | ((with_reducible apply K_mov_d); exact rfl)
      | with_reducible refine O_nil ?_
      | with_reducible refine seq_n ?_
      | with_reducible refine S_skip ?_
      | ((with_reducible apply T_itet); exact rfl)
      | ((with_reducible apply T_itef); exact rfl)
      | ((with_reducible apply T_ite1); exact rfl; (first | with_reducible assumption | omega))
      | ((with_reducible apply T_ite0); exact rfl; (first | with_reducible assumption | omega))
      | ((with_reducible apply T_iteP); exact rfl; all_goals intro _)
      | with_reducible refine S_ret ?_
      | with_reducible refine seq_r ?_
      | with_reducible refine S_exit ?_
      | with_reducible refine seq_e ?_
      | with_reducible refine T_block ?_
      | with_reducible refine blk_1 ?_
      | with_reducible refine blk_0 rfl ?_
      | with_reducible refine blk_n ?_
      | with_reducible refine blk_r ?_
      | with_reducible refine rnd_r ?_
      | with_reducible refine rnd_e ?_
      | ((with_reducible apply G_skip'); exact rfl)
      | ((with_reducible apply G_1tt); exact rfl)
      | ((with_reducible apply G_1ff); exact rfl)
      | ((with_reducible apply G_0tt); exact rfl)
      | ((with_reducible apply G_0ff); exact rfl)
      | ((with_reducible apply G_1y); exact rfl; (first | with_reducible assumption | omega))
      | ((with_reducible apply G_1n); exact rfl; (first | with_reducible assumption | omega))
      | ((with_reducible apply G_0y); exact rfl; (first | with_reducible assumption | omega))
      | ((with_reducible apply G_0n); exact rfl; (first | with_reducible assumption | omega))
      | ((with_reducible apply G_1P); exact rfl; all_goals intro _)
      | ((with_reducible apply G_0P); exact rfl; all_goals intro _)
      | ((with_reducible apply K_pickt); exact rfl; exact rfl)
      | ((with_reducible apply K_pickf); exact rfl; exact rfl)
      | ((with_reducible apply K_pickT); exact rfl; (first | with_reducible assumption | omega); exact rfl)
      | ((with_reducible apply K_pickF); exact rfl; (first | with_reducible assumption | omega); exact rfl)
      | ((with_reducible apply K_lss); exact rfl; exact rfl)
      | ((with_reducible apply K_gtr); exact rfl; exact rfl)
      | ((with_reducible apply K_neq); exact rfl; exact rfl)
      | ((with_reducible apply K_neqS); exact rfl; exact rfl)
      | ((with_reducible apply K_add); exact rfl; exact rfl; (first | omega | decide))
      | ((with_reducible apply K_addw); exact rfl; exact rfl)
      | ((with_reducible apply K_lenS); exact rfl)
      | ((with_reducible apply K_len_d); exact rfl)
      | ((with_reducible apply K_len_nil); exact rfl)
      | ((with_reducible apply K_len_ref); exact rfl; exact rfl)
      | with_reducible refine S_draw0 ?_
      | with_reducible refine D_nil ?_
      | with_reducible refine D_step0 ?_
      | ((with_reducible apply DG_1y); exact rfl; (first | with_reducible assumption | omega))
      | ((with_reducible apply DG_1n); exact rfl; (first | with_reducible assumption | omega))
      | ((with_reducible apply DG_0y); exact rfl; (first | with_reducible assumption | omega))
      | ((with_reducible apply DG_0n); exact rfl; (first | with_reducible assumption | omega))
      | ((with_reducible apply DG_1P); exact rfl; all_goals intro _)
      | ((with_reducible apply DG_0P); exact rfl; all_goals intro _)
      | ((with_reducible apply K_idxA_ref); exact rfl; exact rfl; exact rfl; (first | omega | decide))
      | ((with_reducible apply K_idxA_d); exact rfl; exact rfl; (first | omega | decide))
      | ((with_reducible apply K_load1_ptr); exact rfl; exact rfl; exact rfl)
      | ((with_reducible apply K_load1_fp); exact rfl)
      | ((with_reducible apply K_load1_byte); exact rfl; exact rfl; (first | omega | decide))
      | ((with_reducible apply K_mov_ref); exact rfl)
      | ((with_reducible apply K_mov_ptr); exact rfl)
      | ((with_reducible apply K_mov_tup); exact rfl)
      | ((with_reducible apply K_mov_yld); exact rfl)
      | ((with_reducible apply K_ext); exact rfl; exact rfl)
    all_goals exact ends_b rfl rfl
  · have hck : checkS s l.length = 0 := by unfold checkS; rw [if_neg (by omega), if_neg (by omega)]
    have c29 := cr29 s d l hd (by omega) hr
    rw [if_pos hck] at c29
    have c31 := cr31 s d l hd (by omega) hr
    rw [if_pos hck, scriptT_eq] at c31
    have hq1 := SL_slD 1 (dStrs (cutL s l))
    have hq2 := SL_slD 3 (dTri (scriptT s l))
    have hpl : (cutL s l).length ≤ l.length + 1 ∧ l.length ≤ (cutL s l).length := by rw [cutL_len]; split <;> omega
    have hcl : (scriptT s l).length ≤ 200 := by
      have h1 := callsT_len s l (cutL s l).length
      have h3 : endT.length = 9 := rfl
      unfold scriptT; rw [List.length_append]; omega
    have hj := cutL_join s l
    have c42 := cr42 _ (cutL s l) hq1 (by omega) (fun k => by have := getD_join (cutL s l) k; rw [hj] at this; omega)
    rw [joinR, hj, if_pos (by omega)] at c42
    have c44 := cr44 _ (scriptT s l) hq2 hcl (fun k => by have := script_getD s l k; omega)
    rw [fed_script, joinR, hj, if_pos (by omega)] at c44
    have c46 := cr46 _ (cutL s l) hq1 (by omega)
    have hq3 := SL_slD 1 (dInts (sizesL (cutL s l)))
    have hsm : ∀ k, k < l.length → ((cutL s l).getD k []).length ≤ 39 := fun k h => cut_small h
    have e1 : (dStrs (cutL s l)).length = (cutL s l).length := by simp
    have e2 : (sizesL (cutL s l)).length = (cutL s l).length := by unfold sizesL; simp
    have e3 : (dInts (sizesL (cutL s l))).length = (cutL s l).length := by rw [List.length_map, e2]
    have hsg := sizes_get (cutL s l)
    generalize slD 1 (dStrs (cutL s l)) = q1 at *
    generalize slD 3 (dTri (scriptT s l)) = q2 at *
    generalize slD 1 (dInts (sizesL (cutL s l))) = q3 at *
    generalize sizesL (cutL s l) = zs at *
    generalize cutL s l = ps at *
    refine fn_cr fn11 (Nat.le_of_ble_eq_true rfl) rfl ?_
    unfold sc11
    repeat' first
      | ((with_reducible apply G_1y); exact rfl; (first | with_reducible assumption | omega))
      | ((with_reducible apply G_1n); exact rfl; (first | with_reducible assumption | omega))
      | ((with_reducible apply G_0y); exact rfl; (first | with_reducible assumption | omega))
      | ((with_reducible apply G_0n); exact rfl; (first | with_reducible assumption | omega))
      | ((with_reducible apply G_1P); exact rfl; all_goals intro _)
      | ((with_reducible apply G_0P); exact rfl; all_goals intro _)
      | ((with_reducible apply DG_1y); exact rfl; (first | with_reducible assumption | omega))
      | ((with_reducible apply DG_1n); exact rfl; (first | with_reducible assumption | omega))
      | ((with_reducible apply DG_0y); exact rfl; (first | with_reducible assumption | omega))
      | ((with_reducible apply DG_0n); exact rfl; (first | with_reducible assumption | omega))
      | ((with_reducible apply DG_1P); exact rfl; all_goals intro _)
      | ((with_reducible apply DG_0P); exact rfl; all_goals intro _)
      | ((with_reducible apply K_pickT); exact rfl; (first | with_reducible assumption | omega); exact rfl)
      | ((with_reducible apply K_pickF); exact rfl; (first | with_reducible assumption | omega); exact rfl)
      | ((with_reducible apply T_ite1); exact rfl; (first | with_reducible assumption | omega))
      | ((with_reducible apply T_ite0); exact rfl; (first | with_reducible assumption | omega))
      | ((with_reducible apply T_iteP); exact rfl; all_goals intro _)
      | ((with_reducible apply K_len_SL hd); exact rfl)
      | ((with_reducible apply K_len_SL hq1); exact rfl)
      | ((with_reducible apply K_len_SL hq3); exact rfl)
      | ((with_reducible apply K_eql_same); exact rfl; exact rfl)
      | ((with_reducible apply K_neq_same); exact rfl; exact rfl)
      | ((with_reducible apply K_neqS_same); exact rfl; exact rfl)
      | ((with_reducible apply K_call_0 (f := 10) (ys := [])); exact rfl; exact c10; exact rfl)
      | ((with_reducible apply K_call_0 (f := 29) (ys := [.str s, d])); exact rfl; exact c29; exact rfl)
      | ((with_reducible apply K_call_0 (f := 31) (ys := [.str s, d])); exact rfl; exact c31; exact rfl)
      | ((with_reducible apply K_call_0 (f := 42) (ys := [q1])); exact rfl; exact c42; exact rfl)
      | ((with_reducible apply K_call_0 (f := 44) (ys := [q2])); exact rfl; exact c44; exact rfl)
      | ((with_reducible apply K_call_0 (f := 46) (ys := [q1])); exact rfl; exact c46; exact rfl)
      | with_reducible refine T_seq ?_
      | with_reducible refine S_ops ?_
      | with_reducible refine O_step ?_
      | ((with_reducible apply K_mov_d); exact rfl)
      | with_reducible refine O_nil ?_
      | with_reducible refine seq_n ?_
      | with_reducible refine S_skip ?_
      | ((with_reducible apply T_itet); exact rfl)
      | ((with_reducible apply T_itef); exact rfl)
      | ((with_reducible apply T_ite1); exact rfl; (first | with_reducible assumption | omega))
      | ((with_reducible apply T_ite0); exact rfl; (first | with_reducible assumption | omega))
      | ((with_reducible apply T_iteP); exact rfl; all_goals intro _)
      | with_reducible refine S_ret ?_
      | with_reducible refine seq_r ?_
      | with_reducible refine S_exit ?_
      | with_reducible refine seq_e ?_
      | with_reducible refine T_block ?_
      | with_reducible refine blk_1 ?_
      | with_reducible refine blk_0 rfl ?_
      | with_reducible refine blk_n ?_
      | with_reducible refine blk_r ?_
      | with_reducible refine rnd_r ?_
      | with_reducible refine rnd_e ?_
      | ((with_reducible apply G_skip'); exact rfl)
      | ((with_reducible apply G_1tt); exact rfl)
      | ((with_reducible apply G_1ff); exact rfl)
      | ((with_reducible apply G_0tt); exact rfl)
      | ((with_reducible apply G_0ff); exact rfl)
      | ((with_reducible apply G_1y); exact rfl; (first | with_reducible assumption | omega))
      | ((with_reducible apply G_1n); exact rfl; (first | with_reducible assumption | omega))
      | ((with_reducible apply G_0y); exact rfl; (first | with_reducible assumption | omega))
      | ((with_reducible apply G_0n); exact rfl; (first | with_reducible assumption | omega))
      | ((with_reducible apply G_1P); exact rfl; all_goals intro _)
      | ((with_reducible apply G_0P); exact rfl; all_goals intro _)
      | ((with_reducible apply K_pickt); exact rfl; exact rfl)
      | ((with_reducible apply K_pickf); exact rfl; exact rfl)
      | ((with_reducible apply K_pickT); exact rfl; (first | with_reducible assumption | omega); exact rfl)
      | ((with_reducible apply K_pickF); exact rfl; (first | with_reducible assumption | omega); exact rfl)
      | ((with_reducible apply K_lss); exact rfl; exact rfl)
      | ((with_reducible apply K_gtr); exact rfl; exact rfl)
      | ((with_reducible apply K_neq); exact rfl; exact rfl)
      | ((with_reducible apply K_neqS); exact rfl; exact rfl)
      | ((with_reducible apply K_add); exact rfl; exact rfl; (first | omega | decide))
      | ((with_reducible apply K_addw); exact rfl; exact rfl)
      | ((with_reducible apply K_lenS); exact rfl)
      | ((with_reducible apply K_len_d); exact rfl)
      | ((with_reducible apply K_len_nil); exact rfl)
      | ((with_reducible apply K_len_ref); exact rfl; exact rfl)
      | with_reducible refine S_draw0 ?_
      | with_reducible refine D_nil ?_
      | with_reducible refine D_step0 ?_
      | ((with_reducible apply DG_1y); exact rfl; (first | with_reducible assumption | omega))
      | ((with_reducible apply DG_1n); exact rfl; (first | with_reducible assumption | omega))
      | ((with_reducible apply DG_0y); exact rfl; (first | with_reducible assumption | omega))
      | ((with_reducible apply DG_0n); exact rfl; (first | with_reducible assumption | omega))
      | ((with_reducible apply DG_1P); exact rfl; all_goals intro _)
      | ((with_reducible apply DG_0P); exact rfl; all_goals intro _)
      | ((with_reducible apply K_idxA_ref); exact rfl; exact rfl; exact rfl; (first | omega | decide))
      | ((with_reducible apply K_idxA_d); exact rfl; exact rfl; (first | omega | decide))
      | ((with_reducible apply K_load1_ptr); exact rfl; exact rfl; exact rfl)
      | ((with_reducible apply K_load1_fp); exact rfl)
      | ((with_reducible apply K_load1_byte); exact rfl; exact rfl; (first | omega | decide))
      | ((with_reducible apply K_mov_ref); exact rfl)
      | ((with_reducible apply K_mov_ptr); exact rfl)
      | ((with_reducible apply K_mov_tup); exact rfl)
      | ((with_reducible apply K_mov_yld); exact rfl)
      | ((with_reducible apply K_ext); exact rfl; exact rfl)
    refine T_loop (fun t => Nat.beq t 4 || Nat.ble 15 t && Nat.ble t 15 || Nat.ble 96 t) [15] (fun u : Nat => [i64 u]) (fun _ => []) (fun u => u ≤ l.length) (fun u => l.length - u) 0 rfl (Nat.zero_le _) rfl rfl ?_
    rintro m g hm
    have hsm := hsm m
    have hsg := hsg m
    repeat' first
      | ((with_reducible apply G_1y); exact rfl; (first | with_reducible assumption | omega))
      | ((with_reducible apply G_1n); exact rfl; (first | with_reducible assumption | omega))
      | ((with_reducible apply G_0y); exact rfl; (first | with_reducible assumption | omega))
      | ((with_reducible apply G_0n); exact rfl; (first | with_reducible assumption | omega))
      | ((with_reducible apply G_1P); exact rfl; all_goals intro _)
      | ((with_reducible apply G_0P); exact rfl; all_goals intro _)
      | ((with_reducible apply DG_1y); exact rfl; (first | with_reducible assumption | omega))
      | ((with_reducible apply DG_1n); exact rfl; (first | with_reducible assumption | omega))
      | ((with_reducible apply DG_0y); exact rfl; (first | with_reducible assumption | omega))
      | ((with_reducible apply DG_0n); exact rfl; (first | with_reducible assumption | omega))
      | ((with_reducible apply DG_1P); exact rfl; all_goals intro _)
      | ((with_reducible apply DG_0P); exact rfl; all_goals intro _)
      | ((with_reducible apply K_pickT); exact rfl; (first | with_reducible assumption | omega); exact rfl)
      | ((with_reducible apply K_pickF); exact rfl; (first | with_reducible assumption | omega); exact rfl)
      | ((with_reducible apply T_ite1); exact rfl; (first | with_reducible assumption | omega))
      | ((with_reducible apply T_ite0); exact rfl; (first | with_reducible assumption | omega))
      | ((with_reducible apply T_iteP); exact rfl; all_goals intro _)
      | ((with_reducible apply K_len_SL hd); exact rfl)
      | ((with_reducible apply K_idxA_map (fun s : List UInt8 => D.str s) [] hq1); exact rfl; exact rfl; omega)
      | ((with_reducible apply K_idxA_map (fun i : Int => D.int .i64 i) 0 hq3); exact rfl; exact rfl; omega)
      | with_reducible refine T_seq ?_
      | with_reducible refine S_ops ?_
      | with_reducible refine O_step ?_
      | ((with_reducible apply K_mov_d); exact rfl)
      | with_reducible refine O_nil ?_
      | with_reducible refine seq_n ?_
      | with_reducible refine S_skip ?_
      | ((with_reducible apply T_itet); exact rfl)
      | ((with_reducible apply T_itef); exact rfl)
      | ((with_reducible apply T_ite1); exact rfl; (first | with_reducible assumption | omega))
      | ((with_reducible apply T_ite0); exact rfl; (first | with_reducible assumption | omega))
      | ((with_reducible apply T_iteP); exact rfl; all_goals intro _)
      | with_reducible refine S_ret ?_
      | with_reducible refine seq_r ?_
      | with_reducible refine S_exit ?_
      | with_reducible refine seq_e ?_
      | with_reducible refine T_block ?_
      | with_reducible refine blk_1 ?_
      | with_reducible refine blk_0 rfl ?_
      | with_reducible refine blk_n ?_
      | with_reducible refine blk_r ?_
      | with_reducible refine rnd_r ?_
      | with_reducible refine rnd_e ?_
      | ((with_reducible apply G_skip'); exact rfl)
      | ((with_reducible apply G_1tt); exact rfl)
      | ((with_reducible apply G_1ff); exact rfl)
      | ((with_reducible apply G_0tt); exact rfl)
      | ((with_reducible apply G_0ff); exact rfl)
      | ((with_reducible apply G_1y); exact rfl; (first | with_reducible assumption | omega))
      | ((with_reducible apply G_1n); exact rfl; (first | with_reducible assumption | omega))
      | ((with_reducible apply G_0y); exact rfl; (first | with_reducible assumption | omega))
      | ((with_reducible apply G_0n); exact rfl; (first | with_reducible assumption | omega))
      | ((with_reducible apply G_1P); exact rfl; all_goals intro _)
      | ((with_reducible apply G_0P); exact rfl; all_goals intro _)
      | ((with_reducible apply K_pickt); exact rfl; exact rfl)
      | ((with_reducible apply K_pickf); exact rfl; exact rfl)
      | ((with_reducible apply K_pickT); exact rfl; (first | with_reducible assumption | omega); exact rfl)
      | ((with_reducible apply K_pickF); exact rfl; (first | with_reducible assumption | omega); exact rfl)
      | ((with_reducible apply K_lss); exact rfl; exact rfl)
      | ((with_reducible apply K_gtr); exact rfl; exact rfl)
      | ((with_reducible apply K_neq); exact rfl; exact rfl)
      | ((with_reducible apply K_neqS); exact rfl; exact rfl)
      | ((with_reducible apply K_add); exact rfl; exact rfl; (first | omega | decide))
      | ((with_reducible apply K_addw); exact rfl; exact rfl)
      | ((with_reducible apply K_lenS); exact rfl)
      | ((with_reducible apply K_len_d); exact rfl)
      | ((with_reducible apply K_len_nil); exact rfl)
      | ((with_reducible apply K_len_ref); exact rfl; exact rfl)
      | with_reducible refine S_draw0 ?_
      | with_reducible refine D_nil ?_
      | with_reducible refine D_step0 ?_
      | ((with_reducible apply DG_1y); exact rfl; (first | with_reducible assumption | omega))
      | ((with_reducible apply DG_1n); exact rfl; (first | with_reducible assumption | omega))
      | ((with_reducible apply DG_0y); exact rfl; (first | with_reducible assumption | omega))
      | ((with_reducible apply DG_0n); exact rfl; (first | with_reducible assumption | omega))
      | ((with_reducible apply DG_1P); exact rfl; all_goals intro _)
      | ((with_reducible apply DG_0P); exact rfl; all_goals intro _)
      | ((with_reducible apply K_idxA_ref); exact rfl; exact rfl; exact rfl; (first | omega | decide))
      | ((with_reducible apply K_idxA_d); exact rfl; exact rfl; (first | omega | decide))
      | ((with_reducible apply K_load1_ptr); exact rfl; exact rfl; exact rfl)
      | ((with_reducible apply K_load1_fp); exact rfl)
      | ((with_reducible apply K_load1_byte); exact rfl; exact rfl; (first | omega | decide))
      | ((with_reducible apply K_mov_ref); exact rfl)
      | ((with_reducible apply K_mov_ptr); exact rfl)
      | ((with_reducible apply K_mov_tup); exact rfl)
      | ((with_reducible apply K_mov_yld); exact rfl)
      | ((with_reducible apply K_ext); exact rfl; exact rfl)
    all_goals first
      | exact rnd_n (m + 1) ⟨by omega, by omega⟩ rfl rfl
      | exact ends_b rfl rfl
end Go.Abs
