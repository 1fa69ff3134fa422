/- Contracts of the functions that the law on changes reaches: what each hands back; a library for the law, it claims nothing by itself. -/
import Derived.Test.YtkdcdcdeffednaaAbsC
set_option linter.unusedVariables false
set_option linter.unusedSimpArgs false
/- Contracts: the reference's change; the law on changes. -/
namespace Go.Abs
open Go.Proofs
theorem cr22 (s : List UInt8) (n : Int) (hn : n < 9223372036854775808) : CR Try.prog 22 [st s, i64 n] [] (.tup [st (changeS s n).1, i64 (changeS s n).2]) [] := by
  refine fn_cr fn22 (Nat.le_of_ble_eq_true rfl) rfl ?_
  unfold sc22
  by_cases h : s.length > 20000
  · rw [show changeS s n = ([], 4) from if_pos h]
    repeat' first
      | with_reducible refine T_seq ?_
      | with_reducible refine S_ops ?_
      | with_reducible refine O_step ?_
      | ((with_reducible apply K_mov_d); exact rfl)
      | with_reducible refine O_nil ?_
      | with_reducible refine seq_n ?_
      | with_reducible refine S_skip ?_
      | ((with_reducible apply T_itet); exact rfl)
      | ((with_reducible apply T_itef); exact rfl)
      | ((with_reducible apply T_ite1); exact rfl; (first | with_reducible assumption | omega))
      | ((with_reducible apply T_ite0); exact rfl; (first | with_reducible assumption | omega))
      | ((with_reducible apply T_iteP); exact rfl; all_goals intro _)
      | with_reducible refine S_ret ?_
      | with_reducible refine seq_r ?_
      | with_reducible refine S_exit ?_
      | with_reducible refine seq_e ?_
      | with_reducible refine T_block ?_
      | with_reducible refine blk_1 ?_
      | with_reducible refine blk_0 rfl ?_
      | with_reducible refine blk_n ?_
      | with_reducible refine blk_r ?_
      | with_reducible refine rnd_r ?_
      | with_reducible refine rnd_e ?_
      | ((with_reducible apply G_skip'); exact rfl)
      | ((with_reducible apply G_1tt); exact rfl)
      | ((with_reducible apply G_1ff); exact rfl)
      | ((with_reducible apply G_0tt); exact rfl)
      | ((with_reducible apply G_0ff); exact rfl)
      | ((with_reducible apply G_1y); exact rfl; (first | with_reducible assumption | omega))
      | ((with_reducible apply G_1n); exact rfl; (first | with_reducible assumption | omega))
      | ((with_reducible apply G_0y); exact rfl; (first | with_reducible assumption | omega))
      | ((with_reducible apply G_0n); exact rfl; (first | with_reducible assumption | omega))
      | ((with_reducible apply G_1P); exact rfl; all_goals intro _)
      | ((with_reducible apply G_0P); exact rfl; all_goals intro _)
      | ((with_reducible apply K_pickt); exact rfl; exact rfl)
      | ((with_reducible apply K_pickf); exact rfl; exact rfl)
      | ((with_reducible apply K_pickT); exact rfl; (first | with_reducible assumption | omega); exact rfl)
      | ((with_reducible apply K_pickF); exact rfl; (first | with_reducible assumption | omega); exact rfl)
      | ((with_reducible apply K_lss); exact rfl; exact rfl)
      | ((with_reducible apply K_gtr); exact rfl; exact rfl)
      | ((with_reducible apply K_eql); exact rfl; exact rfl)
      | ((with_reducible apply K_eqlS); exact rfl; exact rfl)
      | ((with_reducible apply K_add); exact rfl; exact rfl; (first | omega | decide))
      | ((with_reducible apply K_mul); exact rfl; exact rfl; (first | omega | decide))
      | ((with_reducible apply K_addw); exact rfl; exact rfl)
      | ((with_reducible apply K_mulw); exact rfl; exact rfl)
      | ((with_reducible apply K_and3); exact rfl; exact rfl; (first | omega | decide))
      | ((with_reducible apply K_and7); exact rfl; exact rfl; (first | omega | decide))
      | ((with_reducible apply K_shrc 2); exact rfl; exact rfl; exact rfl; (first | omega | decide))
      | ((with_reducible apply K_shrc 4); exact rfl; exact rfl; exact rfl; (first | omega | decide))
      | ((with_reducible apply K_shrc 8); exact rfl; exact rfl; exact rfl; (first | omega | decide))
      | ((with_reducible apply K_quo0); exact rfl; exact rfl; (first | omega | decide); (first | omega | decide))
      | ((with_reducible apply K_rem0); exact rfl; exact rfl; (first | omega | decide); (first | omega | decide))
      | ((with_reducible apply K_quo); exact rfl; exact rfl; (first | omega | decide))
      | ((with_reducible apply K_rem); exact rfl; exact rfl; (first | omega | decide))
      | ((with_reducible apply K_and); exact rfl; exact rfl)
      | ((with_reducible apply K_shr); exact rfl; exact rfl; (first | omega | decide))
      | ((with_reducible apply K_lenS); exact rfl)
      | ((with_reducible apply K_convu64); exact rfl; (first | omega | decide))
      | ((with_reducible apply K_convu8); exact rfl; (first | omega | decide))
      | ((with_reducible apply K_conv); exact rfl)
      | ((with_reducible apply K_bytes); exact rfl)
      | with_reducible refine S_draw0 ?_
      | with_reducible refine D_nil ?_
      | with_reducible refine D_step0 ?_
      | ((with_reducible apply DG_1y); exact rfl; (first | with_reducible assumption | omega))
      | ((with_reducible apply DG_1n); exact rfl; (first | with_reducible assumption | omega))
      | ((with_reducible apply DG_0y); exact rfl; (first | with_reducible assumption | omega))
      | ((with_reducible apply DG_0n); exact rfl; (first | with_reducible assumption | omega))
      | ((with_reducible apply DG_1P); exact rfl; all_goals intro _)
      | ((with_reducible apply DG_0P); exact rfl; all_goals intro _)
      | ((with_reducible apply K_idxA_ref); exact rfl; exact rfl; exact rfl; (first | omega | decide))
      | ((with_reducible apply K_idxA_d); exact rfl; exact rfl; (first | omega | decide))
      | ((with_reducible apply K_load1_ptr); exact rfl; exact rfl; exact rfl)
      | ((with_reducible apply K_load1_fp); exact rfl)
      | ((with_reducible apply K_load1_byte); exact rfl; exact rfl; (first | omega | decide))
      | ((with_reducible apply K_ofBytes_ref); exact rfl; exact rfl; (first | omega | simp))
      | ((with_reducible apply K_mov_ref); exact rfl)
      | ((with_reducible apply K_mov_ptr); exact rfl)
      | ((with_reducible apply K_mov_yld); exact rfl)
      | ((with_reducible apply K_slS_hi); exact rfl; exact rfl; (first | omega | decide))
      | ((with_reducible apply K_slS_lo); exact rfl; exact rfl; (first | omega | decide))
      | ((with_reducible apply K_slS_2); exact rfl; exact rfl; exact rfl; (first | omega | decide); (first | omega | decide))
      | ((with_reducible apply K_store1_pd); exact rfl; exact rfl; exact rfl; (first | decide | simp); exact rfl)
      | ((with_reducible apply K_store1_pr); exact rfl; exact rfl; exact rfl; (first | decide | simp))
      | ((with_reducible apply K_bslice); exact rfl)
    exact ends_si rfl rfl
  by_cases h2 : n < 0
  · rw [show changeS s n = ([], 2) from (if_neg h).trans (if_pos h2)]
    repeat' first
      | with_reducible refine T_seq ?_
      | with_reducible refine S_ops ?_
      | with_reducible refine O_step ?_
      | ((with_reducible apply K_mov_d); exact rfl)
      | with_reducible refine O_nil ?_
      | with_reducible refine seq_n ?_
      | with_reducible refine S_skip ?_
      | ((with_reducible apply T_itet); exact rfl)
      | ((with_reducible apply T_itef); exact rfl)
      | ((with_reducible apply T_ite1); exact rfl; (first | with_reducible assumption | omega))
      | ((with_reducible apply T_ite0); exact rfl; (first | with_reducible assumption | omega))
      | ((with_reducible apply T_iteP); exact rfl; all_goals intro _)
      | with_reducible refine S_ret ?_
      | with_reducible refine seq_r ?_
      | with_reducible refine S_exit ?_
      | with_reducible refine seq_e ?_
      | with_reducible refine T_block ?_
      | with_reducible refine blk_1 ?_
      | with_reducible refine blk_0 rfl ?_
      | with_reducible refine blk_n ?_
      | with_reducible refine blk_r ?_
      | with_reducible refine rnd_r ?_
      | with_reducible refine rnd_e ?_
      | ((with_reducible apply G_skip'); exact rfl)
      | ((with_reducible apply G_1tt); exact rfl)
      | ((with_reducible apply G_1ff); exact rfl)
      | ((with_reducible apply G_0tt); exact rfl)
      | ((with_reducible apply G_0ff); exact rfl)
      | ((with_reducible apply G_1y); exact rfl; (first | with_reducible assumption | omega))
      | ((with_reducible apply G_1n); exact rfl; (first | with_reducible assumption | omega))
      | ((with_reducible apply G_0y); exact rfl; (first | with_reducible assumption | omega))
      | ((with_reducible apply G_0n); exact rfl; (first | with_reducible assumption | omega))
      | ((with_reducible apply G_1P); exact rfl; all_goals intro _)
      | ((with_reducible apply G_0P); exact rfl; all_goals intro _)
      | ((with_reducible apply K_pickt); exact rfl; exact rfl)
      | ((with_reducible apply K_pickf); exact rfl; exact rfl)
      | ((with_reducible apply K_pickT); exact rfl; (first | with_reducible assumption | omega); exact rfl)
      | ((with_reducible apply K_pickF); exact rfl; (first | with_reducible assumption | omega); exact rfl)
      | ((with_reducible apply K_lss); exact rfl; exact rfl)
      | ((with_reducible apply K_gtr); exact rfl; exact rfl)
      | ((with_reducible apply K_eql); exact rfl; exact rfl)
      | ((with_reducible apply K_eqlS); exact rfl; exact rfl)
      | ((with_reducible apply K_add); exact rfl; exact rfl; (first | omega | decide))
      | ((with_reducible apply K_mul); exact rfl; exact rfl; (first | omega | decide))
      | ((with_reducible apply K_addw); exact rfl; exact rfl)
      | ((with_reducible apply K_mulw); exact rfl; exact rfl)
      | ((with_reducible apply K_and3); exact rfl; exact rfl; (first | omega | decide))
      | ((with_reducible apply K_and7); exact rfl; exact rfl; (first | omega | decide))
      | ((with_reducible apply K_shrc 2); exact rfl; exact rfl; exact rfl; (first | omega | decide))
      | ((with_reducible apply K_shrc 4); exact rfl; exact rfl; exact rfl; (first | omega | decide))
      | ((with_reducible apply K_shrc 8); exact rfl; exact rfl; exact rfl; (first | omega | decide))
      | ((with_reducible apply K_quo0); exact rfl; exact rfl; (first | omega | decide); (first | omega | decide))
      | ((with_reducible apply K_rem0); exact rfl; exact rfl; (first | omega | decide); (first | omega | decide))
      | ((with_reducible apply K_quo); exact rfl; exact rfl; (first | omega | decide))
      | ((with_reducible apply K_rem); exact rfl; exact rfl; (first | omega | decide))
      | ((with_reducible apply K_and); exact rfl; exact rfl)
      | ((with_reducible apply K_shr); exact rfl; exact rfl; (first | omega | decide))
      | ((with_reducible apply K_lenS); exact rfl)
      | ((with_reducible apply K_convu64); exact rfl; (first | omega | decide))
      | ((with_reducible apply K_convu8); exact rfl; (first | omega | decide))
      | ((with_reducible apply K_conv); exact rfl)
      | ((with_reducible apply K_bytes); exact rfl)
      | with_reducible refine S_draw0 ?_
      | with_reducible refine D_nil ?_
      | with_reducible refine D_step0 ?_
      | ((with_reducible apply DG_1y); exact rfl; (first | with_reducible assumption | omega))
      | ((with_reducible apply DG_1n); exact rfl; (first | with_reducible assumption | omega))
      | ((with_reducible apply DG_0y); exact rfl; (first | with_reducible assumption | omega))
      | ((with_reducible apply DG_0n); exact rfl; (first | with_reducible assumption | omega))
      | ((with_reducible apply DG_1P); exact rfl; all_goals intro _)
      | ((with_reducible apply DG_0P); exact rfl; all_goals intro _)
      | ((with_reducible apply K_idxA_ref); exact rfl; exact rfl; exact rfl; (first | omega | decide))
      | ((with_reducible apply K_idxA_d); exact rfl; exact rfl; (first | omega | decide))
      | ((with_reducible apply K_load1_ptr); exact rfl; exact rfl; exact rfl)
      | ((with_reducible apply K_load1_fp); exact rfl)
      | ((with_reducible apply K_load1_byte); exact rfl; exact rfl; (first | omega | decide))
      | ((with_reducible apply K_ofBytes_ref); exact rfl; exact rfl; (first | omega | simp))
      | ((with_reducible apply K_mov_ref); exact rfl)
      | ((with_reducible apply K_mov_ptr); exact rfl)
      | ((with_reducible apply K_mov_yld); exact rfl)
      | ((with_reducible apply K_slS_hi); exact rfl; exact rfl; (first | omega | decide))
      | ((with_reducible apply K_slS_lo); exact rfl; exact rfl; (first | omega | decide))
      | ((with_reducible apply K_slS_2); exact rfl; exact rfl; exact rfl; (first | omega | decide); (first | omega | decide))
      | ((with_reducible apply K_store1_pd); exact rfl; exact rfl; exact rfl; (first | decide | simp); exact rfl)
      | ((with_reducible apply K_store1_pr); exact rfl; exact rfl; exact rfl; (first | decide | simp))
      | ((with_reducible apply K_bslice); exact rfl)
    exact ends_si rfl rfl
  rw [changeS_len (by omega) (by omega)]
  obtain ⟨m, rfl⟩ : ∃ m : Nat, n = m := ⟨n.toNat, by omega⟩
  rw [Int.toNat_natCast]
  by_cases h3 : s = [] ∧ m % 5 ≠ 2 ∧ m % 5 ≠ 3
  · rw [if_pos h3]
    have h4 : s.length = 0 := by rw [h3.1]; rfl
    repeat' first
      | with_reducible refine T_seq ?_
      | with_reducible refine S_ops ?_
      | with_reducible refine O_step ?_
      | ((with_reducible apply K_mov_d); exact rfl)
      | with_reducible refine O_nil ?_
      | with_reducible refine seq_n ?_
      | with_reducible refine S_skip ?_
      | ((with_reducible apply T_itet); exact rfl)
      | ((with_reducible apply T_itef); exact rfl)
      | ((with_reducible apply T_ite1); exact rfl; (first | with_reducible assumption | omega))
      | ((with_reducible apply T_ite0); exact rfl; (first | with_reducible assumption | omega))
      | ((with_reducible apply T_iteP); exact rfl; all_goals intro _)
      | with_reducible refine S_ret ?_
      | with_reducible refine seq_r ?_
      | with_reducible refine S_exit ?_
      | with_reducible refine seq_e ?_
      | with_reducible refine T_block ?_
      | with_reducible refine blk_1 ?_
      | with_reducible refine blk_0 rfl ?_
      | with_reducible refine blk_n ?_
      | with_reducible refine blk_r ?_
      | with_reducible refine rnd_r ?_
      | with_reducible refine rnd_e ?_
      | ((with_reducible apply G_skip'); exact rfl)
      | ((with_reducible apply G_1tt); exact rfl)
      | ((with_reducible apply G_1ff); exact rfl)
      | ((with_reducible apply G_0tt); exact rfl)
      | ((with_reducible apply G_0ff); exact rfl)
      | ((with_reducible apply G_1y); exact rfl; (first | with_reducible assumption | omega))
      | ((with_reducible apply G_1n); exact rfl; (first | with_reducible assumption | omega))
      | ((with_reducible apply G_0y); exact rfl; (first | with_reducible assumption | omega))
      | ((with_reducible apply G_0n); exact rfl; (first | with_reducible assumption | omega))
      | ((with_reducible apply G_1P); exact rfl; all_goals intro _)
      | ((with_reducible apply G_0P); exact rfl; all_goals intro _)
      | ((with_reducible apply K_pickt); exact rfl; exact rfl)
      | ((with_reducible apply K_pickf); exact rfl; exact rfl)
      | ((with_reducible apply K_pickT); exact rfl; (first | with_reducible assumption | omega); exact rfl)
      | ((with_reducible apply K_pickF); exact rfl; (first | with_reducible assumption | omega); exact rfl)
      | ((with_reducible apply K_lss); exact rfl; exact rfl)
      | ((with_reducible apply K_gtr); exact rfl; exact rfl)
      | ((with_reducible apply K_eql); exact rfl; exact rfl)
      | ((with_reducible apply K_eqlS); exact rfl; exact rfl)
      | ((with_reducible apply K_add); exact rfl; exact rfl; (first | omega | decide))
      | ((with_reducible apply K_mul); exact rfl; exact rfl; (first | omega | decide))
      | ((with_reducible apply K_addw); exact rfl; exact rfl)
      | ((with_reducible apply K_mulw); exact rfl; exact rfl)
      | ((with_reducible apply K_and3); exact rfl; exact rfl; (first | omega | decide))
      | ((with_reducible apply K_and7); exact rfl; exact rfl; (first | omega | decide))
      | ((with_reducible apply K_shrc 2); exact rfl; exact rfl; exact rfl; (first | omega | decide))
      | ((with_reducible apply K_shrc 4); exact rfl; exact rfl; exact rfl; (first | omega | decide))
      | ((with_reducible apply K_shrc 8); exact rfl; exact rfl; exact rfl; (first | omega | decide))
      | ((with_reducible apply K_quo0); exact rfl; exact rfl; (first | omega | decide); (first | omega | decide))
      | ((with_reducible apply K_rem0); exact rfl; exact rfl; (first | omega | decide); (first | omega | decide))
      | ((with_reducible apply K_quo); exact rfl; exact rfl; (first | omega | decide))
      | ((with_reducible apply K_rem); exact rfl; exact rfl; (first | omega | decide))
      | ((with_reducible apply K_and); exact rfl; exact rfl)
      | ((with_reducible apply K_shr); exact rfl; exact rfl; (first | omega | decide))
      | ((with_reducible apply K_lenS); exact rfl)
      | ((with_reducible apply K_convu64); exact rfl; (first | omega | decide))
      | ((with_reducible apply K_convu8); exact rfl; (first | omega | decide))
      | ((with_reducible apply K_conv); exact rfl)
      | ((with_reducible apply K_bytes); exact rfl)
      | with_reducible refine S_draw0 ?_
      | with_reducible refine D_nil ?_
      | with_reducible refine D_step0 ?_
      | ((with_reducible apply DG_1y); exact rfl; (first | with_reducible assumption | omega))
      | ((with_reducible apply DG_1n); exact rfl; (first | with_reducible assumption | omega))
      | ((with_reducible apply DG_0y); exact rfl; (first | with_reducible assumption | omega))
      | ((with_reducible apply DG_0n); exact rfl; (first | with_reducible assumption | omega))
      | ((with_reducible apply DG_1P); exact rfl; all_goals intro _)
      | ((with_reducible apply DG_0P); exact rfl; all_goals intro _)
      | ((with_reducible apply K_idxA_ref); exact rfl; exact rfl; exact rfl; (first | omega | decide))
      | ((with_reducible apply K_idxA_d); exact rfl; exact rfl; (first | omega | decide))
      | ((with_reducible apply K_load1_ptr); exact rfl; exact rfl; exact rfl)
      | ((with_reducible apply K_load1_fp); exact rfl)
      | ((with_reducible apply K_load1_byte); exact rfl; exact rfl; (first | omega | decide))
      | ((with_reducible apply K_ofBytes_ref); exact rfl; exact rfl; (first | omega | simp))
      | ((with_reducible apply K_mov_ref); exact rfl)
      | ((with_reducible apply K_mov_ptr); exact rfl)
      | ((with_reducible apply K_mov_yld); exact rfl)
      | ((with_reducible apply K_slS_hi); exact rfl; exact rfl; (first | omega | decide))
      | ((with_reducible apply K_slS_lo); exact rfl; exact rfl; (first | omega | decide))
      | ((with_reducible apply K_slS_2); exact rfl; exact rfl; exact rfl; (first | omega | decide); (first | omega | decide))
      | ((with_reducible apply K_store1_pd); exact rfl; exact rfl; exact rfl; (first | decide | simp); exact rfl)
      | ((with_reducible apply K_store1_pr); exact rfl; exact rfl; exact rfl; (first | decide | simp))
      | ((with_reducible apply K_bslice); exact rfl)
    exact ends_si rfl rfl
  rw [if_neg h3]
  have h0 : m % 5 ≠ 2 → m % 5 ≠ 3 → 0 < s.length := fun h5 h6 => by
    rcases Nat.eq_zero_or_pos s.length with h7 | h7
    · exact absurd ⟨List.length_eq_zero_iff.1 h7, h5, h6⟩ h3
    · exact h7
  have hcase : m % 5 = 0 ∨ m % 5 = 1 ∨ m % 5 = 2 ∨ m % 5 = 3 ∨ m % 5 = 4 := by omega
  rcases hcase with hk | hk | hk | hk | hk
  · have hp := h0 (by omega) (by omega)
    have hlt : m / 5 % (8 * s.length) < 8 * s.length := Nat.mod_lt _ (by omega)
    rw [hk]
    repeat' first
      | ((with_reducible apply K_call_0 (ys := [.str s, .int .i64 ((m / 5 % (8 * s.length) : Nat))])); exact rfl; exact cr56 s _ (by omega) hlt; exact rfl)
      | with_reducible refine T_seq ?_
      | with_reducible refine S_ops ?_
      | with_reducible refine O_step ?_
      | ((with_reducible apply K_mov_d); exact rfl)
      | with_reducible refine O_nil ?_
      | with_reducible refine seq_n ?_
      | with_reducible refine S_skip ?_
      | ((with_reducible apply T_itet); exact rfl)
      | ((with_reducible apply T_itef); exact rfl)
      | ((with_reducible apply T_ite1); exact rfl; (first | with_reducible assumption | omega))
      | ((with_reducible apply T_ite0); exact rfl; (first | with_reducible assumption | omega))
      | ((with_reducible apply T_iteP); exact rfl; all_goals intro _)
      | with_reducible refine S_ret ?_
      | with_reducible refine seq_r ?_
      | with_reducible refine S_exit ?_
      | with_reducible refine seq_e ?_
      | with_reducible refine T_block ?_
      | with_reducible refine blk_1 ?_
      | with_reducible refine blk_0 rfl ?_
      | with_reducible refine blk_n ?_
      | with_reducible refine blk_r ?_
      | with_reducible refine rnd_r ?_
      | with_reducible refine rnd_e ?_
      | ((with_reducible apply G_skip'); exact rfl)
      | ((with_reducible apply G_1tt); exact rfl)
      | ((with_reducible apply G_1ff); exact rfl)
      | ((with_reducible apply G_0tt); exact rfl)
      | ((with_reducible apply G_0ff); exact rfl)
      | ((with_reducible apply G_1y); exact rfl; (first | with_reducible assumption | omega))
      | ((with_reducible apply G_1n); exact rfl; (first | with_reducible assumption | omega))
      | ((with_reducible apply G_0y); exact rfl; (first | with_reducible assumption | omega))
      | ((with_reducible apply G_0n); exact rfl; (first | with_reducible assumption | omega))
      | ((with_reducible apply G_1P); exact rfl; all_goals intro _)
      | ((with_reducible apply G_0P); exact rfl; all_goals intro _)
      | ((with_reducible apply K_pickt); exact rfl; exact rfl)
      | ((with_reducible apply K_pickf); exact rfl; exact rfl)
      | ((with_reducible apply K_pickT); exact rfl; (first | with_reducible assumption | omega); exact rfl)
      | ((with_reducible apply K_pickF); exact rfl; (first | with_reducible assumption | omega); exact rfl)
      | ((with_reducible apply K_lss); exact rfl; exact rfl)
      | ((with_reducible apply K_gtr); exact rfl; exact rfl)
      | ((with_reducible apply K_eql); exact rfl; exact rfl)
      | ((with_reducible apply K_eqlS); exact rfl; exact rfl)
      | ((with_reducible apply K_add); exact rfl; exact rfl; (first | omega | decide))
      | ((with_reducible apply K_mul); exact rfl; exact rfl; (first | omega | decide))
      | ((with_reducible apply K_addw); exact rfl; exact rfl)
      | ((with_reducible apply K_mulw); exact rfl; exact rfl)
      | ((with_reducible apply K_and3); exact rfl; exact rfl; (first | omega | decide))
      | ((with_reducible apply K_and7); exact rfl; exact rfl; (first | omega | decide))
      | ((with_reducible apply K_shrc 2); exact rfl; exact rfl; exact rfl; (first | omega | decide))
      | ((with_reducible apply K_shrc 4); exact rfl; exact rfl; exact rfl; (first | omega | decide))
      | ((with_reducible apply K_shrc 8); exact rfl; exact rfl; exact rfl; (first | omega | decide))
      | ((with_reducible apply K_quo0); exact rfl; exact rfl; (first | omega | decide); (first | omega | decide))
      | ((with_reducible apply K_rem0); exact rfl; exact rfl; (first | omega | decide); (first | omega | decide))
      | ((with_reducible apply K_quo); exact rfl; exact rfl; (first | omega | decide))
      | ((with_reducible apply K_rem); exact rfl; exact rfl; (first | omega | decide))
      | ((with_reducible apply K_and); exact rfl; exact rfl)
      | ((with_reducible apply K_shr); exact rfl; exact rfl; (first | omega | decide))
      | ((with_reducible apply K_lenS); exact rfl)
      | ((with_reducible apply K_convu64); exact rfl; (first | omega | decide))
      | ((with_reducible apply K_convu8); exact rfl; (first | omega | decide))
      | ((with_reducible apply K_conv); exact rfl)
      | ((with_reducible apply K_bytes); exact rfl)
      | with_reducible refine S_draw0 ?_
      | with_reducible refine D_nil ?_
      | with_reducible refine D_step0 ?_
      | ((with_reducible apply DG_1y); exact rfl; (first | with_reducible assumption | omega))
      | ((with_reducible apply DG_1n); exact rfl; (first | with_reducible assumption | omega))
      | ((with_reducible apply DG_0y); exact rfl; (first | with_reducible assumption | omega))
      | ((with_reducible apply DG_0n); exact rfl; (first | with_reducible assumption | omega))
      | ((with_reducible apply DG_1P); exact rfl; all_goals intro _)
      | ((with_reducible apply DG_0P); exact rfl; all_goals intro _)
      | ((with_reducible apply K_idxA_ref); exact rfl; exact rfl; exact rfl; (first | omega | decide))
      | ((with_reducible apply K_idxA_d); exact rfl; exact rfl; (first | omega | decide))
      | ((with_reducible apply K_load1_ptr); exact rfl; exact rfl; exact rfl)
      | ((with_reducible apply K_load1_fp); exact rfl)
      | ((with_reducible apply K_load1_byte); exact rfl; exact rfl; (first | omega | decide))
      | ((with_reducible apply K_ofBytes_ref); exact rfl; exact rfl; (first | omega | simp))
      | ((with_reducible apply K_mov_ref); exact rfl)
      | ((with_reducible apply K_mov_ptr); exact rfl)
      | ((with_reducible apply K_mov_yld); exact rfl)
      | ((with_reducible apply K_slS_hi); exact rfl; exact rfl; (first | omega | decide))
      | ((with_reducible apply K_slS_lo); exact rfl; exact rfl; (first | omega | decide))
      | ((with_reducible apply K_slS_2); exact rfl; exact rfl; exact rfl; (first | omega | decide); (first | omega | decide))
      | ((with_reducible apply K_store1_pd); exact rfl; exact rfl; exact rfl; (first | decide | simp); exact rfl)
      | ((with_reducible apply K_store1_pr); exact rfl; exact rfl; exact rfl; (first | decide | simp))
      | ((with_reducible apply K_bslice); exact rfl)
    exact ends_si rfl (by rw [kindS_0])
  · have hp := h0 (by omega) (by omega)
    have hlt : m / 5 % (8 * s.length) < 8 * s.length := Nat.mod_lt _ (by omega)
    rw [hk, kindS_1]
    have c57 : CR Try.prog 57 [i64 ((m / 5 : Nat))] [] (.d (.int .u32 (patN (m / 5)))) [] := by rw [patN_eq]; exact cr57 _
    have hpl := patN_lt (m / 5)
    generalize patN (m / 5) = p at c57 hpl
    obtain ⟨f, hf⟩ : ∃ f, f = m / 5 % (8 * s.length) := ⟨_, rfl⟩
    rw [← hf] at hlt
    have hf' : (m : Int) / 5 % (8 * (s.length : Int)) = f := by rw [hf]; rfl
    rw [← hf]
    repeat' first
      | ((with_reducible apply K_call_0 (ys := [.int .i64 ((m / 5 : Nat))])); exact rfl; exact c57; exact rfl)
      | ((with_reducible apply K_remv f); exact rfl; exact rfl; omega; omega; exact hf')
      | with_reducible refine T_seq ?_
      | with_reducible refine S_ops ?_
      | with_reducible refine O_step ?_
      | ((with_reducible apply K_mov_d); exact rfl)
      | with_reducible refine O_nil ?_
      | with_reducible refine seq_n ?_
      | with_reducible refine S_skip ?_
      | ((with_reducible apply T_itet); exact rfl)
      | ((with_reducible apply T_itef); exact rfl)
      | ((with_reducible apply T_ite1); exact rfl; (first | with_reducible assumption | omega))
      | ((with_reducible apply T_ite0); exact rfl; (first | with_reducible assumption | omega))
      | ((with_reducible apply T_iteP); exact rfl; all_goals intro _)
      | with_reducible refine S_ret ?_
      | with_reducible refine seq_r ?_
      | with_reducible refine S_exit ?_
      | with_reducible refine seq_e ?_
      | with_reducible refine T_block ?_
      | with_reducible refine blk_1 ?_
      | with_reducible refine blk_0 rfl ?_
      | with_reducible refine blk_n ?_
      | with_reducible refine blk_r ?_
      | with_reducible refine rnd_r ?_
      | with_reducible refine rnd_e ?_
      | ((with_reducible apply G_skip'); exact rfl)
      | ((with_reducible apply G_1tt); exact rfl)
      | ((with_reducible apply G_1ff); exact rfl)
      | ((with_reducible apply G_0tt); exact rfl)
      | ((with_reducible apply G_0ff); exact rfl)
      | ((with_reducible apply G_1y); exact rfl; (first | with_reducible assumption | omega))
      | ((with_reducible apply G_1n); exact rfl; (first | with_reducible assumption | omega))
      | ((with_reducible apply G_0y); exact rfl; (first | with_reducible assumption | omega))
      | ((with_reducible apply G_0n); exact rfl; (first | with_reducible assumption | omega))
      | ((with_reducible apply G_1P); exact rfl; all_goals intro _)
      | ((with_reducible apply G_0P); exact rfl; all_goals intro _)
      | ((with_reducible apply K_pickt); exact rfl; exact rfl)
      | ((with_reducible apply K_pickf); exact rfl; exact rfl)
      | ((with_reducible apply K_pickT); exact rfl; (first | with_reducible assumption | omega); exact rfl)
      | ((with_reducible apply K_pickF); exact rfl; (first | with_reducible assumption | omega); exact rfl)
      | ((with_reducible apply K_lss); exact rfl; exact rfl)
      | ((with_reducible apply K_gtr); exact rfl; exact rfl)
      | ((with_reducible apply K_eql); exact rfl; exact rfl)
      | ((with_reducible apply K_eqlS); exact rfl; exact rfl)
      | ((with_reducible apply K_add); exact rfl; exact rfl; (first | omega | decide))
      | ((with_reducible apply K_mul); exact rfl; exact rfl; (first | omega | decide))
      | ((with_reducible apply K_addw); exact rfl; exact rfl)
      | ((with_reducible apply K_mulw); exact rfl; exact rfl)
      | ((with_reducible apply K_and3); exact rfl; exact rfl; (first | omega | decide))
      | ((with_reducible apply K_and7); exact rfl; exact rfl; (first | omega | decide))
      | ((with_reducible apply K_shrc 2); exact rfl; exact rfl; exact rfl; (first | omega | decide))
      | ((with_reducible apply K_shrc 4); exact rfl; exact rfl; exact rfl; (first | omega | decide))
      | ((with_reducible apply K_shrc 8); exact rfl; exact rfl; exact rfl; (first | omega | decide))
      | ((with_reducible apply K_quo0); exact rfl; exact rfl; (first | omega | decide); (first | omega | decide))
      | ((with_reducible apply K_rem0); exact rfl; exact rfl; (first | omega | decide); (first | omega | decide))
      | ((with_reducible apply K_quo); exact rfl; exact rfl; (first | omega | decide))
      | ((with_reducible apply K_rem); exact rfl; exact rfl; (first | omega | decide))
      | ((with_reducible apply K_and); exact rfl; exact rfl)
      | ((with_reducible apply K_shr); exact rfl; exact rfl; (first | omega | decide))
      | ((with_reducible apply K_lenS); exact rfl)
      | ((with_reducible apply K_convu64); exact rfl; (first | omega | decide))
      | ((with_reducible apply K_convu8); exact rfl; (first | omega | decide))
      | ((with_reducible apply K_conv); exact rfl)
      | ((with_reducible apply K_bytes); exact rfl)
      | with_reducible refine S_draw0 ?_
      | with_reducible refine D_nil ?_
      | with_reducible refine D_step0 ?_
      | ((with_reducible apply DG_1y); exact rfl; (first | with_reducible assumption | omega))
      | ((with_reducible apply DG_1n); exact rfl; (first | with_reducible assumption | omega))
      | ((with_reducible apply DG_0y); exact rfl; (first | with_reducible assumption | omega))
      | ((with_reducible apply DG_0n); exact rfl; (first | with_reducible assumption | omega))
      | ((with_reducible apply DG_1P); exact rfl; all_goals intro _)
      | ((with_reducible apply DG_0P); exact rfl; all_goals intro _)
      | ((with_reducible apply K_idxA_ref); exact rfl; exact rfl; exact rfl; (first | omega | decide))
      | ((with_reducible apply K_idxA_d); exact rfl; exact rfl; (first | omega | decide))
      | ((with_reducible apply K_load1_ptr); exact rfl; exact rfl; exact rfl)
      | ((with_reducible apply K_load1_fp); exact rfl)
      | ((with_reducible apply K_load1_byte); exact rfl; exact rfl; (first | omega | decide))
      | ((with_reducible apply K_ofBytes_ref); exact rfl; exact rfl; (first | omega | simp))
      | ((with_reducible apply K_mov_ref); exact rfl)
      | ((with_reducible apply K_mov_ptr); exact rfl)
      | ((with_reducible apply K_mov_yld); exact rfl)
      | ((with_reducible apply K_slS_hi); exact rfl; exact rfl; (first | omega | decide))
      | ((with_reducible apply K_slS_lo); exact rfl; exact rfl; (first | omega | decide))
      | ((with_reducible apply K_slS_2); exact rfl; exact rfl; exact rfl; (first | omega | decide); (first | omega | decide))
      | ((with_reducible apply K_store1_pd); exact rfl; exact rfl; exact rfl; (first | decide | simp); exact rfl)
      | ((with_reducible apply K_store1_pr); exact rfl; exact rfl; exact rfl; (first | decide | simp))
      | ((with_reducible apply K_bslice); exact rfl)
    refine T_loop (fun t => Nat.beq t 0 || Nat.ble 9 t) [0, 9] (fun k : Nat => [st (flipsN s f p k), i64 k]) (fun _ => []) (fun k => k ≤ 32) (32 - ·) 0 rfl (by omega) rfl rfl ?_
    intro k g hk
    have hl := flipsN_len s f p k
    repeat' first
      | ((with_reducible apply K_call_0 (ys := [.str (flipsN s f p k), .int .i64 ((f + k : Nat))])); exact rfl; exact cr56 (flipsN s f p k) (f + k) (by omega) (by omega); exact rfl)
      | with_reducible refine T_seq ?_
      | with_reducible refine S_ops ?_
      | with_reducible refine O_step ?_
      | ((with_reducible apply K_mov_d); exact rfl)
      | with_reducible refine O_nil ?_
      | with_reducible refine seq_n ?_
      | with_reducible refine S_skip ?_
      | ((with_reducible apply T_itet); exact rfl)
      | ((with_reducible apply T_itef); exact rfl)
      | ((with_reducible apply T_ite1); exact rfl; (first | with_reducible assumption | omega))
      | ((with_reducible apply T_ite0); exact rfl; (first | with_reducible assumption | omega))
      | ((with_reducible apply T_iteP); exact rfl; all_goals intro _)
      | with_reducible refine S_ret ?_
      | with_reducible refine seq_r ?_
      | with_reducible refine S_exit ?_
      | with_reducible refine seq_e ?_
      | with_reducible refine T_block ?_
      | with_reducible refine blk_1 ?_
      | with_reducible refine blk_0 rfl ?_
      | with_reducible refine blk_n ?_
      | with_reducible refine blk_r ?_
      | with_reducible refine rnd_r ?_
      | with_reducible refine rnd_e ?_
      | ((with_reducible apply G_skip'); exact rfl)
      | ((with_reducible apply G_1tt); exact rfl)
      | ((with_reducible apply G_1ff); exact rfl)
      | ((with_reducible apply G_0tt); exact rfl)
      | ((with_reducible apply G_0ff); exact rfl)
      | ((with_reducible apply G_1y); exact rfl; (first | with_reducible assumption | omega))
      | ((with_reducible apply G_1n); exact rfl; (first | with_reducible assumption | omega))
      | ((with_reducible apply G_0y); exact rfl; (first | with_reducible assumption | omega))
      | ((with_reducible apply G_0n); exact rfl; (first | with_reducible assumption | omega))
      | ((with_reducible apply G_1P); exact rfl; all_goals intro _)
      | ((with_reducible apply G_0P); exact rfl; all_goals intro _)
      | ((with_reducible apply K_pickt); exact rfl; exact rfl)
      | ((with_reducible apply K_pickf); exact rfl; exact rfl)
      | ((with_reducible apply K_pickT); exact rfl; (first | with_reducible assumption | omega); exact rfl)
      | ((with_reducible apply K_pickF); exact rfl; (first | with_reducible assumption | omega); exact rfl)
      | ((with_reducible apply K_lss); exact rfl; exact rfl)
      | ((with_reducible apply K_gtr); exact rfl; exact rfl)
      | ((with_reducible apply K_eql); exact rfl; exact rfl)
      | ((with_reducible apply K_eqlS); exact rfl; exact rfl)
      | ((with_reducible apply K_add); exact rfl; exact rfl; (first | omega | decide))
      | ((with_reducible apply K_mul); exact rfl; exact rfl; (first | omega | decide))
      | ((with_reducible apply K_addw); exact rfl; exact rfl)
      | ((with_reducible apply K_mulw); exact rfl; exact rfl)
      | ((with_reducible apply K_and3); exact rfl; exact rfl; (first | omega | decide))
      | ((with_reducible apply K_and7); exact rfl; exact rfl; (first | omega | decide))
      | ((with_reducible apply K_shrc 2); exact rfl; exact rfl; exact rfl; (first | omega | decide))
      | ((with_reducible apply K_shrc 4); exact rfl; exact rfl; exact rfl; (first | omega | decide))
      | ((with_reducible apply K_shrc 8); exact rfl; exact rfl; exact rfl; (first | omega | decide))
      | ((with_reducible apply K_quo0); exact rfl; exact rfl; (first | omega | decide); (first | omega | decide))
      | ((with_reducible apply K_rem0); exact rfl; exact rfl; (first | omega | decide); (first | omega | decide))
      | ((with_reducible apply K_quo); exact rfl; exact rfl; (first | omega | decide))
      | ((with_reducible apply K_rem); exact rfl; exact rfl; (first | omega | decide))
      | ((with_reducible apply K_and); exact rfl; exact rfl)
      | ((with_reducible apply K_shr); exact rfl; exact rfl; (first | omega | decide))
      | ((with_reducible apply K_lenS); exact rfl)
      | ((with_reducible apply K_convu64); exact rfl; (first | omega | decide))
      | ((with_reducible apply K_convu8); exact rfl; (first | omega | decide))
      | ((with_reducible apply K_conv); exact rfl)
      | ((with_reducible apply K_bytes); exact rfl)
      | with_reducible refine S_draw0 ?_
      | with_reducible refine D_nil ?_
      | with_reducible refine D_step0 ?_
      | ((with_reducible apply DG_1y); exact rfl; (first | with_reducible assumption | omega))
      | ((with_reducible apply DG_1n); exact rfl; (first | with_reducible assumption | omega))
      | ((with_reducible apply DG_0y); exact rfl; (first | with_reducible assumption | omega))
      | ((with_reducible apply DG_0n); exact rfl; (first | with_reducible assumption | omega))
      | ((with_reducible apply DG_1P); exact rfl; all_goals intro _)
      | ((with_reducible apply DG_0P); exact rfl; all_goals intro _)
      | ((with_reducible apply K_idxA_ref); exact rfl; exact rfl; exact rfl; (first | omega | decide))
      | ((with_reducible apply K_idxA_d); exact rfl; exact rfl; (first | omega | decide))
      | ((with_reducible apply K_load1_ptr); exact rfl; exact rfl; exact rfl)
      | ((with_reducible apply K_load1_fp); exact rfl)
      | ((with_reducible apply K_load1_byte); exact rfl; exact rfl; (first | omega | decide))
      | ((with_reducible apply K_ofBytes_ref); exact rfl; exact rfl; (first | omega | simp))
      | ((with_reducible apply K_mov_ref); exact rfl)
      | ((with_reducible apply K_mov_ptr); exact rfl)
      | ((with_reducible apply K_mov_yld); exact rfl)
      | ((with_reducible apply K_slS_hi); exact rfl; exact rfl; (first | omega | decide))
      | ((with_reducible apply K_slS_lo); exact rfl; exact rfl; (first | omega | decide))
      | ((with_reducible apply K_slS_2); exact rfl; exact rfl; exact rfl; (first | omega | decide); (first | omega | decide))
      | ((with_reducible apply K_store1_pd); exact rfl; exact rfl; exact rfl; (first | decide | simp); exact rfl)
      | ((with_reducible apply K_store1_pr); exact rfl; exact rfl; exact rfl; (first | decide | simp))
      | ((with_reducible apply K_bslice); exact rfl)
    · have hb := (tb32 (i := k) hpl (by omega)).1 (by assumption)
      exact rnd_n (k + 1) ⟨by omega, by omega⟩ (by rw [flipsN_y hb (by omega)]; rfl) rfl
    · have hb : ¬ p.testBit k = true := fun h => absurd ((tb32 (i := k) hpl (by omega)).2 h) (by assumption)
      exact rnd_n (k + 1) ⟨by omega, by omega⟩ (by rw [flipsN_n fun h => hb h.1]; rfl) rfl
    · exact ends_si rfl (by rw [flips, flipsN_rest (k := k) (by omega) 32 (by omega)])
    · have : k = 32 := by omega
      subst this
      exact ends_si rfl rfl
  · have h5 : (m : Int) / 5 % (s.length + 1) < s.length + 1 := Int.emod_lt_of_pos _ (by omega)
    have h6 : 0 ≤ (m : Int) / 5 % (s.length + 1) := Int.emod_nonneg _ (by omega)
    rw [hk]
    repeat' first
      | with_reducible refine T_seq ?_
      | with_reducible refine S_ops ?_
      | with_reducible refine O_step ?_
      | ((with_reducible apply K_mov_d); exact rfl)
      | with_reducible refine O_nil ?_
      | with_reducible refine seq_n ?_
      | with_reducible refine S_skip ?_
      | ((with_reducible apply T_itet); exact rfl)
      | ((with_reducible apply T_itef); exact rfl)
      | ((with_reducible apply T_ite1); exact rfl; (first | with_reducible assumption | omega))
      | ((with_reducible apply T_ite0); exact rfl; (first | with_reducible assumption | omega))
      | ((with_reducible apply T_iteP); exact rfl; all_goals intro _)
      | with_reducible refine S_ret ?_
      | with_reducible refine seq_r ?_
      | with_reducible refine S_exit ?_
      | with_reducible refine seq_e ?_
      | with_reducible refine T_block ?_
      | with_reducible refine blk_1 ?_
      | with_reducible refine blk_0 rfl ?_
      | with_reducible refine blk_n ?_
      | with_reducible refine blk_r ?_
      | with_reducible refine rnd_r ?_
      | with_reducible refine rnd_e ?_
      | ((with_reducible apply G_skip'); exact rfl)
      | ((with_reducible apply G_1tt); exact rfl)
      | ((with_reducible apply G_1ff); exact rfl)
      | ((with_reducible apply G_0tt); exact rfl)
      | ((with_reducible apply G_0ff); exact rfl)
      | ((with_reducible apply G_1y); exact rfl; (first | with_reducible assumption | omega))
      | ((with_reducible apply G_1n); exact rfl; (first | with_reducible assumption | omega))
      | ((with_reducible apply G_0y); exact rfl; (first | with_reducible assumption | omega))
      | ((with_reducible apply G_0n); exact rfl; (first | with_reducible assumption | omega))
      | ((with_reducible apply G_1P); exact rfl; all_goals intro _)
      | ((with_reducible apply G_0P); exact rfl; all_goals intro _)
      | ((with_reducible apply K_pickt); exact rfl; exact rfl)
      | ((with_reducible apply K_pickf); exact rfl; exact rfl)
      | ((with_reducible apply K_pickT); exact rfl; (first | with_reducible assumption | omega); exact rfl)
      | ((with_reducible apply K_pickF); exact rfl; (first | with_reducible assumption | omega); exact rfl)
      | ((with_reducible apply K_lss); exact rfl; exact rfl)
      | ((with_reducible apply K_gtr); exact rfl; exact rfl)
      | ((with_reducible apply K_eql); exact rfl; exact rfl)
      | ((with_reducible apply K_eqlS); exact rfl; exact rfl)
      | ((with_reducible apply K_add); exact rfl; exact rfl; (first | omega | decide))
      | ((with_reducible apply K_mul); exact rfl; exact rfl; (first | omega | decide))
      | ((with_reducible apply K_addw); exact rfl; exact rfl)
      | ((with_reducible apply K_mulw); exact rfl; exact rfl)
      | ((with_reducible apply K_and3); exact rfl; exact rfl; (first | omega | decide))
      | ((with_reducible apply K_and7); exact rfl; exact rfl; (first | omega | decide))
      | ((with_reducible apply K_shrc 2); exact rfl; exact rfl; exact rfl; (first | omega | decide))
      | ((with_reducible apply K_shrc 4); exact rfl; exact rfl; exact rfl; (first | omega | decide))
      | ((with_reducible apply K_shrc 8); exact rfl; exact rfl; exact rfl; (first | omega | decide))
      | ((with_reducible apply K_quo0); exact rfl; exact rfl; (first | omega | decide); (first | omega | decide))
      | ((with_reducible apply K_rem0); exact rfl; exact rfl; (first | omega | decide); (first | omega | decide))
      | ((with_reducible apply K_quo); exact rfl; exact rfl; (first | omega | decide))
      | ((with_reducible apply K_rem); exact rfl; exact rfl; (first | omega | decide))
      | ((with_reducible apply K_and); exact rfl; exact rfl)
      | ((with_reducible apply K_shr); exact rfl; exact rfl; (first | omega | decide))
      | ((with_reducible apply K_lenS); exact rfl)
      | ((with_reducible apply K_convu64); exact rfl; (first | omega | decide))
      | ((with_reducible apply K_convu8); exact rfl; (first | omega | decide))
      | ((with_reducible apply K_conv); exact rfl)
      | ((with_reducible apply K_bytes); exact rfl)
      | with_reducible refine S_draw0 ?_
      | with_reducible refine D_nil ?_
      | with_reducible refine D_step0 ?_
      | ((with_reducible apply DG_1y); exact rfl; (first | with_reducible assumption | omega))
      | ((with_reducible apply DG_1n); exact rfl; (first | with_reducible assumption | omega))
      | ((with_reducible apply DG_0y); exact rfl; (first | with_reducible assumption | omega))
      | ((with_reducible apply DG_0n); exact rfl; (first | with_reducible assumption | omega))
      | ((with_reducible apply DG_1P); exact rfl; all_goals intro _)
      | ((with_reducible apply DG_0P); exact rfl; all_goals intro _)
      | ((with_reducible apply K_idxA_ref); exact rfl; exact rfl; exact rfl; (first | omega | decide))
      | ((with_reducible apply K_idxA_d); exact rfl; exact rfl; (first | omega | decide))
      | ((with_reducible apply K_load1_ptr); exact rfl; exact rfl; exact rfl)
      | ((with_reducible apply K_load1_fp); exact rfl)
      | ((with_reducible apply K_load1_byte); exact rfl; exact rfl; (first | omega | decide))
      | ((with_reducible apply K_ofBytes_ref); exact rfl; exact rfl; (first | omega | simp))
      | ((with_reducible apply K_mov_ref); exact rfl)
      | ((with_reducible apply K_mov_ptr); exact rfl)
      | ((with_reducible apply K_mov_yld); exact rfl)
      | ((with_reducible apply K_slS_hi); exact rfl; exact rfl; (first | omega | decide))
      | ((with_reducible apply K_slS_lo); exact rfl; exact rfl; (first | omega | decide))
      | ((with_reducible apply K_slS_2); exact rfl; exact rfl; exact rfl; (first | omega | decide); (first | omega | decide))
      | ((with_reducible apply K_store1_pd); exact rfl; exact rfl; exact rfl; (first | decide | simp); exact rfl)
      | ((with_reducible apply K_store1_pr); exact rfl; exact rfl; exact rfl; (first | decide | simp))
      | ((with_reducible apply K_bslice); exact rfl)
    exact ends_si rfl (by rw [kindS_2]; rfl)
  · have ew := u8_ofNat (m / 5)
    have ew2 : (m : Int) / 5 % 256 = ((UInt8.ofNat (m / 5)).toNat : Int) := by
      rw [← ew, IntKind.wrap_u8]; omega
    rw [hk]
    repeat' first
      | ((with_reducible apply K_ofBytes_ref (s := [UInt8.ofNat (m / 5)])); exact rfl; (show some (0, 1, [D.int .u8 _]) = _; rw [ew2]; rfl); exact rfl)
      | ((with_reducible apply K_cat); exact rfl; exact rfl; (simp; omega))
      | with_reducible refine T_seq ?_
      | with_reducible refine S_ops ?_
      | with_reducible refine O_step ?_
      | ((with_reducible apply K_mov_d); exact rfl)
      | with_reducible refine O_nil ?_
      | with_reducible refine seq_n ?_
      | with_reducible refine S_skip ?_
      | ((with_reducible apply T_itet); exact rfl)
      | ((with_reducible apply T_itef); exact rfl)
      | ((with_reducible apply T_ite1); exact rfl; (first | with_reducible assumption | omega))
      | ((with_reducible apply T_ite0); exact rfl; (first | with_reducible assumption | omega))
      | ((with_reducible apply T_iteP); exact rfl; all_goals intro _)
      | with_reducible refine S_ret ?_
      | with_reducible refine seq_r ?_
      | with_reducible refine S_exit ?_
      | with_reducible refine seq_e ?_
      | with_reducible refine T_block ?_
      | with_reducible refine blk_1 ?_
      | with_reducible refine blk_0 rfl ?_
      | with_reducible refine blk_n ?_
      | with_reducible refine blk_r ?_
      | with_reducible refine rnd_r ?_
      | with_reducible refine rnd_e ?_
      | ((with_reducible apply G_skip'); exact rfl)
      | ((with_reducible apply G_1tt); exact rfl)
      | ((with_reducible apply G_1ff); exact rfl)
      | ((with_reducible apply G_0tt); exact rfl)
      | ((with_reducible apply G_0ff); exact rfl)
      | ((with_reducible apply G_1y); exact rfl; (first | with_reducible assumption | omega))
      | ((with_reducible apply G_1n); exact rfl; (first | with_reducible assumption | omega))
      | ((with_reducible apply G_0y); exact rfl; (first | with_reducible assumption | omega))
      | ((with_reducible apply G_0n); exact rfl; (first | with_reducible assumption | omega))
      | ((with_reducible apply G_1P); exact rfl; all_goals intro _)
      | ((with_reducible apply G_0P); exact rfl; all_goals intro _)
      | ((with_reducible apply K_pickt); exact rfl; exact rfl)
      | ((with_reducible apply K_pickf); exact rfl; exact rfl)
      | ((with_reducible apply K_pickT); exact rfl; (first | with_reducible assumption | omega); exact rfl)
      | ((with_reducible apply K_pickF); exact rfl; (first | with_reducible assumption | omega); exact rfl)
      | ((with_reducible apply K_lss); exact rfl; exact rfl)
      | ((with_reducible apply K_gtr); exact rfl; exact rfl)
      | ((with_reducible apply K_eql); exact rfl; exact rfl)
      | ((with_reducible apply K_eqlS); exact rfl; exact rfl)
      | ((with_reducible apply K_add); exact rfl; exact rfl; (first | omega | decide))
      | ((with_reducible apply K_mul); exact rfl; exact rfl; (first | omega | decide))
      | ((with_reducible apply K_addw); exact rfl; exact rfl)
      | ((with_reducible apply K_mulw); exact rfl; exact rfl)
      | ((with_reducible apply K_and3); exact rfl; exact rfl; (first | omega | decide))
      | ((with_reducible apply K_and7); exact rfl; exact rfl; (first | omega | decide))
      | ((with_reducible apply K_shrc 2); exact rfl; exact rfl; exact rfl; (first | omega | decide))
      | ((with_reducible apply K_shrc 4); exact rfl; exact rfl; exact rfl; (first | omega | decide))
      | ((with_reducible apply K_shrc 8); exact rfl; exact rfl; exact rfl; (first | omega | decide))
      | ((with_reducible apply K_quo0); exact rfl; exact rfl; (first | omega | decide); (first | omega | decide))
      | ((with_reducible apply K_rem0); exact rfl; exact rfl; (first | omega | decide); (first | omega | decide))
      | ((with_reducible apply K_quo); exact rfl; exact rfl; (first | omega | decide))
      | ((with_reducible apply K_rem); exact rfl; exact rfl; (first | omega | decide))
      | ((with_reducible apply K_and); exact rfl; exact rfl)
      | ((with_reducible apply K_shr); exact rfl; exact rfl; (first | omega | decide))
      | ((with_reducible apply K_lenS); exact rfl)
      | ((with_reducible apply K_convu64); exact rfl; (first | omega | decide))
      | ((with_reducible apply K_convu8); exact rfl; (first | omega | decide))
      | ((with_reducible apply K_conv); exact rfl)
      | ((with_reducible apply K_bytes); exact rfl)
      | with_reducible refine S_draw0 ?_
      | with_reducible refine D_nil ?_
      | with_reducible refine D_step0 ?_
      | ((with_reducible apply DG_1y); exact rfl; (first | with_reducible assumption | omega))
      | ((with_reducible apply DG_1n); exact rfl; (first | with_reducible assumption | omega))
      | ((with_reducible apply DG_0y); exact rfl; (first | with_reducible assumption | omega))
      | ((with_reducible apply DG_0n); exact rfl; (first | with_reducible assumption | omega))
      | ((with_reducible apply DG_1P); exact rfl; all_goals intro _)
      | ((with_reducible apply DG_0P); exact rfl; all_goals intro _)
      | ((with_reducible apply K_idxA_ref); exact rfl; exact rfl; exact rfl; (first | omega | decide))
      | ((with_reducible apply K_idxA_d); exact rfl; exact rfl; (first | omega | decide))
      | ((with_reducible apply K_load1_ptr); exact rfl; exact rfl; exact rfl)
      | ((with_reducible apply K_load1_fp); exact rfl)
      | ((with_reducible apply K_load1_byte); exact rfl; exact rfl; (first | omega | decide))
      | ((with_reducible apply K_ofBytes_ref); exact rfl; exact rfl; (first | omega | simp))
      | ((with_reducible apply K_mov_ref); exact rfl)
      | ((with_reducible apply K_mov_ptr); exact rfl)
      | ((with_reducible apply K_mov_yld); exact rfl)
      | ((with_reducible apply K_slS_hi); exact rfl; exact rfl; (first | omega | decide))
      | ((with_reducible apply K_slS_lo); exact rfl; exact rfl; (first | omega | decide))
      | ((with_reducible apply K_slS_2); exact rfl; exact rfl; exact rfl; (first | omega | decide); (first | omega | decide))
      | ((with_reducible apply K_store1_pd); exact rfl; exact rfl; exact rfl; (first | decide | simp); exact rfl)
      | ((with_reducible apply K_store1_pr); exact rfl; exact rfl; exact rfl; (first | decide | simp))
      | ((with_reducible apply K_bslice); exact rfl)
    exact ends_si rfl (by rw [kindS_3])
  · have hp := h0 (by omega) (by omega)
    rw [hk]
    have h1 : (m : Int) / 5 % s.length < s.length := Int.emod_lt_of_pos _ (by omega)
    have h2 : 0 ≤ (m : Int) / 5 % s.length := Int.emod_nonneg _ (by omega)
    have h3 : (m : Int) / 5 / 7 % s.length < s.length := Int.emod_lt_of_pos _ (by omega)
    have h4 : 0 ≤ (m : Int) / 5 / 7 % s.length := Int.emod_nonneg _ (by omega)
    repeat' first
      | with_reducible refine T_seq ?_
      | with_reducible refine S_ops ?_
      | with_reducible refine O_step ?_
      | ((with_reducible apply K_mov_d); exact rfl)
      | with_reducible refine O_nil ?_
      | with_reducible refine seq_n ?_
      | with_reducible refine S_skip ?_
      | ((with_reducible apply T_itet); exact rfl)
      | ((with_reducible apply T_itef); exact rfl)
      | ((with_reducible apply T_ite1); exact rfl; (first | with_reducible assumption | omega))
      | ((with_reducible apply T_ite0); exact rfl; (first | with_reducible assumption | omega))
      | ((with_reducible apply T_iteP); exact rfl; all_goals intro _)
      | with_reducible refine S_ret ?_
      | with_reducible refine seq_r ?_
      | with_reducible refine S_exit ?_
      | with_reducible refine seq_e ?_
      | with_reducible refine T_block ?_
      | with_reducible refine blk_1 ?_
      | with_reducible refine blk_0 rfl ?_
      | with_reducible refine blk_n ?_
      | with_reducible refine blk_r ?_
      | with_reducible refine rnd_r ?_
      | with_reducible refine rnd_e ?_
      | ((with_reducible apply G_skip'); exact rfl)
      | ((with_reducible apply G_1tt); exact rfl)
      | ((with_reducible apply G_1ff); exact rfl)
      | ((with_reducible apply G_0tt); exact rfl)
      | ((with_reducible apply G_0ff); exact rfl)
      | ((with_reducible apply G_1y); exact rfl; (first | with_reducible assumption | omega))
      | ((with_reducible apply G_1n); exact rfl; (first | with_reducible assumption | omega))
      | ((with_reducible apply G_0y); exact rfl; (first | with_reducible assumption | omega))
      | ((with_reducible apply G_0n); exact rfl; (first | with_reducible assumption | omega))
      | ((with_reducible apply G_1P); exact rfl; all_goals intro _)
      | ((with_reducible apply G_0P); exact rfl; all_goals intro _)
      | ((with_reducible apply K_pickt); exact rfl; exact rfl)
      | ((with_reducible apply K_pickf); exact rfl; exact rfl)
      | ((with_reducible apply K_pickT); exact rfl; (first | with_reducible assumption | omega); exact rfl)
      | ((with_reducible apply K_pickF); exact rfl; (first | with_reducible assumption | omega); exact rfl)
      | ((with_reducible apply K_lss); exact rfl; exact rfl)
      | ((with_reducible apply K_gtr); exact rfl; exact rfl)
      | ((with_reducible apply K_eql); exact rfl; exact rfl)
      | ((with_reducible apply K_eqlS); exact rfl; exact rfl)
      | ((with_reducible apply K_add); exact rfl; exact rfl; (first | omega | decide))
      | ((with_reducible apply K_mul); exact rfl; exact rfl; (first | omega | decide))
      | ((with_reducible apply K_addw); exact rfl; exact rfl)
      | ((with_reducible apply K_mulw); exact rfl; exact rfl)
      | ((with_reducible apply K_and3); exact rfl; exact rfl; (first | omega | decide))
      | ((with_reducible apply K_and7); exact rfl; exact rfl; (first | omega | decide))
      | ((with_reducible apply K_shrc 2); exact rfl; exact rfl; exact rfl; (first | omega | decide))
      | ((with_reducible apply K_shrc 4); exact rfl; exact rfl; exact rfl; (first | omega | decide))
      | ((with_reducible apply K_shrc 8); exact rfl; exact rfl; exact rfl; (first | omega | decide))
      | ((with_reducible apply K_quo0); exact rfl; exact rfl; (first | omega | decide); (first | omega | decide))
      | ((with_reducible apply K_rem0); exact rfl; exact rfl; (first | omega | decide); (first | omega | decide))
      | ((with_reducible apply K_quo); exact rfl; exact rfl; (first | omega | decide))
      | ((with_reducible apply K_rem); exact rfl; exact rfl; (first | omega | decide))
      | ((with_reducible apply K_and); exact rfl; exact rfl)
      | ((with_reducible apply K_shr); exact rfl; exact rfl; (first | omega | decide))
      | ((with_reducible apply K_lenS); exact rfl)
      | ((with_reducible apply K_convu64); exact rfl; (first | omega | decide))
      | ((with_reducible apply K_convu8); exact rfl; (first | omega | decide))
      | ((with_reducible apply K_conv); exact rfl)
      | ((with_reducible apply K_bytes); exact rfl)
      | with_reducible refine S_draw0 ?_
      | with_reducible refine D_nil ?_
      | with_reducible refine D_step0 ?_
      | ((with_reducible apply DG_1y); exact rfl; (first | with_reducible assumption | omega))
      | ((with_reducible apply DG_1n); exact rfl; (first | with_reducible assumption | omega))
      | ((with_reducible apply DG_0y); exact rfl; (first | with_reducible assumption | omega))
      | ((with_reducible apply DG_0n); exact rfl; (first | with_reducible assumption | omega))
      | ((with_reducible apply DG_1P); exact rfl; all_goals intro _)
      | ((with_reducible apply DG_0P); exact rfl; all_goals intro _)
      | ((with_reducible apply K_idxA_ref); exact rfl; exact rfl; exact rfl; (first | omega | decide))
      | ((with_reducible apply K_idxA_d); exact rfl; exact rfl; (first | omega | decide))
      | ((with_reducible apply K_load1_ptr); exact rfl; exact rfl; exact rfl)
      | ((with_reducible apply K_load1_fp); exact rfl)
      | ((with_reducible apply K_load1_byte); exact rfl; exact rfl; (first | omega | decide))
      | ((with_reducible apply K_ofBytes_ref); exact rfl; exact rfl; (first | omega | simp))
      | ((with_reducible apply K_mov_ref); exact rfl)
      | ((with_reducible apply K_mov_ptr); exact rfl)
      | ((with_reducible apply K_mov_yld); exact rfl)
      | ((with_reducible apply K_slS_hi); exact rfl; exact rfl; (first | omega | decide))
      | ((with_reducible apply K_slS_lo); exact rfl; exact rfl; (first | omega | decide))
      | ((with_reducible apply K_slS_2); exact rfl; exact rfl; exact rfl; (first | omega | decide); (first | omega | decide))
      | ((with_reducible apply K_store1_pd); exact rfl; exact rfl; exact rfl; (first | decide | simp); exact rfl)
      | ((with_reducible apply K_store1_pr); exact rfl; exact rfl; exact rfl; (first | decide | simp))
      | ((with_reducible apply K_bslice); exact rfl)
    have e1 : 0 + ((m : Int) / 5 % s.length).toNat = m / 5 % s.length := by
      rw [show (m : Int) / 5 % s.length = ((m / 5 % s.length : Nat) : Int) from rfl]; omega
    have e2 : 0 + ((m : Int) / 5 / 7 % s.length).toNat = m / 5 / 7 % s.length := by
      rw [show (m : Int) / 5 / 7 % s.length = ((m / 5 / 7 % s.length : Nat) : Int) from rfl]; omega
    have h5 : m / 5 % s.length < s.length := Nat.mod_lt _ hp
    have h6 : m / 5 / 7 % s.length < s.length := Nat.mod_lt _ hp
    refine K_store1_byte (s.getD (m / 5 / 7 % s.length) 0) rfl rfl rfl (by omega) (by rw [e2]) ?_
    rw [e1]
    repeat' first
      | with_reducible refine T_seq ?_
      | with_reducible refine S_ops ?_
      | with_reducible refine O_step ?_
      | ((with_reducible apply K_mov_d); exact rfl)
      | with_reducible refine O_nil ?_
      | with_reducible refine seq_n ?_
      | with_reducible refine S_skip ?_
      | ((with_reducible apply T_itet); exact rfl)
      | ((with_reducible apply T_itef); exact rfl)
      | ((with_reducible apply T_ite1); exact rfl; (first | with_reducible assumption | omega))
      | ((with_reducible apply T_ite0); exact rfl; (first | with_reducible assumption | omega))
      | ((with_reducible apply T_iteP); exact rfl; all_goals intro _)
      | with_reducible refine S_ret ?_
      | with_reducible refine seq_r ?_
      | with_reducible refine S_exit ?_
      | with_reducible refine seq_e ?_
      | with_reducible refine T_block ?_
      | with_reducible refine blk_1 ?_
      | with_reducible refine blk_0 rfl ?_
      | with_reducible refine blk_n ?_
      | with_reducible refine blk_r ?_
      | with_reducible refine rnd_r ?_
      | with_reducible refine rnd_e ?_
      | ((with_reducible apply G_skip'); exact rfl)
      | ((with_reducible apply G_1tt); exact rfl)
      | ((with_reducible apply G_1ff); exact rfl)
      | ((with_reducible apply G_0tt); exact rfl)
      | ((with_reducible apply G_0ff); exact rfl)
      | ((with_reducible apply G_1y); exact rfl; (first | with_reducible assumption | omega))
      | ((with_reducible apply G_1n); exact rfl; (first | with_reducible assumption | omega))
      | ((with_reducible apply G_0y); exact rfl; (first | with_reducible assumption | omega))
      | ((with_reducible apply G_0n); exact rfl; (first | with_reducible assumption | omega))
      | ((with_reducible apply G_1P); exact rfl; all_goals intro _)
      | ((with_reducible apply G_0P); exact rfl; all_goals intro _)
      | ((with_reducible apply K_pickt); exact rfl; exact rfl)
      | ((with_reducible apply K_pickf); exact rfl; exact rfl)
      | ((with_reducible apply K_pickT); exact rfl; (first | with_reducible assumption | omega); exact rfl)
      | ((with_reducible apply K_pickF); exact rfl; (first | with_reducible assumption | omega); exact rfl)
      | ((with_reducible apply K_lss); exact rfl; exact rfl)
      | ((with_reducible apply K_gtr); exact rfl; exact rfl)
      | ((with_reducible apply K_eql); exact rfl; exact rfl)
      | ((with_reducible apply K_eqlS); exact rfl; exact rfl)
      | ((with_reducible apply K_add); exact rfl; exact rfl; (first | omega | decide))
      | ((with_reducible apply K_mul); exact rfl; exact rfl; (first | omega | decide))
      | ((with_reducible apply K_addw); exact rfl; exact rfl)
      | ((with_reducible apply K_mulw); exact rfl; exact rfl)
      | ((with_reducible apply K_and3); exact rfl; exact rfl; (first | omega | decide))
      | ((with_reducible apply K_and7); exact rfl; exact rfl; (first | omega | decide))
      | ((with_reducible apply K_shrc 2); exact rfl; exact rfl; exact rfl; (first | omega | decide))
      | ((with_reducible apply K_shrc 4); exact rfl; exact rfl; exact rfl; (first | omega | decide))
      | ((with_reducible apply K_shrc 8); exact rfl; exact rfl; exact rfl; (first | omega | decide))
      | ((with_reducible apply K_quo0); exact rfl; exact rfl; (first | omega | decide); (first | omega | decide))
      | ((with_reducible apply K_rem0); exact rfl; exact rfl; (first | omega | decide); (first | omega | decide))
      | ((with_reducible apply K_quo); exact rfl; exact rfl; (first | omega | decide))
      | ((with_reducible apply K_rem); exact rfl; exact rfl; (first | omega | decide))
      | ((with_reducible apply K_and); exact rfl; exact rfl)
      | ((with_reducible apply K_shr); exact rfl; exact rfl; (first | omega | decide))
      | ((with_reducible apply K_lenS); exact rfl)
      | ((with_reducible apply K_convu64); exact rfl; (first | omega | decide))
      | ((with_reducible apply K_convu8); exact rfl; (first | omega | decide))
      | ((with_reducible apply K_conv); exact rfl)
      | ((with_reducible apply K_bytes); exact rfl)
      | with_reducible refine S_draw0 ?_
      | with_reducible refine D_nil ?_
      | with_reducible refine D_step0 ?_
      | ((with_reducible apply DG_1y); exact rfl; (first | with_reducible assumption | omega))
      | ((with_reducible apply DG_1n); exact rfl; (first | with_reducible assumption | omega))
      | ((with_reducible apply DG_0y); exact rfl; (first | with_reducible assumption | omega))
      | ((with_reducible apply DG_0n); exact rfl; (first | with_reducible assumption | omega))
      | ((with_reducible apply DG_1P); exact rfl; all_goals intro _)
      | ((with_reducible apply DG_0P); exact rfl; all_goals intro _)
      | ((with_reducible apply K_idxA_ref); exact rfl; exact rfl; exact rfl; (first | omega | decide))
      | ((with_reducible apply K_idxA_d); exact rfl; exact rfl; (first | omega | decide))
      | ((with_reducible apply K_load1_ptr); exact rfl; exact rfl; exact rfl)
      | ((with_reducible apply K_load1_fp); exact rfl)
      | ((with_reducible apply K_load1_byte); exact rfl; exact rfl; (first | omega | decide))
      | ((with_reducible apply K_ofBytes_ref); exact rfl; exact rfl; (first | omega | simp))
      | ((with_reducible apply K_mov_ref); exact rfl)
      | ((with_reducible apply K_mov_ptr); exact rfl)
      | ((with_reducible apply K_mov_yld); exact rfl)
      | ((with_reducible apply K_slS_hi); exact rfl; exact rfl; (first | omega | decide))
      | ((with_reducible apply K_slS_lo); exact rfl; exact rfl; (first | omega | decide))
      | ((with_reducible apply K_slS_2); exact rfl; exact rfl; exact rfl; (first | omega | decide); (first | omega | decide))
      | ((with_reducible apply K_store1_pd); exact rfl; exact rfl; exact rfl; (first | decide | simp); exact rfl)
      | ((with_reducible apply K_store1_pr); exact rfl; exact rfl; exact rfl; (first | decide | simp))
      | ((with_reducible apply K_bslice); exact rfl)
    refine K_store1_byte (s.getD (m / 5 % s.length) 0) rfl rfl rfl (by simp; omega) rfl ?_
    rw [e2]
    repeat' first
      | ((with_reducible apply K_ofBytes_ref (s := swap s (m / 5 % s.length) (m / 5 / 7 % s.length))); exact rfl; exact rfl; (simp [swap]))
      | with_reducible refine T_seq ?_
      | with_reducible refine S_ops ?_
      | with_reducible refine O_step ?_
      | ((with_reducible apply K_mov_d); exact rfl)
      | with_reducible refine O_nil ?_
      | with_reducible refine seq_n ?_
      | with_reducible refine S_skip ?_
      | ((with_reducible apply T_itet); exact rfl)
      | ((with_reducible apply T_itef); exact rfl)
      | ((with_reducible apply T_ite1); exact rfl; (first | with_reducible assumption | omega))
      | ((with_reducible apply T_ite0); exact rfl; (first | with_reducible assumption | omega))
      | ((with_reducible apply T_iteP); exact rfl; all_goals intro _)
      | with_reducible refine S_ret ?_
      | with_reducible refine seq_r ?_
      | with_reducible refine S_exit ?_
      | with_reducible refine seq_e ?_
      | with_reducible refine T_block ?_
      | with_reducible refine blk_1 ?_
      | with_reducible refine blk_0 rfl ?_
      | with_reducible refine blk_n ?_
      | with_reducible refine blk_r ?_
      | with_reducible refine rnd_r ?_
      | with_reducible refine rnd_e ?_
      | ((with_reducible apply G_skip'); exact rfl)
      | ((with_reducible apply G_1tt); exact rfl)
      | ((with_reducible apply G_1ff); exact rfl)
      | ((with_reducible apply G_0tt); exact rfl)
      | ((with_reducible apply G_0ff); exact rfl)
      | ((with_reducible apply G_1y); exact rfl; (first | with_reducible assumption | omega))
      | ((with_reducible apply G_1n); exact rfl; (first | with_reducible assumption | omega))
      | ((with_reducible apply G_0y); exact rfl; (first | with_reducible assumption | omega))
      | ((with_reducible apply G_0n); exact rfl; (first | with_reducible assumption | omega))
      | ((with_reducible apply G_1P); exact rfl; all_goals intro _)
      | ((with_reducible apply G_0P); exact rfl; all_goals intro _)
      | ((with_reducible apply K_pickt); exact rfl; exact rfl)
      | ((with_reducible apply K_pickf); exact rfl; exact rfl)
      | ((with_reducible apply K_pickT); exact rfl; (first | with_reducible assumption | omega); exact rfl)
      | ((with_reducible apply K_pickF); exact rfl; (first | with_reducible assumption | omega); exact rfl)
      | ((with_reducible apply K_lss); exact rfl; exact rfl)
      | ((with_reducible apply K_gtr); exact rfl; exact rfl)
      | ((with_reducible apply K_eql); exact rfl; exact rfl)
      | ((with_reducible apply K_eqlS); exact rfl; exact rfl)
      | ((with_reducible apply K_add); exact rfl; exact rfl; (first | omega | decide))
      | ((with_reducible apply K_mul); exact rfl; exact rfl; (first | omega | decide))
      | ((with_reducible apply K_addw); exact rfl; exact rfl)
      | ((with_reducible apply K_mulw); exact rfl; exact rfl)
      | ((with_reducible apply K_and3); exact rfl; exact rfl; (first | omega | decide))
      | ((with_reducible apply K_and7); exact rfl; exact rfl; (first | omega | decide))
      | ((with_reducible apply K_shrc 2); exact rfl; exact rfl; exact rfl; (first | omega | decide))
      | ((with_reducible apply K_shrc 4); exact rfl; exact rfl; exact rfl; (first | omega | decide))
      | ((with_reducible apply K_shrc 8); exact rfl; exact rfl; exact rfl; (first | omega | decide))
      | ((with_reducible apply K_quo0); exact rfl; exact rfl; (first | omega | decide); (first | omega | decide))
      | ((with_reducible apply K_rem0); exact rfl; exact rfl; (first | omega | decide); (first | omega | decide))
      | ((with_reducible apply K_quo); exact rfl; exact rfl; (first | omega | decide))
      | ((with_reducible apply K_rem); exact rfl; exact rfl; (first | omega | decide))
      | ((with_reducible apply K_and); exact rfl; exact rfl)
      | ((with_reducible apply K_shr); exact rfl; exact rfl; (first | omega | decide))
      | ((with_reducible apply K_lenS); exact rfl)
      | ((with_reducible apply K_convu64); exact rfl; (first | omega | decide))
      | ((with_reducible apply K_convu8); exact rfl; (first | omega | decide))
      | ((with_reducible apply K_conv); exact rfl)
      | ((with_reducible apply K_bytes); exact rfl)
      | with_reducible refine S_draw0 ?_
      | with_reducible refine D_nil ?_
      | with_reducible refine D_step0 ?_
      | ((with_reducible apply DG_1y); exact rfl; (first | with_reducible assumption | omega))
      | ((with_reducible apply DG_1n); exact rfl; (first | with_reducible assumption | omega))
      | ((with_reducible apply DG_0y); exact rfl; (first | with_reducible assumption | omega))
      | ((with_reducible apply DG_0n); exact rfl; (first | with_reducible assumption | omega))
      | ((with_reducible apply DG_1P); exact rfl; all_goals intro _)
      | ((with_reducible apply DG_0P); exact rfl; all_goals intro _)
      | ((with_reducible apply K_idxA_ref); exact rfl; exact rfl; exact rfl; (first | omega | decide))
      | ((with_reducible apply K_idxA_d); exact rfl; exact rfl; (first | omega | decide))
      | ((with_reducible apply K_load1_ptr); exact rfl; exact rfl; exact rfl)
      | ((with_reducible apply K_load1_fp); exact rfl)
      | ((with_reducible apply K_load1_byte); exact rfl; exact rfl; (first | omega | decide))
      | ((with_reducible apply K_ofBytes_ref); exact rfl; exact rfl; (first | omega | simp))
      | ((with_reducible apply K_mov_ref); exact rfl)
      | ((with_reducible apply K_mov_ptr); exact rfl)
      | ((with_reducible apply K_mov_yld); exact rfl)
      | ((with_reducible apply K_slS_hi); exact rfl; exact rfl; (first | omega | decide))
      | ((with_reducible apply K_slS_lo); exact rfl; exact rfl; (first | omega | decide))
      | ((with_reducible apply K_slS_2); exact rfl; exact rfl; exact rfl; (first | omega | decide); (first | omega | decide))
      | ((with_reducible apply K_store1_pd); exact rfl; exact rfl; exact rfl; (first | decide | simp); exact rfl)
      | ((with_reducible apply K_store1_pr); exact rfl; exact rfl; exact rfl; (first | decide | simp))
      | ((with_reducible apply K_bslice); exact rfl)
    exact ends_si rfl (by rw [kindS_4])
set_option maxHeartbeats 2000000 in
set_option maxRecDepth 4000 in
theorem cr4 (s : List UInt8) (bit : Int) (p : Nat) (cut n : Int) (hp : p < 4294967296) (hn : n < 9223372036854775808) : CR Try.prog 4 [st s, i64 bit, .d (.int .u32 p), i64 cut, i64 n] [] (.d (.bool true)) [] := by
  refine fn_cr fn4 (Nat.le_of_ble_eq_true rfl) rfl ?_
  unfold sc4
  have c1 := cr16 s bit
  have c2 := cr17 s bit
  generalize flipS s bit = u1 at c1 c2
  have c3 := cr18 s bit p hp
  have c4 := cr19 s bit p hp
  generalize burstS s bit p = u2 at c3 c4
  have c5 := cr20 s cut
  have c6 := cr21 s cut
  generalize cutS s cut = u3 at c5 c6
  have c7 := cr15 s n hn
  have c8 := cr22 s n hn
  generalize changeS s n = u4 at c7 c8
  obtain ⟨a1, b1⟩ := u1
  obtain ⟨a2, b2⟩ := u2
  obtain ⟨a3, b3⟩ := u3
  obtain ⟨a4, b4⟩ := u4
  simp only at c1 c2 c3 c4 c5 c6 c7 c8
  repeat' first
    | ((with_reducible apply K_neqS_same); exact rfl; exact rfl)
    | ((with_reducible apply K_neq_same); exact rfl; exact rfl)
    | ((with_reducible apply K_eqlS_same); exact rfl; exact rfl)
    | ((with_reducible apply K_eql_same); exact rfl; exact rfl)
    | ((with_reducible apply K_call_0 (ys := [])); exact rfl; exact cr13; exact rfl)
    | ((with_reducible apply K_call_0 (f := 16) (ys := [.str s, .int .i64 bit])); exact rfl; exact c1; exact rfl)
    | ((with_reducible apply K_call_0 (f := 17) (ys := [.str s, .int .i64 bit])); exact rfl; exact c2; exact rfl)
    | ((with_reducible apply K_call_0 (f := 18) (ys := [.str s, .int .i64 bit, .int .u32 p])); exact rfl; exact c3; exact rfl)
    | ((with_reducible apply K_call_0 (f := 19) (ys := [.str s, .int .i64 bit, .int .u32 p])); exact rfl; exact c4; exact rfl)
    | ((with_reducible apply K_call_0 (f := 20) (ys := [.str s, .int .i64 cut])); exact rfl; exact c5; exact rfl)
    | ((with_reducible apply K_call_0 (f := 21) (ys := [.str s, .int .i64 cut])); exact rfl; exact c6; exact rfl)
    | ((with_reducible apply K_call_0 (f := 15) (ys := [.str s, .int .i64 n])); exact rfl; exact c7; exact rfl)
    | ((with_reducible apply K_call_0 (f := 22) (ys := [.str s, .int .i64 n])); exact rfl; exact c8; exact rfl)
    | with_reducible refine T_seq ?_
    | with_reducible refine S_ops ?_
    | with_reducible refine O_step ?_
    | ((with_reducible apply K_mov_d); exact rfl)
    | with_reducible refine O_nil ?_
    | with_reducible refine seq_n ?_
    | with_reducible refine S_skip ?_
    | ((with_reducible apply T_itet); exact rfl)
    | ((with_reducible apply T_itef); exact rfl)
    | ((with_reducible apply T_ite1); exact rfl; (first | with_reducible assumption | omega))
    | ((with_reducible apply T_ite0); exact rfl; (first | with_reducible assumption | omega))
    | ((with_reducible apply T_iteP); exact rfl; all_goals intro _)
    | with_reducible refine S_ret ?_
    | with_reducible refine seq_r ?_
    | with_reducible refine rnd_r ?_
    | ((with_reducible apply G_skip'); exact rfl)
    | ((with_reducible apply G_1tt); exact rfl)
    | ((with_reducible apply G_1ff); exact rfl)
    | ((with_reducible apply G_0tt); exact rfl)
    | ((with_reducible apply G_0ff); exact rfl)
    | ((with_reducible apply G_1y); exact rfl; (first | with_reducible assumption | omega))
    | ((with_reducible apply G_1n); exact rfl; (first | with_reducible assumption | omega))
    | ((with_reducible apply G_0y); exact rfl; (first | with_reducible assumption | omega))
    | ((with_reducible apply G_0n); exact rfl; (first | with_reducible assumption | omega))
    | ((with_reducible apply G_1P); exact rfl; all_goals intro _)
    | ((with_reducible apply G_0P); exact rfl; all_goals intro _)
    | ((with_reducible apply K_pickt); exact rfl; exact rfl)
    | ((with_reducible apply K_pickf); exact rfl; exact rfl)
    | ((with_reducible apply K_pickT); exact rfl; (first | with_reducible assumption | omega); exact rfl)
    | ((with_reducible apply K_pickF); exact rfl; (first | with_reducible assumption | omega); exact rfl)
    | ((with_reducible apply K_leq); exact rfl; exact rfl)
    | ((with_reducible apply K_gtr); exact rfl; exact rfl)
    | ((with_reducible apply K_eql); exact rfl; exact rfl)
    | ((with_reducible apply K_neq); exact rfl; exact rfl)
    | ((with_reducible apply K_eqlS); exact rfl; exact rfl)
    | ((with_reducible apply K_neqS); exact rfl; exact rfl)
    | ((with_reducible apply K_lenS); exact rfl)
    | ((with_reducible apply K_mov_ref); exact rfl)
    | ((with_reducible apply K_mov_ptr); exact rfl)
    | ((with_reducible apply K_mov_tup); exact rfl)
    | ((with_reducible apply K_mov_yld); exact rfl)
    | ((with_reducible apply K_ext); exact rfl; exact rfl)
  all_goals exact ends_b rfl rfl
end Go.Abs
