/- Contracts of more functions that the laws on parts of strings reach: what each hands back; a library for the laws, it claims nothing by itself. -/
import Derived.Test.YtkdcdcdeffednaaAbsK
set_option linter.unusedVariables false
set_option linter.unusedSimpArgs false
/- Contracts: lists that are the same. -/
namespace Go.Abs
open Go.Proofs
theorem len_ne {p q : Int} (h : p = q) : ¬ p ≠ q := fun h2 => h2 h
theorem cr33 (d1 d2 : D) (l : List (List UInt8)) (h1 : SL 1 d1 (dStrs l)) (h2 : SL 1 d2 (dStrs l)) (hl : l.length ≤ 100000) : CR Try.prog 33 [.d d1, .d d2] [] (.d (.bool true)) [] := by
  have e0 : (dStrs l).length = l.length := by simp
  refine fn_cr fn33 (Nat.le_of_ble_eq_true rfl) rfl ?_
  unfold sc33
  repeat' first
    | ((with_reducible apply K_len_SL h1); exact rfl)
    | ((with_reducible apply K_len_SL h2); exact rfl)
    | ((with_reducible apply K_idxA_map (fun s : List UInt8 => D.str s) [] h1); exact rfl; exact rfl; omega)
    | ((with_reducible apply K_idxA_map (fun s : List UInt8 => D.str s) [] h2); exact rfl; exact rfl; omega)
    | with_reducible refine T_seq ?_
    | with_reducible refine S_ops ?_
    | with_reducible refine O_step ?_
    | ((with_reducible apply K_mov_d); exact rfl)
    | with_reducible refine O_nil ?_
    | with_reducible refine seq_n ?_
    | with_reducible refine S_skip ?_
    | ((with_reducible apply T_itet); exact rfl)
    | ((with_reducible apply T_itef); exact rfl)
    | ((with_reducible apply T_ite1); exact rfl; (first | with_reducible assumption | omega))
    | ((with_reducible apply T_ite0); exact rfl; (first | with_reducible assumption | omega))
    | ((with_reducible apply T_iteP); exact rfl; all_goals intro _)
    | with_reducible refine S_ret ?_
    | with_reducible refine seq_r ?_
    | with_reducible refine S_exit ?_
    | with_reducible refine seq_e ?_
    | with_reducible refine T_block ?_
    | with_reducible refine blk_1 ?_
    | with_reducible refine blk_0 rfl ?_
    | with_reducible refine blk_n ?_
    | with_reducible refine blk_r ?_
    | with_reducible refine rnd_r ?_
    | with_reducible refine rnd_e ?_
    | ((with_reducible apply K_lss); exact rfl; exact rfl)
    | ((with_reducible apply K_neq); exact rfl; exact rfl)
    | ((with_reducible apply K_neqS); exact rfl; exact rfl)
    | ((with_reducible apply K_add); exact rfl; exact rfl; (first | omega | decide))
    | ((with_reducible apply K_addw); exact rfl; exact rfl)
    | ((with_reducible apply K_len_d); exact rfl)
    | ((with_reducible apply K_len_nil); exact rfl)
    | ((with_reducible apply K_len_ref); exact rfl; exact rfl)
    | with_reducible refine S_draw0 ?_
    | with_reducible refine D_nil ?_
    | with_reducible refine D_step0 ?_
    | ((with_reducible apply K_idxA_ref); exact rfl; exact rfl; exact rfl; (first | omega | decide))
    | ((with_reducible apply K_idxA_d); exact rfl; exact rfl; (first | omega | decide))
    | ((with_reducible apply K_load1_ptr); exact rfl; exact rfl; exact rfl)
    | ((with_reducible apply K_load1_fp); exact rfl)
    | ((with_reducible apply K_load1_byte); exact rfl; exact rfl; (first | omega | decide))
    | ((with_reducible apply K_mov_ref); exact rfl)
    | ((with_reducible apply K_mov_ptr); exact rfl)
    | ((with_reducible apply K_mov_yld); exact rfl)
  refine T_loop (fun t => Nat.ble 4 t) [5] (fun u : Nat => [i64 u]) (fun _ => []) (fun u => u ≤ l.length) (fun u => l.length - u) 0 rfl (by omega) rfl rfl ?_
  rintro m g hm
  repeat' first
    | ((with_reducible apply K_len_SL h1); exact rfl)
    | ((with_reducible apply K_len_SL h2); exact rfl)
    | ((with_reducible apply K_idxA_map (fun s : List UInt8 => D.str s) [] h1); exact rfl; exact rfl; omega)
    | ((with_reducible apply K_idxA_map (fun s : List UInt8 => D.str s) [] h2); exact rfl; exact rfl; omega)
    | ((with_reducible apply K_neqS_same); exact rfl; exact rfl)
    | with_reducible refine T_seq ?_
    | with_reducible refine S_ops ?_
    | with_reducible refine O_step ?_
    | ((with_reducible apply K_mov_d); exact rfl)
    | with_reducible refine O_nil ?_
    | with_reducible refine seq_n ?_
    | with_reducible refine S_skip ?_
    | ((with_reducible apply T_itet); exact rfl)
    | ((with_reducible apply T_itef); exact rfl)
    | ((with_reducible apply T_ite1); exact rfl; (first | with_reducible assumption | omega))
    | ((with_reducible apply T_ite0); exact rfl; (first | with_reducible assumption | omega))
    | ((with_reducible apply T_iteP); exact rfl; all_goals intro _)
    | with_reducible refine S_ret ?_
    | with_reducible refine seq_r ?_
    | with_reducible refine S_exit ?_
    | with_reducible refine seq_e ?_
    | with_reducible refine T_block ?_
    | with_reducible refine blk_1 ?_
    | with_reducible refine blk_0 rfl ?_
    | with_reducible refine blk_n ?_
    | with_reducible refine blk_r ?_
    | with_reducible refine rnd_r ?_
    | with_reducible refine rnd_e ?_
    | ((with_reducible apply K_lss); exact rfl; exact rfl)
    | ((with_reducible apply K_neq); exact rfl; exact rfl)
    | ((with_reducible apply K_neqS); exact rfl; exact rfl)
    | ((with_reducible apply K_add); exact rfl; exact rfl; (first | omega | decide))
    | ((with_reducible apply K_addw); exact rfl; exact rfl)
    | ((with_reducible apply K_len_d); exact rfl)
    | ((with_reducible apply K_len_nil); exact rfl)
    | ((with_reducible apply K_len_ref); exact rfl; exact rfl)
    | with_reducible refine S_draw0 ?_
    | with_reducible refine D_nil ?_
    | with_reducible refine D_step0 ?_
    | ((with_reducible apply K_idxA_ref); exact rfl; exact rfl; exact rfl; (first | omega | decide))
    | ((with_reducible apply K_idxA_d); exact rfl; exact rfl; (first | omega | decide))
    | ((with_reducible apply K_load1_ptr); exact rfl; exact rfl; exact rfl)
    | ((with_reducible apply K_load1_fp); exact rfl)
    | ((with_reducible apply K_load1_byte); exact rfl; exact rfl; (first | omega | decide))
    | ((with_reducible apply K_mov_ref); exact rfl)
    | ((with_reducible apply K_mov_ptr); exact rfl)
    | ((with_reducible apply K_mov_yld); exact rfl)
  · exact rnd_n (m + 1) ⟨by omega, by omega⟩ rfl rfl
  · exact ends_d rfl
theorem cr39 (d1 d2 : D) (l : List Int) (h1 : SL 1 d1 (dInts l)) (h2 : SL 1 d2 (dInts l)) (hl : l.length ≤ 100000) : CR Try.prog 39 [.d d1, .d d2] [] (.d (.bool true)) [] := by
  have e0 : (dInts l).length = l.length := by simp
  refine fn_cr fn39 (Nat.le_of_ble_eq_true rfl) rfl ?_
  unfold sc39
  repeat' first
    | ((with_reducible apply K_len_SL h1); exact rfl)
    | ((with_reducible apply K_len_SL h2); exact rfl)
    | ((with_reducible apply K_idxA_map (fun i : Int => D.int .i64 i) 0 h1); exact rfl; exact rfl; omega)
    | ((with_reducible apply K_idxA_map (fun i : Int => D.int .i64 i) 0 h2); exact rfl; exact rfl; omega)
    | with_reducible refine T_seq ?_
    | with_reducible refine S_ops ?_
    | with_reducible refine O_step ?_
    | ((with_reducible apply K_mov_d); exact rfl)
    | with_reducible refine O_nil ?_
    | with_reducible refine seq_n ?_
    | with_reducible refine S_skip ?_
    | ((with_reducible apply T_itet); exact rfl)
    | ((with_reducible apply T_itef); exact rfl)
    | ((with_reducible apply T_ite1); exact rfl; (first | with_reducible assumption | omega))
    | ((with_reducible apply T_ite0); exact rfl; (first | with_reducible assumption | omega))
    | ((with_reducible apply T_iteP); exact rfl; all_goals intro _)
    | with_reducible refine S_ret ?_
    | with_reducible refine seq_r ?_
    | with_reducible refine S_exit ?_
    | with_reducible refine seq_e ?_
    | with_reducible refine T_block ?_
    | with_reducible refine blk_1 ?_
    | with_reducible refine blk_0 rfl ?_
    | with_reducible refine blk_n ?_
    | with_reducible refine blk_r ?_
    | with_reducible refine rnd_r ?_
    | with_reducible refine rnd_e ?_
    | ((with_reducible apply K_lss); exact rfl; exact rfl)
    | ((with_reducible apply K_neq); exact rfl; exact rfl)
    | ((with_reducible apply K_neqS); exact rfl; exact rfl)
    | ((with_reducible apply K_add); exact rfl; exact rfl; (first | omega | decide))
    | ((with_reducible apply K_addw); exact rfl; exact rfl)
    | ((with_reducible apply K_len_d); exact rfl)
    | ((with_reducible apply K_len_nil); exact rfl)
    | ((with_reducible apply K_len_ref); exact rfl; exact rfl)
    | with_reducible refine S_draw0 ?_
    | with_reducible refine D_nil ?_
    | with_reducible refine D_step0 ?_
    | ((with_reducible apply K_idxA_ref); exact rfl; exact rfl; exact rfl; (first | omega | decide))
    | ((with_reducible apply K_idxA_d); exact rfl; exact rfl; (first | omega | decide))
    | ((with_reducible apply K_load1_ptr); exact rfl; exact rfl; exact rfl)
    | ((with_reducible apply K_load1_fp); exact rfl)
    | ((with_reducible apply K_load1_byte); exact rfl; exact rfl; (first | omega | decide))
    | ((with_reducible apply K_mov_ref); exact rfl)
    | ((with_reducible apply K_mov_ptr); exact rfl)
    | ((with_reducible apply K_mov_yld); exact rfl)
  refine T_loop (fun t => Nat.ble 4 t) [5] (fun u : Nat => [i64 u]) (fun _ => []) (fun u => u ≤ l.length) (fun u => l.length - u) 0 rfl (by omega) rfl rfl ?_
  rintro m g hm
  repeat' first
    | ((with_reducible apply K_len_SL h1); exact rfl)
    | ((with_reducible apply K_len_SL h2); exact rfl)
    | ((with_reducible apply K_idxA_map (fun i : Int => D.int .i64 i) 0 h1); exact rfl; exact rfl; omega)
    | ((with_reducible apply K_idxA_map (fun i : Int => D.int .i64 i) 0 h2); exact rfl; exact rfl; omega)
    | with_reducible refine T_seq ?_
    | with_reducible refine S_ops ?_
    | with_reducible refine O_step ?_
    | ((with_reducible apply K_mov_d); exact rfl)
    | with_reducible refine O_nil ?_
    | with_reducible refine seq_n ?_
    | with_reducible refine S_skip ?_
    | ((with_reducible apply T_itet); exact rfl)
    | ((with_reducible apply T_itef); exact rfl)
    | ((with_reducible apply T_ite1); exact rfl; (first | with_reducible assumption | omega))
    | ((with_reducible apply T_ite0); exact rfl; (first | with_reducible assumption | omega))
    | ((with_reducible apply T_iteP); exact rfl; all_goals intro _)
    | with_reducible refine S_ret ?_
    | with_reducible refine seq_r ?_
    | with_reducible refine S_exit ?_
    | with_reducible refine seq_e ?_
    | with_reducible refine T_block ?_
    | with_reducible refine blk_1 ?_
    | with_reducible refine blk_0 rfl ?_
    | with_reducible refine blk_n ?_
    | with_reducible refine blk_r ?_
    | with_reducible refine rnd_r ?_
    | with_reducible refine rnd_e ?_
    | ((with_reducible apply K_lss); exact rfl; exact rfl)
    | ((with_reducible apply K_neq); exact rfl; exact rfl)
    | ((with_reducible apply K_neqS); exact rfl; exact rfl)
    | ((with_reducible apply K_add); exact rfl; exact rfl; (first | omega | decide))
    | ((with_reducible apply K_addw); exact rfl; exact rfl)
    | ((with_reducible apply K_len_d); exact rfl)
    | ((with_reducible apply K_len_nil); exact rfl)
    | ((with_reducible apply K_len_ref); exact rfl; exact rfl)
    | with_reducible refine S_draw0 ?_
    | with_reducible refine D_nil ?_
    | with_reducible refine D_step0 ?_
    | ((with_reducible apply K_idxA_ref); exact rfl; exact rfl; exact rfl; (first | omega | decide))
    | ((with_reducible apply K_idxA_d); exact rfl; exact rfl; (first | omega | decide))
    | ((with_reducible apply K_load1_ptr); exact rfl; exact rfl; exact rfl)
    | ((with_reducible apply K_load1_fp); exact rfl)
    | ((with_reducible apply K_load1_byte); exact rfl; exact rfl; (first | omega | decide))
    | ((with_reducible apply K_mov_ref); exact rfl)
    | ((with_reducible apply K_mov_ptr); exact rfl)
    | ((with_reducible apply K_mov_yld); exact rfl)
  · exact rnd_n (m + 1) ⟨by omega, by omega⟩ rfl rfl
  · exact ends_d rfl
abbrev Tri := Int × Int × List UInt8
abbrev triD (c : Tri) : D := callD c.1 c.2.1 c.2.2
abbrev dTri (l : List Tri) : List D := l.map triD
theorem deq_tri (c : Tri) : deqL [0, 0, 1] [.int .i64 c.1, .int .i64 c.2.1, .str c.2.2] [.int .i64 c.1, .int .i64 c.2.1, .str c.2.2] = some true := by
  simp [deqL, deq1]
section
variable {E : Env} {fr : Fr} {S : St} {K : AV → St → Prop} {x y z : Opd}
theorem K_loadA_tri {c : Tri} (e : ld fr x = .fp (triD c).cells) (h : K (.d (triD c)) S) : stepK E fr S (.loadA 3 x) K := K_loadA_fp e (by simp [callD, D.cells]) (by simpa [callD, D.cells] using h)
theorem K_neqA_tri {c : Tri} (e : ld fr x = .d (triD c)) (e2 : ld fr y = .d (triD c)) (h : K (.d (.bool false)) S) : stepK E fr S (.eqA true [0, 0, 1] x y) K := K_eqA e e2 (deq_tri c) h
theorem ends_arr {rvs : List RV} {g es : Nat} {l : List D} (hS : S = [.arr g es l]) (hr : resV fr S rvs = some (.ref 0 g 0 l.length)) : Ends 0 rvs (.d (.sl es l)) [] .ret fr S := by
  subst hS
  refine ⟨.inr rfl, _, [], hr, rfl, .nil, by simp, ?_, rfl⟩
  show rnA 0 [] _ (.ref 0 g 0 l.length) = _
  simp [rnA, rnv, window, rd]
end
theorem cr34 (d1 d2 : D) (l : List Tri) (h1 : SL 3 d1 (dTri l)) (h2 : SL 3 d2 (dTri l)) (hl : l.length ≤ 100000) : CR Try.prog 34 [.d d1, .d d2] [] (.d (.bool true)) [] := by
  have e0 : (dTri l).length = l.length := by simp
  refine fn_cr fn34 (Nat.le_of_ble_eq_true rfl) rfl ?_
  unfold sc34
  repeat' first
    | ((with_reducible apply K_len_SL h1); exact rfl)
    | ((with_reducible apply K_len_SL h2); exact rfl)
    | with_reducible refine T_seq ?_
    | with_reducible refine S_ops ?_
    | with_reducible refine O_step ?_
    | ((with_reducible apply K_mov_d); exact rfl)
    | with_reducible refine O_nil ?_
    | with_reducible refine seq_n ?_
    | with_reducible refine S_skip ?_
    | ((with_reducible apply T_itet); exact rfl)
    | ((with_reducible apply T_itef); exact rfl)
    | ((with_reducible apply T_ite1); exact rfl; (first | with_reducible assumption | omega))
    | ((with_reducible apply T_ite0); exact rfl; (first | with_reducible assumption | omega))
    | ((with_reducible apply T_iteP); exact rfl; all_goals intro _)
    | with_reducible refine S_ret ?_
    | with_reducible refine seq_r ?_
    | with_reducible refine S_exit ?_
    | with_reducible refine seq_e ?_
    | with_reducible refine T_block ?_
    | with_reducible refine blk_1 ?_
    | with_reducible refine blk_0 rfl ?_
    | with_reducible refine blk_n ?_
    | with_reducible refine blk_r ?_
    | with_reducible refine rnd_r ?_
    | with_reducible refine rnd_e ?_
    | ((with_reducible apply K_lss); exact rfl; exact rfl)
    | ((with_reducible apply K_neq); exact rfl; exact rfl)
    | ((with_reducible apply K_neqS); exact rfl; exact rfl)
    | ((with_reducible apply K_add); exact rfl; exact rfl; (first | omega | decide))
    | ((with_reducible apply K_addw); exact rfl; exact rfl)
    | ((with_reducible apply K_len_d); exact rfl)
    | ((with_reducible apply K_len_nil); exact rfl)
    | ((with_reducible apply K_len_ref); exact rfl; exact rfl)
    | with_reducible refine S_draw0 ?_
    | with_reducible refine D_nil ?_
    | with_reducible refine D_step0 ?_
    | ((with_reducible apply K_idxA_ref); exact rfl; exact rfl; exact rfl; (first | omega | decide))
    | ((with_reducible apply K_idxA_d); exact rfl; exact rfl; (first | omega | decide))
    | ((with_reducible apply K_mov_ref); exact rfl)
    | ((with_reducible apply K_mov_ptr); exact rfl)
    | ((with_reducible apply K_mov_yld); exact rfl)
    | ((with_reducible apply K_loadA_pd); exact rfl; exact rfl; (first | decide | simp); exact rfl)
  refine T_loop (fun t => Nat.ble 4 t) [5] (fun u : Nat => [i64 u]) (fun _ => []) (fun u => u ≤ l.length) (fun u => l.length - u) 0 rfl (by omega) rfl rfl ?_
  rintro m g hm
  repeat' first
    | ((with_reducible apply K_len_SL h1); exact rfl)
    | ((with_reducible apply K_len_SL h2); exact rfl)
    | ((with_reducible apply K_idxA_map triD (0, 0, []) h1); exact rfl; exact rfl; omega)
    | ((with_reducible apply K_idxA_map triD (0, 0, []) h2); exact rfl; exact rfl; omega)
    | ((with_reducible apply K_loadA_tri); exact rfl)
    | ((with_reducible apply K_mov_any (.d (triD (l.getD m (0,0,[]))))); exact rfl)
    | ((with_reducible apply K_neqA_tri); exact rfl; exact rfl)
    | with_reducible refine T_seq ?_
    | with_reducible refine S_ops ?_
    | with_reducible refine O_step ?_
    | ((with_reducible apply K_mov_d); exact rfl)
    | with_reducible refine O_nil ?_
    | with_reducible refine seq_n ?_
    | with_reducible refine S_skip ?_
    | ((with_reducible apply T_itet); exact rfl)
    | ((with_reducible apply T_itef); exact rfl)
    | ((with_reducible apply T_ite1); exact rfl; (first | with_reducible assumption | omega))
    | ((with_reducible apply T_ite0); exact rfl; (first | with_reducible assumption | omega))
    | ((with_reducible apply T_iteP); exact rfl; all_goals intro _)
    | with_reducible refine S_ret ?_
    | with_reducible refine seq_r ?_
    | with_reducible refine S_exit ?_
    | with_reducible refine seq_e ?_
    | with_reducible refine T_block ?_
    | with_reducible refine blk_1 ?_
    | with_reducible refine blk_0 rfl ?_
    | with_reducible refine blk_n ?_
    | with_reducible refine blk_r ?_
    | with_reducible refine rnd_r ?_
    | with_reducible refine rnd_e ?_
    | ((with_reducible apply K_lss); exact rfl; exact rfl)
    | ((with_reducible apply K_neq); exact rfl; exact rfl)
    | ((with_reducible apply K_neqS); exact rfl; exact rfl)
    | ((with_reducible apply K_add); exact rfl; exact rfl; (first | omega | decide))
    | ((with_reducible apply K_addw); exact rfl; exact rfl)
    | ((with_reducible apply K_len_d); exact rfl)
    | ((with_reducible apply K_len_nil); exact rfl)
    | ((with_reducible apply K_len_ref); exact rfl; exact rfl)
    | with_reducible refine S_draw0 ?_
    | with_reducible refine D_nil ?_
    | with_reducible refine D_step0 ?_
    | ((with_reducible apply K_idxA_ref); exact rfl; exact rfl; exact rfl; (first | omega | decide))
    | ((with_reducible apply K_idxA_d); exact rfl; exact rfl; (first | omega | decide))
    | ((with_reducible apply K_mov_ref); exact rfl)
    | ((with_reducible apply K_mov_ptr); exact rfl)
    | ((with_reducible apply K_mov_yld); exact rfl)
    | ((with_reducible apply K_loadA_pd); exact rfl; exact rfl; (first | decide | simp); exact rfl)
  · exact rnd_n (m + 1) ⟨by omega, by omega⟩ rfl rfl
  · exact ends_d rfl
theorem cr28 (d : D) (l : List Int) (hd : SL 1 d (dInts l)) (hl : l.length ≤ 100000) : CR Try.prog 28 [.d d] [] (.d (.sl 1 (dInts l))) [] := by
  have e0 : (dInts l).length = l.length := by simp
  refine fn_cr fn28 (Nat.le_of_ble_eq_true rfl) rfl ?_
  unfold sc28
  repeat' first
    | ((with_reducible apply K_app_in hd); exact rfl; exact rfl; exact rfl; exact rfl; (simp; omega); all_goals intro hz)
    | with_reducible refine T_seq ?_
    | with_reducible refine S_ops ?_
    | with_reducible refine O_step ?_
    | ((with_reducible apply K_mov_d); exact rfl)
    | with_reducible refine O_nil ?_
    | with_reducible refine seq_n ?_
    | with_reducible refine S_ret ?_
    | with_reducible refine seq_r ?_
    | with_reducible refine rnd_r ?_
    | ((with_reducible apply K_mov_ref); exact rfl)
    | ((with_reducible apply K_mov_ptr); exact rfl)
    | ((with_reducible apply K_mov_yld); exact rfl)
    | ((with_reducible apply K_bslice1); exact rfl; exact rfl)
    | ((with_reducible apply K_bslice); exact rfl)
  · exact ends_arr (l := dInts l) (by rw [hz]; rfl) (by rw [hz]; rfl)
  · exact ends_arr (l := dInts l) rfl (by simp; rfl)
theorem cr41 (d : D) (l : List (List UInt8)) (hd : SL 1 d (dStrs l)) (hl : l.length ≤ 100000) : CR Try.prog 41 [.d d] [] (.d (.sl 1 (dStrs l))) [] := by
  have e0 : (dStrs l).length = l.length := by simp
  refine fn_cr fn41 (Nat.le_of_ble_eq_true rfl) rfl ?_
  unfold sc41
  repeat' first
    | ((with_reducible apply K_app_in hd); exact rfl; exact rfl; exact rfl; exact rfl; (simp; omega); all_goals intro hz)
    | with_reducible refine T_seq ?_
    | with_reducible refine S_ops ?_
    | with_reducible refine O_step ?_
    | ((with_reducible apply K_mov_d); exact rfl)
    | with_reducible refine O_nil ?_
    | with_reducible refine seq_n ?_
    | with_reducible refine S_ret ?_
    | with_reducible refine seq_r ?_
    | with_reducible refine rnd_r ?_
    | ((with_reducible apply K_mov_ref); exact rfl)
    | ((with_reducible apply K_mov_ptr); exact rfl)
    | ((with_reducible apply K_mov_yld); exact rfl)
    | ((with_reducible apply K_bslice1); exact rfl; exact rfl)
    | ((with_reducible apply K_bslice); exact rfl)
  · exact ends_arr (l := dStrs l) (by rw [hz]; rfl) (by rw [hz]; rfl)
  · exact ends_arr (l := dStrs l) rfl (by simp; rfl)
end Go.Abs
/- Contracts: parts of equal length; a script without numbers. -/
namespace Go.Abs
open Go.Proofs
theorem cr35 (s : List UInt8) : CR Try.prog 35 [st s] [] (if checkS s 0 = 0 then .tup [.d (slD 3 (callsL s [])), i64 0] else .tup [.d .nilsl, i64 (checkS s 0)]) [] := by
  have c := cr31 s .nilsl [] (SL_nil 1) (by decide) (by simp)
  rw [List.length_nil] at c
  generalize callsL s [] = L at *
  generalize checkS s 0 = q at *
  by_cases hq : q = 0
  · rw [if_pos hq] at c ⊢
    refine fn_cr fn35 (Nat.le_of_ble_eq_true rfl) rfl ?_
    unfold sc35
    repeat' first
      | ((with_reducible apply K_call_d (f := 31) (ys := [.str s, .nilsl])); exact rfl; exact c; exact ⟨rfl, rfl⟩)
      | with_reducible refine T_seq ?_
      | with_reducible refine S_ops ?_
      | with_reducible refine O_step ?_
      | ((with_reducible apply K_mov_d); exact rfl)
      | with_reducible refine O_nil ?_
      | with_reducible refine seq_n ?_
      | with_reducible refine S_ret ?_
      | with_reducible refine seq_r ?_
      | with_reducible refine rnd_r ?_
      | ((with_reducible apply K_mov_ref); exact rfl)
      | ((with_reducible apply K_mov_ptr); exact rfl)
      | ((with_reducible apply K_mov_tup); exact rfl)
      | ((with_reducible apply K_mov_yld); exact rfl)
      | ((with_reducible apply K_ext); exact rfl; exact rfl)
    exact ends_2 rfl
  · rw [if_neg hq] at c ⊢
    refine fn_cr fn35 (Nat.le_of_ble_eq_true rfl) rfl ?_
    unfold sc35
    repeat' first
      | ((with_reducible apply K_call_d (f := 31) (ys := [.str s, .nilsl])); exact rfl; exact c; exact ⟨rfl, rfl⟩)
      | with_reducible refine T_seq ?_
      | with_reducible refine S_ops ?_
      | with_reducible refine O_step ?_
      | ((with_reducible apply K_mov_d); exact rfl)
      | with_reducible refine O_nil ?_
      | with_reducible refine seq_n ?_
      | with_reducible refine S_ret ?_
      | with_reducible refine seq_r ?_
      | with_reducible refine rnd_r ?_
      | ((with_reducible apply K_mov_ref); exact rfl)
      | ((with_reducible apply K_mov_ptr); exact rfl)
      | ((with_reducible apply K_mov_tup); exact rfl)
      | ((with_reducible apply K_mov_yld); exact rfl)
      | ((with_reducible apply K_ext); exact rfl; exact rfl)
    exact ends_2 rfl
theorem cr36 (s : List UInt8) : CR Try.prog 36 [st s] [] (if checkS s 0 = 0 then .tup [.d (slD 3 (callsL s [])), i64 0] else .tup [.d .nilsl, i64 (checkS s 0)]) [] := by
  have c := cr32 s .nilsl [] (SL_nil 1) (by decide) (by simp)
  rw [List.length_nil] at c
  generalize callsL s [] = L at *
  generalize checkS s 0 = q at *
  by_cases hq : q = 0
  · rw [if_pos hq] at c ⊢
    refine fn_cr fn36 (Nat.le_of_ble_eq_true rfl) rfl ?_
    unfold sc36
    repeat' first
      | ((with_reducible apply K_call_d (f := 32) (ys := [.str s, .nilsl])); exact rfl; exact c; exact ⟨rfl, rfl⟩)
      | with_reducible refine T_seq ?_
      | with_reducible refine S_ops ?_
      | with_reducible refine O_step ?_
      | ((with_reducible apply K_mov_d); exact rfl)
      | with_reducible refine O_nil ?_
      | with_reducible refine seq_n ?_
      | with_reducible refine S_ret ?_
      | with_reducible refine seq_r ?_
      | with_reducible refine rnd_r ?_
      | ((with_reducible apply K_mov_ref); exact rfl)
      | ((with_reducible apply K_mov_ptr); exact rfl)
      | ((with_reducible apply K_mov_tup); exact rfl)
      | ((with_reducible apply K_mov_yld); exact rfl)
      | ((with_reducible apply K_ext); exact rfl; exact rfl)
    exact ends_2 rfl
  · rw [if_neg hq] at c ⊢
    refine fn_cr fn36 (Nat.le_of_ble_eq_true rfl) rfl ?_
    unfold sc36
    repeat' first
      | ((with_reducible apply K_call_d (f := 32) (ys := [.str s, .nilsl])); exact rfl; exact c; exact ⟨rfl, rfl⟩)
      | with_reducible refine T_seq ?_
      | with_reducible refine S_ops ?_
      | with_reducible refine O_step ?_
      | ((with_reducible apply K_mov_d); exact rfl)
      | with_reducible refine O_nil ?_
      | with_reducible refine seq_n ?_
      | with_reducible refine S_ret ?_
      | with_reducible refine seq_r ?_
      | with_reducible refine rnd_r ?_
      | ((with_reducible apply K_mov_ref); exact rfl)
      | ((with_reducible apply K_mov_ptr); exact rfl)
      | ((with_reducible apply K_mov_tup); exact rfl)
      | ((with_reducible apply K_mov_yld); exact rfl)
      | ((with_reducible apply K_ext); exact rfl; exact rfl)
    exact ends_2 rfl
/-- The first k parts of n bytes. -/
def evK (s : List UInt8) (n : Nat) : Nat → List (List UInt8)
  | 0 => []
  | k + 1 => evK s n k ++ [(s.drop (k * n)).take (min n (s.length - k * n))]
def evL (s : List UInt8) (n : Nat) : List (List UInt8) := evK s n ((s.length + n - 1) / n)
theorem evK_len (s : List UInt8) (n : Nat) : ∀ k, (evK s n k).length = k
  | 0 => rfl
  | k + 1 => by simp [evK, evK_len s n k]
theorem evN_step {s : List UInt8} {n k : Nat} (hn : 0 < n) (h : s.drop (k * n) ≠ []) : k < (s.length + n - 1) / n := by
  have : k * n < s.length := by
    rcases Nat.lt_or_ge (k * n) s.length with h2 | h2
    · exact h2
    · exact absurd (List.drop_eq_nil_of_le h2) h
  rw [Nat.lt_iff_add_one_le, Nat.le_div_iff_mul_le hn, Nat.add_mul]
  omega
theorem evN_end {s : List UInt8} {n k : Nat} (hn : 0 < n) (h : s.drop (k * n) = []) : (s.length + n - 1) / n ≤ k := by
  have h2 : s.length ≤ k * n := by
    have := congrArg List.length h; simp at this; omega
  have : (s.length + n - 1) / n < k + 1 := by
    rw [Nat.div_lt_iff_lt_mul hn, Nat.add_mul]; omega
  omega
theorem evDrop (s : List UInt8) (m k : Nat) : (s.drop (k * m)).drop (min m (s.length - k * m)) = s.drop ((k + 1) * m) := by
  rw [List.drop_drop, Nat.add_mul, Nat.one_mul]
  by_cases h5 : m ≤ s.length - k * m
  · rw [Nat.min_eq_left h5]
  · rw [Nat.min_eq_right (by omega), List.drop_eq_nil_of_le (by omega), List.drop_eq_nil_of_le (by omega)]
def everyE (s : List UInt8) (n : Int) : Int := if s.length > 20000 then 4 else if n < 1 ∨ 20000 < n then 2 else 0
abbrev everyR (s : List UInt8) (n : Int) : AV := if everyE s n = 0 then .tup [.d (slD 1 (dStrs (evL s n.toNat))), i64 0] else .tup [.d .nilsl, i64 (everyE s n)]
theorem everyR_y {s : List UInt8} {n : Int} (h1 : ¬ s.length > 20000) (h2 : ¬ (n < 1 ∨ 20000 < n)) : everyR s n = .tup [.d (slD 1 (dStrs (evL s n.toNat))), i64 0] := by
  unfold everyR everyE; rw [if_neg h1, if_neg h2]; exact if_pos rfl
theorem everyR_4 {s : List UInt8} {n : Int} (h1 : s.length > 20000) : everyR s n = .tup [.d .nilsl, i64 4] := by
  unfold everyR everyE; rw [if_pos h1]; exact if_neg (by decide)
theorem everyR_2 {s : List UInt8} {n : Int} (h1 : ¬ s.length > 20000) (h2 : n < 1 ∨ 20000 < n) : everyR s n = .tup [.d .nilsl, i64 2] := by
  unfold everyR everyE; rw [if_neg h1, if_pos h2]; exact if_neg (by decide)
theorem cr38 (s : List UInt8) (n : Int) : CR Try.prog 38 [st s, i64 n] [] (everyR s n) [] := by
  by_cases h1 : s.length > 20000
  · rw [everyR_4 h1]
    refine fn_cr fn38 (Nat.le_of_ble_eq_true rfl) rfl ?_
    unfold sc38
    repeat' first
      | with_reducible refine T_seq ?_
      | with_reducible refine S_ops ?_
      | with_reducible refine O_step ?_
      | ((with_reducible apply K_mov_d); exact rfl)
      | with_reducible refine O_nil ?_
      | with_reducible refine seq_n ?_
      | with_reducible refine S_skip ?_
      | ((with_reducible apply T_itet); exact rfl)
      | ((with_reducible apply T_itef); exact rfl)
      | ((with_reducible apply T_ite1); exact rfl; (first | with_reducible assumption | omega))
      | ((with_reducible apply T_ite0); exact rfl; (first | with_reducible assumption | omega))
      | ((with_reducible apply T_iteP); exact rfl; all_goals intro _)
      | with_reducible refine S_ret ?_
      | with_reducible refine seq_r ?_
      | with_reducible refine S_exit ?_
      | with_reducible refine seq_e ?_
      | with_reducible refine T_block ?_
      | with_reducible refine blk_1 ?_
      | with_reducible refine blk_0 rfl ?_
      | with_reducible refine blk_n ?_
      | with_reducible refine blk_r ?_
      | with_reducible refine rnd_r ?_
      | with_reducible refine rnd_e ?_
      | ((with_reducible apply G_skip'); exact rfl)
      | ((with_reducible apply G_1tt); exact rfl)
      | ((with_reducible apply G_1ff); exact rfl)
      | ((with_reducible apply G_0tt); exact rfl)
      | ((with_reducible apply G_0ff); exact rfl)
      | ((with_reducible apply G_1y); exact rfl; (first | with_reducible assumption | omega))
      | ((with_reducible apply G_1n); exact rfl; (first | with_reducible assumption | omega))
      | ((with_reducible apply G_0y); exact rfl; (first | with_reducible assumption | omega))
      | ((with_reducible apply G_0n); exact rfl; (first | with_reducible assumption | omega))
      | ((with_reducible apply G_1P); exact rfl; all_goals intro _)
      | ((with_reducible apply G_0P); exact rfl; all_goals intro _)
      | ((with_reducible apply K_pickt); exact rfl; exact rfl)
      | ((with_reducible apply K_pickf); exact rfl; exact rfl)
      | ((with_reducible apply K_pickT); exact rfl; (first | with_reducible assumption | omega); exact rfl)
      | ((with_reducible apply K_pickF); exact rfl; (first | with_reducible assumption | omega); exact rfl)
      | ((with_reducible apply K_lss); exact rfl; exact rfl)
      | ((with_reducible apply K_gtr); exact rfl; exact rfl)
      | ((with_reducible apply K_neq); exact rfl; exact rfl)
      | ((with_reducible apply K_neqS); exact rfl; exact rfl)
      | ((with_reducible apply K_lenS); exact rfl)
      | ((with_reducible apply K_mov_ref); exact rfl)
      | ((with_reducible apply K_mov_ptr); exact rfl)
      | ((with_reducible apply K_mov_yld); exact rfl)
      | ((with_reducible apply K_slS_hi); exact rfl; exact rfl; (first | omega | decide))
      | ((with_reducible apply K_slS_lo); exact rfl; exact rfl; (first | omega | decide))
      | ((with_reducible apply K_slS_2); exact rfl; exact rfl; exact rfl; (first | omega | decide); (first | omega | decide))
      | ((with_reducible apply K_min); exact rfl; exact rfl)
      | ((with_reducible apply K_bslice1); exact rfl; exact rfl)
      | ((with_reducible apply K_bslice); exact rfl)
    exact ends_2 rfl
  · by_cases h2 : n < 1 ∨ 20000 < n
    · rw [everyR_2 h1 h2]
      refine fn_cr fn38 (Nat.le_of_ble_eq_true rfl) rfl ?_
      unfold sc38
      repeat' first
        | with_reducible refine T_seq ?_
        | with_reducible refine S_ops ?_
        | with_reducible refine O_step ?_
        | ((with_reducible apply K_mov_d); exact rfl)
        | with_reducible refine O_nil ?_
        | with_reducible refine seq_n ?_
        | with_reducible refine S_skip ?_
        | ((with_reducible apply T_itet); exact rfl)
        | ((with_reducible apply T_itef); exact rfl)
        | ((with_reducible apply T_ite1); exact rfl; (first | with_reducible assumption | omega))
        | ((with_reducible apply T_ite0); exact rfl; (first | with_reducible assumption | omega))
        | ((with_reducible apply T_iteP); exact rfl; all_goals intro _)
        | with_reducible refine S_ret ?_
        | with_reducible refine seq_r ?_
        | with_reducible refine S_exit ?_
        | with_reducible refine seq_e ?_
        | with_reducible refine T_block ?_
        | with_reducible refine blk_1 ?_
        | with_reducible refine blk_0 rfl ?_
        | with_reducible refine blk_n ?_
        | with_reducible refine blk_r ?_
        | with_reducible refine rnd_r ?_
        | with_reducible refine rnd_e ?_
        | ((with_reducible apply G_skip'); exact rfl)
        | ((with_reducible apply G_1tt); exact rfl)
        | ((with_reducible apply G_1ff); exact rfl)
        | ((with_reducible apply G_0tt); exact rfl)
        | ((with_reducible apply G_0ff); exact rfl)
        | ((with_reducible apply G_1y); exact rfl; (first | with_reducible assumption | omega))
        | ((with_reducible apply G_1n); exact rfl; (first | with_reducible assumption | omega))
        | ((with_reducible apply G_0y); exact rfl; (first | with_reducible assumption | omega))
        | ((with_reducible apply G_0n); exact rfl; (first | with_reducible assumption | omega))
        | ((with_reducible apply G_1P); exact rfl; all_goals intro _)
        | ((with_reducible apply G_0P); exact rfl; all_goals intro _)
        | ((with_reducible apply K_pickt); exact rfl; exact rfl)
        | ((with_reducible apply K_pickf); exact rfl; exact rfl)
        | ((with_reducible apply K_pickT); exact rfl; (first | with_reducible assumption | omega); exact rfl)
        | ((with_reducible apply K_pickF); exact rfl; (first | with_reducible assumption | omega); exact rfl)
        | ((with_reducible apply K_lss); exact rfl; exact rfl)
        | ((with_reducible apply K_gtr); exact rfl; exact rfl)
        | ((with_reducible apply K_neq); exact rfl; exact rfl)
        | ((with_reducible apply K_neqS); exact rfl; exact rfl)
        | ((with_reducible apply K_lenS); exact rfl)
        | ((with_reducible apply K_mov_ref); exact rfl)
        | ((with_reducible apply K_mov_ptr); exact rfl)
        | ((with_reducible apply K_mov_yld); exact rfl)
        | ((with_reducible apply K_slS_hi); exact rfl; exact rfl; (first | omega | decide))
        | ((with_reducible apply K_slS_lo); exact rfl; exact rfl; (first | omega | decide))
        | ((with_reducible apply K_slS_2); exact rfl; exact rfl; exact rfl; (first | omega | decide); (first | omega | decide))
        | ((with_reducible apply K_min); exact rfl; exact rfl)
        | ((with_reducible apply K_bslice1); exact rfl; exact rfl)
        | ((with_reducible apply K_bslice); exact rfl)
      all_goals first
        | exact ends_2 rfl
        | omega
    · rw [everyR_y h1 h2]
      obtain ⟨m, rfl⟩ : ∃ m : Nat, n = m := ⟨n.toNat, by omega⟩
      have hm : 0 < m := by omega
      rw [Int.toNat_natCast]
      refine fn_cr fn38 (Nat.le_of_ble_eq_true rfl) rfl ?_
      unfold sc38
      repeat' first
        | with_reducible refine T_seq ?_
        | with_reducible refine S_ops ?_
        | with_reducible refine O_step ?_
        | ((with_reducible apply K_mov_d); exact rfl)
        | with_reducible refine O_nil ?_
        | with_reducible refine seq_n ?_
        | with_reducible refine S_skip ?_
        | ((with_reducible apply T_itet); exact rfl)
        | ((with_reducible apply T_itef); exact rfl)
        | ((with_reducible apply T_ite1); exact rfl; (first | with_reducible assumption | omega))
        | ((with_reducible apply T_ite0); exact rfl; (first | with_reducible assumption | omega))
        | ((with_reducible apply T_iteP); exact rfl; all_goals intro _)
        | with_reducible refine S_ret ?_
        | with_reducible refine seq_r ?_
        | with_reducible refine S_exit ?_
        | with_reducible refine seq_e ?_
        | with_reducible refine T_block ?_
        | with_reducible refine blk_1 ?_
        | with_reducible refine blk_0 rfl ?_
        | with_reducible refine blk_n ?_
        | with_reducible refine blk_r ?_
        | with_reducible refine rnd_r ?_
        | with_reducible refine rnd_e ?_
        | ((with_reducible apply G_skip'); exact rfl)
        | ((with_reducible apply G_1tt); exact rfl)
        | ((with_reducible apply G_1ff); exact rfl)
        | ((with_reducible apply G_0tt); exact rfl)
        | ((with_reducible apply G_0ff); exact rfl)
        | ((with_reducible apply G_1y); exact rfl; (first | with_reducible assumption | omega))
        | ((with_reducible apply G_1n); exact rfl; (first | with_reducible assumption | omega))
        | ((with_reducible apply G_0y); exact rfl; (first | with_reducible assumption | omega))
        | ((with_reducible apply G_0n); exact rfl; (first | with_reducible assumption | omega))
        | ((with_reducible apply G_1P); exact rfl; all_goals intro _)
        | ((with_reducible apply G_0P); exact rfl; all_goals intro _)
        | ((with_reducible apply K_pickt); exact rfl; exact rfl)
        | ((with_reducible apply K_pickf); exact rfl; exact rfl)
        | ((with_reducible apply K_pickT); exact rfl; (first | with_reducible assumption | omega); exact rfl)
        | ((with_reducible apply K_pickF); exact rfl; (first | with_reducible assumption | omega); exact rfl)
        | ((with_reducible apply K_lss); exact rfl; exact rfl)
        | ((with_reducible apply K_gtr); exact rfl; exact rfl)
        | ((with_reducible apply K_neq); exact rfl; exact rfl)
        | ((with_reducible apply K_neqS); exact rfl; exact rfl)
        | ((with_reducible apply K_lenS); exact rfl)
        | ((with_reducible apply K_mov_ref); exact rfl)
        | ((with_reducible apply K_mov_ptr); exact rfl)
        | ((with_reducible apply K_mov_yld); exact rfl)
        | ((with_reducible apply K_slS_hi); exact rfl; exact rfl; (first | omega | decide))
        | ((with_reducible apply K_slS_lo); exact rfl; exact rfl; (first | omega | decide))
        | ((with_reducible apply K_slS_2); exact rfl; exact rfl; exact rfl; (first | omega | decide); (first | omega | decide))
        | ((with_reducible apply K_min); exact rfl; exact rfl)
        | ((with_reducible apply K_bslice1); exact rfl; exact rfl)
        | ((with_reducible apply K_bslice); exact rfl)
      refine T_loop (fun t => Nat.beq t 0 || Nat.ble 6 t) [0, 6] (fun u : Nat × AV × St => [st (s.drop (u.1 * m)), u.2.1]) (fun u => u.2.2) (fun u => u.1 ≤ (s.length + m - 1) / m ∧ OutT 0 u.2.1 u.2.2 1 (dStrs (evK s m u.1))) (fun u => (s.length + m - 1) / m - u.1) (0, .d .nilsl, []) rfl ⟨Nat.zero_le _, .nil _ _ _⟩ (by simp only [Nat.zero_mul, List.drop_zero]; rfl) rfl ?_
      rintro ⟨k, v, t⟩ g ⟨hk, ho⟩
      dsimp only at hk ho ⊢
      have hlen := evK_len s m k
      have esl : (dStrs (evK s m k)).length = k := by simp [hlen]
      have hsd : (s.drop (k * m)).length = s.length - k * m := by simp
      have hkb : k ≤ 40000 := Nat.le_trans hk (Nat.le_trans (Nat.div_le_self _ _) (by omega))
      repeat' first
        | ((with_reducible apply K_mov_any v); exact rfl)
        | ((with_reducible apply K_mov_any v2); exact rfl)
        | ((with_reducible apply K_app_el (S0 := []) ho); exact rfl; exact rfl; exact rfl; (simp); (simp; omega); intro v2 t2 ho2)
        | with_reducible refine T_seq ?_
        | with_reducible refine S_ops ?_
        | with_reducible refine O_step ?_
        | ((with_reducible apply K_mov_d); exact rfl)
        | with_reducible refine O_nil ?_
        | with_reducible refine seq_n ?_
        | with_reducible refine S_skip ?_
        | ((with_reducible apply T_itet); exact rfl)
        | ((with_reducible apply T_itef); exact rfl)
        | ((with_reducible apply T_ite1); exact rfl; (first | with_reducible assumption | omega))
        | ((with_reducible apply T_ite0); exact rfl; (first | with_reducible assumption | omega))
        | ((with_reducible apply T_iteP); exact rfl; all_goals intro _)
        | with_reducible refine S_ret ?_
        | with_reducible refine seq_r ?_
        | with_reducible refine S_exit ?_
        | with_reducible refine seq_e ?_
        | with_reducible refine T_block ?_
        | with_reducible refine blk_1 ?_
        | with_reducible refine blk_0 rfl ?_
        | with_reducible refine blk_n ?_
        | with_reducible refine blk_r ?_
        | with_reducible refine rnd_r ?_
        | with_reducible refine rnd_e ?_
        | ((with_reducible apply G_skip'); exact rfl)
        | ((with_reducible apply G_1tt); exact rfl)
        | ((with_reducible apply G_1ff); exact rfl)
        | ((with_reducible apply G_0tt); exact rfl)
        | ((with_reducible apply G_0ff); exact rfl)
        | ((with_reducible apply G_1y); exact rfl; (first | with_reducible assumption | omega))
        | ((with_reducible apply G_1n); exact rfl; (first | with_reducible assumption | omega))
        | ((with_reducible apply G_0y); exact rfl; (first | with_reducible assumption | omega))
        | ((with_reducible apply G_0n); exact rfl; (first | with_reducible assumption | omega))
        | ((with_reducible apply G_1P); exact rfl; all_goals intro _)
        | ((with_reducible apply G_0P); exact rfl; all_goals intro _)
        | ((with_reducible apply K_pickt); exact rfl; exact rfl)
        | ((with_reducible apply K_pickf); exact rfl; exact rfl)
        | ((with_reducible apply K_pickT); exact rfl; (first | with_reducible assumption | omega); exact rfl)
        | ((with_reducible apply K_pickF); exact rfl; (first | with_reducible assumption | omega); exact rfl)
        | ((with_reducible apply K_lss); exact rfl; exact rfl)
        | ((with_reducible apply K_gtr); exact rfl; exact rfl)
        | ((with_reducible apply K_neq); exact rfl; exact rfl)
        | ((with_reducible apply K_neqS); exact rfl; exact rfl)
        | ((with_reducible apply K_lenS); exact rfl)
        | ((with_reducible apply K_mov_ref); exact rfl)
        | ((with_reducible apply K_mov_ptr); exact rfl)
        | ((with_reducible apply K_mov_yld); exact rfl)
        | ((with_reducible apply K_slS_hi); exact rfl; exact rfl; (first | omega | decide))
        | ((with_reducible apply K_slS_lo); exact rfl; exact rfl; (first | omega | decide))
        | ((with_reducible apply K_slS_2); exact rfl; exact rfl; exact rfl; (first | omega | decide); (first | omega | decide))
        | ((with_reducible apply K_min); exact rfl; exact rfl)
        | ((with_reducible apply K_bslice1); exact rfl; exact rfl)
        | ((with_reducible apply K_bslice); exact rfl)
      · have hne : s.drop (k * m) ≠ [] := by assumption
        have hlt := evN_step hm hne
        have e9 : (min (m : Int) ((s.drop (k * m)).length : Int)).toNat = min m (s.length - k * m) := by omega
        rw [e9] at ho2
        refine rnd_n (k + 1, v2, t2) ⟨⟨by dsimp only; omega, by simpa [evK] using ho2⟩, by dsimp only; omega⟩ ?_ rfl
        show [st ((s.drop (k * m)).drop (min (m : Int) ((s.drop (k * m)).length : Int)).toNat), v2] = _
        rw [e9, evDrop]
      · have he : s.drop (k * m) = [] := by rename_i h; exact Decidable.not_not.1 h
        have := evN_end hm he
        have hk2 : k = (s.length + m - 1) / m := by omega
        unfold evL; rw [← hk2]
        exact ends_out (S0 := []) ho rfl rfl rfl
theorem cr37 (s : List UInt8) (n : Int) : CR Try.prog 37 [st s, i64 n] [] (everyR s n) [] := by
  have c60 := cr60 s .nilsl [] (SL_nil 1) (by decide)
  by_cases h1 : s.length > 20000
  · rw [everyR_4 h1]
    have e : checkS s ([] : List Int).length = 4 := by unfold checkS; rw [if_pos h1]
    rw [e] at c60
    refine fn_cr fn37 (Nat.le_of_ble_eq_true rfl) rfl ?_
    unfold sc37
    repeat' first
      | ((with_reducible apply K_call_0 (f := 60) (ys := [.str s, .nilsl])); exact rfl; exact c60; exact rfl)
      | with_reducible refine T_seq ?_
      | with_reducible refine S_ops ?_
      | with_reducible refine O_step ?_
      | ((with_reducible apply K_mov_d); exact rfl)
      | with_reducible refine O_nil ?_
      | with_reducible refine seq_n ?_
      | with_reducible refine S_skip ?_
      | ((with_reducible apply T_itet); exact rfl)
      | ((with_reducible apply T_itef); exact rfl)
      | ((with_reducible apply T_ite1); exact rfl; (first | with_reducible assumption | omega | decide))
      | ((with_reducible apply T_ite0); exact rfl; (first | with_reducible assumption | omega | decide))
      | ((with_reducible apply T_iteP); exact rfl; all_goals intro _)
      | with_reducible refine S_ret ?_
      | with_reducible refine seq_r ?_
      | with_reducible refine S_exit ?_
      | with_reducible refine seq_e ?_
      | with_reducible refine T_block ?_
      | with_reducible refine blk_1 ?_
      | with_reducible refine blk_0 rfl ?_
      | with_reducible refine blk_n ?_
      | with_reducible refine blk_r ?_
      | with_reducible refine rnd_r ?_
      | with_reducible refine rnd_e ?_
      | ((with_reducible apply G_skip'); exact rfl)
      | ((with_reducible apply G_1tt); exact rfl)
      | ((with_reducible apply G_1ff); exact rfl)
      | ((with_reducible apply G_0tt); exact rfl)
      | ((with_reducible apply G_0ff); exact rfl)
      | ((with_reducible apply G_1y); exact rfl; (first | with_reducible assumption | omega | decide))
      | ((with_reducible apply G_1n); exact rfl; (first | with_reducible assumption | omega | decide))
      | ((with_reducible apply G_0y); exact rfl; (first | with_reducible assumption | omega | decide))
      | ((with_reducible apply G_0n); exact rfl; (first | with_reducible assumption | omega | decide))
      | ((with_reducible apply G_1P); exact rfl; all_goals intro _)
      | ((with_reducible apply G_0P); exact rfl; all_goals intro _)
      | ((with_reducible apply K_pickt); exact rfl; exact rfl)
      | ((with_reducible apply K_pickf); exact rfl; exact rfl)
      | ((with_reducible apply K_pickT); exact rfl; (first | with_reducible assumption | omega | decide); exact rfl)
      | ((with_reducible apply K_pickF); exact rfl; (first | with_reducible assumption | omega | decide); exact rfl)
      | ((with_reducible apply K_lss); exact rfl; exact rfl)
      | ((with_reducible apply K_gtr); exact rfl; exact rfl)
      | ((with_reducible apply K_neq); exact rfl; exact rfl)
      | ((with_reducible apply K_neqS); exact rfl; exact rfl)
      | ((with_reducible apply K_lenS); exact rfl)
      | with_reducible refine S_draw0 ?_
      | with_reducible refine D_nil ?_
      | with_reducible refine D_step0 ?_
      | ((with_reducible apply DG_1y); exact rfl; (first | with_reducible assumption | omega | decide))
      | ((with_reducible apply DG_1n); exact rfl; (first | with_reducible assumption | omega | decide))
      | ((with_reducible apply DG_0y); exact rfl; (first | with_reducible assumption | omega | decide))
      | ((with_reducible apply DG_0n); exact rfl; (first | with_reducible assumption | omega | decide))
      | ((with_reducible apply DG_1P); exact rfl; all_goals intro _)
      | ((with_reducible apply DG_0P); exact rfl; all_goals intro _)
      | ((with_reducible apply K_mov_ref); exact rfl)
      | ((with_reducible apply K_mov_ptr); exact rfl)
      | ((with_reducible apply K_mov_yld); exact rfl)
      | ((with_reducible apply K_slS_hi); exact rfl; exact rfl; (first | omega | decide))
      | ((with_reducible apply K_slS_lo); exact rfl; exact rfl; (first | omega | decide))
      | ((with_reducible apply K_slS_2); exact rfl; exact rfl; exact rfl; (first | omega | decide); (first | omega | decide))
      | ((with_reducible apply K_min); exact rfl; exact rfl)
      | ((with_reducible apply K_bslice1); exact rfl; exact rfl)
      | ((with_reducible apply K_bslice); exact rfl)
    exact ends_2 rfl
  · have e : checkS s ([] : List Int).length = 0 := by unfold checkS; rw [if_neg h1]; rfl
    rw [e] at c60
    by_cases h2 : n < 1 ∨ 20000 < n
    · rw [everyR_2 h1 h2]
      refine fn_cr fn37 (Nat.le_of_ble_eq_true rfl) rfl ?_
      unfold sc37
      repeat' first
        | ((with_reducible apply K_call_0 (f := 60) (ys := [.str s, .nilsl])); exact rfl; exact c60; exact rfl)
        | with_reducible refine T_seq ?_
        | with_reducible refine S_ops ?_
        | with_reducible refine O_step ?_
        | ((with_reducible apply K_mov_d); exact rfl)
        | with_reducible refine O_nil ?_
        | with_reducible refine seq_n ?_
        | with_reducible refine S_skip ?_
        | ((with_reducible apply T_itet); exact rfl)
        | ((with_reducible apply T_itef); exact rfl)
        | ((with_reducible apply T_ite1); exact rfl; (first | with_reducible assumption | omega | decide))
        | ((with_reducible apply T_ite0); exact rfl; (first | with_reducible assumption | omega | decide))
        | ((with_reducible apply T_iteP); exact rfl; all_goals intro _)
        | with_reducible refine S_ret ?_
        | with_reducible refine seq_r ?_
        | with_reducible refine S_exit ?_
        | with_reducible refine seq_e ?_
        | with_reducible refine T_block ?_
        | with_reducible refine blk_1 ?_
        | with_reducible refine blk_0 rfl ?_
        | with_reducible refine blk_n ?_
        | with_reducible refine blk_r ?_
        | with_reducible refine rnd_r ?_
        | with_reducible refine rnd_e ?_
        | ((with_reducible apply G_skip'); exact rfl)
        | ((with_reducible apply G_1tt); exact rfl)
        | ((with_reducible apply G_1ff); exact rfl)
        | ((with_reducible apply G_0tt); exact rfl)
        | ((with_reducible apply G_0ff); exact rfl)
        | ((with_reducible apply G_1y); exact rfl; (first | with_reducible assumption | omega | decide))
        | ((with_reducible apply G_1n); exact rfl; (first | with_reducible assumption | omega | decide))
        | ((with_reducible apply G_0y); exact rfl; (first | with_reducible assumption | omega | decide))
        | ((with_reducible apply G_0n); exact rfl; (first | with_reducible assumption | omega | decide))
        | ((with_reducible apply G_1P); exact rfl; all_goals intro _)
        | ((with_reducible apply G_0P); exact rfl; all_goals intro _)
        | ((with_reducible apply K_pickt); exact rfl; exact rfl)
        | ((with_reducible apply K_pickf); exact rfl; exact rfl)
        | ((with_reducible apply K_pickT); exact rfl; (first | with_reducible assumption | omega | decide); exact rfl)
        | ((with_reducible apply K_pickF); exact rfl; (first | with_reducible assumption | omega | decide); exact rfl)
        | ((with_reducible apply K_lss); exact rfl; exact rfl)
        | ((with_reducible apply K_gtr); exact rfl; exact rfl)
        | ((with_reducible apply K_neq); exact rfl; exact rfl)
        | ((with_reducible apply K_neqS); exact rfl; exact rfl)
        | ((with_reducible apply K_lenS); exact rfl)
        | with_reducible refine S_draw0 ?_
        | with_reducible refine D_nil ?_
        | with_reducible refine D_step0 ?_
        | ((with_reducible apply DG_1y); exact rfl; (first | with_reducible assumption | omega | decide))
        | ((with_reducible apply DG_1n); exact rfl; (first | with_reducible assumption | omega | decide))
        | ((with_reducible apply DG_0y); exact rfl; (first | with_reducible assumption | omega | decide))
        | ((with_reducible apply DG_0n); exact rfl; (first | with_reducible assumption | omega | decide))
        | ((with_reducible apply DG_1P); exact rfl; all_goals intro _)
        | ((with_reducible apply DG_0P); exact rfl; all_goals intro _)
        | ((with_reducible apply K_mov_ref); exact rfl)
        | ((with_reducible apply K_mov_ptr); exact rfl)
        | ((with_reducible apply K_mov_yld); exact rfl)
        | ((with_reducible apply K_slS_hi); exact rfl; exact rfl; (first | omega | decide))
        | ((with_reducible apply K_slS_lo); exact rfl; exact rfl; (first | omega | decide))
        | ((with_reducible apply K_slS_2); exact rfl; exact rfl; exact rfl; (first | omega | decide); (first | omega | decide))
        | ((with_reducible apply K_min); exact rfl; exact rfl)
        | ((with_reducible apply K_bslice1); exact rfl; exact rfl)
        | ((with_reducible apply K_bslice); exact rfl)
      all_goals first
        | exact ends_2 rfl
        | omega
    · rw [everyR_y h1 h2]
      obtain ⟨m, rfl⟩ : ∃ m : Nat, n = m := ⟨n.toNat, by omega⟩
      have hm : 0 < m := by omega
      rw [Int.toNat_natCast]
      refine fn_cr fn37 (Nat.le_of_ble_eq_true rfl) rfl ?_
      unfold sc37
      repeat' first
        | ((with_reducible apply K_call_0 (f := 60) (ys := [.str s, .nilsl])); exact rfl; exact c60; exact rfl)
        | with_reducible refine T_seq ?_
        | with_reducible refine S_ops ?_
        | with_reducible refine O_step ?_
        | ((with_reducible apply K_mov_d); exact rfl)
        | with_reducible refine O_nil ?_
        | with_reducible refine seq_n ?_
        | with_reducible refine S_skip ?_
        | ((with_reducible apply T_itet); exact rfl)
        | ((with_reducible apply T_itef); exact rfl)
        | ((with_reducible apply T_ite1); exact rfl; (first | with_reducible assumption | omega | decide))
        | ((with_reducible apply T_ite0); exact rfl; (first | with_reducible assumption | omega | decide))
        | ((with_reducible apply T_iteP); exact rfl; all_goals intro _)
        | with_reducible refine S_ret ?_
        | with_reducible refine seq_r ?_
        | with_reducible refine S_exit ?_
        | with_reducible refine seq_e ?_
        | with_reducible refine T_block ?_
        | with_reducible refine blk_1 ?_
        | with_reducible refine blk_0 rfl ?_
        | with_reducible refine blk_n ?_
        | with_reducible refine blk_r ?_
        | with_reducible refine rnd_r ?_
        | with_reducible refine rnd_e ?_
        | ((with_reducible apply G_skip'); exact rfl)
        | ((with_reducible apply G_1tt); exact rfl)
        | ((with_reducible apply G_1ff); exact rfl)
        | ((with_reducible apply G_0tt); exact rfl)
        | ((with_reducible apply G_0ff); exact rfl)
        | ((with_reducible apply G_1y); exact rfl; (first | with_reducible assumption | omega | decide))
        | ((with_reducible apply G_1n); exact rfl; (first | with_reducible assumption | omega | decide))
        | ((with_reducible apply G_0y); exact rfl; (first | with_reducible assumption | omega | decide))
        | ((with_reducible apply G_0n); exact rfl; (first | with_reducible assumption | omega | decide))
        | ((with_reducible apply G_1P); exact rfl; all_goals intro _)
        | ((with_reducible apply G_0P); exact rfl; all_goals intro _)
        | ((with_reducible apply K_pickt); exact rfl; exact rfl)
        | ((with_reducible apply K_pickf); exact rfl; exact rfl)
        | ((with_reducible apply K_pickT); exact rfl; (first | with_reducible assumption | omega | decide); exact rfl)
        | ((with_reducible apply K_pickF); exact rfl; (first | with_reducible assumption | omega | decide); exact rfl)
        | ((with_reducible apply K_lss); exact rfl; exact rfl)
        | ((with_reducible apply K_gtr); exact rfl; exact rfl)
        | ((with_reducible apply K_neq); exact rfl; exact rfl)
        | ((with_reducible apply K_neqS); exact rfl; exact rfl)
        | ((with_reducible apply K_lenS); exact rfl)
        | with_reducible refine S_draw0 ?_
        | with_reducible refine D_nil ?_
        | with_reducible refine D_step0 ?_
        | ((with_reducible apply DG_1y); exact rfl; (first | with_reducible assumption | omega | decide))
        | ((with_reducible apply DG_1n); exact rfl; (first | with_reducible assumption | omega | decide))
        | ((with_reducible apply DG_0y); exact rfl; (first | with_reducible assumption | omega | decide))
        | ((with_reducible apply DG_0n); exact rfl; (first | with_reducible assumption | omega | decide))
        | ((with_reducible apply DG_1P); exact rfl; all_goals intro _)
        | ((with_reducible apply DG_0P); exact rfl; all_goals intro _)
        | ((with_reducible apply K_mov_ref); exact rfl)
        | ((with_reducible apply K_mov_ptr); exact rfl)
        | ((with_reducible apply K_mov_yld); exact rfl)
        | ((with_reducible apply K_slS_hi); exact rfl; exact rfl; (first | omega | decide))
        | ((with_reducible apply K_slS_lo); exact rfl; exact rfl; (first | omega | decide))
        | ((with_reducible apply K_slS_2); exact rfl; exact rfl; exact rfl; (first | omega | decide); (first | omega | decide))
        | ((with_reducible apply K_min); exact rfl; exact rfl)
        | ((with_reducible apply K_bslice1); exact rfl; exact rfl)
        | ((with_reducible apply K_bslice); exact rfl)
      refine T_loop (fun t => Nat.beq t 0 || Nat.ble 7 t) [0, 7] (fun u : Nat × AV × St => [st (s.drop (u.1 * m)), u.2.1]) (fun u => u.2.2) (fun u => u.1 ≤ (s.length + m - 1) / m ∧ OutT 0 u.2.1 u.2.2 1 (dStrs (evK s m u.1))) (fun u => (s.length + m - 1) / m - u.1) (0, .d .nilsl, []) rfl ⟨Nat.zero_le _, .nil _ _ _⟩ (by simp only [Nat.zero_mul, List.drop_zero]; rfl) rfl ?_
      rintro ⟨k, v, t⟩ g ⟨hk, ho⟩
      dsimp only at hk ho ⊢
      have hlen := evK_len s m k
      have esl : (dStrs (evK s m k)).length = k := by simp [hlen]
      have hsd : (s.drop (k * m)).length = s.length - k * m := by simp
      have hkb : k ≤ 40000 := Nat.le_trans hk (Nat.le_trans (Nat.div_le_self _ _) (by omega))
      repeat' first
        | ((with_reducible apply K_mov_any v); exact rfl)
        | ((with_reducible apply K_mov_any v2); exact rfl)
        | ((with_reducible apply K_app_el (S0 := []) ho); exact rfl; exact rfl; exact rfl; (simp); (simp; omega); intro v2 t2 ho2)
        | with_reducible refine T_seq ?_
        | with_reducible refine S_ops ?_
        | with_reducible refine O_step ?_
        | ((with_reducible apply K_mov_d); exact rfl)
        | with_reducible refine O_nil ?_
        | with_reducible refine seq_n ?_
        | with_reducible refine S_skip ?_
        | ((with_reducible apply T_itet); exact rfl)
        | ((with_reducible apply T_itef); exact rfl)
        | ((with_reducible apply T_ite1); exact rfl; (first | with_reducible assumption | omega))
        | ((with_reducible apply T_ite0); exact rfl; (first | with_reducible assumption | omega))
        | ((with_reducible apply T_iteP); exact rfl; all_goals intro _)
        | with_reducible refine S_ret ?_
        | with_reducible refine seq_r ?_
        | with_reducible refine S_exit ?_
        | with_reducible refine seq_e ?_
        | with_reducible refine T_block ?_
        | with_reducible refine blk_1 ?_
        | with_reducible refine blk_0 rfl ?_
        | with_reducible refine blk_n ?_
        | with_reducible refine blk_r ?_
        | with_reducible refine rnd_r ?_
        | with_reducible refine rnd_e ?_
        | ((with_reducible apply G_skip'); exact rfl)
        | ((with_reducible apply G_1tt); exact rfl)
        | ((with_reducible apply G_1ff); exact rfl)
        | ((with_reducible apply G_0tt); exact rfl)
        | ((with_reducible apply G_0ff); exact rfl)
        | ((with_reducible apply G_1y); exact rfl; (first | with_reducible assumption | omega))
        | ((with_reducible apply G_1n); exact rfl; (first | with_reducible assumption | omega))
        | ((with_reducible apply G_0y); exact rfl; (first | with_reducible assumption | omega))
        | ((with_reducible apply G_0n); exact rfl; (first | with_reducible assumption | omega))
        | ((with_reducible apply G_1P); exact rfl; all_goals intro _)
        | ((with_reducible apply G_0P); exact rfl; all_goals intro _)
        | ((with_reducible apply K_pickt); exact rfl; exact rfl)
        | ((with_reducible apply K_pickf); exact rfl; exact rfl)
        | ((with_reducible apply K_pickT); exact rfl; (first | with_reducible assumption | omega); exact rfl)
        | ((with_reducible apply K_pickF); exact rfl; (first | with_reducible assumption | omega); exact rfl)
        | ((with_reducible apply K_lss); exact rfl; exact rfl)
        | ((with_reducible apply K_gtr); exact rfl; exact rfl)
        | ((with_reducible apply K_neq); exact rfl; exact rfl)
        | ((with_reducible apply K_neqS); exact rfl; exact rfl)
        | ((with_reducible apply K_lenS); exact rfl)
        | with_reducible refine S_draw0 ?_
        | with_reducible refine D_nil ?_
        | with_reducible refine D_step0 ?_
        | ((with_reducible apply DG_1y); exact rfl; (first | with_reducible assumption | omega))
        | ((with_reducible apply DG_1n); exact rfl; (first | with_reducible assumption | omega))
        | ((with_reducible apply DG_0y); exact rfl; (first | with_reducible assumption | omega))
        | ((with_reducible apply DG_0n); exact rfl; (first | with_reducible assumption | omega))
        | ((with_reducible apply DG_1P); exact rfl; all_goals intro _)
        | ((with_reducible apply DG_0P); exact rfl; all_goals intro _)
        | ((with_reducible apply K_mov_ref); exact rfl)
        | ((with_reducible apply K_mov_ptr); exact rfl)
        | ((with_reducible apply K_mov_yld); exact rfl)
        | ((with_reducible apply K_slS_hi); exact rfl; exact rfl; (first | omega | decide))
        | ((with_reducible apply K_slS_lo); exact rfl; exact rfl; (first | omega | decide))
        | ((with_reducible apply K_slS_2); exact rfl; exact rfl; exact rfl; (first | omega | decide); (first | omega | decide))
        | ((with_reducible apply K_min); exact rfl; exact rfl)
        | ((with_reducible apply K_bslice1); exact rfl; exact rfl)
        | ((with_reducible apply K_bslice); exact rfl)
      · have hne : s.drop (k * m) ≠ [] := by assumption
        have hlt := evN_step hm hne
        have e9 : (min (m : Int) ((s.drop (k * m)).length : Int)).toNat = min m (s.length - k * m) := by omega
        rw [e9] at ho2
        refine rnd_n (k + 1, v2, t2) ⟨⟨by dsimp only; omega, by simpa [evK] using ho2⟩, by dsimp only; omega⟩ ?_ rfl
        show [st ((s.drop (k * m)).drop (min (m : Int) ((s.drop (k * m)).length : Int)).toNat), v2] = _
        rw [e9, evDrop]
      · have he : s.drop (k * m) = [] := by rename_i h; exact Decidable.not_not.1 h
        have := evN_end hm he
        have hk2 : k = (s.length + m - 1) / m := by omega
        unfold evL; rw [← hk2]
        exact ends_out (S0 := []) ho rfl rfl rfl
end Go.Abs
/- Contracts: joining, sizes, what a script feeds. -/
namespace Go.Abs
open Go.Proofs
def catK (l : List (List UInt8)) (k : Nat) : List UInt8 := (l.take k).flatten
theorem catK_succ {l : List (List UInt8)} {k : Nat} (h : k < l.length) : catK l (k + 1) = catK l k ++ l.getD k [] := by
  unfold catK
  rw [List.take_succ_eq_append_getElem h, List.flatten_append]
  simp [List.getD_eq_getElem?_getD, h]
theorem catK_all (l : List (List UInt8)) : catK l l.length = l.flatten := by unfold catK; rw [List.take_length]
theorem catK_le (l : List (List UInt8)) (k : Nat) : (catK l k).length ≤ l.flatten.length := by
  have h : l.flatten = catK l k ++ (l.drop k).flatten := by unfold catK; rw [← List.flatten_append, List.take_append_drop]
  rw [h, List.length_append]; omega
abbrev joinR (l : List (List UInt8)) : AV := if l.flatten.length ≤ 20000 then .tup [.d (.str l.flatten), i64 0] else .tup [.d (.str []), i64 4]
section
variable {E : Env} {fr : Fr} {S : St} {K : AV → St → Prop} {x y z : Opd}
theorem K_addS {p q : List UInt8} (e : ld fr x = .d (.str p)) (e2 : ld fr y = .d (.str q)) (hb : p.length + q.length ≤ 9223372036854775807) (h : K (.d (.str (p ++ q))) S) : stepK E fr S (.bin .add x y) K := K_bin e e2 (by simp only [bin]; rw [if_pos hb]) h
end
theorem cr43 (d : D) (l : List (List UInt8)) (hd : SL 1 d (dStrs l)) (hl : l.length ≤ 100000) (hs : ∀ k, (l.getD k []).length ≤ 100000) : CR Try.prog 43 [.d d] [] (joinR l) [] := by
  have e0 : (dStrs l).length = l.length := by simp
  refine fn_cr fn43 (Nat.le_of_ble_eq_true rfl) rfl ?_
  unfold sc43
  repeat' first
    | ((with_reducible apply K_len_SL hd); exact rfl)
    | with_reducible refine T_seq ?_
    | with_reducible refine S_ops ?_
    | with_reducible refine O_step ?_
    | ((with_reducible apply K_mov_d); exact rfl)
    | with_reducible refine O_nil ?_
    | with_reducible refine seq_n ?_
    | with_reducible refine S_skip ?_
    | ((with_reducible apply T_itet); exact rfl)
    | ((with_reducible apply T_itef); exact rfl)
    | ((with_reducible apply T_ite1); exact rfl; (first | with_reducible assumption | omega))
    | ((with_reducible apply T_ite0); exact rfl; (first | with_reducible assumption | omega))
    | ((with_reducible apply T_iteP); exact rfl; all_goals intro _)
    | with_reducible refine S_ret ?_
    | with_reducible refine seq_r ?_
    | with_reducible refine S_exit ?_
    | with_reducible refine seq_e ?_
    | with_reducible refine T_block ?_
    | with_reducible refine blk_1 ?_
    | with_reducible refine blk_0 rfl ?_
    | with_reducible refine blk_n ?_
    | with_reducible refine blk_r ?_
    | with_reducible refine rnd_r ?_
    | with_reducible refine rnd_e ?_
    | ((with_reducible apply K_lss); exact rfl; exact rfl)
    | ((with_reducible apply K_gtr); exact rfl; exact rfl)
    | ((with_reducible apply K_add); exact rfl; exact rfl; (first | omega | decide))
    | ((with_reducible apply K_addw); exact rfl; exact rfl)
    | ((with_reducible apply K_lenS); exact rfl)
    | ((with_reducible apply K_len_d); exact rfl)
    | ((with_reducible apply K_len_nil); exact rfl)
    | ((with_reducible apply K_len_ref); exact rfl; exact rfl)
    | ((with_reducible apply K_idxA_ref); exact rfl; exact rfl; exact rfl; (first | omega | decide))
    | ((with_reducible apply K_idxA_d); exact rfl; exact rfl; (first | omega | decide))
    | ((with_reducible apply K_load1_ptr); exact rfl; exact rfl; exact rfl)
    | ((with_reducible apply K_load1_fp); exact rfl)
    | ((with_reducible apply K_load1_byte); exact rfl; exact rfl; (first | omega | decide))
    | ((with_reducible apply K_mov_ref); exact rfl)
    | ((with_reducible apply K_mov_ptr); exact rfl)
    | ((with_reducible apply K_mov_yld); exact rfl)
  refine T_loop (fun t => Nat.beq t 2 || Nat.beq t 3 || Nat.beq t 4 || Nat.beq t 5 || Nat.ble 8 t) [4, 5] (fun u : Nat => [i64 (catK l u).length, i64 u]) (fun _ => []) (fun u => u ≤ l.length ∧ (catK l u).length ≤ 20000) (fun u => l.length - u) 0 rfl ⟨Nat.zero_le _, Nat.zero_le _⟩ rfl rfl ?_
  rintro m g ⟨hm, hc⟩
  have hsm := hs m
  repeat' first
    | ((with_reducible apply K_len_SL hd); exact rfl)
    | ((with_reducible apply K_idxA_map (fun s : List UInt8 => D.str s) [] hd); exact rfl; exact rfl; omega)
    | with_reducible refine T_seq ?_
    | with_reducible refine S_ops ?_
    | with_reducible refine O_step ?_
    | ((with_reducible apply K_mov_d); exact rfl)
    | with_reducible refine O_nil ?_
    | with_reducible refine seq_n ?_
    | with_reducible refine S_skip ?_
    | ((with_reducible apply T_itet); exact rfl)
    | ((with_reducible apply T_itef); exact rfl)
    | ((with_reducible apply T_ite1); exact rfl; (first | with_reducible assumption | omega))
    | ((with_reducible apply T_ite0); exact rfl; (first | with_reducible assumption | omega))
    | ((with_reducible apply T_iteP); exact rfl; all_goals intro _)
    | with_reducible refine S_ret ?_
    | with_reducible refine seq_r ?_
    | with_reducible refine S_exit ?_
    | with_reducible refine seq_e ?_
    | with_reducible refine T_block ?_
    | with_reducible refine blk_1 ?_
    | with_reducible refine blk_0 rfl ?_
    | with_reducible refine blk_n ?_
    | with_reducible refine blk_r ?_
    | with_reducible refine rnd_r ?_
    | with_reducible refine rnd_e ?_
    | ((with_reducible apply K_lss); exact rfl; exact rfl)
    | ((with_reducible apply K_gtr); exact rfl; exact rfl)
    | ((with_reducible apply K_add); exact rfl; exact rfl; (first | omega | decide))
    | ((with_reducible apply K_addw); exact rfl; exact rfl)
    | ((with_reducible apply K_lenS); exact rfl)
    | ((with_reducible apply K_len_d); exact rfl)
    | ((with_reducible apply K_len_nil); exact rfl)
    | ((with_reducible apply K_len_ref); exact rfl; exact rfl)
    | ((with_reducible apply K_idxA_ref); exact rfl; exact rfl; exact rfl; (first | omega | decide))
    | ((with_reducible apply K_idxA_d); exact rfl; exact rfl; (first | omega | decide))
    | ((with_reducible apply K_load1_ptr); exact rfl; exact rfl; exact rfl)
    | ((with_reducible apply K_load1_fp); exact rfl)
    | ((with_reducible apply K_load1_byte); exact rfl; exact rfl; (first | omega | decide))
    | ((with_reducible apply K_mov_ref); exact rfl)
    | ((with_reducible apply K_mov_ptr); exact rfl)
    | ((with_reducible apply K_mov_yld); exact rfl)
  · have hml : m < l.length := by omega
    have e := catK_succ hml
    have h2 := catK_le l (m + 1)
    rw [e, List.length_append] at h2
    have : ¬ l.flatten.length ≤ 20000 := by omega
    rw [joinR, if_neg this]
    exact ends_2 rfl
  · have hml : m < l.length := by omega
    have e := catK_succ hml
    refine rnd_n (m + 1) ⟨⟨by omega, by rw [e, List.length_append]; omega⟩, by omega⟩ ?_ rfl
    show [i64 (((catK l m).length : Int) + ((l.getD m []).length : Int)), i64 ((m : Int) + 1)] = _
    rw [e, List.length_append]; rfl
  · have hme : m = l.length := by omega
    subst hme
    rw [catK_all] at hc
    rw [joinR, if_pos hc]
    refine T_loop (fun t => Nat.beq t 6 || Nat.beq t 7 || Nat.ble 23 t) [6, 7] (fun u : Nat => [st (catK l u), i64 u]) (fun _ => []) (fun u => u ≤ l.length) (fun u => l.length - u) 0 rfl (Nat.zero_le _) rfl rfl ?_
    rintro m g hm
    have hsm := hs m
    have hcl := catK_le l m
    repeat' first
      | ((with_reducible apply K_len_SL hd); exact rfl)
      | ((with_reducible apply K_idxA_map (fun s : List UInt8 => D.str s) [] hd); exact rfl; exact rfl; omega)
      | ((with_reducible apply K_addS); exact rfl; exact rfl; omega)
      | with_reducible refine T_seq ?_
      | with_reducible refine S_ops ?_
      | with_reducible refine O_step ?_
      | ((with_reducible apply K_mov_d); exact rfl)
      | with_reducible refine O_nil ?_
      | with_reducible refine seq_n ?_
      | with_reducible refine S_skip ?_
      | ((with_reducible apply T_itet); exact rfl)
      | ((with_reducible apply T_itef); exact rfl)
      | ((with_reducible apply T_ite1); exact rfl; (first | with_reducible assumption | omega))
      | ((with_reducible apply T_ite0); exact rfl; (first | with_reducible assumption | omega))
      | ((with_reducible apply T_iteP); exact rfl; all_goals intro _)
      | with_reducible refine S_ret ?_
      | with_reducible refine seq_r ?_
      | with_reducible refine S_exit ?_
      | with_reducible refine seq_e ?_
      | with_reducible refine T_block ?_
      | with_reducible refine blk_1 ?_
      | with_reducible refine blk_0 rfl ?_
      | with_reducible refine blk_n ?_
      | with_reducible refine blk_r ?_
      | with_reducible refine rnd_r ?_
      | with_reducible refine rnd_e ?_
      | ((with_reducible apply K_lss); exact rfl; exact rfl)
      | ((with_reducible apply K_gtr); exact rfl; exact rfl)
      | ((with_reducible apply K_add); exact rfl; exact rfl; (first | omega | decide))
      | ((with_reducible apply K_addw); exact rfl; exact rfl)
      | ((with_reducible apply K_lenS); exact rfl)
      | ((with_reducible apply K_len_d); exact rfl)
      | ((with_reducible apply K_len_nil); exact rfl)
      | ((with_reducible apply K_len_ref); exact rfl; exact rfl)
      | ((with_reducible apply K_idxA_ref); exact rfl; exact rfl; exact rfl; (first | omega | decide))
      | ((with_reducible apply K_idxA_d); exact rfl; exact rfl; (first | omega | decide))
      | ((with_reducible apply K_load1_ptr); exact rfl; exact rfl; exact rfl)
      | ((with_reducible apply K_load1_fp); exact rfl)
      | ((with_reducible apply K_load1_byte); exact rfl; exact rfl; (first | omega | decide))
      | ((with_reducible apply K_mov_ref); exact rfl)
      | ((with_reducible apply K_mov_ptr); exact rfl)
      | ((with_reducible apply K_mov_yld); exact rfl)
    · have hml : m < l.length := by omega
      have e := catK_succ hml
      refine rnd_n (m + 1) ⟨by omega, by omega⟩ ?_ rfl
      rw [e]; rfl
    · have hme : m = l.length := by omega
      subst hme
      rw [catK_all]
      exact ends_2 rfl
theorem cr69 (d : D) (l : List (List UInt8)) (hd : SL 1 d (dStrs l)) (hl : l.length ≤ 100000) (hs : ∀ k, (l.getD k []).length ≤ 100000) : CR Try.prog 69 [i64 20000, .d d] [] (joinR l) [] := by
  have e0 : (dStrs l).length = l.length := by simp
  refine fn_cr fn69 (Nat.le_of_ble_eq_true rfl) rfl ?_
  unfold sc69
  repeat' first
    | ((with_reducible apply K_len_SL hd); exact rfl)
    | with_reducible refine T_seq ?_
    | with_reducible refine S_ops ?_
    | with_reducible refine O_step ?_
    | ((with_reducible apply K_mov_d); exact rfl)
    | with_reducible refine O_nil ?_
    | with_reducible refine seq_n ?_
    | with_reducible refine S_skip ?_
    | ((with_reducible apply T_itet); exact rfl)
    | ((with_reducible apply T_itef); exact rfl)
    | ((with_reducible apply T_ite1); exact rfl; (first | with_reducible assumption | omega))
    | ((with_reducible apply T_ite0); exact rfl; (first | with_reducible assumption | omega))
    | ((with_reducible apply T_iteP); exact rfl; all_goals intro _)
    | with_reducible refine S_ret ?_
    | with_reducible refine seq_r ?_
    | with_reducible refine S_exit ?_
    | with_reducible refine seq_e ?_
    | with_reducible refine T_block ?_
    | with_reducible refine blk_1 ?_
    | with_reducible refine blk_0 rfl ?_
    | with_reducible refine blk_n ?_
    | with_reducible refine blk_r ?_
    | with_reducible refine rnd_r ?_
    | with_reducible refine rnd_e ?_
    | ((with_reducible apply K_lss); exact rfl; exact rfl)
    | ((with_reducible apply K_gtr); exact rfl; exact rfl)
    | ((with_reducible apply K_add); exact rfl; exact rfl; (first | omega | decide))
    | ((with_reducible apply K_addw); exact rfl; exact rfl)
    | ((with_reducible apply K_lenS); exact rfl)
    | ((with_reducible apply K_len_d); exact rfl)
    | ((with_reducible apply K_len_nil); exact rfl)
    | ((with_reducible apply K_len_ref); exact rfl; exact rfl)
    | ((with_reducible apply K_idxA_ref); exact rfl; exact rfl; exact rfl; (first | omega | decide))
    | ((with_reducible apply K_idxA_d); exact rfl; exact rfl; (first | omega | decide))
    | ((with_reducible apply K_load1_ptr); exact rfl; exact rfl; exact rfl)
    | ((with_reducible apply K_load1_fp); exact rfl)
    | ((with_reducible apply K_load1_byte); exact rfl; exact rfl; (first | omega | decide))
    | ((with_reducible apply K_ofBytes_ref); exact rfl; exact rfl; (first | omega | simp))
    | ((with_reducible apply K_mov_ref); exact rfl)
    | ((with_reducible apply K_mov_ptr); exact rfl)
    | ((with_reducible apply K_mov_yld); exact rfl)
  refine T_loop (fun t => Nat.beq t 4 || Nat.beq t 5 || Nat.beq t 6 || Nat.beq t 8 || Nat.ble 14 t) [6, 14] (fun u : Nat => [i64 (catK l u).length, i64 u]) (fun _ => []) (fun u => u ≤ l.length ∧ (catK l u).length ≤ 20000) (fun u => l.length - u) 0 rfl ⟨Nat.zero_le _, Nat.zero_le _⟩ rfl rfl ?_
  rintro m g ⟨hm, hc⟩
  have hsm := hs m
  repeat' first
    | ((with_reducible apply K_len_SL hd); exact rfl)
    | ((with_reducible apply K_idxA_map (fun s : List UInt8 => D.str s) [] hd); exact rfl; exact rfl; omega)
    | ((with_reducible apply K_mks); exact rfl; exact rfl; omega)
    | with_reducible refine T_seq ?_
    | with_reducible refine S_ops ?_
    | with_reducible refine O_step ?_
    | ((with_reducible apply K_mov_d); exact rfl)
    | with_reducible refine O_nil ?_
    | with_reducible refine seq_n ?_
    | with_reducible refine S_skip ?_
    | ((with_reducible apply T_itet); exact rfl)
    | ((with_reducible apply T_itef); exact rfl)
    | ((with_reducible apply T_ite1); exact rfl; (first | with_reducible assumption | omega))
    | ((with_reducible apply T_ite0); exact rfl; (first | with_reducible assumption | omega))
    | ((with_reducible apply T_iteP); exact rfl; all_goals intro _)
    | with_reducible refine S_ret ?_
    | with_reducible refine seq_r ?_
    | with_reducible refine S_exit ?_
    | with_reducible refine seq_e ?_
    | with_reducible refine T_block ?_
    | with_reducible refine blk_1 ?_
    | with_reducible refine blk_0 rfl ?_
    | with_reducible refine blk_n ?_
    | with_reducible refine blk_r ?_
    | with_reducible refine rnd_r ?_
    | with_reducible refine rnd_e ?_
    | ((with_reducible apply K_lss); exact rfl; exact rfl)
    | ((with_reducible apply K_gtr); exact rfl; exact rfl)
    | ((with_reducible apply K_add); exact rfl; exact rfl; (first | omega | decide))
    | ((with_reducible apply K_addw); exact rfl; exact rfl)
    | ((with_reducible apply K_lenS); exact rfl)
    | ((with_reducible apply K_len_d); exact rfl)
    | ((with_reducible apply K_len_nil); exact rfl)
    | ((with_reducible apply K_len_ref); exact rfl; exact rfl)
    | ((with_reducible apply K_idxA_ref); exact rfl; exact rfl; exact rfl; (first | omega | decide))
    | ((with_reducible apply K_idxA_d); exact rfl; exact rfl; (first | omega | decide))
    | ((with_reducible apply K_load1_ptr); exact rfl; exact rfl; exact rfl)
    | ((with_reducible apply K_load1_fp); exact rfl)
    | ((with_reducible apply K_load1_byte); exact rfl; exact rfl; (first | omega | decide))
    | ((with_reducible apply K_ofBytes_ref); exact rfl; exact rfl; (first | omega | simp))
    | ((with_reducible apply K_mov_ref); exact rfl)
    | ((with_reducible apply K_mov_ptr); exact rfl)
    | ((with_reducible apply K_mov_yld); exact rfl)
  · have hml : m < l.length := by omega
    have e := catK_succ hml
    have h2 := catK_le l (m + 1)
    rw [e, List.length_append] at h2
    have : ¬ l.flatten.length ≤ 20000 := by omega
    rw [joinR, if_neg this]
    exact ends_2 rfl
  · have hml : m < l.length := by omega
    have e := catK_succ hml
    refine rnd_n (m + 1) ⟨⟨by omega, by rw [e, List.length_append]; omega⟩, by omega⟩ ?_ rfl
    show [i64 (((catK l m).length : Int) + ((l.getD m []).length : Int)), i64 ((m : Int) + 1)] = _
    rw [e, List.length_append]; rfl
  · have hme : m = l.length := by omega
    subst hme
    rw [catK_all] at hc
    rw [joinR, if_pos hc]
    refine T_loop (fun t => Nat.beq t 9 || Nat.beq t 11 || Nat.ble 30 t) [9, 30] (fun u : Nat × AV × St => [u.2.1, i64 u.1]) (fun u => u.2.2) (fun u => u.1 ≤ l.length ∧ (∃ i g, u.2.1 = .ref (([] : St).length + i) g 0 ((catK l u.1).map byteD).length ∧ u.2.2[i]? = some (.arr g 1 ((catK l u.1).map byteD)))) (fun u => l.length - u.1) (0, .ref 0 0 0 0, [.arr 0 1 []]) rfl ⟨Nat.zero_le _, 0, 0, rfl, rfl⟩ rfl rfl ?_
    rintro ⟨m, v, t⟩ g ⟨hm, ho⟩
    dsimp only at hm ho ⊢
    have hsm := hs m
    have hcl := catK_le l m
    repeat' first
      | ((with_reducible apply K_mov_any v); exact rfl)
      | ((with_reducible apply K_mov_any v2); exact rfl)
      | ((with_reducible apply K_idxA_map (fun s : List UInt8 => D.str s) [] hd); exact rfl; exact rfl; omega)
      | ((with_reducible apply K_app_bytes (S0 := []) (t := t) ho); exact rfl; exact rfl; exact rfl; (rw [List.length_map]; omega); intro v2 t2 ho2)
      | with_reducible refine T_seq ?_
      | with_reducible refine S_ops ?_
      | with_reducible refine O_step ?_
      | ((with_reducible apply K_mov_d); exact rfl)
      | with_reducible refine O_nil ?_
      | with_reducible refine seq_n ?_
      | with_reducible refine S_skip ?_
      | ((with_reducible apply T_itet); exact rfl)
      | ((with_reducible apply T_itef); exact rfl)
      | ((with_reducible apply T_ite1); exact rfl; (first | with_reducible assumption | omega))
      | ((with_reducible apply T_ite0); exact rfl; (first | with_reducible assumption | omega))
      | ((with_reducible apply T_iteP); exact rfl; all_goals intro _)
      | with_reducible refine S_ret ?_
      | with_reducible refine seq_r ?_
      | with_reducible refine S_exit ?_
      | with_reducible refine seq_e ?_
      | with_reducible refine T_block ?_
      | with_reducible refine blk_1 ?_
      | with_reducible refine blk_0 rfl ?_
      | with_reducible refine blk_n ?_
      | with_reducible refine blk_r ?_
      | with_reducible refine rnd_r ?_
      | with_reducible refine rnd_e ?_
      | ((with_reducible apply K_lss); exact rfl; exact rfl)
      | ((with_reducible apply K_gtr); exact rfl; exact rfl)
      | ((with_reducible apply K_add); exact rfl; exact rfl; (first | omega | decide))
      | ((with_reducible apply K_addw); exact rfl; exact rfl)
      | ((with_reducible apply K_lenS); exact rfl)
      | ((with_reducible apply K_len_d); exact rfl)
      | ((with_reducible apply K_len_nil); exact rfl)
      | ((with_reducible apply K_len_ref); exact rfl; exact rfl)
      | ((with_reducible apply K_idxA_ref); exact rfl; exact rfl; exact rfl; (first | omega | decide))
      | ((with_reducible apply K_idxA_d); exact rfl; exact rfl; (first | omega | decide))
      | ((with_reducible apply K_load1_ptr); exact rfl; exact rfl; exact rfl)
      | ((with_reducible apply K_load1_fp); exact rfl)
      | ((with_reducible apply K_load1_byte); exact rfl; exact rfl; (first | omega | decide))
      | ((with_reducible apply K_ofBytes_ref); exact rfl; exact rfl; (first | omega | simp))
      | ((with_reducible apply K_mov_ref); exact rfl)
      | ((with_reducible apply K_mov_ptr); exact rfl)
      | ((with_reducible apply K_mov_yld); exact rfl)
    · have hml : m < l.length := by omega
      have e := catK_succ hml
      refine rnd_n (m + 1, v2, t2) ⟨⟨by dsimp only; omega, ?_⟩, by dsimp only; omega⟩ rfl rfl
      dsimp only
      rw [e, List.map_append]
      exact ho2
    · have hme : m = l.length := by omega
      subst hme
      rw [catK_all] at ho
      obtain ⟨i, g2, rfl, ht⟩ := ho
      have hrd : rd t (([] : St).length + i) = some (g2, 1, l.flatten.map byteD) := by unfold rd; rw [List.length_nil, Nat.zero_add, ht]
      repeat' first
        | ((with_reducible apply K_mov_any (.ref (([] : St).length + i) g2 0 (l.flatten.map byteD).length)); exact rfl)
        | ((with_reducible apply K_ofBytes_ref (s := l.flatten)); exact rfl; exact hrd; exact List.length_map _)
        | with_reducible refine T_seq ?_
        | with_reducible refine S_ops ?_
        | with_reducible refine O_step ?_
        | ((with_reducible apply K_mov_d); exact rfl)
        | with_reducible refine O_nil ?_
        | with_reducible refine seq_n ?_
        | with_reducible refine S_skip ?_
        | ((with_reducible apply T_itet); exact rfl)
        | ((with_reducible apply T_itef); exact rfl)
        | ((with_reducible apply T_ite1); exact rfl; (first | with_reducible assumption | omega))
        | ((with_reducible apply T_ite0); exact rfl; (first | with_reducible assumption | omega))
        | ((with_reducible apply T_iteP); exact rfl; all_goals intro _)
        | with_reducible refine S_ret ?_
        | with_reducible refine seq_r ?_
        | with_reducible refine S_exit ?_
        | with_reducible refine seq_e ?_
        | with_reducible refine T_block ?_
        | with_reducible refine blk_1 ?_
        | with_reducible refine blk_0 rfl ?_
        | with_reducible refine blk_n ?_
        | with_reducible refine blk_r ?_
        | with_reducible refine rnd_r ?_
        | with_reducible refine rnd_e ?_
        | ((with_reducible apply K_lss); exact rfl; exact rfl)
        | ((with_reducible apply K_gtr); exact rfl; exact rfl)
        | ((with_reducible apply K_add); exact rfl; exact rfl; (first | omega | decide))
        | ((with_reducible apply K_addw); exact rfl; exact rfl)
        | ((with_reducible apply K_lenS); exact rfl)
        | ((with_reducible apply K_len_d); exact rfl)
        | ((with_reducible apply K_len_nil); exact rfl)
        | ((with_reducible apply K_len_ref); exact rfl; exact rfl)
        | ((with_reducible apply K_idxA_ref); exact rfl; exact rfl; exact rfl; (first | omega | decide))
        | ((with_reducible apply K_idxA_d); exact rfl; exact rfl; (first | omega | decide))
        | ((with_reducible apply K_load1_ptr); exact rfl; exact rfl; exact rfl)
        | ((with_reducible apply K_load1_fp); exact rfl)
        | ((with_reducible apply K_load1_byte); exact rfl; exact rfl; (first | omega | decide))
        | ((with_reducible apply K_ofBytes_ref); exact rfl; exact rfl; (first | omega | simp))
        | ((with_reducible apply K_mov_ref); exact rfl)
        | ((with_reducible apply K_mov_ptr); exact rfl)
        | ((with_reducible apply K_mov_yld); exact rfl)
      exact ends_2 rfl
theorem cr42 (d : D) (l : List (List UInt8)) (hd : SL 1 d (dStrs l)) (hl : l.length ≤ 100000) (hs : ∀ k, (l.getD k []).length ≤ 100000) : CR Try.prog 42 [.d d] [] (joinR l) [] := by
  have c := cr69 d l hd hl hs
  by_cases hq : l.flatten.length ≤ 20000
  · rw [joinR, if_pos hq] at c ⊢
    refine fn_cr fn42 (Nat.le_of_ble_eq_true rfl) rfl ?_
    unfold sc42
    repeat' first
      | ((with_reducible apply K_call_d (f := 69) (ys := [.int .i64 20000, d])); exact rfl; exact c; exact ⟨rfl, rfl⟩)
      | with_reducible refine T_seq ?_
      | with_reducible refine S_ops ?_
      | with_reducible refine O_step ?_
      | ((with_reducible apply K_mov_d); exact rfl)
      | with_reducible refine O_nil ?_
      | with_reducible refine seq_n ?_
      | with_reducible refine S_ret ?_
      | with_reducible refine seq_r ?_
      | with_reducible refine rnd_r ?_
      | ((with_reducible apply K_mov_ref); exact rfl)
      | ((with_reducible apply K_mov_ptr); exact rfl)
      | ((with_reducible apply K_mov_tup); exact rfl)
      | ((with_reducible apply K_mov_yld); exact rfl)
      | ((with_reducible apply K_ext); exact rfl; exact rfl)
    exact ends_2 rfl
  · rw [joinR, if_neg hq] at c ⊢
    refine fn_cr fn42 (Nat.le_of_ble_eq_true rfl) rfl ?_
    unfold sc42
    repeat' first
      | ((with_reducible apply K_call_d (f := 69) (ys := [.int .i64 20000, d])); exact rfl; exact c; exact ⟨rfl, rfl⟩)
      | with_reducible refine T_seq ?_
      | with_reducible refine S_ops ?_
      | with_reducible refine O_step ?_
      | ((with_reducible apply K_mov_d); exact rfl)
      | with_reducible refine O_nil ?_
      | with_reducible refine seq_n ?_
      | with_reducible refine S_ret ?_
      | with_reducible refine seq_r ?_
      | with_reducible refine rnd_r ?_
      | ((with_reducible apply K_mov_ref); exact rfl)
      | ((with_reducible apply K_mov_ptr); exact rfl)
      | ((with_reducible apply K_mov_tup); exact rfl)
      | ((with_reducible apply K_mov_yld); exact rfl)
      | ((with_reducible apply K_ext); exact rfl; exact rfl)
    exact ends_2 rfl
end Go.Abs
/- Contracts: the examples of the chapter. -/
namespace Go.Abs
open Go.Proofs
/-! scripts as triples -/
def otherT (k n : Int) : Tri := if k = 0 then (3, 1 + n / 7680 % 5, []) else if k = 1 then (3, 64, []) else if k = 2 then (4, 0, []) else (5, 0, [])
theorem otherD_tri (k n : Int) : otherD k n = triD (otherT k n) := by
  unfold otherD otherT; repeat' split
  all_goals rfl
def stepT (s : List UInt8) (l : List Int) (k : Nat) : List Tri := (if k < l.length then (kindsL (natS (l.getD k 0))).map fun q => otherT q (natS (l.getD k 0)) else []) ++ [(1, 0, (cutL s l).getD k [])]
def callsT (s : List UInt8) (l : List Int) : Nat → List Tri
  | 0 => []
  | k + 1 => callsT s l k ++ stepT s l k
def endT : List Tri := (2, 0, []) :: List.replicate 8 (3, 64, [])
def scriptT (s : List UInt8) (l : List Int) : List Tri := callsT s l (cutL s l).length ++ endT
theorem stepT_eq (s : List UInt8) (l : List Int) (k : Nat) : stepC s l k = dTri (stepT s l k) := by
  unfold stepC stepT othersL
  rw [dTri, List.map_append]
  congr 1
  split
  · rw [List.map_map]; exact List.map_congr_left fun q _ => otherD_tri q _
  · rfl
theorem callsT_eq (s : List UInt8) (l : List Int) : ∀ k, callsK s l k = dTri (callsT s l k)
  | 0 => rfl
  | k + 1 => by
    rw [callsK, callsT, callsT_eq s l k, stepT_eq]
    show _ = List.map triD (_ ++ _)
    rw [List.map_append]
theorem scriptT_eq (s : List UInt8) (l : List Int) : callsL s l = dTri (scriptT s l) := by
  unfold callsL scriptT
  rw [callsT_eq]
  show _ = List.map triD (_ ++ _)
  rw [List.map_append]
  rfl
theorem callsT_len (s : List UInt8) (l : List Int) : ∀ k, (callsT s l k).length ≤ 3 * k
  | 0 => Nat.le_refl _
  | k + 1 => by
    have := callsT_len s l k
    have h2 : (stepT s l k).length ≤ 3 := by
      unfold stepT
      split
      · have := kindsL_len (natS (l.getD k 0)); rw [List.length_append, List.length_map]; simp only [List.length_singleton]; omega
      · simp
    rw [callsT, List.length_append]; omega
theorem scriptT_len {s : List UInt8} {l : List Int} (hl : l.length ≤ 1000) : (scriptT s l).length ≤ 4000 := by
  have h1 := callsT_len s l (cutL s l).length
  have h2 : (cutL s l).length ≤ l.length + 1 := by rw [cutL_len]; split <;> omega
  have h3 : endT.length = 9 := rfl
  unfold scriptT; rw [List.length_append]; omega
theorem cr49 (s : List UInt8) (d w : D) (l : List Int) (ws : List (List UInt8)) (hd : SL 1 d (dInts l)) (hw : SL 1 w (dStrs ws)) (hl : l.length ≤ 40) (hr : ∀ i ∈ l, -9223372036854775808 ≤ i ∧ i < 9223372036854775808) (hs : s.length ≤ 20000) (h : cutL s l = ws) :
    CR Try.prog 49 [st s, .d d, .d w] [] (.d (.bool true)) [] := by
  have c29 := cr29 s d l hd (by omega) hr
  have hc : checkS s l.length = 0 := by unfold checkS; rw [if_neg (by omega), if_neg (by omega)]
  rw [if_pos hc] at c29
  have hn : (cutL s l).length ≤ 1001 := by rw [cutL_len]; split <;> omega
  have c33 := cr33 (slD 1 (dStrs (cutL s l))) w (cutL s l) (SL_slD _ _) (by rw [h]; exact hw) (by omega)
  generalize slD 1 (dStrs (cutL s l)) = q at *
  refine fn_cr fn49 (Nat.le_of_ble_eq_true rfl) rfl ?_
  unfold sc49
  repeat' first
    | ((with_reducible apply K_call_d (f := 29) (ys := [.str s, d])); exact rfl; exact c29; exact ⟨rfl, rfl⟩)
    | ((with_reducible apply K_call_0 (f := 33) (ys := [q, w])); exact rfl; exact c33; exact rfl)
    | with_reducible refine T_seq ?_
    | with_reducible refine S_ops ?_
    | with_reducible refine O_step ?_
    | ((with_reducible apply K_mov_d); exact rfl)
    | with_reducible refine O_nil ?_
    | with_reducible refine seq_n ?_
    | with_reducible refine S_ret ?_
    | with_reducible refine seq_r ?_
    | with_reducible refine rnd_r ?_
    | ((with_reducible apply G_skip'); exact rfl)
    | ((with_reducible apply G_1tt); exact rfl)
    | ((with_reducible apply G_1ff); exact rfl)
    | ((with_reducible apply G_0tt); exact rfl)
    | ((with_reducible apply G_0ff); exact rfl)
    | ((with_reducible apply G_1y); exact rfl; (first | with_reducible assumption | omega | decide))
    | ((with_reducible apply G_1n); exact rfl; (first | with_reducible assumption | omega | decide))
    | ((with_reducible apply G_0y); exact rfl; (first | with_reducible assumption | omega | decide))
    | ((with_reducible apply G_0n); exact rfl; (first | with_reducible assumption | omega | decide))
    | ((with_reducible apply G_1P); exact rfl; all_goals intro _)
    | ((with_reducible apply G_0P); exact rfl; all_goals intro _)
    | ((with_reducible apply K_pickt); exact rfl; exact rfl)
    | ((with_reducible apply K_pickf); exact rfl; exact rfl)
    | ((with_reducible apply K_pickT); exact rfl; (first | with_reducible assumption | omega | decide); exact rfl)
    | ((with_reducible apply K_pickF); exact rfl; (first | with_reducible assumption | omega | decide); exact rfl)
    | ((with_reducible apply K_eql); exact rfl; exact rfl)
    | ((with_reducible apply K_eqlS); exact rfl; exact rfl)
    | ((with_reducible apply K_mov_ref); exact rfl)
    | ((with_reducible apply K_mov_ptr); exact rfl)
    | ((with_reducible apply K_mov_tup); exact rfl)
    | ((with_reducible apply K_mov_yld); exact rfl)
    | ((with_reducible apply K_ext); exact rfl; exact rfl)
  exact ends_d rfl
theorem cr50 (s : List UInt8) (d w : D) (l ks : List Int) (hd : SL 1 d (dInts l)) (hw : SL 1 w (dInts ks)) (hl : l.length ≤ 40) (hr : ∀ i ∈ l, -9223372036854775808 ≤ i ∧ i < 9223372036854775808) (hs : s.length ≤ 20000)
    (hn : (scriptT s l).length = ks.length + 9) (h : ∀ k, k < ks.length + 9 → ((scriptT s l).getD k (0, 0, [])).1 = if k < ks.length then ks.getD k 0 else if k = ks.length then 2 else 3) :
    CR Try.prog 50 [st s, .d d, .d w] [] (.d (.bool true)) [] := by
  have c31 := cr31 s d l hd (by omega) hr
  have hc : checkS s l.length = 0 := by unfold checkS; rw [if_neg (by omega), if_neg (by omega)]
  rw [if_pos hc, scriptT_eq] at c31
  have h3 := SL_slD 3 (dTri (scriptT s l))
  have hb : (scriptT s l).length ≤ 4000 := scriptT_len (by omega)
  generalize slD 3 (dTri (scriptT s l)) = q at *
  generalize scriptT s l = cs at *
  have e0 : (dTri cs).length = cs.length := by simp
  have e1 : (dInts ks).length = ks.length := by simp
  refine fn_cr fn50 (Nat.le_of_ble_eq_true rfl) rfl ?_
  unfold sc50
  repeat' first
    | ((with_reducible apply K_call_d (f := 31) (ys := [.str s, d])); exact rfl; exact c31; exact ⟨rfl, rfl⟩)
    | ((with_reducible apply K_len_SL h3); exact rfl)
    | ((with_reducible apply K_len_SL hw); exact rfl)
    | with_reducible refine T_seq ?_
    | with_reducible refine S_ops ?_
    | with_reducible refine O_step ?_
    | ((with_reducible apply K_mov_d); exact rfl)
    | with_reducible refine O_nil ?_
    | with_reducible refine seq_n ?_
    | with_reducible refine S_skip ?_
    | ((with_reducible apply T_itet); exact rfl)
    | ((with_reducible apply T_itef); exact rfl)
    | ((with_reducible apply T_ite1); exact rfl; (first | with_reducible assumption | omega | decide))
    | ((with_reducible apply T_ite0); exact rfl; (first | with_reducible assumption | omega | decide))
    | ((with_reducible apply T_iteP); exact rfl; all_goals intro _)
    | with_reducible refine S_ret ?_
    | with_reducible refine seq_r ?_
    | with_reducible refine S_exit ?_
    | with_reducible refine seq_e ?_
    | with_reducible refine T_block ?_
    | with_reducible refine blk_1 ?_
    | with_reducible refine blk_0 rfl ?_
    | with_reducible refine blk_n ?_
    | with_reducible refine blk_r ?_
    | with_reducible refine rnd_r ?_
    | with_reducible refine rnd_e ?_
    | ((with_reducible apply G_skip'); exact rfl)
    | ((with_reducible apply G_1tt); exact rfl)
    | ((with_reducible apply G_1ff); exact rfl)
    | ((with_reducible apply G_0tt); exact rfl)
    | ((with_reducible apply G_0ff); exact rfl)
    | ((with_reducible apply G_1y); exact rfl; (first | with_reducible assumption | omega | decide))
    | ((with_reducible apply G_1n); exact rfl; (first | with_reducible assumption | omega | decide))
    | ((with_reducible apply G_0y); exact rfl; (first | with_reducible assumption | omega | decide))
    | ((with_reducible apply G_0n); exact rfl; (first | with_reducible assumption | omega | decide))
    | ((with_reducible apply G_1P); exact rfl; all_goals intro _)
    | ((with_reducible apply G_0P); exact rfl; all_goals intro _)
    | ((with_reducible apply K_pickt); exact rfl; exact rfl)
    | ((with_reducible apply K_pickf); exact rfl; exact rfl)
    | ((with_reducible apply K_pickT); exact rfl; (first | with_reducible assumption | omega | decide); exact rfl)
    | ((with_reducible apply K_pickF); exact rfl; (first | with_reducible assumption | omega | decide); exact rfl)
    | ((with_reducible apply K_lss); exact rfl; exact rfl)
    | ((with_reducible apply K_eql); exact rfl; exact rfl)
    | ((with_reducible apply K_neq); exact rfl; exact rfl)
    | ((with_reducible apply K_eqlS); exact rfl; exact rfl)
    | ((with_reducible apply K_neqS); exact rfl; exact rfl)
    | ((with_reducible apply K_add); exact rfl; exact rfl; (first | omega | decide))
    | ((with_reducible apply K_addw); exact rfl; exact rfl)
    | ((with_reducible apply K_len_d); exact rfl)
    | ((with_reducible apply K_len_nil); exact rfl)
    | ((with_reducible apply K_len_ref); exact rfl; exact rfl)
    | ((with_reducible apply K_idxA_ref); exact rfl; exact rfl; exact rfl; (first | omega | decide))
    | ((with_reducible apply K_idxA_d); exact rfl; exact rfl; (first | omega | decide))
    | ((with_reducible apply K_load1_ptr); exact rfl; exact rfl; exact rfl)
    | ((with_reducible apply K_load1_fp); exact rfl)
    | ((with_reducible apply K_load1_byte); exact rfl; exact rfl; (first | omega | decide))
    | ((with_reducible apply K_mov_ref); exact rfl)
    | ((with_reducible apply K_mov_ptr); exact rfl)
    | ((with_reducible apply K_mov_tup); exact rfl)
    | ((with_reducible apply K_mov_yld); exact rfl)
    | ((with_reducible apply K_ext); exact rfl; exact rfl)
    | ((with_reducible apply K_fldA_ptr); exact rfl)
    | ((with_reducible apply K_fldA_fp); exact rfl)
  refine T_loop (fun t => Nat.beq t 6 || Nat.beq t 9 || Nat.beq t 10 || Nat.ble 27 t) [9] (fun u : Nat => [i64 u]) (fun _ => []) (fun u => u ≤ cs.length) (fun u => cs.length - u) 0 rfl (Nat.zero_le _) rfl rfl ?_
  rintro m g hm
  have hh := h m
  repeat' first
    | ((with_reducible apply K_len_SL h3); exact rfl)
    | ((with_reducible apply K_len_SL hw); exact rfl)
    | ((with_reducible apply K_idxA_map triD (0, 0, []) h3); exact rfl; exact rfl; omega)
    | ((with_reducible apply K_idxA_map (fun i : Int => D.int .i64 i) 0 hw); exact rfl; exact rfl; omega)
    | with_reducible refine T_seq ?_
    | with_reducible refine S_ops ?_
    | with_reducible refine O_step ?_
    | ((with_reducible apply K_mov_d); exact rfl)
    | with_reducible refine O_nil ?_
    | with_reducible refine seq_n ?_
    | with_reducible refine S_skip ?_
    | ((with_reducible apply T_itet); exact rfl)
    | ((with_reducible apply T_itef); exact rfl)
    | ((with_reducible apply T_ite1); exact rfl; (first | with_reducible assumption | omega))
    | ((with_reducible apply T_ite0); exact rfl; (first | with_reducible assumption | omega))
    | ((with_reducible apply T_iteP); exact rfl; all_goals intro _)
    | with_reducible refine S_ret ?_
    | with_reducible refine seq_r ?_
    | with_reducible refine S_exit ?_
    | with_reducible refine seq_e ?_
    | with_reducible refine T_block ?_
    | with_reducible refine blk_1 ?_
    | with_reducible refine blk_0 rfl ?_
    | with_reducible refine blk_n ?_
    | with_reducible refine blk_r ?_
    | with_reducible refine rnd_r ?_
    | with_reducible refine rnd_e ?_
    | ((with_reducible apply G_skip'); exact rfl)
    | ((with_reducible apply G_1tt); exact rfl)
    | ((with_reducible apply G_1ff); exact rfl)
    | ((with_reducible apply G_0tt); exact rfl)
    | ((with_reducible apply G_0ff); exact rfl)
    | ((with_reducible apply G_1y); exact rfl; (first | with_reducible assumption | omega))
    | ((with_reducible apply G_1n); exact rfl; (first | with_reducible assumption | omega))
    | ((with_reducible apply G_0y); exact rfl; (first | with_reducible assumption | omega))
    | ((with_reducible apply G_0n); exact rfl; (first | with_reducible assumption | omega))
    | ((with_reducible apply G_1P); exact rfl; all_goals intro _)
    | ((with_reducible apply G_0P); exact rfl; all_goals intro _)
    | ((with_reducible apply K_pickt); exact rfl; exact rfl)
    | ((with_reducible apply K_pickf); exact rfl; exact rfl)
    | ((with_reducible apply K_pickT); exact rfl; (first | with_reducible assumption | omega); exact rfl)
    | ((with_reducible apply K_pickF); exact rfl; (first | with_reducible assumption | omega); exact rfl)
    | ((with_reducible apply K_lss); exact rfl; exact rfl)
    | ((with_reducible apply K_eql); exact rfl; exact rfl)
    | ((with_reducible apply K_neq); exact rfl; exact rfl)
    | ((with_reducible apply K_eqlS); exact rfl; exact rfl)
    | ((with_reducible apply K_neqS); exact rfl; exact rfl)
    | ((with_reducible apply K_add); exact rfl; exact rfl; (first | omega | decide))
    | ((with_reducible apply K_addw); exact rfl; exact rfl)
    | ((with_reducible apply K_len_d); exact rfl)
    | ((with_reducible apply K_len_nil); exact rfl)
    | ((with_reducible apply K_len_ref); exact rfl; exact rfl)
    | ((with_reducible apply K_idxA_ref); exact rfl; exact rfl; exact rfl; (first | omega | decide))
    | ((with_reducible apply K_idxA_d); exact rfl; exact rfl; (first | omega | decide))
    | ((with_reducible apply K_load1_ptr); exact rfl; exact rfl; exact rfl)
    | ((with_reducible apply K_load1_fp); exact rfl)
    | ((with_reducible apply K_load1_byte); exact rfl; exact rfl; (first | omega | decide))
    | ((with_reducible apply K_mov_ref); exact rfl)
    | ((with_reducible apply K_mov_ptr); exact rfl)
    | ((with_reducible apply K_mov_tup); exact rfl)
    | ((with_reducible apply K_mov_yld); exact rfl)
    | ((with_reducible apply K_ext); exact rfl; exact rfl)
    | ((with_reducible apply K_fldA_ptr); exact rfl)
    | ((with_reducible apply K_fldA_fp); exact rfl)
  all_goals first
    | exact rnd_n (m + 1) ⟨by omega, by omega⟩ rfl rfl
    | exact ends_d rfl
    | (exfalso; have hh2 := hh (by omega); rw [if_pos (by omega)] at hh2; omega)
    | (exfalso; have hh2 := hh (by omega); rw [if_neg (by omega), if_pos (by omega)] at hh2; omega)
    | (exfalso; have hh2 := hh (by omega); rw [if_neg (by omega), if_neg (by omega)] at hh2; omega)
end Go.Abs
/- Contracts: awake. -/
namespace Go.Abs
open Go.Proofs
set_option maxRecDepth 4000 in
theorem cr27 : CR Try.prog 27 [] [] (.d (.bool true)) [] := by
  have c42 := cr42 (.sl 1 (dStrs [[97, 98], [99], []])) [[97, 98], [99], []] (.inr rfl) (by decide) (by intro k; match k with | 0 => decide | 1 => decide | 2 => decide | k + 3 => simp)
  rw [joinR, if_pos (by decide)] at c42
  have c49a := cr49 [97, 98, 99, 100, 101, 102] (.sl 1 (dInts [2, 1])) (.sl 1 (dStrs [[97, 98], [99], [100, 101, 102]])) [2, 1] [[97, 98], [99], [100, 101, 102]] (.inr rfl) (.inr rfl) (by decide) (by decide) (by decide) (by decide)
  have c49b := cr49 [97, 98, 99, 100, 101, 102] (.sl 1 (dInts [0, 9, 3])) (.sl 1 (dStrs [[], [97, 98, 99, 100, 101, 102], []])) [0, 9, 3] [[], [97, 98, 99, 100, 101, 102], []] (.inr rfl) (.inr rfl) (by decide) (by decide) (by decide) (by decide)
  have c50 := cr50 [97, 98] (.sl 1 (dInts [161])) (.sl 1 (dInts [3, 1, 1])) [161] [3, 1, 1] (.inr rfl) (.inr rfl) (by decide) (by decide) (by decide) (by decide) (by decide)
  refine fn_cr fn27 (Nat.le_of_ble_eq_true rfl) rfl ?_
  unfold sc27
  repeat' first
    | ((with_reducible apply K_call_l (f := 42) (ys := [.d (.sl 1 (dStrs [[97, 98], [99], []]))])); exact rfl; exact rfl; exact c42; exact rfl; exact rfl)
    | ((with_reducible apply K_call_l (f := 49) (ys := [st [97, 98, 99, 100, 101, 102], .d (.sl 1 (dInts [2, 1])), .d (.sl 1 (dStrs [[97, 98], [99], [100, 101, 102]]))])); exact rfl; exact rfl; exact c49a; exact rfl; exact rfl)
    | ((with_reducible apply K_call_l (f := 49) (ys := [st [97, 98, 99, 100, 101, 102], .d (.sl 1 (dInts [0, 9, 3])), .d (.sl 1 (dStrs [[], [97, 98, 99, 100, 101, 102], []]))])); exact rfl; exact rfl; exact c49b; exact rfl; exact rfl)
    | ((with_reducible apply K_call_l (f := 50) (ys := [st [97, 98], .d (.sl 1 (dInts [161])), .d (.sl 1 (dInts [3, 1, 1]))])); exact rfl; exact rfl; exact c50; exact rfl; exact rfl)
    | with_reducible refine T_seq ?_
    | with_reducible refine S_ops ?_
    | with_reducible refine O_step ?_
    | ((with_reducible apply K_mov_d); exact rfl)
    | with_reducible refine O_nil ?_
    | with_reducible refine seq_n ?_
    | with_reducible refine S_ret ?_
    | with_reducible refine seq_r ?_
    | with_reducible refine rnd_r ?_
    | ((with_reducible apply G_skip'); exact rfl)
    | ((with_reducible apply G_1tt); exact rfl)
    | ((with_reducible apply G_1ff); exact rfl)
    | ((with_reducible apply G_0tt); exact rfl)
    | ((with_reducible apply G_0ff); exact rfl)
    | ((with_reducible apply G_1y); exact rfl; (first | with_reducible assumption | omega | decide))
    | ((with_reducible apply G_1n); exact rfl; (first | with_reducible assumption | omega | decide))
    | ((with_reducible apply G_0y); exact rfl; (first | with_reducible assumption | omega | decide))
    | ((with_reducible apply G_0n); exact rfl; (first | with_reducible assumption | omega | decide))
    | ((with_reducible apply G_1P); exact rfl; all_goals intro _)
    | ((with_reducible apply G_0P); exact rfl; all_goals intro _)
    | ((with_reducible apply K_pickt); exact rfl; exact rfl)
    | ((with_reducible apply K_pickf); exact rfl; exact rfl)
    | ((with_reducible apply K_pickT); exact rfl; (first | with_reducible assumption | omega | decide); exact rfl)
    | ((with_reducible apply K_pickF); exact rfl; (first | with_reducible assumption | omega | decide); exact rfl)
    | ((with_reducible apply K_eql); exact rfl; exact rfl)
    | ((with_reducible apply K_eqlS); exact rfl; exact rfl)
    | ((with_reducible apply K_mov_ref); exact rfl)
    | ((with_reducible apply K_mov_ptr); exact rfl)
    | ((with_reducible apply K_mov_tup); exact rfl)
    | ((with_reducible apply K_mov_yld); exact rfl)
    | ((with_reducible apply K_ext); exact rfl; exact rfl)
    | ((with_reducible apply K_bslice1); exact rfl; exact rfl)
    | ((with_reducible apply K_bslice); exact rfl)
  exact ends_d rfl
end Go.Abs
