/- Contracts of the functions that join, measure and check: what each hands back; a library for the laws, it claims nothing by itself. -/
import Derived.Test.YtkdcdcdeffednaaAbsL
set_option linter.unusedVariables false
set_option linter.unusedSimpArgs false
/- Contracts: what a script feeds, sizes, the check of a call. -/
set_option linter.unusedVariables false
namespace Go.Abs
open Go.Proofs
section
variable {E : Env} {fr : Fr} {S S0 t : St} {K : AV → St → Prop} {x y z : Opd} {v : AV} {es : Nat} {l : List D}
theorem K_call_out1 {f : Nat} {args : List Opd} {r : AV} (h : OutT S0.length v t es l) (hS : S = S0 ++ t) (e0 : args.map (ld fr) = [v]) (hc : E.call f [.d (slD es l)] [] r []) (hok : r.okr = true) (hf : r.flat = true) (hK : K (sh2 [] S.length r) S) : stepK E fr S (.call f args) K := by
  refine K_call_l ?_ ?_ hc hok hf hK
  · rw [e0]
    rcases h with ⟨rfl, _⟩ | ⟨_, i, g, rfl, _⟩ <;> rfl
  · rw [e0]; simp [lendAll, lend_out h hS]
end
def fedK (cs : List Tri) : Nat → List (List UInt8)
  | 0 => []
  | k + 1 => fedK cs k ++ (if (cs.getD k (0, 0, [])).1 = 1 then [(cs.getD k (0, 0, [])).2.2] else [])
theorem fedK_len (cs : List Tri) : ∀ k, (fedK cs k).length ≤ k
  | 0 => Nat.le_refl _
  | k + 1 => by
    have := fedK_len cs k
    rw [fedK, List.length_append]; split <;> simp <;> omega
theorem fedK_in {cs : List Tri} {n : Nat} (h : ∀ k, (cs.getD k (0, 0, [])).2.2.length ≤ n) : ∀ k, ∀ s ∈ fedK cs k, s.length ≤ n
  | 0, s, hs => by simp [fedK] at hs
  | k + 1, s, hs => by
    rw [fedK, List.mem_append] at hs
    rcases hs with hs | hs
    · exact fedK_in h k s hs
    · split at hs
      · rw [List.mem_singleton.1 hs]; exact h k
      · simp at hs
theorem getD_in {l : List (List UInt8)} {n : Nat} (h : ∀ s ∈ l, s.length ≤ n) (k : Nat) : (l.getD k []).length ≤ n := by
  rw [List.getD_eq_getElem?_getD]
  cases e : l[k]? with
  | none => exact Nat.zero_le _
  | some s => exact h s (List.mem_of_getElem? e)
set_option maxHeartbeats 2000000 in
set_option maxRecDepth 4000 in
theorem cr44 (d : D) (cs : List Tri) (hd : SL 3 d (dTri cs)) (hl : cs.length ≤ 200) (hs : ∀ k, (cs.getD k (0, 0, [])).2.2.length ≤ 100000) : CR Try.prog 44 [.d d] [] (joinR (fedK cs cs.length)) [] := by
  have e0 : (dTri cs).length = cs.length := by simp
  have hf := fedK_len cs cs.length
  have c := fun q (hq : SL 1 q (dStrs (fedK cs cs.length))) => cr42 q (fedK cs cs.length) hq (by omega) (getD_in (fedK_in hs _))
  have c42 := c _ (SL_slD _ _)
  obtain ⟨r1, x1, hr1⟩ : ∃ (p : List UInt8) (e : Int), joinR (fedK cs cs.length) = .tup [.d (.str p), i64 e] := by
    unfold joinR; split
    · exact ⟨_, _, rfl⟩
    · exact ⟨_, _, rfl⟩
  rw [hr1] at c42 ⊢
  refine fn_cr fn44 (Nat.le_of_ble_eq_true rfl) rfl ?_
  unfold sc44
  repeat' first
    | ((with_reducible apply K_len_SL hd); exact rfl)
    | with_reducible refine T_seq ?_
    | with_reducible refine S_ops ?_
    | with_reducible refine O_step ?_
    | ((with_reducible apply K_mov_d); exact rfl)
    | with_reducible refine O_nil ?_
    | with_reducible refine seq_n ?_
    | with_reducible refine S_skip ?_
    | ((with_reducible apply T_itet); exact rfl)
    | ((with_reducible apply T_itef); exact rfl)
    | ((with_reducible apply T_ite1); exact rfl; (first | with_reducible assumption | omega))
    | ((with_reducible apply T_ite0); exact rfl; (first | with_reducible assumption | omega))
    | ((with_reducible apply T_iteP); exact rfl; all_goals intro _)
    | with_reducible refine S_ret ?_
    | with_reducible refine seq_r ?_
    | with_reducible refine S_exit ?_
    | with_reducible refine seq_e ?_
    | with_reducible refine T_block ?_
    | with_reducible refine blk_1 ?_
    | with_reducible refine blk_0 rfl ?_
    | with_reducible refine blk_n ?_
    | with_reducible refine blk_r ?_
    | with_reducible refine rnd_r ?_
    | with_reducible refine rnd_e ?_
    | ((with_reducible apply K_lss); exact rfl; exact rfl)
    | ((with_reducible apply K_gtr); exact rfl; exact rfl)
    | ((with_reducible apply K_eql); exact rfl; exact rfl)
    | ((with_reducible apply K_eqlS); exact rfl; exact rfl)
    | ((with_reducible apply K_add); exact rfl; exact rfl; (first | omega | decide))
    | ((with_reducible apply K_addw); exact rfl; exact rfl)
    | ((with_reducible apply K_len_d); exact rfl)
    | ((with_reducible apply K_len_nil); exact rfl)
    | ((with_reducible apply K_len_ref); exact rfl; exact rfl)
    | ((with_reducible apply K_idxA_ref); exact rfl; exact rfl; exact rfl; (first | omega | decide))
    | ((with_reducible apply K_idxA_d); exact rfl; exact rfl; (first | omega | decide))
    | ((with_reducible apply K_load1_ptr); exact rfl; exact rfl; exact rfl)
    | ((with_reducible apply K_load1_fp); exact rfl)
    | ((with_reducible apply K_load1_byte); exact rfl; exact rfl; (first | omega | decide))
    | ((with_reducible apply K_mov_ref); exact rfl)
    | ((with_reducible apply K_mov_ptr); exact rfl)
    | ((with_reducible apply K_mov_tup); exact rfl)
    | ((with_reducible apply K_mov_yld); exact rfl)
    | ((with_reducible apply K_ext); exact rfl; exact rfl)
    | with_reducible refine K_alloc ?_
    | ((with_reducible apply K_storeA_pd); exact rfl; exact rfl; exact rfl; exact rfl; (first | decide | simp))
    | ((with_reducible apply K_loadA_pd); exact rfl; exact rfl; (first | decide | simp); exact rfl)
    | ((with_reducible apply K_bslice1); exact rfl; exact rfl)
    | ((with_reducible apply K_bslice); exact rfl)
    | ((with_reducible apply K_fldA_ptr); exact rfl)
    | ((with_reducible apply K_fldA_fp); exact rfl)
  refine T_loop (fun t => Nat.beq t 4 || Nat.beq t 6 || Nat.ble 12 t) [4, 12] (fun u : Nat × AV × St => [u.2.1, i64 u.1]) (fun u => u.2.2) (fun u => u.1 ≤ cs.length ∧ OutT 0 u.2.1 u.2.2 1 (dStrs (fedK cs u.1))) (fun u => cs.length - u.1) (0, .d .nilsl, []) rfl ⟨Nat.zero_le _, .nil _ _ _⟩ rfl rfl ?_
  rintro ⟨m, v, t⟩ g ⟨hm, ho⟩
  dsimp only at hm ho ⊢
  have hfm := fedK_len cs m
  have hfk : fedK cs (m + 1) = fedK cs m ++ (if (cs.getD m (0, 0, [])).1 = 1 then [(cs.getD m (0, 0, [])).2.2] else []) := rfl
  have ho1 := fun b : AO => ho.more [b]
  repeat' first
    | ((with_reducible apply K_mov_any v); exact rfl)
    | ((with_reducible apply K_mov_any v2); exact rfl)
    | ((with_reducible apply K_len_SL hd); exact rfl)
    | ((with_reducible apply K_idxA_map triD (0, 0, []) hd); exact rfl; exact rfl; omega)
    | ((with_reducible apply K_loadA_tri); exact rfl)
    | ((with_reducible apply K_storeA_last (S1 := t)); exact rfl; exact rfl; exact rfl; exact rfl; (first | decide | simp))
    | ((with_reducible apply K_load1_last (S1 := t)); exact rfl; exact rfl; exact rfl)
    | ((with_reducible apply K_app_el (S0 := []) (ho1 _)); exact rfl; exact rfl; exact rfl; (simp); (rw [List.length_map]; simp only [List.length_singleton]; omega); intro v2 t2 ho2)
    | with_reducible refine T_seq ?_
    | with_reducible refine S_ops ?_
    | with_reducible refine O_step ?_
    | ((with_reducible apply K_mov_d); exact rfl)
    | with_reducible refine O_nil ?_
    | with_reducible refine seq_n ?_
    | with_reducible refine S_skip ?_
    | ((with_reducible apply T_itet); exact rfl)
    | ((with_reducible apply T_itef); exact rfl)
    | ((with_reducible apply T_ite1); exact rfl; (first | with_reducible assumption | omega))
    | ((with_reducible apply T_ite0); exact rfl; (first | with_reducible assumption | omega))
    | ((with_reducible apply T_iteP); exact rfl; all_goals intro _)
    | with_reducible refine S_ret ?_
    | with_reducible refine seq_r ?_
    | with_reducible refine S_exit ?_
    | with_reducible refine seq_e ?_
    | with_reducible refine T_block ?_
    | with_reducible refine blk_1 ?_
    | with_reducible refine blk_0 rfl ?_
    | with_reducible refine blk_n ?_
    | with_reducible refine blk_r ?_
    | with_reducible refine rnd_r ?_
    | with_reducible refine rnd_e ?_
    | ((with_reducible apply K_lss); exact rfl; exact rfl)
    | ((with_reducible apply K_gtr); exact rfl; exact rfl)
    | ((with_reducible apply K_eql); exact rfl; exact rfl)
    | ((with_reducible apply K_eqlS); exact rfl; exact rfl)
    | ((with_reducible apply K_add); exact rfl; exact rfl; (first | omega | decide))
    | ((with_reducible apply K_addw); exact rfl; exact rfl)
    | ((with_reducible apply K_len_d); exact rfl)
    | ((with_reducible apply K_len_nil); exact rfl)
    | ((with_reducible apply K_len_ref); exact rfl; exact rfl)
    | ((with_reducible apply K_idxA_ref); exact rfl; exact rfl; exact rfl; (first | omega | decide))
    | ((with_reducible apply K_idxA_d); exact rfl; exact rfl; (first | omega | decide))
    | ((with_reducible apply K_load1_ptr); exact rfl; exact rfl; exact rfl)
    | ((with_reducible apply K_load1_fp); exact rfl)
    | ((with_reducible apply K_load1_byte); exact rfl; exact rfl; (first | omega | decide))
    | ((with_reducible apply K_mov_ref); exact rfl)
    | ((with_reducible apply K_mov_ptr); exact rfl)
    | ((with_reducible apply K_mov_tup); exact rfl)
    | ((with_reducible apply K_mov_yld); exact rfl)
    | ((with_reducible apply K_ext); exact rfl; exact rfl)
    | with_reducible refine K_alloc ?_
    | ((with_reducible apply K_storeA_pd); exact rfl; exact rfl; exact rfl; exact rfl; (first | decide | simp))
    | ((with_reducible apply K_loadA_pd); exact rfl; exact rfl; (first | decide | simp); exact rfl)
    | ((with_reducible apply K_bslice1); exact rfl; exact rfl)
    | ((with_reducible apply K_bslice); exact rfl)
    | ((with_reducible apply K_fldA_ptr); exact rfl)
    | ((with_reducible apply K_fldA_fp); exact rfl)
  · refine rnd_n (m + 1, v2, t2) ⟨⟨by dsimp only; omega, ?_⟩, by dsimp only; omega⟩ rfl rfl
    dsimp only
    rw [hfk, if_pos (by assumption)]
    show OutT 0 v2 t2 1 (List.map _ (_ ++ _))
    rw [List.map_append]
    exact ho2
  · refine rnd_n (m + 1, v, t ++ [_]) ⟨⟨by dsimp only; omega, ?_⟩, by dsimp only; omega⟩ rfl rfl
    dsimp only
    rw [hfk, if_neg (by assumption), List.append_nil]
    exact ho1 _
  · have hme : m = cs.length := by omega
    subst hme
    repeat' first
      | ((with_reducible apply K_mov_any v); exact rfl)
      | ((with_reducible apply K_call_out1 (f := 42) (S0 := []) ho); exact rfl; exact rfl; exact c42; exact rfl; exact rfl)
      | with_reducible refine T_seq ?_
      | with_reducible refine S_ops ?_
      | with_reducible refine O_step ?_
      | ((with_reducible apply K_mov_d); exact rfl)
      | with_reducible refine O_nil ?_
      | with_reducible refine seq_n ?_
      | with_reducible refine S_skip ?_
      | ((with_reducible apply T_itet); exact rfl)
      | ((with_reducible apply T_itef); exact rfl)
      | ((with_reducible apply T_ite1); exact rfl; (first | with_reducible assumption | omega))
      | ((with_reducible apply T_ite0); exact rfl; (first | with_reducible assumption | omega))
      | ((with_reducible apply T_iteP); exact rfl; all_goals intro _)
      | with_reducible refine S_ret ?_
      | with_reducible refine seq_r ?_
      | with_reducible refine S_exit ?_
      | with_reducible refine seq_e ?_
      | with_reducible refine T_block ?_
      | with_reducible refine blk_1 ?_
      | with_reducible refine blk_0 rfl ?_
      | with_reducible refine blk_n ?_
      | with_reducible refine blk_r ?_
      | with_reducible refine rnd_r ?_
      | with_reducible refine rnd_e ?_
      | ((with_reducible apply K_lss); exact rfl; exact rfl)
      | ((with_reducible apply K_gtr); exact rfl; exact rfl)
      | ((with_reducible apply K_eql); exact rfl; exact rfl)
      | ((with_reducible apply K_eqlS); exact rfl; exact rfl)
      | ((with_reducible apply K_add); exact rfl; exact rfl; (first | omega | decide))
      | ((with_reducible apply K_addw); exact rfl; exact rfl)
      | ((with_reducible apply K_len_d); exact rfl)
      | ((with_reducible apply K_len_nil); exact rfl)
      | ((with_reducible apply K_len_ref); exact rfl; exact rfl)
      | ((with_reducible apply K_idxA_ref); exact rfl; exact rfl; exact rfl; (first | omega | decide))
      | ((with_reducible apply K_idxA_d); exact rfl; exact rfl; (first | omega | decide))
      | ((with_reducible apply K_load1_ptr); exact rfl; exact rfl; exact rfl)
      | ((with_reducible apply K_load1_fp); exact rfl)
      | ((with_reducible apply K_load1_byte); exact rfl; exact rfl; (first | omega | decide))
      | ((with_reducible apply K_mov_ref); exact rfl)
      | ((with_reducible apply K_mov_ptr); exact rfl)
      | ((with_reducible apply K_mov_tup); exact rfl)
      | ((with_reducible apply K_mov_yld); exact rfl)
      | ((with_reducible apply K_ext); exact rfl; exact rfl)
      | with_reducible refine K_alloc ?_
      | ((with_reducible apply K_storeA_pd); exact rfl; exact rfl; exact rfl; exact rfl; (first | decide | simp))
      | ((with_reducible apply K_loadA_pd); exact rfl; exact rfl; (first | decide | simp); exact rfl)
      | ((with_reducible apply K_bslice1); exact rfl; exact rfl)
      | ((with_reducible apply K_bslice); exact rfl)
      | ((with_reducible apply K_fldA_ptr); exact rfl)
      | ((with_reducible apply K_fldA_fp); exact rfl)
    exact ends_2 rfl
def sizesL (l : List (List UInt8)) : List Int := l.map fun s => (s.length : Int)
theorem cr46 (d : D) (l : List (List UInt8)) (hd : SL 1 d (dStrs l)) (hl : l.length ≤ 100000) : CR Try.prog 46 [.d d] [] (.d (slD 1 (dInts (sizesL l)))) [] := by
  have e0 : (dStrs l).length = l.length := by simp
  refine fn_cr fn46 (Nat.le_of_ble_eq_true rfl) rfl ?_
  unfold sc46
  repeat' first
    | ((with_reducible apply K_len_SL hd); exact rfl)
    | with_reducible refine T_seq ?_
    | with_reducible refine S_ops ?_
    | with_reducible refine O_step ?_
    | ((with_reducible apply K_mov_d); exact rfl)
    | with_reducible refine O_nil ?_
    | with_reducible refine seq_n ?_
    | with_reducible refine S_skip ?_
    | ((with_reducible apply T_itet); exact rfl)
    | ((with_reducible apply T_itef); exact rfl)
    | ((with_reducible apply T_ite1); exact rfl; (first | with_reducible assumption | omega))
    | ((with_reducible apply T_ite0); exact rfl; (first | with_reducible assumption | omega))
    | ((with_reducible apply T_iteP); exact rfl; all_goals intro _)
    | with_reducible refine S_ret ?_
    | with_reducible refine seq_r ?_
    | with_reducible refine S_exit ?_
    | with_reducible refine seq_e ?_
    | with_reducible refine T_block ?_
    | with_reducible refine blk_1 ?_
    | with_reducible refine blk_0 rfl ?_
    | with_reducible refine blk_n ?_
    | with_reducible refine blk_r ?_
    | with_reducible refine rnd_r ?_
    | with_reducible refine rnd_e ?_
    | ((with_reducible apply K_lss); exact rfl; exact rfl)
    | ((with_reducible apply K_add); exact rfl; exact rfl; (first | omega | decide))
    | ((with_reducible apply K_addw); exact rfl; exact rfl)
    | ((with_reducible apply K_lenS); exact rfl)
    | ((with_reducible apply K_len_d); exact rfl)
    | ((with_reducible apply K_len_nil); exact rfl)
    | ((with_reducible apply K_len_ref); exact rfl; exact rfl)
    | ((with_reducible apply K_idxA_ref); exact rfl; exact rfl; exact rfl; (first | omega | decide))
    | ((with_reducible apply K_idxA_d); exact rfl; exact rfl; (first | omega | decide))
    | ((with_reducible apply K_load1_ptr); exact rfl; exact rfl; exact rfl)
    | ((with_reducible apply K_load1_fp); exact rfl)
    | ((with_reducible apply K_load1_byte); exact rfl; exact rfl; (first | omega | decide))
    | ((with_reducible apply K_mov_ref); exact rfl)
    | ((with_reducible apply K_mov_ptr); exact rfl)
    | ((with_reducible apply K_mov_yld); exact rfl)
    | ((with_reducible apply K_bslice1); exact rfl; exact rfl)
    | ((with_reducible apply K_bslice); exact rfl)
  refine T_loop (fun t => Nat.beq t 3 || Nat.beq t 5 || Nat.ble 8 t) [3, 8] (fun u : Nat × AV × St => [u.2.1, i64 u.1]) (fun u => u.2.2) (fun u => u.1 ≤ l.length ∧ OutT 0 u.2.1 u.2.2 1 (dInts (sizesL (l.take u.1)))) (fun u => l.length - u.1) (0, .d .nilsl, []) rfl ⟨Nat.zero_le _, .nil _ _ _⟩ rfl rfl ?_
  rintro ⟨m, v, t⟩ g ⟨hm, ho⟩
  dsimp only at hm ho ⊢
  have hsl : (dInts (sizesL (l.take m))).length ≤ l.length := by unfold sizesL; simp; omega
  repeat' first
    | ((with_reducible apply K_mov_any v); exact rfl)
    | ((with_reducible apply K_mov_any v2); exact rfl)
    | ((with_reducible apply K_len_SL hd); exact rfl)
    | ((with_reducible apply K_idxA_map (fun s : List UInt8 => D.str s) [] hd); exact rfl; exact rfl; omega)
    | ((with_reducible apply K_app_el (S0 := []) ho); exact rfl; exact rfl; exact rfl; (simp); (simp only [List.length_singleton]; omega); intro v2 t2 ho2)
    | with_reducible refine T_seq ?_
    | with_reducible refine S_ops ?_
    | with_reducible refine O_step ?_
    | ((with_reducible apply K_mov_d); exact rfl)
    | with_reducible refine O_nil ?_
    | with_reducible refine seq_n ?_
    | with_reducible refine S_skip ?_
    | ((with_reducible apply T_itet); exact rfl)
    | ((with_reducible apply T_itef); exact rfl)
    | ((with_reducible apply T_ite1); exact rfl; (first | with_reducible assumption | omega))
    | ((with_reducible apply T_ite0); exact rfl; (first | with_reducible assumption | omega))
    | ((with_reducible apply T_iteP); exact rfl; all_goals intro _)
    | with_reducible refine S_ret ?_
    | with_reducible refine seq_r ?_
    | with_reducible refine S_exit ?_
    | with_reducible refine seq_e ?_
    | with_reducible refine T_block ?_
    | with_reducible refine blk_1 ?_
    | with_reducible refine blk_0 rfl ?_
    | with_reducible refine blk_n ?_
    | with_reducible refine blk_r ?_
    | with_reducible refine rnd_r ?_
    | with_reducible refine rnd_e ?_
    | ((with_reducible apply K_lss); exact rfl; exact rfl)
    | ((with_reducible apply K_add); exact rfl; exact rfl; (first | omega | decide))
    | ((with_reducible apply K_addw); exact rfl; exact rfl)
    | ((with_reducible apply K_lenS); exact rfl)
    | ((with_reducible apply K_len_d); exact rfl)
    | ((with_reducible apply K_len_nil); exact rfl)
    | ((with_reducible apply K_len_ref); exact rfl; exact rfl)
    | ((with_reducible apply K_idxA_ref); exact rfl; exact rfl; exact rfl; (first | omega | decide))
    | ((with_reducible apply K_idxA_d); exact rfl; exact rfl; (first | omega | decide))
    | ((with_reducible apply K_load1_ptr); exact rfl; exact rfl; exact rfl)
    | ((with_reducible apply K_load1_fp); exact rfl)
    | ((with_reducible apply K_load1_byte); exact rfl; exact rfl; (first | omega | decide))
    | ((with_reducible apply K_mov_ref); exact rfl)
    | ((with_reducible apply K_mov_ptr); exact rfl)
    | ((with_reducible apply K_mov_yld); exact rfl)
    | ((with_reducible apply K_bslice1); exact rfl; exact rfl)
    | ((with_reducible apply K_bslice); exact rfl)
  · have hml : m < l.length := by omega
    refine rnd_n (m + 1, v2, t2) ⟨⟨by dsimp only; omega, ?_⟩, by dsimp only; omega⟩ rfl rfl
    dsimp only
    have e : dInts (sizesL (l.take (m + 1))) = dInts (sizesL (l.take m)) ++ [.int .i64 (l.getD m []).length] := by
      rw [List.take_succ_eq_append_getElem hml]
      simp only [dInts, sizesL, List.map_append, List.map_cons, List.map_nil, List.getD_eq_getElem?_getD]
      rw [List.getElem?_eq_getElem hml]; rfl
    rw [e]; exact ho2
  · have hme : m = l.length := by omega
    subst hme
    rw [List.take_length] at ho
    exact ends_out1 (S0 := []) ho rfl rfl
theorem cr51 (c : Tri) (h : 0 < c.1 ∧ c.1 < 6) (ht : c.2.2.length ≤ 1000) (hn : 0 ≤ c.2.1 ∧ c.2.1 ≤ 999) : CR Try.prog 51 [.d (triD c)] [] (i64 0) [] := by
  obtain ⟨k, n, s⟩ := c
  dsimp only at h ht hn
  show CR Try.prog 51 [.d (.agg [.int .i64 k, .int .i64 n, .str s])] [] (i64 0) []
  refine fn_cr fn51 (Nat.le_of_ble_eq_true rfl) rfl ?_
  unfold sc51
  repeat' first
    | with_reducible refine T_seq ?_
    | with_reducible refine S_ops ?_
    | with_reducible refine O_step ?_
    | ((with_reducible apply K_mov_d); exact rfl)
    | with_reducible refine O_nil ?_
    | with_reducible refine seq_n ?_
    | with_reducible refine S_skip ?_
    | ((with_reducible apply T_itet); exact rfl)
    | ((with_reducible apply T_itef); exact rfl)
    | ((with_reducible apply T_ite1); exact rfl; (first | with_reducible assumption | omega))
    | ((with_reducible apply T_ite0); exact rfl; (first | with_reducible assumption | omega))
    | ((with_reducible apply T_iteP); exact rfl; all_goals intro _)
    | with_reducible refine S_ret ?_
    | with_reducible refine seq_r ?_
    | with_reducible refine T_block ?_
    | with_reducible refine blk_n ?_
    | with_reducible refine blk_r ?_
    | with_reducible refine rnd_r ?_
    | ((with_reducible apply G_skip'); exact rfl)
    | ((with_reducible apply G_1tt); exact rfl)
    | ((with_reducible apply G_1ff); exact rfl)
    | ((with_reducible apply G_0tt); exact rfl)
    | ((with_reducible apply G_0ff); exact rfl)
    | ((with_reducible apply G_1y); exact rfl; (first | with_reducible assumption | omega))
    | ((with_reducible apply G_1n); exact rfl; (first | with_reducible assumption | omega))
    | ((with_reducible apply G_0y); exact rfl; (first | with_reducible assumption | omega))
    | ((with_reducible apply G_0n); exact rfl; (first | with_reducible assumption | omega))
    | ((with_reducible apply G_1P); exact rfl; all_goals intro _)
    | ((with_reducible apply G_0P); exact rfl; all_goals intro _)
    | ((with_reducible apply K_pickt); exact rfl; exact rfl)
    | ((with_reducible apply K_pickf); exact rfl; exact rfl)
    | ((with_reducible apply K_pickT); exact rfl; (first | with_reducible assumption | omega); exact rfl)
    | ((with_reducible apply K_pickF); exact rfl; (first | with_reducible assumption | omega); exact rfl)
    | ((with_reducible apply K_lss); exact rfl; exact rfl)
    | ((with_reducible apply K_leq); exact rfl; exact rfl)
    | ((with_reducible apply K_gtr); exact rfl; exact rfl)
    | ((with_reducible apply K_geq); exact rfl; exact rfl)
    | ((with_reducible apply K_lenS); exact rfl)
    | ((with_reducible apply K_load1_ptr); exact rfl; exact rfl; exact rfl)
    | ((with_reducible apply K_load1_fp); exact rfl)
    | ((with_reducible apply K_load1_byte); exact rfl; exact rfl; (first | omega | decide))
    | ((with_reducible apply K_mov_ref); exact rfl)
    | ((with_reducible apply K_mov_ptr); exact rfl)
    | ((with_reducible apply K_mov_yld); exact rfl)
    | ((with_reducible apply K_box_d); exact rfl; exact rfl)
    | ((with_reducible apply K_fldA_ptr); exact rfl)
    | ((with_reducible apply K_fldA_fp); exact rfl)
  all_goals exact ends_d rfl
end Go.Abs
