/- The contract of the law on scripts: it hands back true; a library for the law, it claims nothing by itself. -/
import Derived.Test.YtkdcdcdeffednaaAbsP
set_option linter.unusedVariables false
set_option linter.unusedSimpArgs false
/- Scripts: each call is right; numbers count by their lowest digits. -/
set_option linter.unusedVariables false
namespace Go.Abs
open Go.Proofs
theorem cr28r (d : D) (l : List Int) (hd : SL 1 d (dInts l)) (hl : l.length ≤ 100000) : CR Try.prog 28 [.d d] [] (.ref 0 0 0 l.length) [.arr 0 1 (dInts l)] := by
  have e0 : (dInts l).length = l.length := by simp
  refine fn_cr fn28 (Nat.le_of_ble_eq_true rfl) rfl ?_
  unfold sc28
  repeat' first
    | ((with_reducible apply K_app_in hd); exact rfl; exact rfl; exact rfl; exact rfl; (simp; omega); all_goals intro hz)
    | with_reducible refine T_seq ?_
    | with_reducible refine S_ops ?_
    | with_reducible refine O_step ?_
    | ((with_reducible apply K_mov_d); exact rfl)
    | with_reducible refine O_nil ?_
    | with_reducible refine seq_n ?_
    | with_reducible refine S_ret ?_
    | with_reducible refine seq_r ?_
    | with_reducible refine rnd_r ?_
    | ((with_reducible apply K_mov_ref); exact rfl)
    | ((with_reducible apply K_mov_ptr); exact rfl)
    | ((with_reducible apply K_mov_yld); exact rfl)
    | ((with_reducible apply K_bslice1); exact rfl; exact rfl)
    | ((with_reducible apply K_bslice); exact rfl)
  · have hl0 : l = [] := by simpa using hz
    subst hl0
    exact ⟨.inr rfl, .ref 0 0 0 0, [0], rfl, rfl, by simp, by simp, rfl, rfl⟩
  · refine ⟨.inr rfl, .ref 0 1 0 (0 + (dInts l).length), [0], rfl, rfl, by simp, by simp, ?_, rfl⟩
    have h0 : 0 + (dInts l).length = l.length := by omega
    rw [h0]; rfl
def mv (n : Int) : Int := if 0 ≤ n ∧ n < 1099511627776 then n + 38400000 else n
theorem natS_mv (n : Int) : natS (mv n) / 8 % 4 = natS n / 8 % 4 ∧ natS (mv n) % 8 = natS n % 8 ∧ natS (mv n) % 40 = natS n % 40 ∧ natS (mv n) / 160 % 3 = natS n / 160 % 3 ∧ natS (mv n) / 480 % 4 = natS n / 480 % 4 ∧ natS (mv n) / 1920 % 4 = natS n / 1920 % 4 ∧ natS (mv n) / 7680 % 5 = natS n / 7680 % 5 := by
  unfold mv
  split
  · have e1 : natS (n + 38400000) = n + 38400000 := by unfold natS; rw [if_neg (by omega)]
    have e2 : natS n = n := by unfold natS; rw [if_neg (by omega)]
    rw [e1, e2]; omega
  · simp
theorem sizeS_mv (n : Int) (k : Nat) : sizeS (mv n) k = sizeS n k := by
  obtain ⟨h1, h2, h3, _⟩ := natS_mv n
  unfold sizeS; rw [h1, h2, h3]
theorem mv_getD (l : List Int) (k : Nat) (hk : k < l.length) : (l.map mv).getD k 0 = mv (l.getD k 0) := by
  simp [List.getD_eq_getElem?_getD, hk]
theorem cutN_mv (s : List UInt8) (l : List Int) : ∀ k, k ≤ l.length → cutN s (l.map mv) k = cutN s l k
  | 0, _ => rfl
  | k + 1, h => by rw [cutN, cutN, cutN_mv s l k (by omega), mv_getD l k (by omega), sizeS_mv]
theorem cutL_mv (s : List UInt8) (l : List Int) : cutL s (l.map mv) = cutL s l := by
  unfold cutL; rw [List.length_map, cutN_mv s l _ (Nat.le_refl _)]
theorem kindsL_mv (n : Int) : kindsL (natS (mv n)) = kindsL (natS n) := by
  obtain ⟨_, _, _, h4, h5, h6, _⟩ := natS_mv n
  unfold kindsL; rw [h4, h5, h6]
theorem otherT_mv (q n : Int) : otherT q (natS (mv n)) = otherT q (natS n) := by
  obtain ⟨_, _, _, _, _, _, h7⟩ := natS_mv n
  unfold otherT; rw [h7]
theorem stepT_mv (s : List UInt8) (l : List Int) (k : Nat) : stepT s (l.map mv) k = stepT s l k := by
  unfold stepT
  rw [cutL_mv, List.length_map]
  congr 1
  split
  · rename_i h
    rw [mv_getD l k h, kindsL_mv]
    exact List.map_congr_left fun q _ => otherT_mv q _
  · rfl
theorem callsT_mv (s : List UInt8) (l : List Int) : ∀ k, callsT s (l.map mv) k = callsT s l k
  | 0 => rfl
  | k + 1 => by rw [callsT, callsT, callsT_mv s l k, stepT_mv]
theorem scriptT_mv (s : List UInt8) (l : List Int) : scriptT s (l.map mv) = scriptT s l := by
  unfold scriptT; rw [cutL_mv, callsT_mv]
theorem mv_rng {n : Int} (h : -9223372036854775808 ≤ n ∧ n < 9223372036854775808) : -9223372036854775808 ≤ mv n ∧ mv n < 9223372036854775808 := by
  unfold mv; split <;> omega
/-- Kinds. -/
theorem calls_kind (s : List UInt8) (l : List Int) : ∀ k, ∀ c ∈ callsT s l k, (c.1 = 1 ∨ c.1 = 3 ∨ c.1 = 4 ∨ c.1 = 5) ∧ 0 ≤ c.2.1 ∧ c.2.1 ≤ 999
  | 0, c, h => by simp [callsT] at h
  | k + 1, c, h => by
    rw [callsT, List.mem_append] at h
    rcases h with h | h
    · exact calls_kind s l k c h
    · unfold stepT at h
      rw [List.mem_append] at h
      rcases h with h | h
      · split at h
        · obtain ⟨q, _, rfl⟩ := List.mem_map.1 h
          have h3 := natS_ge (l.getD k 0)
          generalize natS (l.getD k 0) = n at *
          unfold otherT
          repeat' split
          all_goals (dsimp only; omega)
        · simp at h
      · rw [List.mem_singleton.1 h]; dsimp only; omega
theorem script_chk {s : List UInt8} (l : List Int) (hs : s.length ≤ 300) (c : Tri) (h : c ∈ scriptT s l) : (0 < c.1 ∧ c.1 < 6) ∧ c.2.2.length ≤ 1000 ∧ 0 ≤ c.2.1 ∧ c.2.1 ≤ 999 := by
  have ht := script_text s l c h
  unfold scriptT at h
  rw [List.mem_append] at h
  rcases h with h | h
  · have := calls_kind s l _ c h; omega
  · have h2 : ∀ c ∈ endT, (0 < c.1 ∧ c.1 < 6) ∧ 0 ≤ c.2.1 ∧ c.2.1 ≤ 999 := by decide
    have := h2 c h; omega
theorem script_at (s : List UInt8) (l : List Int) : ∃ a, a < (scriptT s l).length ∧ ∀ k, k < (scriptT s l).length → (k < a → ((scriptT s l).getD k (0, 0, [])).1 ≠ 2) ∧ (k = a → ((scriptT s l).getD k (0, 0, [])).1 = 2) ∧ (a < k → ((scriptT s l).getD k (0, 0, [])).1 = 3) := by
  refine ⟨(callsT s l (cutL s l).length).length, by unfold scriptT; rw [List.length_append]; have : endT.length = 9 := rfl; omega, fun k hk => ?_⟩
  unfold scriptT at hk ⊢
  have hA : ∀ c ∈ callsT s l (cutL s l).length, c.1 ≠ 2 := fun c hc => by have := calls_kind s l _ c hc; omega
  generalize callsT s l (cutL s l).length = A at *
  have h9 : endT.length = 9 := rfl
  rw [List.length_append, h9] at hk
  simp only [List.getD_eq_getElem?_getD]
  refine ⟨fun h => ?_, fun h => ?_, fun h => ?_⟩
  · rw [List.getElem?_append_left h, List.getElem?_eq_getElem h]
    exact hA _ (List.getElem_mem h)
  · subst h
    rw [List.getElem?_append_right (Nat.le_refl _), Nat.sub_self]; rfl
  · rw [List.getElem?_append_right (by omega)]
    obtain ⟨j, hj, hj2⟩ : ∃ j, k - A.length = j + 1 ∧ j < 8 := ⟨k - A.length - 1, by omega, by omega⟩
    rw [hj]
    have : ∀ j, j < 8 → ((endT[j + 1]?).getD (0, 0, [])).1 = 3 := by decide
    exact this j hj2
end Go.Abs
/- Scripts: the law. -/
set_option linter.unusedVariables false
namespace Go.Abs
open Go.Proofs
def movN (l : List Int) (k : Nat) : List Int := (l.take k).map mv ++ l.drop k
theorem movN_len (l : List Int) (k : Nat) : (movN l k).length = l.length := by unfold movN; simp; omega
theorem movN_get (l : List Int) (k : Nat) (h : k < l.length) : (movN l k)[k]? = some (l.getD k 0) := by
  have e : ((l.take k).map mv).length = k := by simp; omega
  unfold movN
  rw [List.getElem?_append_right (by omega), e, Nat.sub_self, List.getElem?_drop, Nat.add_zero]
  simp [List.getD_eq_getElem?_getD, h]
theorem movN_succ (l : List Int) (k : Nat) (h : k < l.length) : movN l (k + 1) = (movN l k).set k (mv (l.getD k 0)) := by
  have e : ((l.take k).map mv).length = k := by simp; omega
  unfold movN
  rw [List.set_append_right _ _ (by omega), e, Nat.sub_self, List.take_succ_eq_append_getElem h, List.map_append, List.append_assoc, List.drop_eq_getElem_cons h, List.set_cons_zero]
  have e2 : l.getD k 0 = l[k] := by simp [List.getD_eq_getElem?_getD, h]
  rw [e2]; rfl
theorem movN_all (l : List Int) : movN l l.length = l.map mv := by unfold movN; simp
section
variable {E : Env} {fr : Fr} {S : St} {K : AV → St → Prop} {x y : Opd}
theorem K_load_mov {l : List Int} {k : Nat} {v : Int} (hS : S = [.arr 0 1 (dInts l)]) (e : ld fr x = .ep 0 0 (0 + (k : Int).toNat) 0) (hv : l[k]? = some v) (h : K (.d (.int .i64 v)) S) : stepK E fr S (.load1 x) K := by
  have hk : k < l.length := (List.getElem?_eq_some_iff.1 hv).1
  have e2 : 0 + (k : Int).toNat = k := by omega
  rw [e2] at e
  refine K_load1_ep (es := 1) (l := dInts l) e (by rw [hS]; rfl) (by simpa using hk) ?_ h
  have e3 : (dInts l).getD k .nilp = .int .i64 v := by simp [List.getD_eq_getElem?_getD, hv]
  rw [e3]; rfl
theorem K_store_mov {l : List Int} {k : Nat} {v : Int} (hS : S = [.arr 0 1 (dInts l)]) (e : ld fr x = .ep 0 0 (0 + (k : Int).toNat) 0) (ev : ld fr y = .d (.int .i64 v)) (hk : k < l.length) (h : K .undef [.arr 0 1 (dInts (l.set k v))]) : stepK E fr S (.store1 x y) K := by
  have e2 : 0 + (k : Int).toNat = k := by omega
  rw [e2] at e
  subst hS
  have e3 : (dInts l).getD k .nilp = .int .i64 l[k] := by simp [List.getD_eq_getElem?_getD, hk]
  refine K_store1_ep (es := 1) (l := dInts l) e rfl ev (by simpa using hk) (by rw [e3]; exact Nat.zero_lt_one) rfl ?_
  rw [e3]
  dsimp only [List.set_cons_zero]
  rw [dInts, ← List.map_set]
  exact h
theorem K_call_mov {f : Nat} {args : List Opd} {s : List UInt8} {l : List Int} {q : D} {n : Nat} (hS : S = [.arr 0 1 (dInts l)]) (hn : n = l.length) (e0 : args.map (ld fr) = [st s, .ref 0 0 0 n]) (hc : E.call f [st s, .d (.sl 1 (dInts l))] [] (.tup [.d q, i64 0]) []) (h : ∀ S', K (.tup [.d q, i64 0]) S') : stepK E fr S (.call f args) K := by
  subst hn
  refine K_call_f (vs := _) (ys := [st s, .d (.sl 1 (dInts l))]) e0 rfl ?_ hc rfl (h _)
  subst hS
  simp [lendAll, lend, window, rd]
  exact List.take_of_length_le (by simp)
end
set_option maxHeartbeats 4000000 in
set_option maxRecDepth 4000 in
theorem cr12 (c10 : CR Try.prog 10 [] [] (.d (.bool true)) []) (s : List UInt8) (d : D) (l : List Int) (hd : SL 1 d (dInts l)) (hr : ∀ i ∈ l, -9223372036854775808 ≤ i ∧ i < 9223372036854775808) : CR Try.prog 12 [st s, .d d] [] (.d (.bool true)) [] := by
  have e0 : (dInts l).length = l.length := by simp
  by_cases h : s.length > 300 ∨ l.length > 40
  · refine fn_cr fn12 (Nat.le_of_ble_eq_true rfl) rfl ?_
    unfold sc12
    repeat' first
      | ((with_reducible apply G_1y); exact rfl; (first | with_reducible assumption | omega))
      | ((with_reducible apply G_1n); exact rfl; (first | with_reducible assumption | omega))
      | ((with_reducible apply G_0y); exact rfl; (first | with_reducible assumption | omega))
      | ((with_reducible apply G_0n); exact rfl; (first | with_reducible assumption | omega))
      | ((with_reducible apply G_1P); exact rfl; all_goals intro _)
      | ((with_reducible apply G_0P); exact rfl; all_goals intro _)
      | ((with_reducible apply DG_1y); exact rfl; (first | with_reducible assumption | omega))
      | ((with_reducible apply DG_1n); exact rfl; (first | with_reducible assumption | omega))
      | ((with_reducible apply DG_0y); exact rfl; (first | with_reducible assumption | omega))
      | ((with_reducible apply DG_0n); exact rfl; (first | with_reducible assumption | omega))
      | ((with_reducible apply DG_1P); exact rfl; all_goals intro _)
      | ((with_reducible apply DG_0P); exact rfl; all_goals intro _)
      | ((with_reducible apply K_pickT); exact rfl; (first | with_reducible assumption | omega); exact rfl)
      | ((with_reducible apply K_pickF); exact rfl; (first | with_reducible assumption | omega); exact rfl)
      | ((with_reducible apply T_ite1); exact rfl; (first | with_reducible assumption | omega))
      | ((with_reducible apply T_ite0); exact rfl; (first | with_reducible assumption | omega))
      | ((with_reducible apply T_iteP); exact rfl; all_goals intro _)
      | ((with_reducible apply K_len_SL hd); exact rfl)
      | ((with_reducible apply K_call_0 (f := 10) (ys := [])); exact rfl; exact c10; exact rfl)
      | with_reducible refine T_seq ?_
      | with_reducible refine S_ops ?_
      | with_reducible refine O_step ?_
      | ((with_reducible apply K_mov_d); exact rfl)
      | with_reducible refine O_nil ?_
      | with_reducible refine seq_n ?_
      | with_reducible refine S_skip ?_
      | ((with_reducible apply T_itet); exact rfl)
      | ((with_reducible apply T_itef); exact rfl)
      | ((with_reducible apply T_ite1); exact rfl; (first | with_reducible assumption | omega))
      | ((with_reducible apply T_ite0); exact rfl; (first | with_reducible assumption | omega))
      | ((with_reducible apply T_iteP); exact rfl; all_goals intro _)
      | with_reducible refine S_ret ?_
      | with_reducible refine seq_r ?_
      | with_reducible refine S_exit ?_
      | with_reducible refine seq_e ?_
      | with_reducible refine T_block ?_
      | with_reducible refine blk_1 ?_
      | with_reducible refine blk_0 rfl ?_
      | with_reducible refine blk_n ?_
      | with_reducible refine blk_r ?_
      | with_reducible refine rnd_r ?_
      | with_reducible refine rnd_e ?_
      | ((with_reducible apply G_skip'); exact rfl)
      | ((with_reducible apply G_1tt); exact rfl)
      | ((with_reducible apply G_1ff); exact rfl)
      | ((with_reducible apply G_0tt); exact rfl)
      | ((with_reducible apply G_0ff); exact rfl)
      | ((with_reducible apply G_1y); exact rfl; (first | with_reducible assumption | omega))
      | ((with_reducible apply G_1n); exact rfl; (first | with_reducible assumption | omega))
      | ((with_reducible apply G_0y); exact rfl; (first | with_reducible assumption | omega))
      | ((with_reducible apply G_0n); exact rfl; (first | with_reducible assumption | omega))
      | ((with_reducible apply G_1P); exact rfl; all_goals intro _)
      | ((with_reducible apply G_0P); exact rfl; all_goals intro _)
      | ((with_reducible apply K_pickt); exact rfl; exact rfl)
      | ((with_reducible apply K_pickf); exact rfl; exact rfl)
      | ((with_reducible apply K_pickT); exact rfl; (first | with_reducible assumption | omega); exact rfl)
      | ((with_reducible apply K_pickF); exact rfl; (first | with_reducible assumption | omega); exact rfl)
      | ((with_reducible apply K_lss); exact rfl; exact rfl)
      | ((with_reducible apply K_gtr); exact rfl; exact rfl)
      | ((with_reducible apply K_geq); exact rfl; exact rfl)
      | ((with_reducible apply K_eql); exact rfl; exact rfl)
      | ((with_reducible apply K_neq); exact rfl; exact rfl)
      | ((with_reducible apply K_eqlS); exact rfl; exact rfl)
      | ((with_reducible apply K_neqS); exact rfl; exact rfl)
      | ((with_reducible apply K_add); exact rfl; exact rfl; (first | omega | decide))
      | ((with_reducible apply K_addw); exact rfl; exact rfl)
      | ((with_reducible apply K_lenS); exact rfl)
      | ((with_reducible apply K_len_d); exact rfl)
      | ((with_reducible apply K_len_nil); exact rfl)
      | ((with_reducible apply K_len_ref); exact rfl; exact rfl)
      | ((with_reducible apply K_idxA_ref); exact rfl; exact rfl; exact rfl; (first | omega | decide))
      | ((with_reducible apply K_idxA_d); exact rfl; exact rfl; (first | omega | decide))
      | ((with_reducible apply K_load1_ptr); exact rfl; exact rfl; exact rfl)
      | ((with_reducible apply K_load1_fp); exact rfl)
      | ((with_reducible apply K_load1_byte); exact rfl; exact rfl; (first | omega | decide))
      | ((with_reducible apply K_mov_ref); exact rfl)
      | ((with_reducible apply K_mov_ptr); exact rfl)
      | ((with_reducible apply K_mov_tup); exact rfl)
      | ((with_reducible apply K_mov_yld); exact rfl)
      | ((with_reducible apply K_ext); exact rfl; exact rfl)
      | ((with_reducible apply K_store1_pd); exact rfl; exact rfl; exact rfl; (first | decide | simp); exact rfl)
      | ((with_reducible apply K_store1_pr); exact rfl; exact rfl; exact rfl; (first | decide | simp))
      | ((with_reducible apply K_loadA_pd); exact rfl; exact rfl; (first | decide | simp); exact rfl)
      | ((with_reducible apply K_fldA_ptr); exact rfl)
      | ((with_reducible apply K_fldA_fp); exact rfl)
    all_goals exact ends_b rfl rfl
  · have hck : checkS s l.length = 0 := by unfold checkS; rw [if_neg (by omega), if_neg (by omega)]
    have c31 := cr31 s d l hd (by omega) hr
    rw [if_pos hck, scriptT_eq] at c31
    have c28 := cr28r d l hd (by omega)
    have c31b := cr31 s (.sl 1 (dInts (l.map mv))) (l.map mv) (.inr rfl) (by simp; omega) (fun i hi => by obtain ⟨n, hn, rfl⟩ := List.mem_map.1 hi; exact mv_rng (hr n hn))
    rw [List.length_map, if_pos hck, scriptT_eq, scriptT_mv] at c31b
    have hq2 := SL_slD 3 (dTri (scriptT s l))
    have hcl : (scriptT s l).length ≤ 200 := by
      have h1 := callsT_len s l (cutL s l).length
      have h3 : endT.length = 9 := rfl
      have hpl : (cutL s l).length ≤ l.length + 1 := by rw [cutL_len]; split <;> omega
      unfold scriptT; rw [List.length_append]; omega
    have c34 := cr34 _ _ (scriptT s l) hq2 hq2 (by omega)
    have hchk := script_chk l (by omega : s.length ≤ 300)
    obtain ⟨a, ha, hat⟩ := script_at s l
    generalize slD 3 (dTri (scriptT s l)) = q2 at *
    generalize scriptT s l = cs at *
    have e1 : (dTri cs).length = cs.length := by simp
    refine fn_cr fn12 (Nat.le_of_ble_eq_true rfl) rfl ?_
    unfold sc12
    repeat' first
      | ((with_reducible apply G_1y); exact rfl; (first | with_reducible assumption | omega))
      | ((with_reducible apply G_1n); exact rfl; (first | with_reducible assumption | omega))
      | ((with_reducible apply G_0y); exact rfl; (first | with_reducible assumption | omega))
      | ((with_reducible apply G_0n); exact rfl; (first | with_reducible assumption | omega))
      | ((with_reducible apply G_1P); exact rfl; all_goals intro _)
      | ((with_reducible apply G_0P); exact rfl; all_goals intro _)
      | ((with_reducible apply DG_1y); exact rfl; (first | with_reducible assumption | omega))
      | ((with_reducible apply DG_1n); exact rfl; (first | with_reducible assumption | omega))
      | ((with_reducible apply DG_0y); exact rfl; (first | with_reducible assumption | omega))
      | ((with_reducible apply DG_0n); exact rfl; (first | with_reducible assumption | omega))
      | ((with_reducible apply DG_1P); exact rfl; all_goals intro _)
      | ((with_reducible apply DG_0P); exact rfl; all_goals intro _)
      | ((with_reducible apply K_pickT); exact rfl; (first | with_reducible assumption | omega); exact rfl)
      | ((with_reducible apply K_pickF); exact rfl; (first | with_reducible assumption | omega); exact rfl)
      | ((with_reducible apply T_ite1); exact rfl; (first | with_reducible assumption | omega))
      | ((with_reducible apply T_ite0); exact rfl; (first | with_reducible assumption | omega))
      | ((with_reducible apply T_iteP); exact rfl; all_goals intro _)
      | ((with_reducible apply K_len_SL hd); exact rfl)
      | ((with_reducible apply K_len_SL hq2); exact rfl)
      | ((with_reducible apply K_neq_same); exact rfl; exact rfl)
      | ((with_reducible apply K_call_0 (f := 10) (ys := [])); exact rfl; exact c10; exact rfl)
      | ((with_reducible apply K_call_0 (f := 31) (ys := [.str s, d])); exact rfl; exact c31; exact rfl)
      | with_reducible refine T_seq ?_
      | with_reducible refine S_ops ?_
      | with_reducible refine O_step ?_
      | ((with_reducible apply K_mov_d); exact rfl)
      | with_reducible refine O_nil ?_
      | with_reducible refine seq_n ?_
      | with_reducible refine S_skip ?_
      | ((with_reducible apply T_itet); exact rfl)
      | ((with_reducible apply T_itef); exact rfl)
      | ((with_reducible apply T_ite1); exact rfl; (first | with_reducible assumption | omega))
      | ((with_reducible apply T_ite0); exact rfl; (first | with_reducible assumption | omega))
      | ((with_reducible apply T_iteP); exact rfl; all_goals intro _)
      | with_reducible refine S_ret ?_
      | with_reducible refine seq_r ?_
      | with_reducible refine S_exit ?_
      | with_reducible refine seq_e ?_
      | with_reducible refine T_block ?_
      | with_reducible refine blk_1 ?_
      | with_reducible refine blk_0 rfl ?_
      | with_reducible refine blk_n ?_
      | with_reducible refine blk_r ?_
      | with_reducible refine rnd_r ?_
      | with_reducible refine rnd_e ?_
      | ((with_reducible apply G_skip'); exact rfl)
      | ((with_reducible apply G_1tt); exact rfl)
      | ((with_reducible apply G_1ff); exact rfl)
      | ((with_reducible apply G_0tt); exact rfl)
      | ((with_reducible apply G_0ff); exact rfl)
      | ((with_reducible apply G_1y); exact rfl; (first | with_reducible assumption | omega))
      | ((with_reducible apply G_1n); exact rfl; (first | with_reducible assumption | omega))
      | ((with_reducible apply G_0y); exact rfl; (first | with_reducible assumption | omega))
      | ((with_reducible apply G_0n); exact rfl; (first | with_reducible assumption | omega))
      | ((with_reducible apply G_1P); exact rfl; all_goals intro _)
      | ((with_reducible apply G_0P); exact rfl; all_goals intro _)
      | ((with_reducible apply K_pickt); exact rfl; exact rfl)
      | ((with_reducible apply K_pickf); exact rfl; exact rfl)
      | ((with_reducible apply K_pickT); exact rfl; (first | with_reducible assumption | omega); exact rfl)
      | ((with_reducible apply K_pickF); exact rfl; (first | with_reducible assumption | omega); exact rfl)
      | ((with_reducible apply K_lss); exact rfl; exact rfl)
      | ((with_reducible apply K_gtr); exact rfl; exact rfl)
      | ((with_reducible apply K_geq); exact rfl; exact rfl)
      | ((with_reducible apply K_eql); exact rfl; exact rfl)
      | ((with_reducible apply K_neq); exact rfl; exact rfl)
      | ((with_reducible apply K_eqlS); exact rfl; exact rfl)
      | ((with_reducible apply K_neqS); exact rfl; exact rfl)
      | ((with_reducible apply K_add); exact rfl; exact rfl; (first | omega | decide))
      | ((with_reducible apply K_addw); exact rfl; exact rfl)
      | ((with_reducible apply K_lenS); exact rfl)
      | ((with_reducible apply K_len_d); exact rfl)
      | ((with_reducible apply K_len_nil); exact rfl)
      | ((with_reducible apply K_len_ref); exact rfl; exact rfl)
      | ((with_reducible apply K_idxA_ref); exact rfl; exact rfl; exact rfl; (first | omega | decide))
      | ((with_reducible apply K_idxA_d); exact rfl; exact rfl; (first | omega | decide))
      | ((with_reducible apply K_load1_ptr); exact rfl; exact rfl; exact rfl)
      | ((with_reducible apply K_load1_fp); exact rfl)
      | ((with_reducible apply K_load1_byte); exact rfl; exact rfl; (first | omega | decide))
      | ((with_reducible apply K_mov_ref); exact rfl)
      | ((with_reducible apply K_mov_ptr); exact rfl)
      | ((with_reducible apply K_mov_tup); exact rfl)
      | ((with_reducible apply K_mov_yld); exact rfl)
      | ((with_reducible apply K_ext); exact rfl; exact rfl)
      | ((with_reducible apply K_store1_pd); exact rfl; exact rfl; exact rfl; (first | decide | simp); exact rfl)
      | ((with_reducible apply K_store1_pr); exact rfl; exact rfl; exact rfl; (first | decide | simp))
      | ((with_reducible apply K_loadA_pd); exact rfl; exact rfl; (first | decide | simp); exact rfl)
      | ((with_reducible apply K_fldA_ptr); exact rfl)
      | ((with_reducible apply K_fldA_fp); exact rfl)
    refine T_loop (fun t => Nat.beq t 4 || Nat.beq t 8 || Nat.beq t 9 || Nat.ble 37 t) [8, 9] (fun u : Nat × Int => [i64 u.2, i64 u.1]) (fun _ => []) (fun u => u.1 ≤ cs.length ∧ ((u.2 = 0 ∧ u.1 ≤ a) ∨ (u.2 = 1 ∧ a < u.1))) (fun u => cs.length - u.1) (0, 0) rfl ⟨Nat.zero_le _, .inl ⟨rfl, Nat.zero_le _⟩⟩ rfl rfl ?_
    rintro ⟨m, f⟩ g ⟨hm, hf⟩
    dsimp only at hm hf ⊢
    have hat := hat m
    by_cases hlt : m < cs.length
    · have c51 : CR Try.prog 51 [.d (triD (cs.getD m (0, 0, [])))] [] (i64 0) [] := by
        have hmem : cs.getD m (0, 0, []) ∈ cs := by
          rw [List.getD_eq_getElem?_getD, List.getElem?_eq_getElem hlt]; exact List.getElem_mem hlt
        obtain ⟨h1, h2, h3⟩ := hchk _ hmem
        exact cr51 _ h1 h2 h3
      have hat := hat hlt
      generalize hc : cs.getD m (0, 0, []) = c at *
      obtain ⟨ck, cn, ct⟩ := c
      dsimp only at hat
      repeat' first
        | ((with_reducible apply G_1y); exact rfl; (first | with_reducible assumption | omega))
        | ((with_reducible apply G_1n); exact rfl; (first | with_reducible assumption | omega))
        | ((with_reducible apply G_0y); exact rfl; (first | with_reducible assumption | omega))
        | ((with_reducible apply G_0n); exact rfl; (first | with_reducible assumption | omega))
        | ((with_reducible apply G_1P); exact rfl; all_goals intro _)
        | ((with_reducible apply G_0P); exact rfl; all_goals intro _)
        | ((with_reducible apply DG_1y); exact rfl; (first | with_reducible assumption | omega))
        | ((with_reducible apply DG_1n); exact rfl; (first | with_reducible assumption | omega))
        | ((with_reducible apply DG_0y); exact rfl; (first | with_reducible assumption | omega))
        | ((with_reducible apply DG_0n); exact rfl; (first | with_reducible assumption | omega))
        | ((with_reducible apply DG_1P); exact rfl; all_goals intro _)
        | ((with_reducible apply DG_0P); exact rfl; all_goals intro _)
        | ((with_reducible apply K_pickT); exact rfl; (first | with_reducible assumption | omega); exact rfl)
        | ((with_reducible apply K_pickF); exact rfl; (first | with_reducible assumption | omega); exact rfl)
        | ((with_reducible apply T_ite1); exact rfl; (first | with_reducible assumption | omega))
        | ((with_reducible apply T_ite0); exact rfl; (first | with_reducible assumption | omega))
        | ((with_reducible apply T_iteP); exact rfl; all_goals intro _)
        | ((with_reducible apply K_len_SL hq2); exact rfl)
        | ((with_reducible apply K_idxA_map triD (0, 0, []) hq2); exact rfl; exact rfl; exact hlt; rw [hc])
        | ((with_reducible apply K_loadA_tri); exact rfl)
        | ((with_reducible apply K_neq_same); exact rfl; exact rfl)
        | ((with_reducible apply K_call_0 (f := 51) (ys := [triD (ck, cn, ct)])); exact rfl; exact c51; exact rfl)
        | with_reducible refine T_seq ?_
        | with_reducible refine S_ops ?_
        | with_reducible refine O_step ?_
        | ((with_reducible apply K_mov_d); exact rfl)
        | with_reducible refine O_nil ?_
        | with_reducible refine seq_n ?_
        | with_reducible refine S_skip ?_
        | ((with_reducible apply T_itet); exact rfl)
        | ((with_reducible apply T_itef); exact rfl)
        | ((with_reducible apply T_ite1); exact rfl; (first | with_reducible assumption | omega))
        | ((with_reducible apply T_ite0); exact rfl; (first | with_reducible assumption | omega))
        | ((with_reducible apply T_iteP); exact rfl; all_goals intro _)
        | with_reducible refine S_ret ?_
        | with_reducible refine seq_r ?_
        | with_reducible refine S_exit ?_
        | with_reducible refine seq_e ?_
        | with_reducible refine T_block ?_
        | with_reducible refine blk_1 ?_
        | with_reducible refine blk_0 rfl ?_
        | with_reducible refine blk_n ?_
        | with_reducible refine blk_r ?_
        | with_reducible refine rnd_r ?_
        | with_reducible refine rnd_e ?_
        | ((with_reducible apply G_skip'); exact rfl)
        | ((with_reducible apply G_1tt); exact rfl)
        | ((with_reducible apply G_1ff); exact rfl)
        | ((with_reducible apply G_0tt); exact rfl)
        | ((with_reducible apply G_0ff); exact rfl)
        | ((with_reducible apply G_1y); exact rfl; (first | with_reducible assumption | omega))
        | ((with_reducible apply G_1n); exact rfl; (first | with_reducible assumption | omega))
        | ((with_reducible apply G_0y); exact rfl; (first | with_reducible assumption | omega))
        | ((with_reducible apply G_0n); exact rfl; (first | with_reducible assumption | omega))
        | ((with_reducible apply G_1P); exact rfl; all_goals intro _)
        | ((with_reducible apply G_0P); exact rfl; all_goals intro _)
        | ((with_reducible apply K_pickt); exact rfl; exact rfl)
        | ((with_reducible apply K_pickf); exact rfl; exact rfl)
        | ((with_reducible apply K_pickT); exact rfl; (first | with_reducible assumption | omega); exact rfl)
        | ((with_reducible apply K_pickF); exact rfl; (first | with_reducible assumption | omega); exact rfl)
        | ((with_reducible apply K_lss); exact rfl; exact rfl)
        | ((with_reducible apply K_gtr); exact rfl; exact rfl)
        | ((with_reducible apply K_geq); exact rfl; exact rfl)
        | ((with_reducible apply K_eql); exact rfl; exact rfl)
        | ((with_reducible apply K_neq); exact rfl; exact rfl)
        | ((with_reducible apply K_eqlS); exact rfl; exact rfl)
        | ((with_reducible apply K_neqS); exact rfl; exact rfl)
        | ((with_reducible apply K_add); exact rfl; exact rfl; (first | omega | decide))
        | ((with_reducible apply K_addw); exact rfl; exact rfl)
        | ((with_reducible apply K_lenS); exact rfl)
        | ((with_reducible apply K_len_d); exact rfl)
        | ((with_reducible apply K_len_nil); exact rfl)
        | ((with_reducible apply K_len_ref); exact rfl; exact rfl)
        | ((with_reducible apply K_idxA_ref); exact rfl; exact rfl; exact rfl; (first | omega | decide))
        | ((with_reducible apply K_idxA_d); exact rfl; exact rfl; (first | omega | decide))
        | ((with_reducible apply K_load1_ptr); exact rfl; exact rfl; exact rfl)
        | ((with_reducible apply K_load1_fp); exact rfl)
        | ((with_reducible apply K_load1_byte); exact rfl; exact rfl; (first | omega | decide))
        | ((with_reducible apply K_mov_ref); exact rfl)
        | ((with_reducible apply K_mov_ptr); exact rfl)
        | ((with_reducible apply K_mov_tup); exact rfl)
        | ((with_reducible apply K_mov_yld); exact rfl)
        | ((with_reducible apply K_ext); exact rfl; exact rfl)
        | ((with_reducible apply K_store1_pd); exact rfl; exact rfl; exact rfl; (first | decide | simp); exact rfl)
        | ((with_reducible apply K_store1_pr); exact rfl; exact rfl; exact rfl; (first | decide | simp))
        | ((with_reducible apply K_loadA_pd); exact rfl; exact rfl; (first | decide | simp); exact rfl)
        | ((with_reducible apply K_fldA_ptr); exact rfl)
        | ((with_reducible apply K_fldA_fp); exact rfl)
      all_goals first
        | exact rnd_n (m + 1, f + 1) ⟨⟨by dsimp only; omega, by dsimp only; omega⟩, by dsimp only; omega⟩ rfl rfl
        | exact rnd_n (m + 1, f) ⟨⟨by dsimp only; omega, by dsimp only; omega⟩, by dsimp only; omega⟩ rfl rfl
        | (exfalso; omega)
        | trace_state
    · have hf1 : f = 1 := by omega
      subst hf1
      repeat' first
        | ((with_reducible apply G_1y); exact rfl; (first | with_reducible assumption | omega))
        | ((with_reducible apply G_1n); exact rfl; (first | with_reducible assumption | omega))
        | ((with_reducible apply G_0y); exact rfl; (first | with_reducible assumption | omega))
        | ((with_reducible apply G_0n); exact rfl; (first | with_reducible assumption | omega))
        | ((with_reducible apply G_1P); exact rfl; all_goals intro _)
        | ((with_reducible apply G_0P); exact rfl; all_goals intro _)
        | ((with_reducible apply DG_1y); exact rfl; (first | with_reducible assumption | omega))
        | ((with_reducible apply DG_1n); exact rfl; (first | with_reducible assumption | omega))
        | ((with_reducible apply DG_0y); exact rfl; (first | with_reducible assumption | omega))
        | ((with_reducible apply DG_0n); exact rfl; (first | with_reducible assumption | omega))
        | ((with_reducible apply DG_1P); exact rfl; all_goals intro _)
        | ((with_reducible apply DG_0P); exact rfl; all_goals intro _)
        | ((with_reducible apply K_pickT); exact rfl; (first | with_reducible assumption | omega); exact rfl)
        | ((with_reducible apply K_pickF); exact rfl; (first | with_reducible assumption | omega); exact rfl)
        | ((with_reducible apply T_ite1); exact rfl; (first | with_reducible assumption | omega))
        | ((with_reducible apply T_ite0); exact rfl; (first | with_reducible assumption | omega))
        | ((with_reducible apply T_iteP); exact rfl; all_goals intro _)
        | ((with_reducible apply K_len_SL hq2); exact rfl)
        | ((with_reducible apply K_call_d (f := 28) (ys := [d])); exact rfl; exact c28; exact ⟨rfl, rfl⟩)
        | with_reducible refine T_seq ?_
        | with_reducible refine S_ops ?_
        | with_reducible refine O_step ?_
        | ((with_reducible apply K_mov_d); exact rfl)
        | with_reducible refine O_nil ?_
        | with_reducible refine seq_n ?_
        | with_reducible refine S_skip ?_
        | ((with_reducible apply T_itet); exact rfl)
        | ((with_reducible apply T_itef); exact rfl)
        | ((with_reducible apply T_ite1); exact rfl; (first | with_reducible assumption | omega))
        | ((with_reducible apply T_ite0); exact rfl; (first | with_reducible assumption | omega))
        | ((with_reducible apply T_iteP); exact rfl; all_goals intro _)
        | with_reducible refine S_ret ?_
        | with_reducible refine seq_r ?_
        | with_reducible refine S_exit ?_
        | with_reducible refine seq_e ?_
        | with_reducible refine T_block ?_
        | with_reducible refine blk_1 ?_
        | with_reducible refine blk_0 rfl ?_
        | with_reducible refine blk_n ?_
        | with_reducible refine blk_r ?_
        | with_reducible refine rnd_r ?_
        | with_reducible refine rnd_e ?_
        | ((with_reducible apply G_skip'); exact rfl)
        | ((with_reducible apply G_1tt); exact rfl)
        | ((with_reducible apply G_1ff); exact rfl)
        | ((with_reducible apply G_0tt); exact rfl)
        | ((with_reducible apply G_0ff); exact rfl)
        | ((with_reducible apply G_1y); exact rfl; (first | with_reducible assumption | omega))
        | ((with_reducible apply G_1n); exact rfl; (first | with_reducible assumption | omega))
        | ((with_reducible apply G_0y); exact rfl; (first | with_reducible assumption | omega))
        | ((with_reducible apply G_0n); exact rfl; (first | with_reducible assumption | omega))
        | ((with_reducible apply G_1P); exact rfl; all_goals intro _)
        | ((with_reducible apply G_0P); exact rfl; all_goals intro _)
        | ((with_reducible apply K_pickt); exact rfl; exact rfl)
        | ((with_reducible apply K_pickf); exact rfl; exact rfl)
        | ((with_reducible apply K_pickT); exact rfl; (first | with_reducible assumption | omega); exact rfl)
        | ((with_reducible apply K_pickF); exact rfl; (first | with_reducible assumption | omega); exact rfl)
        | ((with_reducible apply K_lss); exact rfl; exact rfl)
        | ((with_reducible apply K_gtr); exact rfl; exact rfl)
        | ((with_reducible apply K_geq); exact rfl; exact rfl)
        | ((with_reducible apply K_eql); exact rfl; exact rfl)
        | ((with_reducible apply K_neq); exact rfl; exact rfl)
        | ((with_reducible apply K_eqlS); exact rfl; exact rfl)
        | ((with_reducible apply K_neqS); exact rfl; exact rfl)
        | ((with_reducible apply K_add); exact rfl; exact rfl; (first | omega | decide))
        | ((with_reducible apply K_addw); exact rfl; exact rfl)
        | ((with_reducible apply K_lenS); exact rfl)
        | ((with_reducible apply K_len_d); exact rfl)
        | ((with_reducible apply K_len_nil); exact rfl)
        | ((with_reducible apply K_len_ref); exact rfl; exact rfl)
        | ((with_reducible apply K_idxA_ref); exact rfl; exact rfl; exact rfl; (first | omega | decide))
        | ((with_reducible apply K_idxA_d); exact rfl; exact rfl; (first | omega | decide))
        | ((with_reducible apply K_load1_ptr); exact rfl; exact rfl; exact rfl)
        | ((with_reducible apply K_load1_fp); exact rfl)
        | ((with_reducible apply K_load1_byte); exact rfl; exact rfl; (first | omega | decide))
        | ((with_reducible apply K_mov_ref); exact rfl)
        | ((with_reducible apply K_mov_ptr); exact rfl)
        | ((with_reducible apply K_mov_tup); exact rfl)
        | ((with_reducible apply K_mov_yld); exact rfl)
        | ((with_reducible apply K_ext); exact rfl; exact rfl)
        | ((with_reducible apply K_store1_pd); exact rfl; exact rfl; exact rfl; (first | decide | simp); exact rfl)
        | ((with_reducible apply K_store1_pr); exact rfl; exact rfl; exact rfl; (first | decide | simp))
        | ((with_reducible apply K_loadA_pd); exact rfl; exact rfl; (first | decide | simp); exact rfl)
        | ((with_reducible apply K_fldA_ptr); exact rfl)
        | ((with_reducible apply K_fldA_fp); exact rfl)
      refine T_loop (fun t => Nat.beq t 11 || Nat.ble 71 t) [11] (fun u : Nat => [i64 u]) (fun u => [.arr 0 1 (dInts (movN l u))]) (fun u => u ≤ l.length) (fun u => l.length - u) 0 rfl (Nat.zero_le _) rfl rfl ?_
      rintro m2 g2 hm2
      have hml := movN_len l m2
      have e2 : (dInts (movN l m2)).length = l.length := by rw [List.length_map, hml]
      by_cases hlt2 : m2 < l.length
      · have hg := movN_get l m2 hlt2
        have hsc := movN_succ l m2 hlt2
        have hrm := rng_get hr m2
        have hmv : mv (l.getD m2 0) = if 0 ≤ l.getD m2 0 ∧ l.getD m2 0 < 1099511627776 then l.getD m2 0 + 38400000 else l.getD m2 0 := rfl
        have hset : (movN l m2).set m2 (l.getD m2 0) = movN l m2 := by
          obtain ⟨h1, h2⟩ := List.getElem?_eq_some_iff.1 hg
          rw [← h2]; exact List.set_getElem_self h1
        generalize l.getD m2 0 = n at *
        repeat' first
          | ((with_reducible apply G_1y); exact rfl; (first | with_reducible assumption | omega))
          | ((with_reducible apply G_1n); exact rfl; (first | with_reducible assumption | omega))
          | ((with_reducible apply G_0y); exact rfl; (first | with_reducible assumption | omega))
          | ((with_reducible apply G_0n); exact rfl; (first | with_reducible assumption | omega))
          | ((with_reducible apply G_1P); exact rfl; all_goals intro _)
          | ((with_reducible apply G_0P); exact rfl; all_goals intro _)
          | ((with_reducible apply DG_1y); exact rfl; (first | with_reducible assumption | omega))
          | ((with_reducible apply DG_1n); exact rfl; (first | with_reducible assumption | omega))
          | ((with_reducible apply DG_0y); exact rfl; (first | with_reducible assumption | omega))
          | ((with_reducible apply DG_0n); exact rfl; (first | with_reducible assumption | omega))
          | ((with_reducible apply DG_1P); exact rfl; all_goals intro _)
          | ((with_reducible apply DG_0P); exact rfl; all_goals intro _)
          | ((with_reducible apply K_pickT); exact rfl; (first | with_reducible assumption | omega); exact rfl)
          | ((with_reducible apply K_pickF); exact rfl; (first | with_reducible assumption | omega); exact rfl)
          | ((with_reducible apply T_ite1); exact rfl; (first | with_reducible assumption | omega))
          | ((with_reducible apply T_ite0); exact rfl; (first | with_reducible assumption | omega))
          | ((with_reducible apply T_iteP); exact rfl; all_goals intro _)
          | ((with_reducible apply K_len_ref); exact rfl; exact rfl)
          | ((with_reducible apply K_idxA_ref); exact rfl; exact rfl; exact rfl; omega)
          | ((with_reducible apply K_load_mov (l := movN l m2) (k := m2) rfl); exact rfl; exact hg)
          | ((with_reducible apply K_store_mov (l := movN l m2) (k := m2) rfl); exact rfl; exact rfl; omega)
          | with_reducible refine T_seq ?_
          | with_reducible refine S_ops ?_
          | with_reducible refine O_step ?_
          | ((with_reducible apply K_mov_d); exact rfl)
          | with_reducible refine O_nil ?_
          | with_reducible refine seq_n ?_
          | with_reducible refine S_skip ?_
          | ((with_reducible apply T_itet); exact rfl)
          | ((with_reducible apply T_itef); exact rfl)
          | ((with_reducible apply T_ite1); exact rfl; (first | with_reducible assumption | omega))
          | ((with_reducible apply T_ite0); exact rfl; (first | with_reducible assumption | omega))
          | ((with_reducible apply T_iteP); exact rfl; all_goals intro _)
          | with_reducible refine S_ret ?_
          | with_reducible refine seq_r ?_
          | with_reducible refine S_exit ?_
          | with_reducible refine seq_e ?_
          | with_reducible refine T_block ?_
          | with_reducible refine blk_1 ?_
          | with_reducible refine blk_0 rfl ?_
          | with_reducible refine blk_n ?_
          | with_reducible refine blk_r ?_
          | with_reducible refine rnd_r ?_
          | with_reducible refine rnd_e ?_
          | ((with_reducible apply G_skip'); exact rfl)
          | ((with_reducible apply G_1tt); exact rfl)
          | ((with_reducible apply G_1ff); exact rfl)
          | ((with_reducible apply G_0tt); exact rfl)
          | ((with_reducible apply G_0ff); exact rfl)
          | ((with_reducible apply G_1y); exact rfl; (first | with_reducible assumption | omega))
          | ((with_reducible apply G_1n); exact rfl; (first | with_reducible assumption | omega))
          | ((with_reducible apply G_0y); exact rfl; (first | with_reducible assumption | omega))
          | ((with_reducible apply G_0n); exact rfl; (first | with_reducible assumption | omega))
          | ((with_reducible apply G_1P); exact rfl; all_goals intro _)
          | ((with_reducible apply G_0P); exact rfl; all_goals intro _)
          | ((with_reducible apply K_pickt); exact rfl; exact rfl)
          | ((with_reducible apply K_pickf); exact rfl; exact rfl)
          | ((with_reducible apply K_pickT); exact rfl; (first | with_reducible assumption | omega); exact rfl)
          | ((with_reducible apply K_pickF); exact rfl; (first | with_reducible assumption | omega); exact rfl)
          | ((with_reducible apply K_lss); exact rfl; exact rfl)
          | ((with_reducible apply K_gtr); exact rfl; exact rfl)
          | ((with_reducible apply K_geq); exact rfl; exact rfl)
          | ((with_reducible apply K_eql); exact rfl; exact rfl)
          | ((with_reducible apply K_neq); exact rfl; exact rfl)
          | ((with_reducible apply K_eqlS); exact rfl; exact rfl)
          | ((with_reducible apply K_neqS); exact rfl; exact rfl)
          | ((with_reducible apply K_add); exact rfl; exact rfl; (first | omega | decide))
          | ((with_reducible apply K_addw); exact rfl; exact rfl)
          | ((with_reducible apply K_lenS); exact rfl)
          | ((with_reducible apply K_len_d); exact rfl)
          | ((with_reducible apply K_len_nil); exact rfl)
          | ((with_reducible apply K_len_ref); exact rfl; exact rfl)
          | ((with_reducible apply K_idxA_ref); exact rfl; exact rfl; exact rfl; (first | omega | decide))
          | ((with_reducible apply K_idxA_d); exact rfl; exact rfl; (first | omega | decide))
          | ((with_reducible apply K_load1_ptr); exact rfl; exact rfl; exact rfl)
          | ((with_reducible apply K_load1_fp); exact rfl)
          | ((with_reducible apply K_load1_byte); exact rfl; exact rfl; (first | omega | decide))
          | ((with_reducible apply K_mov_ref); exact rfl)
          | ((with_reducible apply K_mov_ptr); exact rfl)
          | ((with_reducible apply K_mov_tup); exact rfl)
          | ((with_reducible apply K_mov_yld); exact rfl)
          | ((with_reducible apply K_ext); exact rfl; exact rfl)
          | ((with_reducible apply K_store1_pd); exact rfl; exact rfl; exact rfl; (first | decide | simp); exact rfl)
          | ((with_reducible apply K_store1_pr); exact rfl; exact rfl; exact rfl; (first | decide | simp))
          | ((with_reducible apply K_loadA_pd); exact rfl; exact rfl; (first | decide | simp); exact rfl)
          | ((with_reducible apply K_fldA_ptr); exact rfl)
          | ((with_reducible apply K_fldA_fp); exact rfl)
        all_goals first
          | (refine rnd_n (m2 + 1) ⟨by omega, by omega⟩ rfl ?_
             show [AO.arr 0 1 (dInts ((movN l m2).set m2 (n + 38400000)))] = [AO.arr 0 1 (dInts (movN l (m2 + 1)))]
             rw [hsc, hmv, if_pos (by omega)])
          | (refine rnd_n (m2 + 1) ⟨by omega, by omega⟩ rfl ?_
             show [AO.arr 0 1 (dInts (movN l m2))] = [AO.arr 0 1 (dInts (movN l (m2 + 1)))]
             rw [hsc, hmv, if_neg (by omega), hset])
          | trace_state
      · have hme : m2 = l.length := by omega
        subst hme
        rw [movN_all]
        repeat' first
          | ((with_reducible apply G_1y); exact rfl; (first | with_reducible assumption | omega))
          | ((with_reducible apply G_1n); exact rfl; (first | with_reducible assumption | omega))
          | ((with_reducible apply G_0y); exact rfl; (first | with_reducible assumption | omega))
          | ((with_reducible apply G_0n); exact rfl; (first | with_reducible assumption | omega))
          | ((with_reducible apply G_1P); exact rfl; all_goals intro _)
          | ((with_reducible apply G_0P); exact rfl; all_goals intro _)
          | ((with_reducible apply DG_1y); exact rfl; (first | with_reducible assumption | omega))
          | ((with_reducible apply DG_1n); exact rfl; (first | with_reducible assumption | omega))
          | ((with_reducible apply DG_0y); exact rfl; (first | with_reducible assumption | omega))
          | ((with_reducible apply DG_0n); exact rfl; (first | with_reducible assumption | omega))
          | ((with_reducible apply DG_1P); exact rfl; all_goals intro _)
          | ((with_reducible apply DG_0P); exact rfl; all_goals intro _)
          | ((with_reducible apply K_pickT); exact rfl; (first | with_reducible assumption | omega); exact rfl)
          | ((with_reducible apply K_pickF); exact rfl; (first | with_reducible assumption | omega); exact rfl)
          | ((with_reducible apply T_ite1); exact rfl; (first | with_reducible assumption | omega))
          | ((with_reducible apply T_ite0); exact rfl; (first | with_reducible assumption | omega))
          | ((with_reducible apply T_iteP); exact rfl; all_goals intro _)
          | ((with_reducible apply K_len_ref); exact rfl; exact rfl)
          | ((with_reducible apply K_call_mov (f := 31) (s := s) (l := l.map mv) (q := q2) rfl (List.length_map _).symm); exact rfl; exact c31b; intro S')
          | ((with_reducible apply K_call_0 (f := 34) (ys := [q2, q2])); exact rfl; exact c34; exact rfl)
          | ((with_reducible apply K_eql_same); exact rfl; exact rfl)
          | with_reducible refine T_seq ?_
          | with_reducible refine S_ops ?_
          | with_reducible refine O_step ?_
          | ((with_reducible apply K_mov_d); exact rfl)
          | with_reducible refine O_nil ?_
          | with_reducible refine seq_n ?_
          | with_reducible refine S_skip ?_
          | ((with_reducible apply T_itet); exact rfl)
          | ((with_reducible apply T_itef); exact rfl)
          | ((with_reducible apply T_ite1); exact rfl; (first | with_reducible assumption | omega))
          | ((with_reducible apply T_ite0); exact rfl; (first | with_reducible assumption | omega))
          | ((with_reducible apply T_iteP); exact rfl; all_goals intro _)
          | with_reducible refine S_ret ?_
          | with_reducible refine seq_r ?_
          | with_reducible refine S_exit ?_
          | with_reducible refine seq_e ?_
          | with_reducible refine T_block ?_
          | with_reducible refine blk_1 ?_
          | with_reducible refine blk_0 rfl ?_
          | with_reducible refine blk_n ?_
          | with_reducible refine blk_r ?_
          | with_reducible refine rnd_r ?_
          | with_reducible refine rnd_e ?_
          | ((with_reducible apply G_skip'); exact rfl)
          | ((with_reducible apply G_1tt); exact rfl)
          | ((with_reducible apply G_1ff); exact rfl)
          | ((with_reducible apply G_0tt); exact rfl)
          | ((with_reducible apply G_0ff); exact rfl)
          | ((with_reducible apply G_1y); exact rfl; (first | with_reducible assumption | omega))
          | ((with_reducible apply G_1n); exact rfl; (first | with_reducible assumption | omega))
          | ((with_reducible apply G_0y); exact rfl; (first | with_reducible assumption | omega))
          | ((with_reducible apply G_0n); exact rfl; (first | with_reducible assumption | omega))
          | ((with_reducible apply G_1P); exact rfl; all_goals intro _)
          | ((with_reducible apply G_0P); exact rfl; all_goals intro _)
          | ((with_reducible apply K_pickt); exact rfl; exact rfl)
          | ((with_reducible apply K_pickf); exact rfl; exact rfl)
          | ((with_reducible apply K_pickT); exact rfl; (first | with_reducible assumption | omega); exact rfl)
          | ((with_reducible apply K_pickF); exact rfl; (first | with_reducible assumption | omega); exact rfl)
          | ((with_reducible apply K_lss); exact rfl; exact rfl)
          | ((with_reducible apply K_gtr); exact rfl; exact rfl)
          | ((with_reducible apply K_geq); exact rfl; exact rfl)
          | ((with_reducible apply K_eql); exact rfl; exact rfl)
          | ((with_reducible apply K_neq); exact rfl; exact rfl)
          | ((with_reducible apply K_eqlS); exact rfl; exact rfl)
          | ((with_reducible apply K_neqS); exact rfl; exact rfl)
          | ((with_reducible apply K_add); exact rfl; exact rfl; (first | omega | decide))
          | ((with_reducible apply K_addw); exact rfl; exact rfl)
          | ((with_reducible apply K_lenS); exact rfl)
          | ((with_reducible apply K_len_d); exact rfl)
          | ((with_reducible apply K_len_nil); exact rfl)
          | ((with_reducible apply K_len_ref); exact rfl; exact rfl)
          | ((with_reducible apply K_idxA_ref); exact rfl; exact rfl; exact rfl; (first | omega | decide))
          | ((with_reducible apply K_idxA_d); exact rfl; exact rfl; (first | omega | decide))
          | ((with_reducible apply K_load1_ptr); exact rfl; exact rfl; exact rfl)
          | ((with_reducible apply K_load1_fp); exact rfl)
          | ((with_reducible apply K_load1_byte); exact rfl; exact rfl; (first | omega | decide))
          | ((with_reducible apply K_mov_ref); exact rfl)
          | ((with_reducible apply K_mov_ptr); exact rfl)
          | ((with_reducible apply K_mov_tup); exact rfl)
          | ((with_reducible apply K_mov_yld); exact rfl)
          | ((with_reducible apply K_ext); exact rfl; exact rfl)
          | ((with_reducible apply K_store1_pd); exact rfl; exact rfl; exact rfl; (first | decide | simp); exact rfl)
          | ((with_reducible apply K_store1_pr); exact rfl; exact rfl; exact rfl; (first | decide | simp))
          | ((with_reducible apply K_loadA_pd); exact rfl; exact rfl; (first | decide | simp); exact rfl)
          | ((with_reducible apply K_fldA_ptr); exact rfl)
          | ((with_reducible apply K_fldA_fp); exact rfl)
        all_goals first
          | exact ends_b rfl rfl
          | trace_state
end Go.Abs
