/- The contract of the law on the chapter's examples: it hands back true; a library for the laws, it claims nothing by itself. -/
import Derived.Test.YtkdcdcdeffednaaAbsN
set_option linter.unusedVariables false
set_option linter.unusedSimpArgs false
/- The examples of the chapter: the law. -/
set_option linter.unusedVariables false
namespace Go.Abs
open Go.Proofs
theorem scr161 : scriptT [97, 98] [161] = (3, 1, []) :: (1, 0, [97]) :: (1, 0, [98]) :: endT := by decide
theorem fed161 : fedK (scriptT [97, 98] [161]) (scriptT [97, 98] [161]).length = [[97], [98]] := by decide
theorem scr0 : (dTri (scriptT [] [])).length = 9 := by
  rw [List.length_map]; decide
theorem fed161_in : ∀ k, ((scriptT [97, 98] [161]).getD k (0, 0, [])).2.2.length ≤ 100000 := by
  intro k
  rw [List.getD_eq_getElem?_getD]
  cases e : (scriptT [97, 98] [161])[k]? with
  | none => exact Nat.zero_le _
  | some c =>
    have h := List.mem_of_getElem? e
    have h2 : ∀ c ∈ scriptT [97, 98] [161], c.2.2.length ≤ 1 := by decide
    exact Nat.le_trans (h2 c h) (by decide)
section
variable {E : Env} {fr : Fr} {S : St} {K : AV → St → Prop} {x y : Opd}
theorem K_eqA_tri {c : Tri} (e : ld fr x = .d (triD c)) (e2 : ld fr y = .d (triD c)) (h : K (.d (.bool true)) S) : stepK E fr S (.eqA false [0, 0, 1] x y) K := K_eqA e e2 (deq_tri c) h
end
set_option maxHeartbeats 4000000 in
set_option maxRecDepth 4000 in
theorem cr10 : CR Try.prog 10 [] [] (.d (.bool true)) [] := by
  have c37a := cr37 [97, 98, 99, 100, 101] 2
  rw [everyR_y (by decide) (by decide), show evL [97, 98, 99, 100, 101] (2 : Int).toNat = [[97, 98], [99, 100], [101]] by decide] at c37a
  have c37b := cr37 [97, 98, 99, 100, 101] 0
  rw [everyR_2 (by decide) (by decide)] at c37b
  have hq1 := SL_slD 1 (dStrs [[97, 98], [99, 100], [101]])
  have c31 := cr31 [97, 98] (.sl 1 (dInts [161])) [161] (.inr rfl) (by decide) (by decide)
  rw [if_pos (by decide), scriptT_eq, slD, if_neg (by rw [scr161]; exact fun h => by cases h)] at c31
  have h2 : SL 3 (.sl 3 (dTri (scriptT [97, 98] [161]))) (dTri (scriptT [97, 98] [161])) := .inr rfl
  have c44 := cr44 _ _ h2 (by decide) fed161_in
  rw [fed161, joinR, if_pos (by decide)] at c44
  have c35 := cr35 []
  rw [if_pos (by decide), scriptT_eq] at c35
  have hq3 := SL_slD 3 (dTri (scriptT [] []))
  have c49c := cr49 [97, 98, 99, 100, 101, 102] .nilsl (.sl 1 (dStrs [[97, 98, 99, 100, 101, 102]])) [] [[97, 98, 99, 100, 101, 102]] (SL_nil 1) (.inr rfl) (by decide) (by decide) (by decide) (by decide)
  have c49d := cr49 [] (.sl 1 (dInts [1, 2])) (.sl 1 (dStrs [[], []])) [1, 2] [[], []] (.inr rfl) (.inr rfl) (by decide) (by decide) (by decide) (by decide)
  have c46 := cr46 (.sl 1 (dStrs [[97, 98], [99], []])) [[97, 98], [99], []] (.inr rfl) (by decide)
  rw [slD, if_neg (fun h => by cases h)] at c46
  have c39 := cr39 (.sl 1 (dInts [2, 1, 0])) (.sl 1 (dInts [2, 1, 0])) [2, 1, 0] (.inr rfl) (.inr rfl) (by decide)
  have c33 := cr33 _ (.sl 1 (dStrs [[97, 98], [99, 100], [101]])) [[97, 98], [99, 100], [101]] hq1 (.inr rfl) (by decide)
  have c50 := cr50 [97, 98] (.sl 1 (dInts [1])) (.sl 1 (dInts [1, 1])) [1] [1, 1] (.inr rfl) (.inr rfl) (by decide) (by decide) (by decide) (by decide) (by decide)
  have hl9 := scr0
  have hl12 : (dTri (scriptT [97, 98] [161])).length = 12 := by rw [List.length_map]; decide
  have hg0 : (scriptT [97, 98] [161]).getD 0 (0, 0, []) = (3, 1, []) := by decide
  have hll : 0 < (scriptT [97, 98] [161]).length := by decide
  generalize slD 1 (dStrs [[97, 98], [99, 100], [101]]) = q1 at *
  generalize slD 3 (dTri (scriptT [] [])) = q3 at *
  generalize dTri (scriptT [] []) = L3 at *
  generalize scriptT [97, 98] [161] = L2 at *
  refine fn_cr fn10 (Nat.le_of_ble_eq_true rfl) rfl ?_
  unfold sc10
  repeat' first
    | ((with_reducible apply K_len_SL h2); exact rfl)
    | ((with_reducible apply K_len_SL hq3); exact rfl)
    | ((with_reducible apply K_idxA_map triD (0, 0, []) (n := 0) h2); exact rfl; exact rfl; exact hll; rw [hg0])
    | ((with_reducible apply K_loadA_tri); exact rfl)
    | ((with_reducible apply K_eqA_tri (c := (3, 1, []))); exact rfl; exact rfl)
    | ((with_reducible apply K_call_0 (f := 37) (ys := [.str [97, 98, 99, 100, 101], .int .i64 2])); exact rfl; exact c37a; exact rfl)
    | ((with_reducible apply K_call_0 (f := 37) (ys := [.str [97, 98, 99, 100, 101], .int .i64 0])); exact rfl; exact c37b; exact rfl)
    | ((with_reducible apply K_call_f (f := 31) (vs := _) (ys := [.d (.str [97, 98]), .d (.sl 1 (dInts [161]))])); exact rfl; exact rfl; exact rfl; exact c31; exact rfl)
    | ((with_reducible apply K_call_0 (f := 44) (ys := [(.sl 3 (dTri L2))])); exact rfl; exact c44; exact rfl)
    | ((with_reducible apply K_call_0 (f := 35) (ys := [.str []])); exact rfl; exact c35; exact rfl)
    | ((with_reducible apply K_call_0 (f := 27) (ys := [])); exact rfl; exact cr27; exact rfl)
    | ((with_reducible apply K_call_l (f := 49) (ys := [.d (.str [97, 98, 99, 100, 101, 102]), .d .nilsl, .d (.sl 1 (dStrs [[97, 98, 99, 100, 101, 102]]))])); exact rfl; exact rfl; exact c49c; exact rfl; exact rfl)
    | ((with_reducible apply K_call_l (f := 49) (ys := [.d (.str []), .d (.sl 1 (dInts [1, 2])), .d (.sl 1 (dStrs [[], []]))])); exact rfl; exact rfl; exact c49d; exact rfl; exact rfl)
    | ((with_reducible apply K_call_f (f := 46) (ys := [.d (.sl 1 (dStrs [[97, 98], [99], []]))])); exact rfl; exact rfl; exact rfl; exact c46; exact rfl)
    | ((with_reducible apply K_call_l (f := 39) (ys := [.d (.sl 1 (dInts [2, 1, 0])), .d (.sl 1 (dInts [2, 1, 0]))])); exact rfl; exact rfl; exact c39; exact rfl; exact rfl)
    | ((with_reducible apply K_call_l (f := 33) (ys := [.d q1, .d (.sl 1 (dStrs [[97, 98], [99, 100], [101]]))])); exact rfl; exact rfl; exact c33; exact rfl; exact rfl)
    | ((with_reducible apply K_call_l (f := 50) (ys := [.d (.str [97, 98]), .d (.sl 1 (dInts [1])), .d (.sl 1 (dInts [1, 1]))])); exact rfl; exact rfl; exact c50; exact rfl; exact rfl)
    | with_reducible refine T_seq ?_
    | with_reducible refine S_ops ?_
    | with_reducible refine O_step ?_
    | ((with_reducible apply K_mov_d); exact rfl)
    | with_reducible refine O_nil ?_
    | with_reducible refine seq_n ?_
    | with_reducible refine S_ret ?_
    | with_reducible refine seq_r ?_
    | with_reducible refine rnd_r ?_
    | ((with_reducible apply G_skip'); exact rfl)
    | ((with_reducible apply G_1tt); exact rfl)
    | ((with_reducible apply G_1ff); exact rfl)
    | ((with_reducible apply G_0tt); exact rfl)
    | ((with_reducible apply G_0ff); exact rfl)
    | ((with_reducible apply G_1y); exact rfl; (first | with_reducible assumption | omega | decide))
    | ((with_reducible apply G_1n); exact rfl; (first | with_reducible assumption | omega | decide))
    | ((with_reducible apply G_0y); exact rfl; (first | with_reducible assumption | omega | decide))
    | ((with_reducible apply G_0n); exact rfl; (first | with_reducible assumption | omega | decide))
    | ((with_reducible apply G_1P); exact rfl; all_goals intro _)
    | ((with_reducible apply G_0P); exact rfl; all_goals intro _)
    | ((with_reducible apply K_pickt); exact rfl; exact rfl)
    | ((with_reducible apply K_pickf); exact rfl; exact rfl)
    | ((with_reducible apply K_pickT); exact rfl; (first | with_reducible assumption | omega | decide); exact rfl)
    | ((with_reducible apply K_pickF); exact rfl; (first | with_reducible assumption | omega | decide); exact rfl)
    | ((with_reducible apply K_gtr); exact rfl; exact rfl)
    | ((with_reducible apply K_eql); exact rfl; exact rfl)
    | ((with_reducible apply K_eqlS); exact rfl; exact rfl)
    | ((with_reducible apply K_len_d); exact rfl)
    | ((with_reducible apply K_len_nil); exact rfl)
    | ((with_reducible apply K_len_ref); exact rfl; exact rfl)
    | ((with_reducible apply K_idxA_ref); exact rfl; exact rfl; exact rfl; (first | omega | decide))
    | ((with_reducible apply K_idxA_d); exact rfl; exact rfl; (first | omega | decide))
    | ((with_reducible apply K_mov_ref); exact rfl)
    | ((with_reducible apply K_mov_ptr); exact rfl)
    | ((with_reducible apply K_mov_agg); exact rfl)
    | ((with_reducible apply K_mov_tup); exact rfl)
    | ((with_reducible apply K_mov_yld); exact rfl)
    | ((with_reducible apply K_ext); exact rfl; exact rfl)
    | ((with_reducible apply K_build_d); exact rfl; exact rfl)
    | ((with_reducible apply K_loadA_pd); exact rfl; exact rfl; (first | decide | simp); exact rfl)
    | ((with_reducible apply K_bslice1); exact rfl; exact rfl)
    | ((with_reducible apply K_bslice); exact rfl)

  first
    | exact ends_b rfl (decide_eq_true (by omega))
    | exact ends_b rfl rfl
end Go.Abs
