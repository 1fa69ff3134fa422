/- The contract of the law on joining: it hands back true; a library for the law, it claims nothing by itself. -/
import Derived.SliceStrings
import Derived.Test.YtkdcdcdeffednaaAbsP
set_option linter.unusedVariables false
set_option linter.unusedSimpArgs false
/- A law's argument that is a slice of whatever is data. -/
namespace Go.Abs
open Go.Proofs Go.ChangeShapes
theorem ar_slice {α : Type} [Inhabited α] {H : Type} {enc : TypeId × Value → H} {P : Program} {W : World} {t e es : Nat} {a : Option Addr} {len cap base0 : Nat} {fuel : Nat} {x : DataW H × List MemPlace} (f : α → D) (good : α → Prop) (ht : P.underlying t = some (.slice e)) (hc : P.cellsOf e = es)
    (hv : Value.okWide P W .any base0 t (.slice a len cap)) (h : DataW.trod enc P W 0 (fun _ => true) true fuel t [.slice a len cap] = some x)
    (elem : ∀ n cs y, DataW.trod enc P W 0 (fun _ => true) true n e cs = some y → cs.length = es → ∃ c : α, good c ∧ DR W (O00 W) (.cells (f c).cells cs)) :
    ∃ (d : D) (l : List α), SL es d (l.map f) ∧ AR (cx W γ00 (fun _ => False) []) (.d d) (.slice a len cap) ∧ l.length < 9223372036854775808 ∧ ∀ c ∈ l, good c := by
  rcases DataW.trod_slice ht h with ⟨h0, _⟩ | ⟨x, len', cap', elems, rest, n, _, h0, _, _, hl, hm, hlen, hel, _, _⟩
  · simp at h0
    obtain ⟨rfl, rfl, rfl⟩ := h0
    exact ⟨.nilsl, [], .inl ⟨rfl, rfl⟩, DR.nilsl, by simp, by simp⟩
  · simp at h0
    obtain ⟨rfl, rfl, rfl⟩ := h0
    simp only [Value.okWide, ht, Cell.okWide, Cell.ok] at hv
    obtain ⟨_, _, _, hsp, row, cells, hsh, _⟩ := hv
    obtain ⟨b, off, sp⟩ := x
    dsimp only at hsp
    subst hsp
    have hb : b < W.heap.size := by
      rcases Nat.lt_or_ge b W.heap.size with h | h
      · exact h
      · unfold World.shape? at hsh
        rw [Array.getElem?_eq_none h] at hsh; cases hsh
    have hmx : maxLen = 9223372036854775807 := rfl
    have hex : ∀ i, i < len → ∃ (c : α) (cs : List Value), good c ∧ DR W (O00 W) (.cells (f c).cells cs) ∧ cs.length = es ∧ ∀ j, j < es → W.cell? ⟨b, off + i * es + j, none⟩ = cs[j]? := by
      intro i hi
      have h1 := hel i hi
      rw [List.getElem?_eq_getElem (by omega), Option.bind_eq_some_iff] at h1
      obtain ⟨cs, h2, h3⟩ := h1
      obtain ⟨_, h5, h6⟩ := World.cells?_some h2
      rw [hc] at h5 h6
      obtain ⟨c, h7, h8⟩ := elem n cs _ h3 h5
      refine ⟨c, cs, h7, h8, h5, fun j hj => ?_⟩
      rw [← h6 j hj]
      congr 1
      unfold Addr.add
      split
      · rename_i hj0
        split
        · rename_i hi0; rw [hj0, hi0]; rfl
        · rw [hj0]; rfl
      · split
        · rename_i hi0; rw [hi0]; rfl
        · rfl
    have hel2 : ∃ (F : Nat → α) (V : Nat → List Value), ∀ i, i < len → good (F i) ∧ DR W (O00 W) (.cells (f (F i)).cells (V i)) ∧ (V i).length = es ∧ ∀ j, j < es → W.cell? ⟨b, off + i * es + j, none⟩ = (V i)[j]? := by
      have hex2 : ∀ i, ∃ p : α × List Value, i < len → good p.1 ∧ DR W (O00 W) (.cells (f p.1).cells p.2) ∧ p.2.length = es ∧ ∀ j, j < es → W.cell? ⟨b, off + i * es + j, none⟩ = p.2[j]? := fun i => by
        by_cases hi : i < len
        · obtain ⟨c, cs, h9⟩ := hex i hi
          exact ⟨(c, cs), fun _ => h9⟩
        · exact ⟨(default, []), fun h => absurd h hi⟩
      exact ⟨fun i => (Classical.choose (hex2 i)).1, fun i => (Classical.choose (hex2 i)).2, fun i => Classical.choose_spec (hex2 i)⟩
    obtain ⟨F, V, hFV⟩ := hel2
    have hl2 : (((List.range len).map F).map f).length = len := by simp
    refine ⟨.sl es (((List.range len).map F).map f), (List.range len).map F, .inr rfl, ?_, by simp; omega, fun c hcm => ?_⟩
    · have hd : DR W (O00 W) (.val (.sl es (((List.range len).map F).map f)) (.slice (some ⟨b, off, none⟩) (((List.range len).map F).map f).length cap)) := by
        refine DR.sl es b off cap _ V not_O00 hb (by omega) (by omega) (fun i x hx => ?_) (fun i hi => ?_)
        · have hi : i < len := by have := (List.getElem?_eq_some_iff.1 hx).1; omega
          have e : (((List.range len).map F).map f)[i]? = some (f (F i)) := by simp [hi]
          rw [e] at hx
          injection hx with hx
          subst hx
          exact (hFV i hi).2.1
        · exact (hFV i (by omega)).2.2
      rw [hl2] at hd
      exact hd
    · obtain ⟨i, hi, rfl⟩ := List.mem_map.1 hcm
      exact (hFV i (List.mem_range.1 hi)).1
section
variable {H : Type} {enc : TypeId × Value → H} {P : Program} {W : World} {t e : Nat} {a : Option Addr} {len cap base0 : Nat} {d0 : DataW H} {ps : List MemPlace}
theorem dr_str {W : World} (s : ByteArray) (h : s.size ≤ maxLen) : DR W (O00 W) (.val (.str s.data.toList) (.string s)) := ar_str W s h
theorem ar_strs (ht : P.underlying t = some (.slice e)) (he : P.underlying e = some .string) (hc : P.cellsOf e = 1)
    (hv : Value.okWide P W .any base0 t (.slice a len cap)) (h : DataW.Trod enc P W 0 (fun _ => true) true t (.slice a len cap) d0 ps) :
    ∃ (d : D) (l : List (List UInt8)), SL 1 d (dStrs l) ∧ AR (cx W γ00 (fun _ => False) []) (.d d) (.slice a len cap) ∧ l.length < 9223372036854775808 := by
  obtain ⟨fuel, hf⟩ := h
  obtain ⟨d, l, h1, h2, h3, _⟩ := ar_slice (fun s : List UInt8 => D.str s) (fun _ => True) ht hc hv hf (fun n cs y hy hl => by
    obtain ⟨s, rfl, _, hs⟩ := DataW.trod_string he hy
    exact ⟨s.data.toList, trivial, DR.ccons _ _ _ _ (dr_str s hs) rfl DR.cnil⟩)
  exact ⟨d, l, h1, h2, h3⟩
theorem ar_tris {f0 f1 f2 : Field} (ht : P.underlying t = some (.slice e)) (he : P.underlying e = some (.struct #[f0, f1, f2])) (hc : P.cellsOf e = 3)
    (o0 : f0.offset = 0 ∧ P.cellsOf f0.type = 1 ∧ P.underlying f0.type = some (.int .i64)) (o1 : f1.offset = 1 ∧ P.cellsOf f1.type = 1 ∧ P.underlying f1.type = some (.int .i64)) (o2 : f2.offset = 2 ∧ P.cellsOf f2.type = 1 ∧ P.underlying f2.type = some .string)
    (hv : Value.okWide P W .any base0 t (.slice a len cap)) (h : DataW.Trod enc P W 0 (fun _ => true) true t (.slice a len cap) d0 ps) :
    ∃ (d : D) (l : List Tri), SL 3 d (dTri l) ∧ AR (cx W γ00 (fun _ => False) []) (.d d) (.slice a len cap) ∧ l.length < 9223372036854775808 := by
  obtain ⟨fuel, hf⟩ := h
  obtain ⟨d, l, h1, h2, h3, _⟩ := ar_slice triD (fun _ => True) ht hc hv hf (fun n cs y hy hl => by
    obtain ⟨xs, m, _, _, _, hx, hfl⟩ := DataW.trod_struct he hy
    have hx3 : xs.length = 3 := hx
    have g0 := hfl 0 f0 rfl
    have g1 := hfl 1 f1 rfl
    have g2 := hfl 2 f2 rfl
    rw [o0.1, o0.2.1, List.getElem?_eq_getElem (by omega)] at g0
    rw [o1.1, o1.2.1, List.getElem?_eq_getElem (by omega)] at g1
    rw [o2.1, o2.2.1, List.getElem?_eq_getElem (by omega)] at g2
    obtain ⟨c0, e0, _⟩ := DataW.trod_int o0.2.2 g0
    obtain ⟨c1, e1, _⟩ := DataW.trod_int o1.2.2 g1
    obtain ⟨c2, e2, _, hs⟩ := DataW.trod_string o2.2.2 g2
    match cs, hl with
    | [u0, u1, u2], _ =>
      simp at e0 e1 e2
      subst e0; subst e1; subst e2
      exact ⟨(c0, c1, c2.data.toList), trivial, DR.ccons _ _ _ _ (DR.int _ _) rfl (DR.ccons _ _ _ _ (DR.int _ _) rfl (DR.ccons _ _ _ _ (dr_str c2 hs) rfl DR.cnil))⟩)
  exact ⟨d, l, h1, h2, h3⟩
end
end Go.Abs
/- Contracts for the law on joining. -/
set_option linter.unusedVariables false
namespace Go.Abs
open Go.Proofs
theorem cr44x (d : D) (cs : List Tri) (hd : SL 3 d (dTri cs)) (hl : 200 < cs.length) : CR Try.prog 44 [.d d] [] (.tup [.d (.str []), i64 6]) [] := by
  have e0 : (dTri cs).length = cs.length := by simp
  refine fn_cr fn44 (Nat.le_of_ble_eq_true rfl) rfl ?_
  unfold sc44
  repeat' first
    | ((with_reducible apply K_len_SL hd); exact rfl)
    | with_reducible refine T_seq ?_
    | with_reducible refine S_ops ?_
    | with_reducible refine O_step ?_
    | ((with_reducible apply K_mov_d); exact rfl)
    | with_reducible refine O_nil ?_
    | with_reducible refine seq_n ?_
    | with_reducible refine S_skip ?_
    | ((with_reducible apply T_itet); exact rfl)
    | ((with_reducible apply T_itef); exact rfl)
    | ((with_reducible apply T_ite1); exact rfl; (first | with_reducible assumption | omega))
    | ((with_reducible apply T_ite0); exact rfl; (first | with_reducible assumption | omega))
    | ((with_reducible apply T_iteP); exact rfl; all_goals intro _)
    | with_reducible refine S_ret ?_
    | with_reducible refine seq_r ?_
    | with_reducible refine S_exit ?_
    | with_reducible refine seq_e ?_
    | with_reducible refine T_block ?_
    | with_reducible refine blk_1 ?_
    | with_reducible refine blk_0 rfl ?_
    | with_reducible refine blk_n ?_
    | with_reducible refine blk_r ?_
    | with_reducible refine rnd_r ?_
    | with_reducible refine rnd_e ?_
    | ((with_reducible apply K_lss); exact rfl; exact rfl)
    | ((with_reducible apply K_gtr); exact rfl; exact rfl)
    | ((with_reducible apply K_eql); exact rfl; exact rfl)
    | ((with_reducible apply K_eqlS); exact rfl; exact rfl)
    | ((with_reducible apply K_add); exact rfl; exact rfl; (first | omega | decide))
    | ((with_reducible apply K_addw); exact rfl; exact rfl)
    | ((with_reducible apply K_len_d); exact rfl)
    | ((with_reducible apply K_len_nil); exact rfl)
    | ((with_reducible apply K_len_ref); exact rfl; exact rfl)
    | ((with_reducible apply K_idxA_ref); exact rfl; exact rfl; exact rfl; (first | omega | decide))
    | ((with_reducible apply K_idxA_d); exact rfl; exact rfl; (first | omega | decide))
    | ((with_reducible apply K_load1_ptr); exact rfl; exact rfl; exact rfl)
    | ((with_reducible apply K_load1_fp); exact rfl)
    | ((with_reducible apply K_load1_byte); exact rfl; exact rfl; (first | omega | decide))
    | ((with_reducible apply K_mov_ref); exact rfl)
    | ((with_reducible apply K_mov_ptr); exact rfl)
    | ((with_reducible apply K_mov_tup); exact rfl)
    | ((with_reducible apply K_mov_yld); exact rfl)
    | ((with_reducible apply K_ext); exact rfl; exact rfl)
    | with_reducible refine K_alloc ?_
    | ((with_reducible apply K_storeA_pd); exact rfl; exact rfl; exact rfl; exact rfl; (first | decide | simp))
    | ((with_reducible apply K_loadA_pd); exact rfl; exact rfl; (first | decide | simp); exact rfl)
    | ((with_reducible apply K_bslice1); exact rfl; exact rfl)
    | ((with_reducible apply K_bslice); exact rfl)
    | ((with_reducible apply K_fldA_ptr); exact rfl)
    | ((with_reducible apply K_fldA_fp); exact rfl)
  exact ends_2 rfl
theorem cr45x (d : D) (cs : List Tri) (hd : SL 3 d (dTri cs)) (hl : 200 < cs.length) : CR Try.prog 45 [.d d] [] (.tup [.d (.str []), i64 6]) [] := by
  have e0 : (dTri cs).length = cs.length := by simp
  refine fn_cr fn45 (Nat.le_of_ble_eq_true rfl) rfl ?_
  unfold sc45
  repeat' first
    | ((with_reducible apply K_len_SL hd); exact rfl)
    | with_reducible refine T_seq ?_
    | with_reducible refine S_ops ?_
    | with_reducible refine O_step ?_
    | ((with_reducible apply K_mov_d); exact rfl)
    | with_reducible refine O_nil ?_
    | with_reducible refine seq_n ?_
    | with_reducible refine S_skip ?_
    | ((with_reducible apply T_itet); exact rfl)
    | ((with_reducible apply T_itef); exact rfl)
    | ((with_reducible apply T_ite1); exact rfl; (first | with_reducible assumption | omega))
    | ((with_reducible apply T_ite0); exact rfl; (first | with_reducible assumption | omega))
    | ((with_reducible apply T_iteP); exact rfl; all_goals intro _)
    | with_reducible refine S_ret ?_
    | with_reducible refine seq_r ?_
    | with_reducible refine S_exit ?_
    | with_reducible refine seq_e ?_
    | with_reducible refine T_block ?_
    | with_reducible refine blk_1 ?_
    | with_reducible refine blk_0 rfl ?_
    | with_reducible refine blk_n ?_
    | with_reducible refine blk_r ?_
    | with_reducible refine rnd_r ?_
    | with_reducible refine rnd_e ?_
    | ((with_reducible apply K_lss); exact rfl; exact rfl)
    | ((with_reducible apply K_gtr); exact rfl; exact rfl)
    | ((with_reducible apply K_eql); exact rfl; exact rfl)
    | ((with_reducible apply K_eqlS); exact rfl; exact rfl)
    | ((with_reducible apply K_add); exact rfl; exact rfl; (first | omega | decide))
    | ((with_reducible apply K_addw); exact rfl; exact rfl)
    | ((with_reducible apply K_len_d); exact rfl)
    | ((with_reducible apply K_len_nil); exact rfl)
    | ((with_reducible apply K_len_ref); exact rfl; exact rfl)
    | ((with_reducible apply K_idxA_ref); exact rfl; exact rfl; exact rfl; (first | omega | decide))
    | ((with_reducible apply K_idxA_d); exact rfl; exact rfl; (first | omega | decide))
    | ((with_reducible apply K_load1_ptr); exact rfl; exact rfl; exact rfl)
    | ((with_reducible apply K_load1_fp); exact rfl)
    | ((with_reducible apply K_load1_byte); exact rfl; exact rfl; (first | omega | decide))
    | ((with_reducible apply K_mov_ref); exact rfl)
    | ((with_reducible apply K_mov_ptr); exact rfl)
    | ((with_reducible apply K_mov_tup); exact rfl)
    | ((with_reducible apply K_mov_yld); exact rfl)
    | ((with_reducible apply K_ext); exact rfl; exact rfl)
    | ((with_reducible apply K_bslice1); exact rfl; exact rfl)
    | ((with_reducible apply K_bslice); exact rfl)
    | ((with_reducible apply K_fldA_ptr); exact rfl)
    | ((with_reducible apply K_fldA_fp); exact rfl)
  exact ends_2 rfl
theorem cr47 (d : D) (l : List (List UInt8)) (hd : SL 1 d (dStrs l)) (hl : l.length ≤ 100000) : CR Try.prog 47 [.d d] [] (.d (slD 1 (dInts (sizesL l)))) [] := by
  have e0 : (dStrs l).length = l.length := by simp
  refine fn_cr fn47 (Nat.le_of_ble_eq_true rfl) rfl ?_
  unfold sc47
  repeat' first
    | ((with_reducible apply K_len_SL hd); exact rfl)
    | with_reducible refine T_seq ?_
    | with_reducible refine S_ops ?_
    | with_reducible refine O_step ?_
    | ((with_reducible apply K_mov_d); exact rfl)
    | with_reducible refine O_nil ?_
    | with_reducible refine seq_n ?_
    | with_reducible refine S_skip ?_
    | ((with_reducible apply T_itet); exact rfl)
    | ((with_reducible apply T_itef); exact rfl)
    | ((with_reducible apply T_ite1); exact rfl; (first | with_reducible assumption | omega))
    | ((with_reducible apply T_ite0); exact rfl; (first | with_reducible assumption | omega))
    | ((with_reducible apply T_iteP); exact rfl; all_goals intro _)
    | with_reducible refine S_ret ?_
    | with_reducible refine seq_r ?_
    | with_reducible refine S_exit ?_
    | with_reducible refine seq_e ?_
    | with_reducible refine T_block ?_
    | with_reducible refine blk_1 ?_
    | with_reducible refine blk_0 rfl ?_
    | with_reducible refine blk_n ?_
    | with_reducible refine blk_r ?_
    | with_reducible refine rnd_r ?_
    | with_reducible refine rnd_e ?_
    | ((with_reducible apply K_lss); exact rfl; exact rfl)
    | ((with_reducible apply K_add); exact rfl; exact rfl; (first | omega | decide))
    | ((with_reducible apply K_addw); exact rfl; exact rfl)
    | ((with_reducible apply K_lenS); exact rfl)
    | ((with_reducible apply K_len_d); exact rfl)
    | ((with_reducible apply K_len_nil); exact rfl)
    | ((with_reducible apply K_len_ref); exact rfl; exact rfl)
    | ((with_reducible apply K_idxA_ref); exact rfl; exact rfl; exact rfl; (first | omega | decide))
    | ((with_reducible apply K_idxA_d); exact rfl; exact rfl; (first | omega | decide))
    | ((with_reducible apply K_load1_ptr); exact rfl; exact rfl; exact rfl)
    | ((with_reducible apply K_load1_fp); exact rfl)
    | ((with_reducible apply K_load1_byte); exact rfl; exact rfl; (first | omega | decide))
    | ((with_reducible apply K_mov_ref); exact rfl)
    | ((with_reducible apply K_mov_ptr); exact rfl)
    | ((with_reducible apply K_mov_yld); exact rfl)
    | ((with_reducible apply K_bslice1); exact rfl; exact rfl)
    | ((with_reducible apply K_bslice); exact rfl)
  refine T_loop (fun t => Nat.beq t 3 || Nat.ble 4 t) [3, 4] (fun u : Nat × AV × St => [u.2.1, i64 u.1]) (fun u => u.2.2) (fun u => u.1 ≤ l.length ∧ OutT 0 u.2.1 u.2.2 1 (dInts (sizesL (l.take u.1)))) (fun u => l.length - u.1) (0, .d .nilsl, []) rfl ⟨Nat.zero_le _, .nil _ _ _⟩ rfl rfl ?_
  rintro ⟨m, v, t⟩ g ⟨hm, ho⟩
  dsimp only at hm ho ⊢
  have hsl : (dInts (sizesL (l.take m))).length ≤ l.length := by unfold sizesL; simp; omega
  repeat' first
    | ((with_reducible apply K_mov_any v); exact rfl)
    | ((with_reducible apply K_mov_any v2); exact rfl)
    | ((with_reducible apply K_len_SL hd); exact rfl)
    | ((with_reducible apply K_idxA_map (fun s : List UInt8 => D.str s) [] hd); exact rfl; exact rfl; omega)
    | ((with_reducible apply K_app_el (S0 := []) ho); exact rfl; exact rfl; exact rfl; (simp); (simp only [List.length_singleton]; omega); intro v2 t2 ho2)
    | with_reducible refine T_seq ?_
    | with_reducible refine S_ops ?_
    | with_reducible refine O_step ?_
    | ((with_reducible apply K_mov_d); exact rfl)
    | with_reducible refine O_nil ?_
    | with_reducible refine seq_n ?_
    | with_reducible refine S_skip ?_
    | ((with_reducible apply T_itet); exact rfl)
    | ((with_reducible apply T_itef); exact rfl)
    | ((with_reducible apply T_ite1); exact rfl; (first | with_reducible assumption | omega))
    | ((with_reducible apply T_ite0); exact rfl; (first | with_reducible assumption | omega))
    | ((with_reducible apply T_iteP); exact rfl; all_goals intro _)
    | with_reducible refine S_ret ?_
    | with_reducible refine seq_r ?_
    | with_reducible refine S_exit ?_
    | with_reducible refine seq_e ?_
    | with_reducible refine T_block ?_
    | with_reducible refine blk_1 ?_
    | with_reducible refine blk_0 rfl ?_
    | with_reducible refine blk_n ?_
    | with_reducible refine blk_r ?_
    | with_reducible refine rnd_r ?_
    | with_reducible refine rnd_e ?_
    | ((with_reducible apply K_lss); exact rfl; exact rfl)
    | ((with_reducible apply K_add); exact rfl; exact rfl; (first | omega | decide))
    | ((with_reducible apply K_addw); exact rfl; exact rfl)
    | ((with_reducible apply K_lenS); exact rfl)
    | ((with_reducible apply K_len_d); exact rfl)
    | ((with_reducible apply K_len_nil); exact rfl)
    | ((with_reducible apply K_len_ref); exact rfl; exact rfl)
    | ((with_reducible apply K_idxA_ref); exact rfl; exact rfl; exact rfl; (first | omega | decide))
    | ((with_reducible apply K_idxA_d); exact rfl; exact rfl; (first | omega | decide))
    | ((with_reducible apply K_load1_ptr); exact rfl; exact rfl; exact rfl)
    | ((with_reducible apply K_load1_fp); exact rfl)
    | ((with_reducible apply K_load1_byte); exact rfl; exact rfl; (first | omega | decide))
    | ((with_reducible apply K_mov_ref); exact rfl)
    | ((with_reducible apply K_mov_ptr); exact rfl)
    | ((with_reducible apply K_mov_yld); exact rfl)
    | ((with_reducible apply K_bslice1); exact rfl; exact rfl)
    | ((with_reducible apply K_bslice); exact rfl)
  · have hml : m < l.length := by omega
    refine rnd_n (m + 1, v2, t2) ⟨⟨by dsimp only; omega, ?_⟩, by dsimp only; omega⟩ rfl rfl
    dsimp only
    have e : dInts (sizesL (l.take (m + 1))) = dInts (sizesL (l.take m)) ++ [.int .i64 (l.getD m []).length] := by
      rw [List.take_succ_eq_append_getElem hml]
      simp only [dInts, sizesL, List.map_append, List.map_cons, List.map_nil, List.getD_eq_getElem?_getD]
      rw [List.getElem?_eq_getElem hml]; rfl
    rw [e]; exact ho2
  · have hme : m = l.length := by omega
    subst hme
    rw [List.take_length] at ho
    exact ends_out1 (S0 := []) ho rfl rfl
def shortP (n : Nat) : Bool := decide (n ≤ 60) || (decide (10000 ≤ n) && decide (n ≤ 10010))
def shortK (l : List (List UInt8)) : Bool := l.all fun s => shortP s.length
theorem shortP_t {n : Nat} (h : shortP n = true) : n ≤ 60 ∨ 10000 ≤ n ∧ n ≤ 10010 := by
  simpa [shortP] using h
theorem shortP_f {n : Nat} (h : shortP n = false) : ¬ (n ≤ 60 ∨ 10000 ≤ n ∧ n ≤ 10010) := by
  intro h2
  have : shortP n = true := by simpa [shortP] using h2
  rw [h] at this; cases this
set_option maxHeartbeats 2000000 in
theorem cr40 (d : D) (l : List (List UInt8)) (hd : SL 1 d (dStrs l)) (hl : l.length ≤ 100000) : CR Try.prog 40 [.d d] [] (.d (.bool (shortK l))) [] := by
  have e0 : (dStrs l).length = l.length := by simp
  refine fn_cr fn40 (Nat.le_of_ble_eq_true rfl) rfl ?_
  unfold sc40
  repeat' first
    | ((with_reducible apply G_1y); exact rfl; (first | with_reducible assumption | omega))
    | ((with_reducible apply G_1n); exact rfl; (first | with_reducible assumption | omega))
    | ((with_reducible apply G_0y); exact rfl; (first | with_reducible assumption | omega))
    | ((with_reducible apply G_0n); exact rfl; (first | with_reducible assumption | omega))
    | ((with_reducible apply G_1P); exact rfl; all_goals intro _)
    | ((with_reducible apply G_0P); exact rfl; all_goals intro _)
    | ((with_reducible apply DG_1y); exact rfl; (first | with_reducible assumption | omega))
    | ((with_reducible apply DG_1n); exact rfl; (first | with_reducible assumption | omega))
    | ((with_reducible apply DG_0y); exact rfl; (first | with_reducible assumption | omega))
    | ((with_reducible apply DG_0n); exact rfl; (first | with_reducible assumption | omega))
    | ((with_reducible apply DG_1P); exact rfl; all_goals intro _)
    | ((with_reducible apply DG_0P); exact rfl; all_goals intro _)
    | ((with_reducible apply K_pickT); exact rfl; (first | with_reducible assumption | omega); exact rfl)
    | ((with_reducible apply K_pickF); exact rfl; (first | with_reducible assumption | omega); exact rfl)
    | ((with_reducible apply T_ite1); exact rfl; (first | with_reducible assumption | omega))
    | ((with_reducible apply T_ite0); exact rfl; (first | with_reducible assumption | omega))
    | ((with_reducible apply T_iteP); exact rfl; all_goals intro _)
    | ((with_reducible apply K_len_SL hd); exact rfl)
    | with_reducible refine T_seq ?_
    | with_reducible refine S_ops ?_
    | with_reducible refine O_step ?_
    | ((with_reducible apply K_mov_d); exact rfl)
    | with_reducible refine O_nil ?_
    | with_reducible refine seq_n ?_
    | with_reducible refine S_skip ?_
    | ((with_reducible apply T_itet); exact rfl)
    | ((with_reducible apply T_itef); exact rfl)
    | ((with_reducible apply T_ite1); exact rfl; (first | with_reducible assumption | omega))
    | ((with_reducible apply T_ite0); exact rfl; (first | with_reducible assumption | omega))
    | ((with_reducible apply T_iteP); exact rfl; all_goals intro _)
    | with_reducible refine S_ret ?_
    | with_reducible refine seq_r ?_
    | with_reducible refine S_exit ?_
    | with_reducible refine seq_e ?_
    | with_reducible refine T_block ?_
    | with_reducible refine blk_1 ?_
    | with_reducible refine blk_0 rfl ?_
    | with_reducible refine blk_n ?_
    | with_reducible refine blk_r ?_
    | with_reducible refine rnd_r ?_
    | with_reducible refine rnd_e ?_
    | ((with_reducible apply G_skip'); exact rfl)
    | ((with_reducible apply G_1tt); exact rfl)
    | ((with_reducible apply G_1ff); exact rfl)
    | ((with_reducible apply G_0tt); exact rfl)
    | ((with_reducible apply G_0ff); exact rfl)
    | ((with_reducible apply G_1y); exact rfl; (first | with_reducible assumption | omega))
    | ((with_reducible apply G_1n); exact rfl; (first | with_reducible assumption | omega))
    | ((with_reducible apply G_0y); exact rfl; (first | with_reducible assumption | omega))
    | ((with_reducible apply G_0n); exact rfl; (first | with_reducible assumption | omega))
    | ((with_reducible apply G_1P); exact rfl; all_goals intro _)
    | ((with_reducible apply G_0P); exact rfl; all_goals intro _)
    | ((with_reducible apply K_pickt); exact rfl; exact rfl)
    | ((with_reducible apply K_pickf); exact rfl; exact rfl)
    | ((with_reducible apply K_pickT); exact rfl; (first | with_reducible assumption | omega); exact rfl)
    | ((with_reducible apply K_pickF); exact rfl; (first | with_reducible assumption | omega); exact rfl)
    | ((with_reducible apply K_lss); exact rfl; exact rfl)
    | ((with_reducible apply K_gtr); exact rfl; exact rfl)
    | ((with_reducible apply K_add); exact rfl; exact rfl; (first | omega | decide))
    | ((with_reducible apply K_addw); exact rfl; exact rfl)
    | ((with_reducible apply K_lenS); exact rfl)
    | ((with_reducible apply K_len_d); exact rfl)
    | ((with_reducible apply K_len_nil); exact rfl)
    | ((with_reducible apply K_len_ref); exact rfl; exact rfl)
    | ((with_reducible apply K_idxA_ref); exact rfl; exact rfl; exact rfl; (first | omega | decide))
    | ((with_reducible apply K_idxA_d); exact rfl; exact rfl; (first | omega | decide))
    | ((with_reducible apply K_load1_ptr); exact rfl; exact rfl; exact rfl)
    | ((with_reducible apply K_load1_fp); exact rfl)
    | ((with_reducible apply K_load1_byte); exact rfl; exact rfl; (first | omega | decide))
    | ((with_reducible apply K_mov_ref); exact rfl)
    | ((with_reducible apply K_mov_ptr); exact rfl)
    | ((with_reducible apply K_mov_yld); exact rfl)
  refine T_loop (fun t => Nat.beq t 2 || Nat.ble 3 t) [3] (fun u : Nat => [i64 u]) (fun _ => []) (fun u => u ≤ l.length ∧ (l.take u).all (fun s => shortP s.length) = true) (fun u => l.length - u) 0 rfl ⟨Nat.zero_le _, rfl⟩ rfl rfl ?_
  rintro m g ⟨hm, hk⟩
  by_cases hml : m < l.length
  · have ets : l.take (m + 1) = l.take m ++ [l.getD m []] := by
      rw [List.take_succ_eq_append_getElem hml]; simp [List.getD_eq_getElem?_getD, hml]
    have hmem : l.getD m [] ∈ l := by
      rw [List.getD_eq_getElem?_getD, List.getElem?_eq_getElem hml]; exact List.getElem_mem hml
    cases hsp : shortP (l.getD m []).length with
    | true =>
      have h1 := shortP_t hsp
      have hnx : (l.take (m + 1)).all (fun s => shortP s.length) = true := by rw [ets, List.all_append, hk]; simp only [List.all_cons, hsp, List.all_nil]; rfl
      repeat' first
        | ((with_reducible apply G_1y); exact rfl; (first | with_reducible assumption | omega))
        | ((with_reducible apply G_1n); exact rfl; (first | with_reducible assumption | omega))
        | ((with_reducible apply G_0y); exact rfl; (first | with_reducible assumption | omega))
        | ((with_reducible apply G_0n); exact rfl; (first | with_reducible assumption | omega))
        | ((with_reducible apply G_1P); exact rfl; all_goals intro _)
        | ((with_reducible apply G_0P); exact rfl; all_goals intro _)
        | ((with_reducible apply DG_1y); exact rfl; (first | with_reducible assumption | omega))
        | ((with_reducible apply DG_1n); exact rfl; (first | with_reducible assumption | omega))
        | ((with_reducible apply DG_0y); exact rfl; (first | with_reducible assumption | omega))
        | ((with_reducible apply DG_0n); exact rfl; (first | with_reducible assumption | omega))
        | ((with_reducible apply DG_1P); exact rfl; all_goals intro _)
        | ((with_reducible apply DG_0P); exact rfl; all_goals intro _)
        | ((with_reducible apply K_pickT); exact rfl; (first | with_reducible assumption | omega); exact rfl)
        | ((with_reducible apply K_pickF); exact rfl; (first | with_reducible assumption | omega); exact rfl)
        | ((with_reducible apply T_ite1); exact rfl; (first | with_reducible assumption | omega))
        | ((with_reducible apply T_ite0); exact rfl; (first | with_reducible assumption | omega))
        | ((with_reducible apply T_iteP); exact rfl; all_goals intro _)
        | ((with_reducible apply K_len_SL hd); exact rfl)
        | ((with_reducible apply K_idxA_map (fun s : List UInt8 => D.str s) [] hd); exact rfl; exact rfl; omega)
        | with_reducible refine T_seq ?_
        | with_reducible refine S_ops ?_
        | with_reducible refine O_step ?_
        | ((with_reducible apply K_mov_d); exact rfl)
        | with_reducible refine O_nil ?_
        | with_reducible refine seq_n ?_
        | with_reducible refine S_skip ?_
        | ((with_reducible apply T_itet); exact rfl)
        | ((with_reducible apply T_itef); exact rfl)
        | ((with_reducible apply T_ite1); exact rfl; (first | with_reducible assumption | omega))
        | ((with_reducible apply T_ite0); exact rfl; (first | with_reducible assumption | omega))
        | ((with_reducible apply T_iteP); exact rfl; all_goals intro _)
        | with_reducible refine S_ret ?_
        | with_reducible refine seq_r ?_
        | with_reducible refine S_exit ?_
        | with_reducible refine seq_e ?_
        | with_reducible refine T_block ?_
        | with_reducible refine blk_1 ?_
        | with_reducible refine blk_0 rfl ?_
        | with_reducible refine blk_n ?_
        | with_reducible refine blk_r ?_
        | with_reducible refine rnd_r ?_
        | with_reducible refine rnd_e ?_
        | ((with_reducible apply G_skip'); exact rfl)
        | ((with_reducible apply G_1tt); exact rfl)
        | ((with_reducible apply G_1ff); exact rfl)
        | ((with_reducible apply G_0tt); exact rfl)
        | ((with_reducible apply G_0ff); exact rfl)
        | ((with_reducible apply G_1y); exact rfl; (first | with_reducible assumption | omega))
        | ((with_reducible apply G_1n); exact rfl; (first | with_reducible assumption | omega))
        | ((with_reducible apply G_0y); exact rfl; (first | with_reducible assumption | omega))
        | ((with_reducible apply G_0n); exact rfl; (first | with_reducible assumption | omega))
        | ((with_reducible apply G_1P); exact rfl; all_goals intro _)
        | ((with_reducible apply G_0P); exact rfl; all_goals intro _)
        | ((with_reducible apply K_pickt); exact rfl; exact rfl)
        | ((with_reducible apply K_pickf); exact rfl; exact rfl)
        | ((with_reducible apply K_pickT); exact rfl; (first | with_reducible assumption | omega); exact rfl)
        | ((with_reducible apply K_pickF); exact rfl; (first | with_reducible assumption | omega); exact rfl)
        | ((with_reducible apply K_lss); exact rfl; exact rfl)
        | ((with_reducible apply K_gtr); exact rfl; exact rfl)
        | ((with_reducible apply K_add); exact rfl; exact rfl; (first | omega | decide))
        | ((with_reducible apply K_addw); exact rfl; exact rfl)
        | ((with_reducible apply K_lenS); exact rfl)
        | ((with_reducible apply K_len_d); exact rfl)
        | ((with_reducible apply K_len_nil); exact rfl)
        | ((with_reducible apply K_len_ref); exact rfl; exact rfl)
        | ((with_reducible apply K_idxA_ref); exact rfl; exact rfl; exact rfl; (first | omega | decide))
        | ((with_reducible apply K_idxA_d); exact rfl; exact rfl; (first | omega | decide))
        | ((with_reducible apply K_load1_ptr); exact rfl; exact rfl; exact rfl)
        | ((with_reducible apply K_load1_fp); exact rfl)
        | ((with_reducible apply K_load1_byte); exact rfl; exact rfl; (first | omega | decide))
        | ((with_reducible apply K_mov_ref); exact rfl)
        | ((with_reducible apply K_mov_ptr); exact rfl)
        | ((with_reducible apply K_mov_yld); exact rfl)
      all_goals exact rnd_n (m + 1) ⟨⟨by omega, hnx⟩, by omega⟩ rfl rfl
    | false =>
      have h1 := shortP_f hsp
      have hnx : shortK l = false := by
        unfold shortK
        rw [List.all_eq_false]
        exact ⟨_, hmem, by rw [hsp]; exact Bool.false_ne_true⟩
      rw [hnx]
      repeat' first
        | ((with_reducible apply G_1y); exact rfl; (first | with_reducible assumption | omega))
        | ((with_reducible apply G_1n); exact rfl; (first | with_reducible assumption | omega))
        | ((with_reducible apply G_0y); exact rfl; (first | with_reducible assumption | omega))
        | ((with_reducible apply G_0n); exact rfl; (first | with_reducible assumption | omega))
        | ((with_reducible apply G_1P); exact rfl; all_goals intro _)
        | ((with_reducible apply G_0P); exact rfl; all_goals intro _)
        | ((with_reducible apply DG_1y); exact rfl; (first | with_reducible assumption | omega))
        | ((with_reducible apply DG_1n); exact rfl; (first | with_reducible assumption | omega))
        | ((with_reducible apply DG_0y); exact rfl; (first | with_reducible assumption | omega))
        | ((with_reducible apply DG_0n); exact rfl; (first | with_reducible assumption | omega))
        | ((with_reducible apply DG_1P); exact rfl; all_goals intro _)
        | ((with_reducible apply DG_0P); exact rfl; all_goals intro _)
        | ((with_reducible apply K_pickT); exact rfl; (first | with_reducible assumption | omega); exact rfl)
        | ((with_reducible apply K_pickF); exact rfl; (first | with_reducible assumption | omega); exact rfl)
        | ((with_reducible apply T_ite1); exact rfl; (first | with_reducible assumption | omega))
        | ((with_reducible apply T_ite0); exact rfl; (first | with_reducible assumption | omega))
        | ((with_reducible apply T_iteP); exact rfl; all_goals intro _)
        | ((with_reducible apply K_len_SL hd); exact rfl)
        | ((with_reducible apply K_idxA_map (fun s : List UInt8 => D.str s) [] hd); exact rfl; exact rfl; omega)
        | with_reducible refine T_seq ?_
        | with_reducible refine S_ops ?_
        | with_reducible refine O_step ?_
        | ((with_reducible apply K_mov_d); exact rfl)
        | with_reducible refine O_nil ?_
        | with_reducible refine seq_n ?_
        | with_reducible refine S_skip ?_
        | ((with_reducible apply T_itet); exact rfl)
        | ((with_reducible apply T_itef); exact rfl)
        | ((with_reducible apply T_ite1); exact rfl; (first | with_reducible assumption | omega))
        | ((with_reducible apply T_ite0); exact rfl; (first | with_reducible assumption | omega))
        | ((with_reducible apply T_iteP); exact rfl; all_goals intro _)
        | with_reducible refine S_ret ?_
        | with_reducible refine seq_r ?_
        | with_reducible refine S_exit ?_
        | with_reducible refine seq_e ?_
        | with_reducible refine T_block ?_
        | with_reducible refine blk_1 ?_
        | with_reducible refine blk_0 rfl ?_
        | with_reducible refine blk_n ?_
        | with_reducible refine blk_r ?_
        | with_reducible refine rnd_r ?_
        | with_reducible refine rnd_e ?_
        | ((with_reducible apply G_skip'); exact rfl)
        | ((with_reducible apply G_1tt); exact rfl)
        | ((with_reducible apply G_1ff); exact rfl)
        | ((with_reducible apply G_0tt); exact rfl)
        | ((with_reducible apply G_0ff); exact rfl)
        | ((with_reducible apply G_1y); exact rfl; (first | with_reducible assumption | omega))
        | ((with_reducible apply G_1n); exact rfl; (first | with_reducible assumption | omega))
        | ((with_reducible apply G_0y); exact rfl; (first | with_reducible assumption | omega))
        | ((with_reducible apply G_0n); exact rfl; (first | with_reducible assumption | omega))
        | ((with_reducible apply G_1P); exact rfl; all_goals intro _)
        | ((with_reducible apply G_0P); exact rfl; all_goals intro _)
        | ((with_reducible apply K_pickt); exact rfl; exact rfl)
        | ((with_reducible apply K_pickf); exact rfl; exact rfl)
        | ((with_reducible apply K_pickT); exact rfl; (first | with_reducible assumption | omega); exact rfl)
        | ((with_reducible apply K_pickF); exact rfl; (first | with_reducible assumption | omega); exact rfl)
        | ((with_reducible apply K_lss); exact rfl; exact rfl)
        | ((with_reducible apply K_gtr); exact rfl; exact rfl)
        | ((with_reducible apply K_add); exact rfl; exact rfl; (first | omega | decide))
        | ((with_reducible apply K_addw); exact rfl; exact rfl)
        | ((with_reducible apply K_lenS); exact rfl)
        | ((with_reducible apply K_len_d); exact rfl)
        | ((with_reducible apply K_len_nil); exact rfl)
        | ((with_reducible apply K_len_ref); exact rfl; exact rfl)
        | ((with_reducible apply K_idxA_ref); exact rfl; exact rfl; exact rfl; (first | omega | decide))
        | ((with_reducible apply K_idxA_d); exact rfl; exact rfl; (first | omega | decide))
        | ((with_reducible apply K_load1_ptr); exact rfl; exact rfl; exact rfl)
        | ((with_reducible apply K_load1_fp); exact rfl)
        | ((with_reducible apply K_load1_byte); exact rfl; exact rfl; (first | omega | decide))
        | ((with_reducible apply K_mov_ref); exact rfl)
        | ((with_reducible apply K_mov_ptr); exact rfl)
        | ((with_reducible apply K_mov_yld); exact rfl)
      all_goals exact ends_b rfl rfl
  · have hme : m = l.length := by omega
    subst hme
    rw [List.take_length] at hk
    have : shortK l = true := hk
    rw [this]
    repeat' first
      | ((with_reducible apply G_1y); exact rfl; (first | with_reducible assumption | omega))
      | ((with_reducible apply G_1n); exact rfl; (first | with_reducible assumption | omega))
      | ((with_reducible apply G_0y); exact rfl; (first | with_reducible assumption | omega))
      | ((with_reducible apply G_0n); exact rfl; (first | with_reducible assumption | omega))
      | ((with_reducible apply G_1P); exact rfl; all_goals intro _)
      | ((with_reducible apply G_0P); exact rfl; all_goals intro _)
      | ((with_reducible apply DG_1y); exact rfl; (first | with_reducible assumption | omega))
      | ((with_reducible apply DG_1n); exact rfl; (first | with_reducible assumption | omega))
      | ((with_reducible apply DG_0y); exact rfl; (first | with_reducible assumption | omega))
      | ((with_reducible apply DG_0n); exact rfl; (first | with_reducible assumption | omega))
      | ((with_reducible apply DG_1P); exact rfl; all_goals intro _)
      | ((with_reducible apply DG_0P); exact rfl; all_goals intro _)
      | ((with_reducible apply K_pickT); exact rfl; (first | with_reducible assumption | omega); exact rfl)
      | ((with_reducible apply K_pickF); exact rfl; (first | with_reducible assumption | omega); exact rfl)
      | ((with_reducible apply T_ite1); exact rfl; (first | with_reducible assumption | omega))
      | ((with_reducible apply T_ite0); exact rfl; (first | with_reducible assumption | omega))
      | ((with_reducible apply T_iteP); exact rfl; all_goals intro _)
      | ((with_reducible apply K_len_SL hd); exact rfl)
      | with_reducible refine T_seq ?_
      | with_reducible refine S_ops ?_
      | with_reducible refine O_step ?_
      | ((with_reducible apply K_mov_d); exact rfl)
      | with_reducible refine O_nil ?_
      | with_reducible refine seq_n ?_
      | with_reducible refine S_skip ?_
      | ((with_reducible apply T_itet); exact rfl)
      | ((with_reducible apply T_itef); exact rfl)
      | ((with_reducible apply T_ite1); exact rfl; (first | with_reducible assumption | omega))
      | ((with_reducible apply T_ite0); exact rfl; (first | with_reducible assumption | omega))
      | ((with_reducible apply T_iteP); exact rfl; all_goals intro _)
      | with_reducible refine S_ret ?_
      | with_reducible refine seq_r ?_
      | with_reducible refine S_exit ?_
      | with_reducible refine seq_e ?_
      | with_reducible refine T_block ?_
      | with_reducible refine blk_1 ?_
      | with_reducible refine blk_0 rfl ?_
      | with_reducible refine blk_n ?_
      | with_reducible refine blk_r ?_
      | with_reducible refine rnd_r ?_
      | with_reducible refine rnd_e ?_
      | ((with_reducible apply G_skip'); exact rfl)
      | ((with_reducible apply G_1tt); exact rfl)
      | ((with_reducible apply G_1ff); exact rfl)
      | ((with_reducible apply G_0tt); exact rfl)
      | ((with_reducible apply G_0ff); exact rfl)
      | ((with_reducible apply G_1y); exact rfl; (first | with_reducible assumption | omega))
      | ((with_reducible apply G_1n); exact rfl; (first | with_reducible assumption | omega))
      | ((with_reducible apply G_0y); exact rfl; (first | with_reducible assumption | omega))
      | ((with_reducible apply G_0n); exact rfl; (first | with_reducible assumption | omega))
      | ((with_reducible apply G_1P); exact rfl; all_goals intro _)
      | ((with_reducible apply G_0P); exact rfl; all_goals intro _)
      | ((with_reducible apply K_pickt); exact rfl; exact rfl)
      | ((with_reducible apply K_pickf); exact rfl; exact rfl)
      | ((with_reducible apply K_pickT); exact rfl; (first | with_reducible assumption | omega); exact rfl)
      | ((with_reducible apply K_pickF); exact rfl; (first | with_reducible assumption | omega); exact rfl)
      | ((with_reducible apply K_lss); exact rfl; exact rfl)
      | ((with_reducible apply K_gtr); exact rfl; exact rfl)
      | ((with_reducible apply K_add); exact rfl; exact rfl; (first | omega | decide))
      | ((with_reducible apply K_addw); exact rfl; exact rfl)
      | ((with_reducible apply K_lenS); exact rfl)
      | ((with_reducible apply K_len_d); exact rfl)
      | ((with_reducible apply K_len_nil); exact rfl)
      | ((with_reducible apply K_len_ref); exact rfl; exact rfl)
      | ((with_reducible apply K_idxA_ref); exact rfl; exact rfl; exact rfl; (first | omega | decide))
      | ((with_reducible apply K_idxA_d); exact rfl; exact rfl; (first | omega | decide))
      | ((with_reducible apply K_load1_ptr); exact rfl; exact rfl; exact rfl)
      | ((with_reducible apply K_load1_fp); exact rfl)
      | ((with_reducible apply K_load1_byte); exact rfl; exact rfl; (first | omega | decide))
      | ((with_reducible apply K_mov_ref); exact rfl)
      | ((with_reducible apply K_mov_ptr); exact rfl)
      | ((with_reducible apply K_mov_yld); exact rfl)
    exact ends_b rfl rfl
set_option maxHeartbeats 2000000 in
set_option maxRecDepth 4000 in
theorem cr45 (d : D) (cs : List Tri) (hd : SL 3 d (dTri cs)) (hl : cs.length ≤ 200) (hs : ∀ k, (cs.getD k (0, 0, [])).2.2.length ≤ 100000) : CR Try.prog 45 [.d d] [] (joinR (fedK cs cs.length)) [] := by
  have e0 : (dTri cs).length = cs.length := by simp
  have hf := fedK_len cs cs.length
  have c := fun q (hq : SL 1 q (dStrs (fedK cs cs.length))) => cr43 q (fedK cs cs.length) hq (by omega) (getD_in (fedK_in hs _))
  have c43 := c _ (SL_slD _ _)
  obtain ⟨r1, x1, hr1⟩ : ∃ (p : List UInt8) (e : Int), joinR (fedK cs cs.length) = .tup [.d (.str p), i64 e] := by
    unfold joinR; split
    · exact ⟨_, _, rfl⟩
    · exact ⟨_, _, rfl⟩
  rw [hr1] at c43 ⊢
  refine fn_cr fn45 (Nat.le_of_ble_eq_true rfl) rfl ?_
  unfold sc45
  repeat' first
    | ((with_reducible apply K_len_SL hd); exact rfl)
    | with_reducible refine T_seq ?_
    | with_reducible refine S_ops ?_
    | with_reducible refine O_step ?_
    | ((with_reducible apply K_mov_d); exact rfl)
    | with_reducible refine O_nil ?_
    | with_reducible refine seq_n ?_
    | with_reducible refine S_skip ?_
    | ((with_reducible apply T_itet); exact rfl)
    | ((with_reducible apply T_itef); exact rfl)
    | ((with_reducible apply T_ite1); exact rfl; (first | with_reducible assumption | omega))
    | ((with_reducible apply T_ite0); exact rfl; (first | with_reducible assumption | omega))
    | ((with_reducible apply T_iteP); exact rfl; all_goals intro _)
    | with_reducible refine S_ret ?_
    | with_reducible refine seq_r ?_
    | with_reducible refine S_exit ?_
    | with_reducible refine seq_e ?_
    | with_reducible refine T_block ?_
    | with_reducible refine blk_1 ?_
    | with_reducible refine blk_0 rfl ?_
    | with_reducible refine blk_n ?_
    | with_reducible refine blk_r ?_
    | with_reducible refine rnd_r ?_
    | with_reducible refine rnd_e ?_
    | ((with_reducible apply K_lss); exact rfl; exact rfl)
    | ((with_reducible apply K_gtr); exact rfl; exact rfl)
    | ((with_reducible apply K_eql); exact rfl; exact rfl)
    | ((with_reducible apply K_eqlS); exact rfl; exact rfl)
    | ((with_reducible apply K_add); exact rfl; exact rfl; (first | omega | decide))
    | ((with_reducible apply K_addw); exact rfl; exact rfl)
    | ((with_reducible apply K_len_d); exact rfl)
    | ((with_reducible apply K_len_nil); exact rfl)
    | ((with_reducible apply K_len_ref); exact rfl; exact rfl)
    | ((with_reducible apply K_idxA_ref); exact rfl; exact rfl; exact rfl; (first | omega | decide))
    | ((with_reducible apply K_idxA_d); exact rfl; exact rfl; (first | omega | decide))
    | ((with_reducible apply K_load1_ptr); exact rfl; exact rfl; exact rfl)
    | ((with_reducible apply K_load1_fp); exact rfl)
    | ((with_reducible apply K_load1_byte); exact rfl; exact rfl; (first | omega | decide))
    | ((with_reducible apply K_mov_ref); exact rfl)
    | ((with_reducible apply K_mov_ptr); exact rfl)
    | ((with_reducible apply K_mov_tup); exact rfl)
    | ((with_reducible apply K_mov_yld); exact rfl)
    | ((with_reducible apply K_ext); exact rfl; exact rfl)
    | ((with_reducible apply K_bslice1); exact rfl; exact rfl)
    | ((with_reducible apply K_bslice); exact rfl)
    | ((with_reducible apply K_fldA_ptr); exact rfl)
    | ((with_reducible apply K_fldA_fp); exact rfl)
  refine T_loop (fun t => Nat.beq t 4 || Nat.beq t 5 || Nat.ble 9 t) [4, 5] (fun u : Nat × AV × St => [u.2.1, i64 u.1]) (fun u => u.2.2) (fun u => u.1 ≤ cs.length ∧ OutT 0 u.2.1 u.2.2 1 (dStrs (fedK cs u.1))) (fun u => cs.length - u.1) (0, .d .nilsl, []) rfl ⟨Nat.zero_le _, .nil _ _ _⟩ rfl rfl ?_
  rintro ⟨m, v, t⟩ g ⟨hm, ho⟩
  dsimp only at hm ho ⊢
  have hfm := fedK_len cs m
  have hfk : fedK cs (m + 1) = fedK cs m ++ (if (cs.getD m (0, 0, [])).1 = 1 then [(cs.getD m (0, 0, [])).2.2] else []) := rfl
  repeat' first
    | ((with_reducible apply K_mov_any v); exact rfl)
    | ((with_reducible apply K_mov_any v2); exact rfl)
    | ((with_reducible apply K_len_SL hd); exact rfl)
    | ((with_reducible apply K_idxA_map triD (0, 0, []) hd); exact rfl; exact rfl; omega)
    | ((with_reducible apply K_app_el (S0 := []) ho); exact rfl; exact rfl; exact rfl; (simp); (rw [List.length_map]; simp only [List.length_singleton]; omega); intro v2 t2 ho2)
    | with_reducible refine T_seq ?_
    | with_reducible refine S_ops ?_
    | with_reducible refine O_step ?_
    | ((with_reducible apply K_mov_d); exact rfl)
    | with_reducible refine O_nil ?_
    | with_reducible refine seq_n ?_
    | with_reducible refine S_skip ?_
    | ((with_reducible apply T_itet); exact rfl)
    | ((with_reducible apply T_itef); exact rfl)
    | ((with_reducible apply T_ite1); exact rfl; (first | with_reducible assumption | omega))
    | ((with_reducible apply T_ite0); exact rfl; (first | with_reducible assumption | omega))
    | ((with_reducible apply T_iteP); exact rfl; all_goals intro _)
    | with_reducible refine S_ret ?_
    | with_reducible refine seq_r ?_
    | with_reducible refine S_exit ?_
    | with_reducible refine seq_e ?_
    | with_reducible refine T_block ?_
    | with_reducible refine blk_1 ?_
    | with_reducible refine blk_0 rfl ?_
    | with_reducible refine blk_n ?_
    | with_reducible refine blk_r ?_
    | with_reducible refine rnd_r ?_
    | with_reducible refine rnd_e ?_
    | ((with_reducible apply K_lss); exact rfl; exact rfl)
    | ((with_reducible apply K_gtr); exact rfl; exact rfl)
    | ((with_reducible apply K_eql); exact rfl; exact rfl)
    | ((with_reducible apply K_eqlS); exact rfl; exact rfl)
    | ((with_reducible apply K_add); exact rfl; exact rfl; (first | omega | decide))
    | ((with_reducible apply K_addw); exact rfl; exact rfl)
    | ((with_reducible apply K_len_d); exact rfl)
    | ((with_reducible apply K_len_nil); exact rfl)
    | ((with_reducible apply K_len_ref); exact rfl; exact rfl)
    | ((with_reducible apply K_idxA_ref); exact rfl; exact rfl; exact rfl; (first | omega | decide))
    | ((with_reducible apply K_idxA_d); exact rfl; exact rfl; (first | omega | decide))
    | ((with_reducible apply K_load1_ptr); exact rfl; exact rfl; exact rfl)
    | ((with_reducible apply K_load1_fp); exact rfl)
    | ((with_reducible apply K_load1_byte); exact rfl; exact rfl; (first | omega | decide))
    | ((with_reducible apply K_mov_ref); exact rfl)
    | ((with_reducible apply K_mov_ptr); exact rfl)
    | ((with_reducible apply K_mov_tup); exact rfl)
    | ((with_reducible apply K_mov_yld); exact rfl)
    | ((with_reducible apply K_ext); exact rfl; exact rfl)
    | ((with_reducible apply K_bslice1); exact rfl; exact rfl)
    | ((with_reducible apply K_bslice); exact rfl)
    | ((with_reducible apply K_fldA_ptr); exact rfl)
    | ((with_reducible apply K_fldA_fp); exact rfl)
  · refine rnd_n (m + 1, v2, t2) ⟨⟨by dsimp only; omega, ?_⟩, by dsimp only; omega⟩ rfl rfl
    dsimp only
    rw [hfk, if_pos (by assumption)]
    show OutT 0 v2 t2 1 (List.map _ (_ ++ _))
    rw [List.map_append]
    exact ho2
  · refine rnd_n (m + 1, v, t) ⟨⟨by dsimp only; omega, ?_⟩, by dsimp only; omega⟩ rfl rfl
    dsimp only
    rw [hfk, if_neg (by assumption), List.append_nil]
    exact ho
  · have hme : m = cs.length := by omega
    subst hme
    repeat' first
      | ((with_reducible apply K_mov_any v); exact rfl)
      | ((with_reducible apply K_call_out1 (f := 43) (S0 := []) ho); exact rfl; exact rfl; exact c43; exact rfl; exact rfl)
      | with_reducible refine T_seq ?_
      | with_reducible refine S_ops ?_
      | with_reducible refine O_step ?_
      | ((with_reducible apply K_mov_d); exact rfl)
      | with_reducible refine O_nil ?_
      | with_reducible refine seq_n ?_
      | with_reducible refine S_skip ?_
      | ((with_reducible apply T_itet); exact rfl)
      | ((with_reducible apply T_itef); exact rfl)
      | ((with_reducible apply T_ite1); exact rfl; (first | with_reducible assumption | omega))
      | ((with_reducible apply T_ite0); exact rfl; (first | with_reducible assumption | omega))
      | ((with_reducible apply T_iteP); exact rfl; all_goals intro _)
      | with_reducible refine S_ret ?_
      | with_reducible refine seq_r ?_
      | with_reducible refine S_exit ?_
      | with_reducible refine seq_e ?_
      | with_reducible refine T_block ?_
      | with_reducible refine blk_1 ?_
      | with_reducible refine blk_0 rfl ?_
      | with_reducible refine blk_n ?_
      | with_reducible refine blk_r ?_
      | with_reducible refine rnd_r ?_
      | with_reducible refine rnd_e ?_
      | ((with_reducible apply K_lss); exact rfl; exact rfl)
      | ((with_reducible apply K_gtr); exact rfl; exact rfl)
      | ((with_reducible apply K_eql); exact rfl; exact rfl)
      | ((with_reducible apply K_eqlS); exact rfl; exact rfl)
      | ((with_reducible apply K_add); exact rfl; exact rfl; (first | omega | decide))
      | ((with_reducible apply K_addw); exact rfl; exact rfl)
      | ((with_reducible apply K_len_d); exact rfl)
      | ((with_reducible apply K_len_nil); exact rfl)
      | ((with_reducible apply K_len_ref); exact rfl; exact rfl)
      | ((with_reducible apply K_idxA_ref); exact rfl; exact rfl; exact rfl; (first | omega | decide))
      | ((with_reducible apply K_idxA_d); exact rfl; exact rfl; (first | omega | decide))
      | ((with_reducible apply K_load1_ptr); exact rfl; exact rfl; exact rfl)
      | ((with_reducible apply K_load1_fp); exact rfl)
      | ((with_reducible apply K_load1_byte); exact rfl; exact rfl; (first | omega | decide))
      | ((with_reducible apply K_mov_ref); exact rfl)
      | ((with_reducible apply K_mov_ptr); exact rfl)
      | ((with_reducible apply K_mov_tup); exact rfl)
      | ((with_reducible apply K_mov_yld); exact rfl)
      | ((with_reducible apply K_ext); exact rfl; exact rfl)
      | ((with_reducible apply K_bslice1); exact rfl; exact rfl)
      | ((with_reducible apply K_bslice); exact rfl)
      | ((with_reducible apply K_fldA_ptr); exact rfl)
      | ((with_reducible apply K_fldA_fp); exact rfl)
    exact ends_2 rfl
end Go.Abs
/- The law on joining. -/
set_option linter.unusedVariables false
namespace Go.Abs
open Go.Proofs
abbrev fedR (cs : List Tri) : AV := if cs.length ≤ 200 then joinR (fedK cs cs.length) else .tup [.d (.str []), i64 6]
theorem joinR_R (l : List (List UInt8)) : ∃ (p : List UInt8) (e : Int), joinR l = .tup [.d (.str p), i64 e] := by
  unfold joinR; split
  · exact ⟨_, _, rfl⟩
  · exact ⟨_, _, rfl⟩
theorem fed_R (d1 d2 : D) (cs : List Tri) (h1 : SL 3 d1 (dTri cs)) (h2 : SL 3 d2 (dTri cs)) (hs : ∀ k, (cs.getD k (0, 0, [])).2.2.length ≤ 100000) :
    ∃ (p : List UInt8) (e : Int), CR Try.prog 44 [.d d1] [] (.tup [.d (.str p), i64 e]) [] ∧ CR Try.prog 45 [.d d2] [] (.tup [.d (.str p), i64 e]) [] := by
  by_cases h : cs.length ≤ 200
  · obtain ⟨p, e, hp⟩ := joinR_R (fedK cs cs.length)
    have a := cr44 d1 cs h1 h hs
    have b := cr45 d2 cs h2 h hs
    rw [hp] at a b
    exact ⟨p, e, a, b⟩
  · exact ⟨[], 6, cr44x d1 cs h1 (by omega), cr45x d2 cs h2 (by omega)⟩
section
variable {E : Env} {fr : Fr} {S S0 t : St} {K : AV → St → Prop} {x y z : Opd} {v : AV} {es : Nat} {l : List D}
/-- An own row of whatever length, behind other objects. -/
def RowT (S : St) (v : AV) (es : Nat) (l : List D) : Prop := ∃ i g, v = .ref i g 0 l.length ∧ S[i]? = some (.arr g es l)
theorem K_app_row {bs n : Nat} {d : D} (hd : SL es d l) (e : ld fr x = .ref S0.length 0 0 0) (e2 : ld fr y = .d d) (hS : S = S0 ++ [.arr 0 es []]) (hb : l.length * bs ≤ 140737488355328)
    (hK : ∀ v' S', RowT S' v' es l → K v' S') : stepK E fr S (.app es bs x y) K := by
  subst hS
  refine K_app_in (n := 0) (g := 0) (ol := []) hd e e2 (by simp) rfl (by simpa using hb) (fun h => hK _ _ ?_) (fun h => hK _ _ ?_)
  · subst h; exact ⟨S0.length, 0, rfl, by simp⟩
  · exact ⟨S0.length, 1, by simp, by simp⟩
theorem lend_row (h : RowT S v es l) : lend [] S v = some (.d (.sl es l)) := by
  obtain ⟨i, g, rfl, h2⟩ := h
  have h3 : rd S i = some (g, es, l) := by unfold rd; rw [h2]
  simp [lend, window, h3]
theorem K_call_row {f : Nat} {args : List Opd} {r : AV} (h : RowT S v es l) (e0 : args.map (ld fr) = [v]) (hc : E.call f [.d (.sl es l)] [] r []) (hok : r.okr = true) (hf : r.flat = true) (hK : K (sh2 [] S.length r) S) : stepK E fr S (.call f args) K := by
  refine K_call_l ?_ ?_ hc hok hf hK
  · rw [e0]; obtain ⟨i, g, rfl, _⟩ := h; rfl
  · rw [e0]; simp [lendAll, lend_row h]
theorem K_call_row2 {f : Nat} {args : List Opd} {r : AV} {d : D} (h : RowT S v es l) (e0 : args.map (ld fr) = [v, .d d]) (hc : E.call f [.d (.sl es l), .d d] [] r []) (hok : r.okr = true) (hf : r.flat = true) (hK : K (sh2 [] S.length r) S) : stepK E fr S (.call f args) K := by
  refine K_call_l ?_ ?_ hc hok hf hK
  · rw [e0]; obtain ⟨i, g, rfl, _⟩ := h; rfl
  · rw [e0]
    have e3 : lend [] S (.d d) = some (.d d) := rfl
    simp [lendAll, lend_row h, e3]
/-- A call with a row of one that was just made. -/
theorem K_call_one {f : Nat} {args : List Opd} {r : AV} {u : D} (hS : S = S0 ++ [.arr 0 1 [u]]) (e0 : args.map (ld fr) = [.ref S0.length 0 0 1]) (hc : E.call f [.d (.sl 1 [u])] [] r []) (hok : r.okr = true) (hf : r.flat = true) (hK : K (sh2 [] S.length r) S) : stepK E fr S (.call f args) K := by
  refine K_call_row (v := .ref S0.length 0 0 1) (es := 1) (l := [u]) ⟨S0.length, 0, rfl, by rw [hS]; simp⟩ e0 hc hok hf hK
end
set_option maxHeartbeats 4000000 in
set_option maxRecDepth 4000 in
theorem cr8 (d1 d2 : D) (l : List (List UInt8)) (cs : List Tri) (h1 : SL 1 d1 (dStrs l)) (h2 : SL 3 d2 (dTri cs)) (hb1 : l.length < 9223372036854775808) (hb2 : cs.length < 9223372036854775808) : CR Try.prog 8 [.d d1, .d d2] [] (.d (.bool true)) [] := by
  have e1 : (dStrs l).length = l.length := by simp
  have e2 : (dTri cs).length = cs.length := by simp
  by_cases hg : l.length > 20 ∨ cs.length > 205
  · refine fn_cr fn8 (Nat.le_of_ble_eq_true rfl) rfl ?_
    unfold sc8
    repeat' first
      | ((with_reducible apply G_1y); exact rfl; (first | with_reducible assumption | omega))
      | ((with_reducible apply G_1n); exact rfl; (first | with_reducible assumption | omega))
      | ((with_reducible apply G_0y); exact rfl; (first | with_reducible assumption | omega))
      | ((with_reducible apply G_0n); exact rfl; (first | with_reducible assumption | omega))
      | ((with_reducible apply G_1P); exact rfl; all_goals intro _)
      | ((with_reducible apply G_0P); exact rfl; all_goals intro _)
      | ((with_reducible apply DG_1y); exact rfl; (first | with_reducible assumption | omega))
      | ((with_reducible apply DG_1n); exact rfl; (first | with_reducible assumption | omega))
      | ((with_reducible apply DG_0y); exact rfl; (first | with_reducible assumption | omega))
      | ((with_reducible apply DG_0n); exact rfl; (first | with_reducible assumption | omega))
      | ((with_reducible apply DG_1P); exact rfl; all_goals intro _)
      | ((with_reducible apply DG_0P); exact rfl; all_goals intro _)
      | ((with_reducible apply K_pickT); exact rfl; (first | with_reducible assumption | omega); exact rfl)
      | ((with_reducible apply K_pickF); exact rfl; (first | with_reducible assumption | omega); exact rfl)
      | ((with_reducible apply T_ite1); exact rfl; (first | with_reducible assumption | omega))
      | ((with_reducible apply T_ite0); exact rfl; (first | with_reducible assumption | omega))
      | ((with_reducible apply T_iteP); exact rfl; all_goals intro _)
      | ((with_reducible apply K_len_SL h1); exact rfl)
      | ((with_reducible apply K_len_SL h2); exact rfl)
      | ((with_reducible apply K_call_0 (f := 27) (ys := [])); exact rfl; exact cr27; exact rfl)
      | with_reducible refine T_seq ?_
      | with_reducible refine S_ops ?_
      | with_reducible refine O_step ?_
      | ((with_reducible apply K_mov_d); exact rfl)
      | with_reducible refine O_nil ?_
      | with_reducible refine seq_n ?_
      | with_reducible refine S_skip ?_
      | ((with_reducible apply T_itet); exact rfl)
      | ((with_reducible apply T_itef); exact rfl)
      | ((with_reducible apply T_ite1); exact rfl; (first | with_reducible assumption | omega))
      | ((with_reducible apply T_ite0); exact rfl; (first | with_reducible assumption | omega))
      | ((with_reducible apply T_iteP); exact rfl; all_goals intro _)
      | with_reducible refine S_ret ?_
      | with_reducible refine seq_r ?_
      | with_reducible refine S_exit ?_
      | with_reducible refine seq_e ?_
      | with_reducible refine T_block ?_
      | with_reducible refine blk_1 ?_
      | with_reducible refine blk_0 rfl ?_
      | with_reducible refine blk_n ?_
      | with_reducible refine blk_r ?_
      | with_reducible refine rnd_r ?_
      | with_reducible refine rnd_e ?_
      | ((with_reducible apply G_skip'); exact rfl)
      | ((with_reducible apply G_1tt); exact rfl)
      | ((with_reducible apply G_1ff); exact rfl)
      | ((with_reducible apply G_0tt); exact rfl)
      | ((with_reducible apply G_0ff); exact rfl)
      | ((with_reducible apply G_1y); exact rfl; (first | with_reducible assumption | omega))
      | ((with_reducible apply G_1n); exact rfl; (first | with_reducible assumption | omega))
      | ((with_reducible apply G_0y); exact rfl; (first | with_reducible assumption | omega))
      | ((with_reducible apply G_0n); exact rfl; (first | with_reducible assumption | omega))
      | ((with_reducible apply G_1P); exact rfl; all_goals intro _)
      | ((with_reducible apply G_0P); exact rfl; all_goals intro _)
      | ((with_reducible apply K_pickt); exact rfl; exact rfl)
      | ((with_reducible apply K_pickf); exact rfl; exact rfl)
      | ((with_reducible apply K_pickT); exact rfl; (first | with_reducible assumption | omega); exact rfl)
      | ((with_reducible apply K_pickF); exact rfl; (first | with_reducible assumption | omega); exact rfl)
      | ((with_reducible apply K_lss); exact rfl; exact rfl)
      | ((with_reducible apply K_gtr); exact rfl; exact rfl)
      | ((with_reducible apply K_eql); exact rfl; exact rfl)
      | ((with_reducible apply K_eqlS); exact rfl; exact rfl)
      | ((with_reducible apply K_add); exact rfl; exact rfl; (first | omega | decide))
      | ((with_reducible apply K_addw); exact rfl; exact rfl)
      | ((with_reducible apply K_not_t); exact rfl)
      | ((with_reducible apply K_not_f); exact rfl)
      | ((with_reducible apply K_notP); exact rfl)
      | ((with_reducible apply K_len_d); exact rfl)
      | ((with_reducible apply K_len_nil); exact rfl)
      | ((with_reducible apply K_len_ref); exact rfl; exact rfl)
      | ((with_reducible apply K_idxA_ref); exact rfl; exact rfl; exact rfl; (first | omega | decide))
      | ((with_reducible apply K_idxA_d); exact rfl; exact rfl; (first | omega | decide))
      | ((with_reducible apply K_load1_ptr); exact rfl; exact rfl; exact rfl)
      | ((with_reducible apply K_load1_fp); exact rfl)
      | ((with_reducible apply K_load1_byte); exact rfl; exact rfl; (first | omega | decide))
      | ((with_reducible apply K_mov_ref); exact rfl)
      | ((with_reducible apply K_mov_ptr); exact rfl)
      | ((with_reducible apply K_mov_tup); exact rfl)
      | ((with_reducible apply K_mov_yld); exact rfl)
      | ((with_reducible apply K_ext); exact rfl; exact rfl)
      | ((with_reducible apply K_bslice1); exact rfl; exact rfl)
      | ((with_reducible apply K_bslice); exact rfl)
      | ((with_reducible apply K_fldA_ptr); exact rfl)
      | ((with_reducible apply K_fldA_fp); exact rfl)
    all_goals exact ends_b rfl rfl
  · have c40 := cr40 d1 l h1 (by omega)
    cases hsk : shortK l with
    | false =>
      rw [hsk] at c40
      refine fn_cr fn8 (Nat.le_of_ble_eq_true rfl) rfl ?_
      unfold sc8
      repeat' first
        | ((with_reducible apply G_1y); exact rfl; (first | with_reducible assumption | omega))
        | ((with_reducible apply G_1n); exact rfl; (first | with_reducible assumption | omega))
        | ((with_reducible apply G_0y); exact rfl; (first | with_reducible assumption | omega))
        | ((with_reducible apply G_0n); exact rfl; (first | with_reducible assumption | omega))
        | ((with_reducible apply G_1P); exact rfl; all_goals intro _)
        | ((with_reducible apply G_0P); exact rfl; all_goals intro _)
        | ((with_reducible apply DG_1y); exact rfl; (first | with_reducible assumption | omega))
        | ((with_reducible apply DG_1n); exact rfl; (first | with_reducible assumption | omega))
        | ((with_reducible apply DG_0y); exact rfl; (first | with_reducible assumption | omega))
        | ((with_reducible apply DG_0n); exact rfl; (first | with_reducible assumption | omega))
        | ((with_reducible apply DG_1P); exact rfl; all_goals intro _)
        | ((with_reducible apply DG_0P); exact rfl; all_goals intro _)
        | ((with_reducible apply K_pickT); exact rfl; (first | with_reducible assumption | omega); exact rfl)
        | ((with_reducible apply K_pickF); exact rfl; (first | with_reducible assumption | omega); exact rfl)
        | ((with_reducible apply T_ite1); exact rfl; (first | with_reducible assumption | omega))
        | ((with_reducible apply T_ite0); exact rfl; (first | with_reducible assumption | omega))
        | ((with_reducible apply T_iteP); exact rfl; all_goals intro _)
        | ((with_reducible apply K_len_SL h1); exact rfl)
        | ((with_reducible apply K_len_SL h2); exact rfl)
        | ((with_reducible apply K_call_0 (f := 40) (ys := [d1])); exact rfl; exact c40; exact rfl)
        | ((with_reducible apply K_call_0 (f := 27) (ys := [])); exact rfl; exact cr27; exact rfl)
        | with_reducible refine T_seq ?_
        | with_reducible refine S_ops ?_
        | with_reducible refine O_step ?_
        | ((with_reducible apply K_mov_d); exact rfl)
        | with_reducible refine O_nil ?_
        | with_reducible refine seq_n ?_
        | with_reducible refine S_skip ?_
        | ((with_reducible apply T_itet); exact rfl)
        | ((with_reducible apply T_itef); exact rfl)
        | ((with_reducible apply T_ite1); exact rfl; (first | with_reducible assumption | omega))
        | ((with_reducible apply T_ite0); exact rfl; (first | with_reducible assumption | omega))
        | ((with_reducible apply T_iteP); exact rfl; all_goals intro _)
        | with_reducible refine S_ret ?_
        | with_reducible refine seq_r ?_
        | with_reducible refine S_exit ?_
        | with_reducible refine seq_e ?_
        | with_reducible refine T_block ?_
        | with_reducible refine blk_1 ?_
        | with_reducible refine blk_0 rfl ?_
        | with_reducible refine blk_n ?_
        | with_reducible refine blk_r ?_
        | with_reducible refine rnd_r ?_
        | with_reducible refine rnd_e ?_
        | ((with_reducible apply G_skip'); exact rfl)
        | ((with_reducible apply G_1tt); exact rfl)
        | ((with_reducible apply G_1ff); exact rfl)
        | ((with_reducible apply G_0tt); exact rfl)
        | ((with_reducible apply G_0ff); exact rfl)
        | ((with_reducible apply G_1y); exact rfl; (first | with_reducible assumption | omega))
        | ((with_reducible apply G_1n); exact rfl; (first | with_reducible assumption | omega))
        | ((with_reducible apply G_0y); exact rfl; (first | with_reducible assumption | omega))
        | ((with_reducible apply G_0n); exact rfl; (first | with_reducible assumption | omega))
        | ((with_reducible apply G_1P); exact rfl; all_goals intro _)
        | ((with_reducible apply G_0P); exact rfl; all_goals intro _)
        | ((with_reducible apply K_pickt); exact rfl; exact rfl)
        | ((with_reducible apply K_pickf); exact rfl; exact rfl)
        | ((with_reducible apply K_pickT); exact rfl; (first | with_reducible assumption | omega); exact rfl)
        | ((with_reducible apply K_pickF); exact rfl; (first | with_reducible assumption | omega); exact rfl)
        | ((with_reducible apply K_lss); exact rfl; exact rfl)
        | ((with_reducible apply K_gtr); exact rfl; exact rfl)
        | ((with_reducible apply K_eql); exact rfl; exact rfl)
        | ((with_reducible apply K_eqlS); exact rfl; exact rfl)
        | ((with_reducible apply K_add); exact rfl; exact rfl; (first | omega | decide))
        | ((with_reducible apply K_addw); exact rfl; exact rfl)
        | ((with_reducible apply K_not_t); exact rfl)
        | ((with_reducible apply K_not_f); exact rfl)
        | ((with_reducible apply K_notP); exact rfl)
        | ((with_reducible apply K_len_d); exact rfl)
        | ((with_reducible apply K_len_nil); exact rfl)
        | ((with_reducible apply K_len_ref); exact rfl; exact rfl)
        | ((with_reducible apply K_idxA_ref); exact rfl; exact rfl; exact rfl; (first | omega | decide))
        | ((with_reducible apply K_idxA_d); exact rfl; exact rfl; (first | omega | decide))
        | ((with_reducible apply K_load1_ptr); exact rfl; exact rfl; exact rfl)
        | ((with_reducible apply K_load1_fp); exact rfl)
        | ((with_reducible apply K_load1_byte); exact rfl; exact rfl; (first | omega | decide))
        | ((with_reducible apply K_mov_ref); exact rfl)
        | ((with_reducible apply K_mov_ptr); exact rfl)
        | ((with_reducible apply K_mov_tup); exact rfl)
        | ((with_reducible apply K_mov_yld); exact rfl)
        | ((with_reducible apply K_ext); exact rfl; exact rfl)
        | ((with_reducible apply K_bslice1); exact rfl; exact rfl)
        | ((with_reducible apply K_bslice); exact rfl)
        | ((with_reducible apply K_fldA_ptr); exact rfl)
        | ((with_reducible apply K_fldA_fp); exact rfl)
      all_goals exact ends_b rfl rfl
    | true =>
      rw [hsk] at c40
      have hin : ∀ s ∈ l, s.length ≤ 100000 := fun s hs => by
        have := shortP_t (List.all_eq_true.1 hsk s hs); omega
      refine fn_cr fn8 (Nat.le_of_ble_eq_true rfl) rfl ?_
      unfold sc8
      repeat' first
        | ((with_reducible apply G_1y); exact rfl; (first | with_reducible assumption | omega))
        | ((with_reducible apply G_1n); exact rfl; (first | with_reducible assumption | omega))
        | ((with_reducible apply G_0y); exact rfl; (first | with_reducible assumption | omega))
        | ((with_reducible apply G_0n); exact rfl; (first | with_reducible assumption | omega))
        | ((with_reducible apply G_1P); exact rfl; all_goals intro _)
        | ((with_reducible apply G_0P); exact rfl; all_goals intro _)
        | ((with_reducible apply DG_1y); exact rfl; (first | with_reducible assumption | omega))
        | ((with_reducible apply DG_1n); exact rfl; (first | with_reducible assumption | omega))
        | ((with_reducible apply DG_0y); exact rfl; (first | with_reducible assumption | omega))
        | ((with_reducible apply DG_0n); exact rfl; (first | with_reducible assumption | omega))
        | ((with_reducible apply DG_1P); exact rfl; all_goals intro _)
        | ((with_reducible apply DG_0P); exact rfl; all_goals intro _)
        | ((with_reducible apply K_pickT); exact rfl; (first | with_reducible assumption | omega); exact rfl)
        | ((with_reducible apply K_pickF); exact rfl; (first | with_reducible assumption | omega); exact rfl)
        | ((with_reducible apply T_ite1); exact rfl; (first | with_reducible assumption | omega))
        | ((with_reducible apply T_ite0); exact rfl; (first | with_reducible assumption | omega))
        | ((with_reducible apply T_iteP); exact rfl; all_goals intro _)
        | ((with_reducible apply K_len_SL h1); exact rfl)
        | ((with_reducible apply K_len_SL h2); exact rfl)
        | ((with_reducible apply K_call_0 (f := 40) (ys := [d1])); exact rfl; exact c40; exact rfl)
        | with_reducible refine T_seq ?_
        | with_reducible refine S_ops ?_
        | with_reducible refine O_step ?_
        | ((with_reducible apply K_mov_d); exact rfl)
        | with_reducible refine O_nil ?_
        | with_reducible refine seq_n ?_
        | with_reducible refine S_skip ?_
        | ((with_reducible apply T_itet); exact rfl)
        | ((with_reducible apply T_itef); exact rfl)
        | ((with_reducible apply T_ite1); exact rfl; (first | with_reducible assumption | omega))
        | ((with_reducible apply T_ite0); exact rfl; (first | with_reducible assumption | omega))
        | ((with_reducible apply T_iteP); exact rfl; all_goals intro _)
        | with_reducible refine S_ret ?_
        | with_reducible refine seq_r ?_
        | with_reducible refine S_exit ?_
        | with_reducible refine seq_e ?_
        | with_reducible refine T_block ?_
        | with_reducible refine blk_1 ?_
        | with_reducible refine blk_0 rfl ?_
        | with_reducible refine blk_n ?_
        | with_reducible refine blk_r ?_
        | with_reducible refine rnd_r ?_
        | with_reducible refine rnd_e ?_
        | ((with_reducible apply G_skip'); exact rfl)
        | ((with_reducible apply G_1tt); exact rfl)
        | ((with_reducible apply G_1ff); exact rfl)
        | ((with_reducible apply G_0tt); exact rfl)
        | ((with_reducible apply G_0ff); exact rfl)
        | ((with_reducible apply G_1y); exact rfl; (first | with_reducible assumption | omega))
        | ((with_reducible apply G_1n); exact rfl; (first | with_reducible assumption | omega))
        | ((with_reducible apply G_0y); exact rfl; (first | with_reducible assumption | omega))
        | ((with_reducible apply G_0n); exact rfl; (first | with_reducible assumption | omega))
        | ((with_reducible apply G_1P); exact rfl; all_goals intro _)
        | ((with_reducible apply G_0P); exact rfl; all_goals intro _)
        | ((with_reducible apply K_pickt); exact rfl; exact rfl)
        | ((with_reducible apply K_pickf); exact rfl; exact rfl)
        | ((with_reducible apply K_pickT); exact rfl; (first | with_reducible assumption | omega); exact rfl)
        | ((with_reducible apply K_pickF); exact rfl; (first | with_reducible assumption | omega); exact rfl)
        | ((with_reducible apply K_lss); exact rfl; exact rfl)
        | ((with_reducible apply K_gtr); exact rfl; exact rfl)
        | ((with_reducible apply K_eql); exact rfl; exact rfl)
        | ((with_reducible apply K_eqlS); exact rfl; exact rfl)
        | ((with_reducible apply K_add); exact rfl; exact rfl; (first | omega | decide))
        | ((with_reducible apply K_addw); exact rfl; exact rfl)
        | ((with_reducible apply K_not_t); exact rfl)
        | ((with_reducible apply K_not_f); exact rfl)
        | ((with_reducible apply K_notP); exact rfl)
        | ((with_reducible apply K_len_d); exact rfl)
        | ((with_reducible apply K_len_nil); exact rfl)
        | ((with_reducible apply K_len_ref); exact rfl; exact rfl)
        | ((with_reducible apply K_idxA_ref); exact rfl; exact rfl; exact rfl; (first | omega | decide))
        | ((with_reducible apply K_idxA_d); exact rfl; exact rfl; (first | omega | decide))
        | ((with_reducible apply K_load1_ptr); exact rfl; exact rfl; exact rfl)
        | ((with_reducible apply K_load1_fp); exact rfl)
        | ((with_reducible apply K_load1_byte); exact rfl; exact rfl; (first | omega | decide))
        | ((with_reducible apply K_mov_ref); exact rfl)
        | ((with_reducible apply K_mov_ptr); exact rfl)
        | ((with_reducible apply K_mov_tup); exact rfl)
        | ((with_reducible apply K_mov_yld); exact rfl)
        | ((with_reducible apply K_ext); exact rfl; exact rfl)
        | ((with_reducible apply K_bslice1); exact rfl; exact rfl)
        | ((with_reducible apply K_bslice); exact rfl)
        | ((with_reducible apply K_fldA_ptr); exact rfl)
        | ((with_reducible apply K_fldA_fp); exact rfl)
      refine T_loop (fun t => Nat.beq t 4 || Nat.beq t 5 || Nat.ble 30 t) [5] (fun u : Nat × St => [i64 u.1]) (fun u => u.2) (fun u => u.1 ≤ cs.length ∧ ∀ k, k < u.1 → (cs.getD k (0, 0, [])).2.2.length ≤ 100000) (fun u => cs.length - u.1) (0, []) rfl ⟨Nat.zero_le _, fun k hk => by omega⟩ rfl rfl ?_
      rintro ⟨m, t⟩ g ⟨hm, hsh⟩
      dsimp only at hm hsh ⊢
      by_cases hlt : m < cs.length
      · have c40b := cr40 (.sl 1 (dStrs [(cs.getD m (0, 0, [])).2.2])) [(cs.getD m (0, 0, [])).2.2] (.inr rfl) (by simp)
        cases hsb : shortK [(cs.getD m (0, 0, [])).2.2] with
        | false =>
          rw [hsb] at c40b
          repeat' first
            | ((with_reducible apply G_1y); exact rfl; (first | with_reducible assumption | omega))
            | ((with_reducible apply G_1n); exact rfl; (first | with_reducible assumption | omega))
            | ((with_reducible apply G_0y); exact rfl; (first | with_reducible assumption | omega))
            | ((with_reducible apply G_0n); exact rfl; (first | with_reducible assumption | omega))
            | ((with_reducible apply G_1P); exact rfl; all_goals intro _)
            | ((with_reducible apply G_0P); exact rfl; all_goals intro _)
            | ((with_reducible apply DG_1y); exact rfl; (first | with_reducible assumption | omega))
            | ((with_reducible apply DG_1n); exact rfl; (first | with_reducible assumption | omega))
            | ((with_reducible apply DG_0y); exact rfl; (first | with_reducible assumption | omega))
            | ((with_reducible apply DG_0n); exact rfl; (first | with_reducible assumption | omega))
            | ((with_reducible apply DG_1P); exact rfl; all_goals intro _)
            | ((with_reducible apply DG_0P); exact rfl; all_goals intro _)
            | ((with_reducible apply K_pickT); exact rfl; (first | with_reducible assumption | omega); exact rfl)
            | ((with_reducible apply K_pickF); exact rfl; (first | with_reducible assumption | omega); exact rfl)
            | ((with_reducible apply T_ite1); exact rfl; (first | with_reducible assumption | omega))
            | ((with_reducible apply T_ite0); exact rfl; (first | with_reducible assumption | omega))
            | ((with_reducible apply T_iteP); exact rfl; all_goals intro _)
            | ((with_reducible apply K_len_SL h2); exact rfl)
            | ((with_reducible apply K_idxA_map triD (0, 0, []) h2); exact rfl; exact rfl; omega)
            | ((with_reducible apply K_call_one (f := 40) (S0 := t) rfl); exact rfl; exact c40b; exact rfl; exact rfl)
            | ((with_reducible apply K_call_0 (f := 27) (ys := [])); exact rfl; exact cr27; exact rfl)
            | with_reducible refine T_seq ?_
            | with_reducible refine S_ops ?_
            | with_reducible refine O_step ?_
            | ((with_reducible apply K_mov_d); exact rfl)
            | with_reducible refine O_nil ?_
            | with_reducible refine seq_n ?_
            | with_reducible refine S_skip ?_
            | ((with_reducible apply T_itet); exact rfl)
            | ((with_reducible apply T_itef); exact rfl)
            | ((with_reducible apply T_ite1); exact rfl; (first | with_reducible assumption | omega))
            | ((with_reducible apply T_ite0); exact rfl; (first | with_reducible assumption | omega))
            | ((with_reducible apply T_iteP); exact rfl; all_goals intro _)
            | with_reducible refine S_ret ?_
            | with_reducible refine seq_r ?_
            | with_reducible refine S_exit ?_
            | with_reducible refine seq_e ?_
            | with_reducible refine T_block ?_
            | with_reducible refine blk_1 ?_
            | with_reducible refine blk_0 rfl ?_
            | with_reducible refine blk_n ?_
            | with_reducible refine blk_r ?_
            | with_reducible refine rnd_r ?_
            | with_reducible refine rnd_e ?_
            | ((with_reducible apply G_skip'); exact rfl)
            | ((with_reducible apply G_1tt); exact rfl)
            | ((with_reducible apply G_1ff); exact rfl)
            | ((with_reducible apply G_0tt); exact rfl)
            | ((with_reducible apply G_0ff); exact rfl)
            | ((with_reducible apply G_1y); exact rfl; (first | with_reducible assumption | omega))
            | ((with_reducible apply G_1n); exact rfl; (first | with_reducible assumption | omega))
            | ((with_reducible apply G_0y); exact rfl; (first | with_reducible assumption | omega))
            | ((with_reducible apply G_0n); exact rfl; (first | with_reducible assumption | omega))
            | ((with_reducible apply G_1P); exact rfl; all_goals intro _)
            | ((with_reducible apply G_0P); exact rfl; all_goals intro _)
            | ((with_reducible apply K_pickt); exact rfl; exact rfl)
            | ((with_reducible apply K_pickf); exact rfl; exact rfl)
            | ((with_reducible apply K_pickT); exact rfl; (first | with_reducible assumption | omega); exact rfl)
            | ((with_reducible apply K_pickF); exact rfl; (first | with_reducible assumption | omega); exact rfl)
            | ((with_reducible apply K_lss); exact rfl; exact rfl)
            | ((with_reducible apply K_gtr); exact rfl; exact rfl)
            | ((with_reducible apply K_eql); exact rfl; exact rfl)
            | ((with_reducible apply K_eqlS); exact rfl; exact rfl)
            | ((with_reducible apply K_add); exact rfl; exact rfl; (first | omega | decide))
            | ((with_reducible apply K_addw); exact rfl; exact rfl)
            | ((with_reducible apply K_not_t); exact rfl)
            | ((with_reducible apply K_not_f); exact rfl)
            | ((with_reducible apply K_notP); exact rfl)
            | ((with_reducible apply K_len_d); exact rfl)
            | ((with_reducible apply K_len_nil); exact rfl)
            | ((with_reducible apply K_len_ref); exact rfl; exact rfl)
            | ((with_reducible apply K_idxA_ref); exact rfl; exact rfl; exact rfl; (first | omega | decide))
            | ((with_reducible apply K_idxA_d); exact rfl; exact rfl; (first | omega | decide))
            | ((with_reducible apply K_load1_ptr); exact rfl; exact rfl; exact rfl)
            | ((with_reducible apply K_load1_fp); exact rfl)
            | ((with_reducible apply K_load1_byte); exact rfl; exact rfl; (first | omega | decide))
            | ((with_reducible apply K_mov_ref); exact rfl)
            | ((with_reducible apply K_mov_ptr); exact rfl)
            | ((with_reducible apply K_mov_tup); exact rfl)
            | ((with_reducible apply K_mov_yld); exact rfl)
            | ((with_reducible apply K_ext); exact rfl; exact rfl)
            | ((with_reducible apply K_bslice1); exact rfl; exact rfl)
            | ((with_reducible apply K_bslice); exact rfl)
            | ((with_reducible apply K_fldA_ptr); exact rfl)
            | ((with_reducible apply K_fldA_fp); exact rfl)
          all_goals exact ends_b rfl rfl
        | true =>
          have hs1 : (cs.getD m (0, 0, [])).2.2.length ≤ 100000 := by
            have := shortP_t (List.all_eq_true.1 hsb _ (List.mem_singleton.2 rfl)); omega
          rw [hsb] at c40b
          repeat' first
            | ((with_reducible apply G_1y); exact rfl; (first | with_reducible assumption | omega))
            | ((with_reducible apply G_1n); exact rfl; (first | with_reducible assumption | omega))
            | ((with_reducible apply G_0y); exact rfl; (first | with_reducible assumption | omega))
            | ((with_reducible apply G_0n); exact rfl; (first | with_reducible assumption | omega))
            | ((with_reducible apply G_1P); exact rfl; all_goals intro _)
            | ((with_reducible apply G_0P); exact rfl; all_goals intro _)
            | ((with_reducible apply DG_1y); exact rfl; (first | with_reducible assumption | omega))
            | ((with_reducible apply DG_1n); exact rfl; (first | with_reducible assumption | omega))
            | ((with_reducible apply DG_0y); exact rfl; (first | with_reducible assumption | omega))
            | ((with_reducible apply DG_0n); exact rfl; (first | with_reducible assumption | omega))
            | ((with_reducible apply DG_1P); exact rfl; all_goals intro _)
            | ((with_reducible apply DG_0P); exact rfl; all_goals intro _)
            | ((with_reducible apply K_pickT); exact rfl; (first | with_reducible assumption | omega); exact rfl)
            | ((with_reducible apply K_pickF); exact rfl; (first | with_reducible assumption | omega); exact rfl)
            | ((with_reducible apply T_ite1); exact rfl; (first | with_reducible assumption | omega))
            | ((with_reducible apply T_ite0); exact rfl; (first | with_reducible assumption | omega))
            | ((with_reducible apply T_iteP); exact rfl; all_goals intro _)
            | ((with_reducible apply K_len_SL h2); exact rfl)
            | ((with_reducible apply K_idxA_map triD (0, 0, []) h2); exact rfl; exact rfl; omega)
            | ((with_reducible apply K_call_one (f := 40) (S0 := t) rfl); exact rfl; exact c40b; exact rfl; exact rfl)
            | with_reducible refine T_seq ?_
            | with_reducible refine S_ops ?_
            | with_reducible refine O_step ?_
            | ((with_reducible apply K_mov_d); exact rfl)
            | with_reducible refine O_nil ?_
            | with_reducible refine seq_n ?_
            | with_reducible refine S_skip ?_
            | ((with_reducible apply T_itet); exact rfl)
            | ((with_reducible apply T_itef); exact rfl)
            | ((with_reducible apply T_ite1); exact rfl; (first | with_reducible assumption | omega))
            | ((with_reducible apply T_ite0); exact rfl; (first | with_reducible assumption | omega))
            | ((with_reducible apply T_iteP); exact rfl; all_goals intro _)
            | with_reducible refine S_ret ?_
            | with_reducible refine seq_r ?_
            | with_reducible refine S_exit ?_
            | with_reducible refine seq_e ?_
            | with_reducible refine T_block ?_
            | with_reducible refine blk_1 ?_
            | with_reducible refine blk_0 rfl ?_
            | with_reducible refine blk_n ?_
            | with_reducible refine blk_r ?_
            | with_reducible refine rnd_r ?_
            | with_reducible refine rnd_e ?_
            | ((with_reducible apply G_skip'); exact rfl)
            | ((with_reducible apply G_1tt); exact rfl)
            | ((with_reducible apply G_1ff); exact rfl)
            | ((with_reducible apply G_0tt); exact rfl)
            | ((with_reducible apply G_0ff); exact rfl)
            | ((with_reducible apply G_1y); exact rfl; (first | with_reducible assumption | omega))
            | ((with_reducible apply G_1n); exact rfl; (first | with_reducible assumption | omega))
            | ((with_reducible apply G_0y); exact rfl; (first | with_reducible assumption | omega))
            | ((with_reducible apply G_0n); exact rfl; (first | with_reducible assumption | omega))
            | ((with_reducible apply G_1P); exact rfl; all_goals intro _)
            | ((with_reducible apply G_0P); exact rfl; all_goals intro _)
            | ((with_reducible apply K_pickt); exact rfl; exact rfl)
            | ((with_reducible apply K_pickf); exact rfl; exact rfl)
            | ((with_reducible apply K_pickT); exact rfl; (first | with_reducible assumption | omega); exact rfl)
            | ((with_reducible apply K_pickF); exact rfl; (first | with_reducible assumption | omega); exact rfl)
            | ((with_reducible apply K_lss); exact rfl; exact rfl)
            | ((with_reducible apply K_gtr); exact rfl; exact rfl)
            | ((with_reducible apply K_eql); exact rfl; exact rfl)
            | ((with_reducible apply K_eqlS); exact rfl; exact rfl)
            | ((with_reducible apply K_add); exact rfl; exact rfl; (first | omega | decide))
            | ((with_reducible apply K_addw); exact rfl; exact rfl)
            | ((with_reducible apply K_not_t); exact rfl)
            | ((with_reducible apply K_not_f); exact rfl)
            | ((with_reducible apply K_notP); exact rfl)
            | ((with_reducible apply K_len_d); exact rfl)
            | ((with_reducible apply K_len_nil); exact rfl)
            | ((with_reducible apply K_len_ref); exact rfl; exact rfl)
            | ((with_reducible apply K_idxA_ref); exact rfl; exact rfl; exact rfl; (first | omega | decide))
            | ((with_reducible apply K_idxA_d); exact rfl; exact rfl; (first | omega | decide))
            | ((with_reducible apply K_load1_ptr); exact rfl; exact rfl; exact rfl)
            | ((with_reducible apply K_load1_fp); exact rfl)
            | ((with_reducible apply K_load1_byte); exact rfl; exact rfl; (first | omega | decide))
            | ((with_reducible apply K_mov_ref); exact rfl)
            | ((with_reducible apply K_mov_ptr); exact rfl)
            | ((with_reducible apply K_mov_tup); exact rfl)
            | ((with_reducible apply K_mov_yld); exact rfl)
            | ((with_reducible apply K_ext); exact rfl; exact rfl)
            | ((with_reducible apply K_bslice1); exact rfl; exact rfl)
            | ((with_reducible apply K_bslice); exact rfl)
            | ((with_reducible apply K_fldA_ptr); exact rfl)
            | ((with_reducible apply K_fldA_fp); exact rfl)
          all_goals exact rnd_n (m + 1, t ++ [_]) ⟨⟨by dsimp only; omega, fun k hk => by
            dsimp only at hk
            by_cases e : k = m
            · rw [e]; exact hs1
            · exact hsh k (by omega)⟩, by dsimp only; omega⟩ rfl rfl
      · have hall : ∀ k, (cs.getD k (0, 0, [])).2.2.length ≤ 100000 := fun k => by
          by_cases hk : k < cs.length
          · exact hsh k (by omega)
          · rw [List.getD_eq_getElem?_getD, List.getElem?_eq_none (by omega)]; exact Nat.zero_le _
        have c41 := cr41 d1 l h1 (by omega)
        have hi : SL 1 (.sl 1 (dStrs l)) (dStrs l) := .inr rfl
        have hi3 : SL 3 (.sl 3 (dTri cs)) (dTri cs) := .inr rfl
        obtain ⟨p1, x1, hp1⟩ := joinR_R l
        have c42 := cr42 _ l hi (by omega) (getD_in hin)
        have c43 := cr43 d1 l h1 (by omega) (getD_in hin)
        rw [hp1] at c42 c43
        obtain ⟨p2, x2, c44, c45⟩ := fed_R _ d2 cs hi3 h2 hall
        have c46 := cr46 _ l hi (by omega)
        have c47 := cr47 d1 l h1 (by omega)
        have hq := SL_slD 1 (dInts (sizesL l))
        have hzl : (sizesL l).length = l.length := by unfold sizesL; simp
        have c39 := cr39 _ _ (sizesL l) hq hq (by omega)
        have c33 := cr33 _ d1 l hi h1 (by omega)
        have c34 := cr34 _ d2 cs hi3 h2 (by omega)
        generalize slD 1 (dInts (sizesL l)) = q at *
        generalize hX : (D.sl 1 (dStrs l)) = X at *
        repeat' first
          | ((with_reducible apply G_1y); exact rfl; (first | with_reducible assumption | omega))
          | ((with_reducible apply G_1n); exact rfl; (first | with_reducible assumption | omega))
          | ((with_reducible apply G_0y); exact rfl; (first | with_reducible assumption | omega))
          | ((with_reducible apply G_0n); exact rfl; (first | with_reducible assumption | omega))
          | ((with_reducible apply G_1P); exact rfl; all_goals intro _)
          | ((with_reducible apply G_0P); exact rfl; all_goals intro _)
          | ((with_reducible apply DG_1y); exact rfl; (first | with_reducible assumption | omega))
          | ((with_reducible apply DG_1n); exact rfl; (first | with_reducible assumption | omega))
          | ((with_reducible apply DG_0y); exact rfl; (first | with_reducible assumption | omega))
          | ((with_reducible apply DG_0n); exact rfl; (first | with_reducible assumption | omega))
          | ((with_reducible apply DG_1P); exact rfl; all_goals intro _)
          | ((with_reducible apply DG_0P); exact rfl; all_goals intro _)
          | ((with_reducible apply K_pickT); exact rfl; (first | with_reducible assumption | omega); exact rfl)
          | ((with_reducible apply K_pickF); exact rfl; (first | with_reducible assumption | omega); exact rfl)
          | ((with_reducible apply T_ite1); exact rfl; (first | with_reducible assumption | omega))
          | ((with_reducible apply T_ite0); exact rfl; (first | with_reducible assumption | omega))
          | ((with_reducible apply T_iteP); exact rfl; all_goals intro _)
          | ((with_reducible apply K_mov_any v9); exact rfl)
          | ((with_reducible apply K_len_SL h2); exact rfl)
          | ((with_reducible apply K_call_0 (f := 41) (ys := [d1])); exact rfl; exact c41; exact rfl)
          | ((with_reducible apply K_app_row (S0 := t) h2); exact rfl; exact rfl; exact rfl; (simp; omega); intro v9 S9 hrow)
          | ((with_reducible apply K_call_0 (f := 42) (ys := [X])); exact rfl; exact c42; exact rfl)
          | ((with_reducible apply K_call_0 (f := 43) (ys := [d1])); exact rfl; exact c43; exact rfl)
          | ((with_reducible apply K_call_row (f := 44) hrow); exact rfl; exact c44; exact rfl; exact rfl)
          | ((with_reducible apply K_call_0 (f := 45) (ys := [d2])); exact rfl; exact c45; exact rfl)
          | ((with_reducible apply K_eqlS_same); exact rfl; exact rfl)
          | ((with_reducible apply K_eql_same); exact rfl; exact rfl)
          | ((with_reducible apply K_call_0 (f := 46) (ys := [X])); exact rfl; exact c46; exact rfl)
          | ((with_reducible apply K_call_0 (f := 47) (ys := [d1])); exact rfl; exact c47; exact rfl)
          | ((with_reducible apply K_call_0 (f := 39) (ys := [q, q])); exact rfl; exact c39; exact rfl)
          | ((with_reducible apply K_call_0 (f := 33) (ys := [X, d1])); exact rfl; exact c33; exact rfl)
          | ((with_reducible apply K_call_row2 (f := 34) hrow); exact rfl; exact c34; exact rfl; exact rfl)
          | ((with_reducible apply K_call_0 (f := 27) (ys := [])); exact rfl; exact cr27; exact rfl)
          | with_reducible refine T_seq ?_
          | with_reducible refine S_ops ?_
          | with_reducible refine O_step ?_
          | ((with_reducible apply K_mov_d); exact rfl)
          | with_reducible refine O_nil ?_
          | with_reducible refine seq_n ?_
          | with_reducible refine S_skip ?_
          | ((with_reducible apply T_itet); exact rfl)
          | ((with_reducible apply T_itef); exact rfl)
          | ((with_reducible apply T_ite1); exact rfl; (first | with_reducible assumption | omega))
          | ((with_reducible apply T_ite0); exact rfl; (first | with_reducible assumption | omega))
          | ((with_reducible apply T_iteP); exact rfl; all_goals intro _)
          | with_reducible refine S_ret ?_
          | with_reducible refine seq_r ?_
          | with_reducible refine S_exit ?_
          | with_reducible refine seq_e ?_
          | with_reducible refine T_block ?_
          | with_reducible refine blk_1 ?_
          | with_reducible refine blk_0 rfl ?_
          | with_reducible refine blk_n ?_
          | with_reducible refine blk_r ?_
          | with_reducible refine rnd_r ?_
          | with_reducible refine rnd_e ?_
          | ((with_reducible apply G_skip'); exact rfl)
          | ((with_reducible apply G_1tt); exact rfl)
          | ((with_reducible apply G_1ff); exact rfl)
          | ((with_reducible apply G_0tt); exact rfl)
          | ((with_reducible apply G_0ff); exact rfl)
          | ((with_reducible apply G_1y); exact rfl; (first | with_reducible assumption | omega))
          | ((with_reducible apply G_1n); exact rfl; (first | with_reducible assumption | omega))
          | ((with_reducible apply G_0y); exact rfl; (first | with_reducible assumption | omega))
          | ((with_reducible apply G_0n); exact rfl; (first | with_reducible assumption | omega))
          | ((with_reducible apply G_1P); exact rfl; all_goals intro _)
          | ((with_reducible apply G_0P); exact rfl; all_goals intro _)
          | ((with_reducible apply K_pickt); exact rfl; exact rfl)
          | ((with_reducible apply K_pickf); exact rfl; exact rfl)
          | ((with_reducible apply K_pickT); exact rfl; (first | with_reducible assumption | omega); exact rfl)
          | ((with_reducible apply K_pickF); exact rfl; (first | with_reducible assumption | omega); exact rfl)
          | ((with_reducible apply K_lss); exact rfl; exact rfl)
          | ((with_reducible apply K_gtr); exact rfl; exact rfl)
          | ((with_reducible apply K_eql); exact rfl; exact rfl)
          | ((with_reducible apply K_eqlS); exact rfl; exact rfl)
          | ((with_reducible apply K_add); exact rfl; exact rfl; (first | omega | decide))
          | ((with_reducible apply K_addw); exact rfl; exact rfl)
          | ((with_reducible apply K_not_t); exact rfl)
          | ((with_reducible apply K_not_f); exact rfl)
          | ((with_reducible apply K_notP); exact rfl)
          | ((with_reducible apply K_len_d); exact rfl)
          | ((with_reducible apply K_len_nil); exact rfl)
          | ((with_reducible apply K_len_ref); exact rfl; exact rfl)
          | ((with_reducible apply K_idxA_ref); exact rfl; exact rfl; exact rfl; (first | omega | decide))
          | ((with_reducible apply K_idxA_d); exact rfl; exact rfl; (first | omega | decide))
          | ((with_reducible apply K_load1_ptr); exact rfl; exact rfl; exact rfl)
          | ((with_reducible apply K_load1_fp); exact rfl)
          | ((with_reducible apply K_load1_byte); exact rfl; exact rfl; (first | omega | decide))
          | ((with_reducible apply K_mov_ref); exact rfl)
          | ((with_reducible apply K_mov_ptr); exact rfl)
          | ((with_reducible apply K_mov_tup); exact rfl)
          | ((with_reducible apply K_mov_yld); exact rfl)
          | ((with_reducible apply K_ext); exact rfl; exact rfl)
          | ((with_reducible apply K_bslice1); exact rfl; exact rfl)
          | ((with_reducible apply K_bslice); exact rfl)
          | ((with_reducible apply K_fldA_ptr); exact rfl)
          | ((with_reducible apply K_fldA_fp); exact rfl)
        all_goals first
          | exact ends_b rfl rfl
          | exact (0 : Nat)
end Go.Abs
