/- Contracts of the functions that the laws on parts of strings reach: what each hands back; a library for the laws, it claims nothing by itself. -/
import Derived.Carry
import Derived.Test.YtkdcdcdeffednaaAbsC
set_option linter.unusedVariables false
set_option linter.unusedSimpArgs false
/- Slices: those that come in; those that are built by appending. -/
namespace Go.Abs

/-- A slice value that reads as a list: nil, or not. -/
def SL (es : Nat) (d : D) (l : List D) : Prop := (d = .nilsl ∧ l = []) ∨ d = .sl es l
/-- What appending onto nil makes. -/
def slD (es : Nat) (l : List D) : D := if l = [] then .nilsl else .sl es l
theorem SL_slD (es : Nat) (l : List D) : SL es (slD es l) l := by
  unfold slD SL; split
  · rename_i h; exact .inl ⟨rfl, h⟩
  · exact .inr rfl
theorem SL_nil (es : Nat) : SL es .nilsl [] := .inl ⟨rfl, rfl⟩
theorem SL_sl (es : Nat) (l : List D) : SL es (.sl es l) l := .inr rfl
theorem SL.cells {es : Nat} {d : D} {l : List D} (h : SL es d l) : d.cells = [d] := by
  rcases h with ⟨rfl, _⟩ | rfl <;> rfl
/-- A slice of the activation's own, behind n0 other objects. -/
def OutT (n0 : Nat) (v : AV) (t : St) (es : Nat) (l : List D) : Prop := (v = .d .nilsl ∧ l = []) ∨ (l ≠ [] ∧ ∃ i g, v = .ref (n0 + i) g 0 l.length ∧ t[i]? = some (.arr g es l))
theorem OutT.nil (n0 es : Nat) (t : St) : OutT n0 (.d .nilsl) t es [] := .inl ⟨rfl, rfl⟩
theorem OutT.more {n0 es : Nat} {v : AV} {t : St} {l : List D} (h : OutT n0 v t es l) (u : St) : OutT n0 v (t ++ u) es l := by
  rcases h with h | ⟨h1, i, g, h2, h3⟩
  · exact .inl h
  · refine .inr ⟨h1, i, g, h2, ?_⟩
    have := (List.getElem?_eq_some_iff.1 h3).1
    rw [List.getElem?_append_left this]; exact h3

theorem OutT.okc {n0 es : Nat} {v : AV} {t : St} {l : List D} (h : OutT n0 v t es l) : v.okc = true := by
  rcases h with ⟨rfl, _⟩ | ⟨_, i, g, rfl, _⟩ <;> rfl
theorem OutT.cells {n0 es : Nat} {v : AV} {t : St} {l : List D} (h : OutT n0 v t es l) : v.cells = [v] := by
  rcases h with ⟨rfl, _⟩ | ⟨_, i, g, rfl, _⟩ <;> rfl
section
variable {E : Env} {fr : Fr} {S S0 t : St} {K : AV → St → Prop} {x y z : Opd} {es bs : Nat} {d : D} {l new : List D} {v : AV}

theorem K_mov_any (v : AV) (e : ld fr x = v) (h : K v S) : stepK E fr S (.mov x) K := by subst e; exact h
theorem K_min {k : IntKind} {p q : Int} (e : ld fr x = .d (.int k p)) (e2 : ld fr y = .d (.int k q)) (h : K (.d (.int k (min p q))) S) : stepK E fr S (.mn x y) K := K_mn e e2 (by
  have : (if q < p then q else p) = min p q := by split <;> omega
  rw [this]; exact h)
theorem K_bslice1 {zs : List D} {u : D} (ev : ld fr x = .d u) (hu : u.cells.length = es) (h : K (.ref S.length 0 0 1) (S ++ [.arr 0 es [u]])) : stepK E fr S (.bslice es 1 zs [(0, x)]) K := by
  refine K_bslice (l := [u]) ?_ h
  simp [fillE, ev, hu]
theorem K_len_SL (h : SL es d l) (e : ld fr x = .d d) (hK : K (.d (.int .i64 l.length)) S) : stepK E fr S (.len x) K := by
  rcases h with ⟨rfl, rfl⟩ | rfl
  · exact K_len_nil e hK
  · exact K_len_d e hK
theorem K_idxA_map {α : Type} (f : α → D) (dflt : α) {l : List α} (h : SL es d (l.map f)) {k : IntKind} {n : Nat} (e : ld fr x = .d d) (e2 : ld fr y = .d (.int k (n : Int))) (hb : n < l.length) (hK : K (.fp (f (l.getD n dflt)).cells) S) : stepK E fr S (.idxA es x y) K := by
  rcases h with ⟨rfl, h⟩ | rfl
  · have : l = [] := by simpa using h
    subst this; simp at hb
  · refine K_idxA_d e e2 ⟨by omega, by simp; omega⟩ ?_
    rw [Int.toNat_natCast]
    have e3 : (l.map f).getD n .nilp = f (l.getD n dflt) := by simp [List.getD_eq_getElem?_getD, hb]
    rw [e3]; exact hK
theorem K_len_out (h : OutT S0.length v t es l) (hS : S = S0 ++ t) (e : ld fr x = v) (hK : K (.d (.int .i64 l.length)) S) : stepK E fr S (.len x) K := by
  rcases h with ⟨rfl, rfl⟩ | ⟨_, i, g, rfl, h2⟩
  · exact K_len_nil e hK
  · refine K_len_ref (es := es) (l := l) e ?_ hK
    subst hS
    unfold rd
    rw [List.getElem?_append_right (by omega), Nat.add_sub_cancel_left, h2]

/-- Appending what lies in a new array. -/
theorem K_app_el (h : OutT S0.length v t es l) (hS : S = (S0 ++ t) ++ [.arr 0 es new]) (e : ld fr x = v) (e2 : ld fr y = .ref (S0 ++ t).length 0 0 new.length) (hpos : 0 < new.length) (hb : (l.length + new.length) * bs ≤ 140737488355328)
    (hK : ∀ v' t', OutT S0.length v' t' es (l ++ new) → K v' (S0 ++ t')) : stepK E fr S (.app es bs x y) K := by
  have hw : window S (ld fr y) = some (es, new) := by
    rw [e2, hS]; simp [window, rd]
  have hne : ∀ s, ld fr y ≠ .d (.str s) := fun s h => by rw [e2] at h; cases h
  rcases h with ⟨rfl, rfl⟩ | ⟨h1, i, g, rfl, h2⟩
  · refine K_app_new e hw hne ⟨by simpa using hb, hpos⟩ ?_
    have hn : new ≠ [] := fun e => by rw [e] at hpos; simp at hpos
    have := hK (.ref S.length 0 0 new.length) (t ++ [.arr 0 es new] ++ [.arr 0 es new]) (.inr ⟨by simpa using hn, t.length + 1, 0, by rw [hS]; simp [Nat.add_assoc], by
      rw [List.getElem?_append_right (by simp)]; simp⟩)
    rw [hS] at this ⊢
    simpa [List.append_assoc] using this
  · have hi := (List.getElem?_eq_some_iff.1 h2).1
    have h3 : S[S0.length + i]? = some (.arr g es l) := by
      rw [hS, List.getElem?_append_left (by simp; omega), List.getElem?_append_right (by omega), Nat.add_sub_cancel_left]; exact h2
    refine K_app_ref e hw hne h3 rfl hpos hb ?_
    have := hK (.ref (S0.length + i) (g + 1) 0 (l.length + new.length)) ((t ++ [AO.arr 0 es new]).set i (.arr (g + 1) es (l ++ new))) (.inr ⟨by simp [h1], i, g + 1, by simp, by
      rw [List.getElem?_set_self (by simp; omega)]⟩)
    rw [hS, List.append_assoc, List.set_append_right _ _ (by omega), Nat.add_sub_cancel_left]
    exact this
/-- Appending what came in, or came back. -/
theorem K_app_sl {d : D} (h : OutT S0.length v t es l) (hd : SL es d new) (hS : S = S0 ++ t) (e : ld fr x = v) (e2 : ld fr y = .d d) (hpos : 0 < new.length) (hb : (l.length + new.length) * bs ≤ 140737488355328)
    (hK : ∀ v' t', OutT S0.length v' t' es (l ++ new) → K v' (S0 ++ t')) : stepK E fr S (.app es bs x y) K := by
  have hn : new ≠ [] := fun e => by rw [e] at hpos; simp at hpos
  have hd : d = .sl es new := hd.resolve_left fun h => hn h.2
  subst hd
  have hw : window S (ld fr y) = some (es, new) := by rw [e2]; rfl
  have hne : ∀ s, ld fr y ≠ .d (.str s) := fun s h => by rw [e2] at h; cases h
  rcases h with ⟨rfl, rfl⟩ | ⟨h1, i, g, rfl, h2⟩
  · refine K_app_new e hw hne ⟨by simpa using hb, hpos⟩ ?_
    have := hK (.ref S.length 0 0 new.length) (t ++ [.arr 0 es new]) (.inr ⟨by simpa using hn, t.length, 0, by rw [hS]; simp, by simp⟩)
    rw [hS] at this ⊢
    simpa [List.append_assoc] using this
  · have hi := (List.getElem?_eq_some_iff.1 h2).1
    have h3 : S[S0.length + i]? = some (.arr g es l) := by
      rw [hS, List.getElem?_append_right (by omega), Nat.add_sub_cancel_left]; exact h2
    refine K_app_ref e hw hne h3 rfl hpos hb ?_
    have := hK (.ref (S0.length + i) (g + 1) 0 (l.length + new.length)) (t.set i (.arr (g + 1) es (l ++ new))) (.inr ⟨by simp [h1], i, g + 1, by simp, by
      rw [List.getElem?_set_self hi]⟩)
    rw [hS, List.set_append_right _ _ (by omega), Nat.add_sub_cancel_left]
    exact this
/-- The newest object. -/
theorem K_storeA_last {S1 : St} {lb : List AV} {ds : List D} {off n : Nat} (hS : S = S1 ++ [.box lb]) (e : ld fr x = .ptr S1.length off) (ev : ld fr y = .d (.agg ds)) (hn : ds.length = n) (ho : off + n ≤ lb.length) (h : K .undef (S1 ++ [.box (splice lb off (ds.map .d))])) : stepK E fr S (.storeA n x y) K := by
  subst hS
  refine K_storeA_pd e ev (by simp) hn ho ?_
  rw [List.set_append_right _ _ (Nat.le_refl _), Nat.sub_self]; exact h
theorem K_load1_last {S1 : St} {lb : List AV} {off : Nat} {u : AV} (hS : S = S1 ++ [.box lb]) (e : ld fr x = .ptr S1.length off) (hv : lb[off]? = some u) (h : K u S) : stepK E fr S (.load1 x) K := by
  subst hS
  exact K_load1_ptr e (by simp) hv h
theorem K_loadA_last {S1 : St} {lb : List AV} {off n : Nat} {ds : List D} (hS : S = S1 ++ [.box lb]) (e : ld fr x = .ptr S1.length off) (hn : off + n ≤ lb.length) (e3 : mkAgg ((lb.drop off).take n) = .d (.agg ds)) (h : K (.d (.agg ds)) S) : stepK E fr S (.loadA n x) K := by
  subst hS
  exact K_loadA_pd e (by simp) hn e3 h
theorem K_slArr_last {S1 : St} {n : Nat} {lb : List AV} {ds : List D} {k : IntKind} {i : Int} (hS : S = S1 ++ [.box lb]) (e : ld fr x = .ptr S1.length 0) (e3 : allD lb = some ds) (hl : lb.length = n) (e2 : ld fr y = .d (.int k i)) (hi : 0 ≤ i ∧ i ≤ (n : Int)) (h : K (.d (.sl 1 (ds.take i.toNat))) (S1 ++ [.dead])) : stepK E fr S (.slArr n x none (some y)) K := by
  subst hS
  refine K_slArr_hi e (by simp) e3 hl e2 hi ?_
  rw [List.set_append_right _ _ (Nat.le_refl _), Nat.sub_self]; exact h
/-- Arrays of function values. -/
theorem K_build_a {zs : List D} {vs : List AV} {ps : List (Nat × Nat × Opd)} {la : List AV} (e : fillA (zs.map .d) (ps.map fun (o, n, x) => (o, n, ld fr x)) = some la) (e2 : mkAgg la = .agg vs) (h : K (.agg vs) S) : stepK E fr S (.build zs ps) K := K_build e (by rw [e2]; exact h)
theorem K_storeA_pa {j off n : Nat} {lb vs : List AV} (e : ld fr x = .ptr j off) (ev : ld fr y = .agg vs) (e2 : S[j]? = some (.box lb)) (hn : vs.length = n) (ho : off + n ≤ lb.length) (h : K .undef (S.set j (.box (splice lb off vs)))) : stepK E fr S (.storeA n x y) K :=
  K_storeA_ptr e ev e2 ho rfl (by simp [AV.cells, hn]) h
/-- A closure is called that looks at variables of the caller's. -/
theorem K_callV_fn {f : Nat} {args : List Opd} {caps vs ys : List AV} {ids : List Nat} {S0' S1 : St} {r : AV} (ef : ld fr x = .fn f caps) (e0 : args.map (ld fr) ++ caps = vs) (e : ptrIds [] vs = ids) (eg : getAll S ids = some S0') (e2 : lendAll ids S vs = some ys) (hc : E.call f ys S0' r S1) (hok : r.okr = true ∧ S1.all AO.okr = true)
    (h : K (sh2 ids S.length r) (putAll ids (S1.map (shO ids S.length)) (if r.flat && S1.all AO.flat then S else freezeL vs S) ++ (S1.drop ids.length).map (shO ids S.length))) : stepK E fr S (.callV x args) K := by
  subst e0; subst e
  simp only [stepK, ef, callK, eg, e2]
  exact ⟨r, S1, hc, hok, h⟩
/-- Appending a string of bytes. -/
theorem K_app_bytes {s : List UInt8} (h : ∃ i g, v = .ref (S0.length + i) g 0 l.length ∧ t[i]? = some (.arr g 1 l)) (hS : S = S0 ++ t) (e : ld fr x = v) (e2 : ld fr y = .d (.str s)) (hb : (l.length + s.length) * bs ≤ 140737488355328)
    (hK : ∀ v' t', (∃ i g, v' = .ref (S0.length + i) g 0 (l ++ s.map byteD).length ∧ t'[i]? = some (.arr g 1 (l ++ s.map byteD))) → K v' (S0 ++ t')) : stepK E fr S (.app 1 bs x y) K := by
  obtain ⟨i, g, rfl, h2⟩ := h
  have hi := (List.getElem?_eq_some_iff.1 h2).1
  subst hS
  have h3 : (S0 ++ t)[S0.length + i]? = some (.arr g 1 l) := by
    rw [List.getElem?_append_right (by omega), Nat.add_sub_cancel_left]; exact h2
  simp only [stepK, e2, e, h3, List.length_map]
  refine ⟨trivial, ⟨trivial, trivial, by omega, hb⟩, fun e3 => ?_, fun _ => ⟨trivial, ?_⟩⟩
  · have := hK (.ref (S0.length + i) g 0 l.length) t ⟨i, g, by simp [e3], by simp [e3, h2]⟩
    exact this
  · have := hK (.ref (S0.length + i) (g + 1) 0 (l.length + s.length)) (t.set i (.arr (g + 1) 1 (l ++ s.map byteD))) ⟨i, g + 1, by simp, by rw [List.getElem?_set_self hi]⟩
    rw [List.set_append_right _ _ (by omega), Nat.add_sub_cancel_left]
    exact this
/-- Appending a slice that came in. -/
theorem K_app_in {i g n : Nat} {ol : List D} (h : SL es d l) (e : ld fr x = .ref i g 0 n) (e2 : ld fr y = .d d) (e3 : S[i]? = some (.arr g es ol)) (hn : n = ol.length) (hb : (n + l.length) * bs ≤ 140737488355328)
    (hK0 : l = [] → K (.ref i g 0 n) S) (hK : l ≠ [] → K (.ref i (g + 1) 0 (n + l.length)) (S.set i (.arr (g + 1) es (ol ++ l)))) : stepK E fr S (.app es bs x y) K := by
  rcases h with ⟨rfl, rfl⟩ | rfl
  · simp only [stepK, e, e2, e3]
    exact ⟨trivial, ⟨trivial, trivial, by omega, by simpa using hb⟩, fun _ => hK0 rfl, fun h => absurd rfl h⟩
  · simp only [stepK, e, e2, e3, window]
    exact ⟨trivial, ⟨trivial, trivial, by omega, hb⟩, fun h => hK0 h, fun h => ⟨trivial, hK h⟩⟩

/-- Handing it over, handing it back. -/
theorem lend_out (h : OutT S0.length v t es l) (hS : S = S0 ++ t) : lend [] S v = some (.d (slD es l)) := by
  rcases h with ⟨rfl, rfl⟩ | ⟨h1, i, g, rfl, h2⟩
  · rfl
  · subst hS
    have h3 : rd (S0 ++ t) (S0.length + i) = some (g, es, l) := by
      unfold rd; rw [List.getElem?_append_right (by omega), Nat.add_sub_cancel_left, h2]
    simp [lend, window, h3, slD, h1]
theorem rnA_out (h : OutT S0.length v t es l) (hS : S = S0 ++ t) : rnA 0 [] S v = some (.d (slD es l)) := by
  rcases h with ⟨rfl, rfl⟩ | ⟨h1, i, g, rfl, h2⟩
  · rfl
  · subst hS
    have h3 : rd (S0 ++ t) (S0.length + i) = some (g, es, l) := by
      unfold rd; rw [List.getElem?_append_right (by omega), Nat.add_sub_cancel_left, h2]
    simp [rnA, rnv, window, h3, slD, h1]
theorem ends_out {rvs : List RV} {k : IntKind} {m n : Int} (h : OutT S0.length v t es l) (hS : S = S0 ++ t) (hr : resV fr S rvs = some (.tup [v, .d (.int k m)])) (e : m = n) : Ends 0 rvs (.tup [.d (slD es l), .d (.int k n)]) [] .ret fr S := by
  subst e
  refine ⟨.inr rfl, _, [], hr, ?_, .nil, by simp, ?_, rfl⟩
  · have : v.okr1 = true := by
      rcases h with ⟨rfl, _⟩ | ⟨_, i, g, rfl, _⟩ <;> rfl
    show (AV.okr1 v && (AV.okr1 (.d (.int k m)) && true)) = true
    rw [this]; rfl
  · have h2 : rnA 0 [] S (.d (.int k m)) = some (.d (.int k m)) := rfl
    simp [rnT, optL, rnA_out h hS, h2]
theorem ends_out1 {rvs : List RV} (h : OutT S0.length v t es l) (hS : S = S0 ++ t) (hr : resV fr S rvs = some v) : Ends 0 rvs (.d (slD es l)) [] .ret fr S := by
  refine ⟨.inr rfl, _, [], hr, ?_, .nil, by simp, ?_, rfl⟩
  · rcases h with ⟨rfl, _⟩ | ⟨_, i, g, rfl, _⟩ <;> rfl
  · have h2 := rnA_out h hS
    rcases h with ⟨rfl, _⟩ | ⟨_, i, g, rfl, _⟩ <;> exact h2
/-- Any call with data and slices. -/
theorem K_call_f {f : Nat} {args : List Opd} {ys : List AV} {r : AV} (vs : List AV) (e0 : args.map (ld fr) = vs) (e : ptrIds [] vs = []) (e2 : lendAll [] S vs = some ys) (hc : E.call f ys [] r []) (hok : r.okr = true) (h : K (sh2 [] S.length r) (if r.flat then S else freezeL vs S)) : stepK E fr S (.call f args) K := by
  subst e0
  simp only [stepK, callK, e, getAll, e2]
  exact ⟨r, [], hc, ⟨hok, rfl⟩, by simpa [putAll] using h⟩
end
end Go.Abs
/- A string's parts, a script's calls: plain lists. -/
namespace Go.Abs
def natS (n : Int) : Int := if n < 0 then -1 - n else n
theorem natS_ge (n : Int) : 0 ≤ natS n := by unfold natS; split <;> omega
theorem natS_lt {n : Int} (h : -9223372036854775808 ≤ n ∧ n < 9223372036854775808) : natS n < 9223372036854775808 := by unfold natS; split <;> omega
theorem cpl64 {n : Int} (h : -9223372036854775808 ≤ n ∧ n < 0) : ibit .xor .i64 (if IntKind.i64.signed then -1 else IntKind.i64.max) n = -1 - n := by
  have e : (if IntKind.i64.signed = true then (-1 : Int) else IntKind.i64.max) = -1 := rfl
  rw [e]
  unfold ibit
  simp only
  have e2 : IntKind.i64.bits = 64 := rfl
  rw [e2]
  have e3 : BitVec.ofInt 64 (-1) = BitVec.allOnes 64 := by decide
  rw [e3, BitVec.allOnes_xor, BitVec.toNat_not, BitVec.toNat_ofInt]
  have e4 : (n % ((2 ^ 64 : Nat) : Int)).toNat = (n + 18446744073709551616).toNat := by omega
  rw [e4, wrap64 (by omega)]
  omega
def sizeS (n : Int) (len : Nat) : Nat := min (if natS n / 8 % 4 = 0 then natS n % 8 else natS n % 40).toNat len
/-- After k numbers: the parts, and what is left. -/
def cutN (s : List UInt8) (nums : List Int) : Nat → List (List UInt8) × List UInt8
  | 0 => ([], s)
  | k + 1 => ((cutN s nums k).1 ++ [(cutN s nums k).2.take (sizeS (nums.getD k 0) (cutN s nums k).2.length)], (cutN s nums k).2.drop (sizeS (nums.getD k 0) (cutN s nums k).2.length))
def cutL (s : List UInt8) (nums : List Int) : List (List UInt8) := (cutN s nums nums.length).1 ++ (if (cutN s nums nums.length).2 = [] then [] else [(cutN s nums nums.length).2])
theorem cutN_len (s : List UInt8) (nums : List Int) : ∀ k, (cutN s nums k).1.length = k
  | 0 => rfl
  | k + 1 => by simp [cutN, cutN_len s nums k]
theorem cutN_left (s : List UInt8) (nums : List Int) : ∀ k, (cutN s nums k).2.length ≤ s.length
  | 0 => Nat.le_refl _
  | k + 1 => by have := cutN_left s nums k; simp [cutN]; omega
theorem cutN_join (s : List UInt8) (nums : List Int) : ∀ k, (cutN s nums k).1.flatten ++ (cutN s nums k).2 = s
  | 0 => rfl
  | k + 1 => by
    simp only [cutN, List.flatten_append, List.flatten_cons, List.flatten_nil, List.append_nil, List.append_assoc, List.take_append_drop]
    exact cutN_join s nums k
theorem cutN_get (s : List UInt8) (nums : List Int) : ∀ {m k : Nat}, k < m → (cutN s nums m).1.getD k [] = (cutN s nums k).2.take (sizeS (nums.getD k 0) (cutN s nums k).2.length)
  | 0, k, h => by omega
  | m + 1, k, h => by
    simp only [cutN, List.getD_eq_getElem?_getD]
    by_cases e : k = m
    · subst e
      rw [List.getElem?_append_right (by rw [cutN_len]; omega), cutN_len, Nat.sub_self]; simp
    · rw [List.getElem?_append_left (by rw [cutN_len]; omega), ← List.getD_eq_getElem?_getD, cutN_get s nums (by omega)]
      simp [List.getD_eq_getElem?_getD]
theorem cutL_len (s : List UInt8) (nums : List Int) : (cutL s nums).length = nums.length + (if (cutN s nums nums.length).2 = [] then 0 else 1) := by
  unfold cutL; rw [List.length_append, cutN_len]; split <;> rfl
theorem cutL_get {s : List UInt8} {nums : List Int} {k : Nat} (h : k < nums.length) : (cutL s nums).getD k [] = (cutN s nums k).2.take (sizeS (nums.getD k 0) (cutN s nums k).2.length) := by
  rw [← cutN_get s nums h]
  unfold cutL
  simp only [List.getD_eq_getElem?_getD]
  rw [List.getElem?_append_left (by rw [cutN_len]; exact h)]
theorem cutL_last {s : List UInt8} {nums : List Int} (h : (cutN s nums nums.length).2 ≠ []) : (cutL s nums).getD nums.length [] = (cutN s nums nums.length).2 := by
  unfold cutL
  rw [if_neg h]
  simp only [List.getD_eq_getElem?_getD]
  rw [List.getElem?_append_right (by rw [cutN_len]; omega), cutN_len, Nat.sub_self]; simp
theorem cutL_join (s : List UInt8) (nums : List Int) : (cutL s nums).flatten = s := by
  have h := cutN_join s nums nums.length
  unfold cutL
  split
  · rename_i e; rw [e, List.append_nil] at h; simpa using h
  · simpa using h
/-- What the iterator yields. -/
def pItem (s : List UInt8) (nums : List Int) (k : Nat) : List D := [.int .i64 (if k < nums.length then (k : Int) else -1), .str ((cutL s nums).getD k [])]
def pRest (s : List UInt8) (nums : List Int) (k : Nat) : List (List D) := ((List.range (cutL s nums).length).drop k).map (pItem s nums)
theorem pRest_y {s : List UInt8} {nums : List Int} {k : Nat} (h : k < (cutL s nums).length) : pRest s nums k = pItem s nums k :: pRest s nums (k + 1) := by
  unfold pRest
  rw [List.drop_eq_getElem_cons (by simpa using h)]
  simp
theorem pRest_end (s : List UInt8) (nums : List Int) {k : Nat} (h : (cutL s nums).length ≤ k) : pRest s nums k = [] := by
  unfold pRest; rw [List.drop_eq_nil_of_le (by simpa using h)]; rfl
theorem pRest_len (s : List UInt8) (nums : List Int) : (pRest s nums 0).length = (cutL s nums).length := by simp [pRest]
theorem pRest_get {s : List UInt8} {nums : List Int} {k : Nat} (h : k < (cutL s nums).length) : (pRest s nums 0).getD k [] = pItem s nums k := by
  simp [pRest, List.getD_eq_getElem?_getD, h]
def checkS (s : List UInt8) (n : Nat) : Int := if s.length > 20000 then 4 else if n > 40 then 6 else 0
theorem sizeS_y {n : Int} {len : Nat} (h : natS n / 8 % 4 = 0) : (min (natS n % 8) (len : Int)).toNat = sizeS n len := by
  have := natS_ge n
  unfold sizeS; rw [if_pos h]; omega
theorem sizeS_n {n : Int} {len : Nat} (h : ¬ natS n / 8 % 4 = 0) : (min (natS n % 40) (len : Int)).toNat = sizeS n len := by
  have := natS_ge n
  unfold sizeS; rw [if_neg h]; omega
theorem rng_get {l : List Int} (h : ∀ i ∈ l, -9223372036854775808 ≤ i ∧ i < 9223372036854775808) (k : Nat) : -9223372036854775808 ≤ l.getD k 0 ∧ l.getD k 0 < 9223372036854775808 := by
  rw [List.getD_eq_getElem?_getD]
  cases e : l[k]? with
  | none => simp
  | some i => simpa using h i (List.mem_of_getElem? e)
theorem pRest_part {s : List UInt8} {l : List Int} {k : Nat} (hk : k < l.length) {j : Nat} (hj : j = sizeS (l.getD k 0) (cutN s l k).2.length) :
    pRest s l k = [.int .i64 (k : Int), .str ((cutN s l k).2.take j)] :: pRest s l (k + 1) := by
  rw [pRest_y (by rw [cutL_len]; omega)]
  unfold pItem
  rw [if_pos hk, cutL_get hk, hj]
theorem pRest_tail {s : List UInt8} {l : List Int} (h : (cutN s l l.length).2 ≠ []) : pRest s l l.length = [[.int .i64 (-1), .str (cutN s l l.length).2]] := by
  have e := cutL_len s l
  rw [if_neg h] at e
  rw [pRest_y (by omega), pRest_end s l (k := l.length + 1) (by omega)]
  unfold pItem
  rw [if_neg (by omega), cutL_last h]
theorem pRest_none {s : List UInt8} {l : List Int} (h : (cutN s l l.length).2 = []) : pRest s l l.length = [] := by
  have e := cutL_len s l
  rw [if_pos h] at e
  exact pRest_end s l (by omega)
/-! ### scripts -/
def callD (k n : Int) (t : List UInt8) : D := .agg [.int .i64 k, .int .i64 n, .str t]
def otherD (kind n : Int) : D := if kind = 0 then callD 3 (1 + n / 7680 % 5) [] else if kind = 1 then callD 3 64 [] else if kind = 2 then callD 4 0 [] else callD 5 0 []
def kindsL (n : Int) : List Int := ([n / 480 % 4, n / 1920 % 4] : List Int).take (n / 160 % 3).toNat
def othersL (n : Int) : List D := (kindsL n).map fun k => otherD k n
def stepC (s : List UInt8) (l : List Int) (k : Nat) : List D := (if k < l.length then othersL (natS (l.getD k 0)) else []) ++ [callD 1 0 ((cutL s l).getD k [])]
def callsK (s : List UInt8) (l : List Int) : Nat → List D
  | 0 => []
  | k + 1 => callsK s l k ++ stepC s l k
def endL : List D := callD 2 0 [] :: List.replicate 8 (callD 3 64 [])
def callsL (s : List UInt8) (l : List Int) : List D := callsK s l (cutL s l).length ++ endL
theorem othersL_0 {n : Int} (h : n / 160 % 3 = 0) : othersL n = [] := by unfold othersL kindsL; rw [h]; rfl
theorem othersL_1 {n : Int} (h : n / 160 % 3 = 1) : othersL n = [otherD (n / 480 % 4) n] := by unfold othersL kindsL; rw [h]; rfl
theorem othersL_2 {n : Int} (h : n / 160 % 3 = 2) : othersL n = [otherD (n / 480 % 4) n, otherD (n / 1920 % 4) n] := by unfold othersL kindsL; rw [h]; rfl
theorem otherD_cells (k n : Int) : (otherD k n).cells.length = 3 := by
  unfold otherD; repeat' split
  all_goals rfl
theorem kindsL_len (n : Int) : (kindsL n).length ≤ 2 := by unfold kindsL; simp; omega
theorem othersL_len (n : Int) : (othersL n).length ≤ 2 := by unfold othersL; simpa using kindsL_len n
theorem callsK_len (s : List UInt8) (l : List Int) : ∀ k, (callsK s l k).length ≤ 3 * k
  | 0 => Nat.le_refl _
  | k + 1 => by
    have h1 := callsK_len s l k
    have h2 := othersL_len (natS (l.getD k 0))
    have h3 : (stepC s l k).length ≤ 3 := by
      unfold stepC
      generalize othersL (natS (l.getD k 0)) = o at h2
      split <;> simp <;> omega
    simp only [callsK, List.length_append]
    omega
theorem kindsL_rng {n k : Int} (h : k ∈ kindsL n) : 0 ≤ k ∧ k < 4 := by
  have h := List.mem_of_mem_take h
  simp at h
  omega
theorem kindsL_get (n : Int) (m : Nat) : 0 ≤ (kindsL n).getD m 0 ∧ (kindsL n).getD m 0 < 4 := by
  rw [List.getD_eq_getElem?_getD]
  cases e : (kindsL n)[m]? with
  | none => simp
  | some i => simpa using kindsL_rng (List.mem_of_getElem? e)
end Go.Abs
/- Contracts: parts of a string. -/
namespace Go.Abs
open Go.Proofs
abbrev dInts (l : List Int) : List D := l.map fun i => .int .i64 i
abbrev dStrs (l : List (List UInt8)) : List D := l.map fun s => .str s
theorem cr64 (n : Int) (h : -9223372036854775808 ≤ n ∧ n < 9223372036854775808) : CR Try.prog 64 [i64 n] [] (i64 (natS n)) [] := by
  refine fn_cr fn64 (Nat.le_of_ble_eq_true rfl) rfl ?_
  unfold sc64
  repeat' first
    | with_reducible refine T_seq ?_
    | with_reducible refine S_ops ?_
    | with_reducible refine O_step ?_
    | ((with_reducible apply K_mov_d); exact rfl)
    | with_reducible refine O_nil ?_
    | with_reducible refine seq_n ?_
    | with_reducible refine S_skip ?_
    | ((with_reducible apply T_itet); exact rfl)
    | ((with_reducible apply T_itef); exact rfl)
    | ((with_reducible apply T_ite1); exact rfl; (first | with_reducible assumption | omega))
    | ((with_reducible apply T_ite0); exact rfl; (first | with_reducible assumption | omega))
    | ((with_reducible apply T_iteP); exact rfl; all_goals intro _)
    | with_reducible refine S_ret ?_
    | with_reducible refine seq_r ?_
    | with_reducible refine rnd_r ?_
    | ((with_reducible apply K_lss); exact rfl; exact rfl)
    | ((with_reducible apply K_cpl); exact rfl)
    | ((with_reducible apply K_mov_ref); exact rfl)
    | ((with_reducible apply K_mov_ptr); exact rfl)
    | ((with_reducible apply K_mov_yld); exact rfl)
  · exact ends_i rfl (by rw [cpl64 (by omega)]; unfold natS; rw [if_pos (by omega)])
  · exact ends_i rfl (by unfold natS; rw [if_neg (by omega)])
theorem cr66 (n : Int) (h : -9223372036854775808 ≤ n ∧ n < 9223372036854775808) : CR Try.prog 66 [i64 n] [] (i64 (natS n)) [] := by
  refine fn_cr fn66 (Nat.le_of_ble_eq_true rfl) rfl ?_
  unfold sc66
  repeat' first
    | with_reducible refine T_seq ?_
    | with_reducible refine S_ops ?_
    | with_reducible refine O_step ?_
    | ((with_reducible apply K_mov_d); exact rfl)
    | with_reducible refine O_nil ?_
    | with_reducible refine seq_n ?_
    | with_reducible refine S_skip ?_
    | ((with_reducible apply T_itet); exact rfl)
    | ((with_reducible apply T_itef); exact rfl)
    | ((with_reducible apply T_ite1); exact rfl; (first | with_reducible assumption | omega))
    | ((with_reducible apply T_ite0); exact rfl; (first | with_reducible assumption | omega))
    | ((with_reducible apply T_iteP); exact rfl; all_goals intro _)
    | with_reducible refine S_ret ?_
    | with_reducible refine seq_r ?_
    | with_reducible refine rnd_r ?_
    | ((with_reducible apply K_lss); exact rfl; exact rfl)
    | ((with_reducible apply K_add); exact rfl; exact rfl; (first | omega | decide))
    | ((with_reducible apply K_addw); exact rfl; exact rfl)
    | ((with_reducible apply K_neg); exact rfl)
    | ((with_reducible apply K_mov_ref); exact rfl)
    | ((with_reducible apply K_mov_ptr); exact rfl)
    | ((with_reducible apply K_mov_yld); exact rfl)
  · exact ends_i rfl (by rw [wrap64 (by omega)]; unfold natS; rw [if_pos (by omega)]; omega)
  · exact ends_i rfl (by unfold natS; rw [if_neg (by omega)])
theorem cr60 (s : List UInt8) (d : D) (l : List Int) (hd : SL 1 d (dInts l)) (hl : l.length < 4294967296) : CR Try.prog 60 [st s, .d d] [] (i64 (checkS s l.length)) [] := by
  refine fn_cr fn60 (Nat.le_of_ble_eq_true rfl) rfl ?_
  unfold sc60
  have e0 : (dInts l).length = l.length := by simp
  repeat' first
    | ((with_reducible apply K_len_SL hd); exact rfl)
    | with_reducible refine T_seq ?_
    | with_reducible refine S_ops ?_
    | with_reducible refine O_step ?_
    | ((with_reducible apply K_mov_d); exact rfl)
    | with_reducible refine O_nil ?_
    | with_reducible refine seq_n ?_
    | with_reducible refine S_skip ?_
    | ((with_reducible apply T_itet); exact rfl)
    | ((with_reducible apply T_itef); exact rfl)
    | ((with_reducible apply T_ite1); exact rfl; (first | with_reducible assumption | omega))
    | ((with_reducible apply T_ite0); exact rfl; (first | with_reducible assumption | omega))
    | ((with_reducible apply T_iteP); exact rfl; all_goals intro _)
    | with_reducible refine S_ret ?_
    | with_reducible refine seq_r ?_
    | with_reducible refine T_block ?_
    | with_reducible refine blk_n ?_
    | with_reducible refine blk_r ?_
    | with_reducible refine rnd_r ?_
    | ((with_reducible apply K_gtr); exact rfl; exact rfl)
    | ((with_reducible apply K_lenS); exact rfl)
    | ((with_reducible apply K_len_d); exact rfl)
    | ((with_reducible apply K_len_nil); exact rfl)
    | ((with_reducible apply K_len_ref); exact rfl; exact rfl)
    | ((with_reducible apply K_mov_ref); exact rfl)
    | ((with_reducible apply K_mov_ptr); exact rfl)
    | ((with_reducible apply K_mov_yld); exact rfl)
  · exact ends_i rfl (by unfold checkS; rw [if_pos (by omega)])
  · exact ends_i rfl (by unfold checkS; rw [if_neg (by omega), if_pos (by omega)])
  · exact ends_i rfl (by unfold checkS; rw [if_neg (by omega), if_neg (by omega)])
theorem cr62 (s : List UInt8) (d : D) (l : List Int) (hd : SL 1 d (dInts l)) (hl : l.length < 4294967296) : CR Try.prog 62 [st s, .d d] [] (i64 (checkS s l.length)) [] := by
  refine fn_cr fn62 (Nat.le_of_ble_eq_true rfl) rfl ?_
  unfold sc62
  have e0 : (dInts l).length = l.length := by simp
  repeat' first
    | ((with_reducible apply K_len_SL hd); exact rfl)
    | with_reducible refine T_seq ?_
    | with_reducible refine S_ops ?_
    | with_reducible refine O_step ?_
    | ((with_reducible apply K_mov_d); exact rfl)
    | with_reducible refine O_nil ?_
    | with_reducible refine seq_n ?_
    | with_reducible refine S_skip ?_
    | ((with_reducible apply T_itet); exact rfl)
    | ((with_reducible apply T_itef); exact rfl)
    | ((with_reducible apply T_ite1); exact rfl; (first | with_reducible assumption | omega))
    | ((with_reducible apply T_ite0); exact rfl; (first | with_reducible assumption | omega))
    | ((with_reducible apply T_iteP); exact rfl; all_goals intro _)
    | with_reducible refine S_ret ?_
    | with_reducible refine seq_r ?_
    | with_reducible refine rnd_r ?_
    | ((with_reducible apply K_gtr); exact rfl; exact rfl)
    | ((with_reducible apply K_lenS); exact rfl)
    | ((with_reducible apply K_len_d); exact rfl)
    | ((with_reducible apply K_len_nil); exact rfl)
    | ((with_reducible apply K_len_ref); exact rfl; exact rfl)
    | ((with_reducible apply K_mov_ref); exact rfl)
    | ((with_reducible apply K_mov_ptr); exact rfl)
    | ((with_reducible apply K_mov_yld); exact rfl)
  · exact ends_i rfl (by unfold checkS; rw [if_pos (by omega)])
  · exact ends_i rfl (by unfold checkS; rw [if_neg (by omega), if_pos (by omega)])
  · exact ends_i rfl (by unfold checkS; rw [if_neg (by omega), if_neg (by omega)])
theorem cr63 (s : List UInt8) (d : D) (l : List Int) (hd : SL 1 d (dInts l)) (hl : l.length ≤ 1000) (hs : s.length ≤ 20000) (hr : ∀ i ∈ l, -9223372036854775808 ≤ i ∧ i < 9223372036854775808) : CR Try.prog 63 [st s, .d d] [] (.d (slD 1 (dStrs (cutL s l)))) [] := by
  refine fn_cr fn63 (Nat.le_of_ble_eq_true rfl) rfl ?_
  unfold sc63
  have e0 : (dInts l).length = l.length := by simp
  repeat' first
    | with_reducible refine T_seq ?_
    | with_reducible refine S_ops ?_
    | with_reducible refine O_step ?_
    | ((with_reducible apply K_mov_d); exact rfl)
    | with_reducible refine O_nil ?_
    | with_reducible refine seq_n ?_
    | with_reducible refine S_skip ?_
    | ((with_reducible apply T_itet); exact rfl)
    | ((with_reducible apply T_itef); exact rfl)
    | ((with_reducible apply T_ite1); exact rfl; (first | with_reducible assumption | omega))
    | ((with_reducible apply T_ite0); exact rfl; (first | with_reducible assumption | omega))
    | ((with_reducible apply T_iteP); exact rfl; all_goals intro _)
    | with_reducible refine S_ret ?_
    | with_reducible refine seq_r ?_
    | with_reducible refine S_exit ?_
    | with_reducible refine seq_e ?_
    | with_reducible refine T_block ?_
    | with_reducible refine blk_1 ?_
    | with_reducible refine blk_0 rfl ?_
    | with_reducible refine blk_n ?_
    | with_reducible refine blk_r ?_
    | with_reducible refine rnd_r ?_
    | with_reducible refine rnd_e ?_
    | ((with_reducible apply K_lss); exact rfl; exact rfl)
    | ((with_reducible apply K_eql); exact rfl; exact rfl)
    | ((with_reducible apply K_neq); exact rfl; exact rfl)
    | ((with_reducible apply K_eqlS); exact rfl; exact rfl)
    | ((with_reducible apply K_neqS); exact rfl; exact rfl)
    | ((with_reducible apply K_add); exact rfl; exact rfl; (first | omega | decide))
    | ((with_reducible apply K_addw); exact rfl; exact rfl)
    | ((with_reducible apply K_quo0); exact rfl; exact rfl; (first | omega | decide); (first | omega | decide))
    | ((with_reducible apply K_rem0); exact rfl; exact rfl; (first | omega | decide); (first | omega | decide))
    | ((with_reducible apply K_quo); exact rfl; exact rfl; (first | omega | decide))
    | ((with_reducible apply K_rem); exact rfl; exact rfl; (first | omega | decide))
    | ((with_reducible apply K_lenS); exact rfl)
    | ((with_reducible apply K_len_d); exact rfl)
    | ((with_reducible apply K_len_nil); exact rfl)
    | ((with_reducible apply K_len_ref); exact rfl; exact rfl)
    | ((with_reducible apply K_idxA_ref); exact rfl; exact rfl; exact rfl; (first | omega | decide))
    | ((with_reducible apply K_idxA_d); exact rfl; exact rfl; (first | omega | decide))
    | ((with_reducible apply K_load1_ptr); exact rfl; exact rfl; exact rfl)
    | ((with_reducible apply K_load1_fp); exact rfl)
    | ((with_reducible apply K_load1_byte); exact rfl; exact rfl; (first | omega | decide))
    | ((with_reducible apply K_mov_ref); exact rfl)
    | ((with_reducible apply K_mov_ptr); exact rfl)
    | ((with_reducible apply K_mov_yld); exact rfl)
    | ((with_reducible apply K_slS_hi); exact rfl; exact rfl; (first | omega | decide))
    | ((with_reducible apply K_slS_lo); exact rfl; exact rfl; (first | omega | decide))
    | ((with_reducible apply K_slS_2); exact rfl; exact rfl; exact rfl; (first | omega | decide); (first | omega | decide))
    | ((with_reducible apply K_min); exact rfl; exact rfl)
    | ((with_reducible apply K_bslice1); exact rfl; exact rfl)
    | ((with_reducible apply K_bslice); exact rfl)
  refine T_loop (fun t => Nat.beq t 0 || Nat.ble 5 t) [0, 5, 6] (fun u : Nat × AV × St => [st (cutN s l u.1).2, u.2.1, i64 u.1]) (fun u => u.2.2) (fun u => u.1 ≤ l.length ∧ OutT 0 u.2.1 u.2.2 1 (dStrs (cutN s l u.1).1)) (fun u => l.length - u.1) (0, .d .nilsl, []) rfl ⟨by omega, .nil _ _ _⟩ rfl rfl ?_
  rintro ⟨k, v, t⟩ g ⟨hk, ho⟩
  dsimp only at hk ho ⊢
  have hle := cutN_left s l k
  have hln := cutN_len s l k
  have hrk := rng_get hr k
  have c66 := cr66 _ hrk
  have hm0 := natS_ge (l.getD k 0)
  have hm1 := natS_lt hrk
  have ey := sizeS_y (n := l.getD k 0) (len := (cutN s l k).2.length)
  have en := sizeS_n (n := l.getD k 0) (len := (cutN s l k).2.length)
  have esl : (dStrs (cutN s l k).1).length = k := by simp [hln]
  repeat' first
    | ((with_reducible apply K_len_SL hd); exact rfl)
    | ((with_reducible apply K_idxA_map (fun i : Int => D.int .i64 i) 0 hd); exact rfl; exact rfl; omega)
    | ((with_reducible apply K_call_0 (f := 66) (ys := [.int .i64 (l.getD k 0)])); exact rfl; exact c66; exact rfl)
    | ((with_reducible apply K_mov_any v); exact rfl)
    | ((with_reducible apply K_mov_any v2); exact rfl)
    | ((with_reducible apply K_app_el (S0 := []) ho); exact rfl; exact rfl; exact rfl; (simp); (simp; omega); intro v2 t2 ho2)
    | with_reducible refine T_seq ?_
    | with_reducible refine S_ops ?_
    | with_reducible refine O_step ?_
    | ((with_reducible apply K_mov_d); exact rfl)
    | with_reducible refine O_nil ?_
    | with_reducible refine seq_n ?_
    | with_reducible refine S_skip ?_
    | ((with_reducible apply T_itet); exact rfl)
    | ((with_reducible apply T_itef); exact rfl)
    | ((with_reducible apply T_ite1); exact rfl; (first | with_reducible assumption | omega))
    | ((with_reducible apply T_ite0); exact rfl; (first | with_reducible assumption | omega))
    | ((with_reducible apply T_iteP); exact rfl; all_goals intro _)
    | with_reducible refine S_ret ?_
    | with_reducible refine seq_r ?_
    | with_reducible refine S_exit ?_
    | with_reducible refine seq_e ?_
    | with_reducible refine T_block ?_
    | with_reducible refine blk_1 ?_
    | with_reducible refine blk_0 rfl ?_
    | with_reducible refine blk_n ?_
    | with_reducible refine blk_r ?_
    | with_reducible refine rnd_r ?_
    | with_reducible refine rnd_e ?_
    | ((with_reducible apply K_lss); exact rfl; exact rfl)
    | ((with_reducible apply K_eql); exact rfl; exact rfl)
    | ((with_reducible apply K_neq); exact rfl; exact rfl)
    | ((with_reducible apply K_eqlS); exact rfl; exact rfl)
    | ((with_reducible apply K_neqS); exact rfl; exact rfl)
    | ((with_reducible apply K_add); exact rfl; exact rfl; (first | omega | decide))
    | ((with_reducible apply K_addw); exact rfl; exact rfl)
    | ((with_reducible apply K_quo0); exact rfl; exact rfl; (first | omega | decide); (first | omega | decide))
    | ((with_reducible apply K_rem0); exact rfl; exact rfl; (first | omega | decide); (first | omega | decide))
    | ((with_reducible apply K_quo); exact rfl; exact rfl; (first | omega | decide))
    | ((with_reducible apply K_rem); exact rfl; exact rfl; (first | omega | decide))
    | ((with_reducible apply K_lenS); exact rfl)
    | ((with_reducible apply K_len_d); exact rfl)
    | ((with_reducible apply K_len_nil); exact rfl)
    | ((with_reducible apply K_len_ref); exact rfl; exact rfl)
    | ((with_reducible apply K_idxA_ref); exact rfl; exact rfl; exact rfl; (first | omega | decide))
    | ((with_reducible apply K_idxA_d); exact rfl; exact rfl; (first | omega | decide))
    | ((with_reducible apply K_load1_ptr); exact rfl; exact rfl; exact rfl)
    | ((with_reducible apply K_load1_fp); exact rfl)
    | ((with_reducible apply K_load1_byte); exact rfl; exact rfl; (first | omega | decide))
    | ((with_reducible apply K_mov_ref); exact rfl)
    | ((with_reducible apply K_mov_ptr); exact rfl)
    | ((with_reducible apply K_mov_yld); exact rfl)
    | ((with_reducible apply K_slS_hi); exact rfl; exact rfl; (first | omega | decide))
    | ((with_reducible apply K_slS_lo); exact rfl; exact rfl; (first | omega | decide))
    | ((with_reducible apply K_slS_2); exact rfl; exact rfl; exact rfl; (first | omega | decide); (first | omega | decide))
    | ((with_reducible apply K_min); exact rfl; exact rfl)
    | ((with_reducible apply K_bslice1); exact rfl; exact rfl)
    | ((with_reducible apply K_bslice); exact rfl)
  · have e9 := ey (by assumption)
    rw [e9] at ho2
    refine rnd_n (k + 1, v2, t2) ⟨⟨by dsimp only; omega, by simpa [cutN] using ho2⟩, by dsimp only; omega⟩ ?_ rfl
    show [st ((cutN s l k).2.drop (min (natS (l.getD k 0) % 8) ((cutN s l k).2.length : Int)).toNat), v2, i64 ((k : Int) + 1)] = _
    rw [e9]; rfl
  · have e9 := en (by assumption)
    rw [e9] at ho2
    refine rnd_n (k + 1, v2, t2) ⟨⟨by dsimp only; omega, by simpa [cutN] using ho2⟩, by dsimp only; omega⟩ ?_ rfl
    show [st ((cutN s l k).2.drop (min (natS (l.getD k 0) % 40) ((cutN s l k).2.length : Int)).toNat), v2, i64 ((k : Int) + 1)] = _
    rw [e9]; rfl
  · have : k = l.length := by omega
    subst this
    have e9 : dStrs (cutL s l) = dStrs (cutN s l l.length).1 ++ [.str (cutN s l l.length).2] := by simp only [cutL]; rw [if_neg (by assumption)]; simp
    rw [← e9] at ho2
    exact ends_out1 (S0 := []) ho2 rfl rfl
  · have : k = l.length := by omega
    subst this
    have e9 : dStrs (cutL s l) = dStrs (cutN s l l.length).1 := by simp only [cutL]; rw [if_pos (Decidable.not_not.1 (by assumption))]; simp
    rw [e9]
    exact ends_out1 (S0 := []) ho rfl rfl
theorem cr30 (s : List UInt8) (d : D) (l : List Int) (hd : SL 1 d (dInts l)) (hl : l.length ≤ 1000) (hr : ∀ i ∈ l, -9223372036854775808 ≤ i ∧ i < 9223372036854775808) :
    CR Try.prog 30 [st s, .d d] [] (if checkS s l.length = 0 then .tup [.d (slD 1 (dStrs (cutL s l))), i64 0] else .tup [.d .nilsl, i64 (checkS s l.length)]) [] := by
  have c62 := cr62 s d l hd (by omega)
  by_cases h : checkS s l.length = 0
  · rw [if_pos h]
    have hs : s.length ≤ 20000 := by unfold checkS at h; split at h <;> omega
    have c63 := cr63 s d l hd hl hs hr
    refine fn_cr fn30 (Nat.le_of_ble_eq_true rfl) rfl ?_
    unfold sc30
    repeat' first
      | ((with_reducible apply K_call_0 (f := 62) (ys := [.str s, d])); exact rfl; exact c62; exact rfl)
      | ((with_reducible apply K_call_0 (f := 63) (ys := [.str s, d])); exact rfl; exact c63; exact rfl)
      | with_reducible refine T_seq ?_
      | with_reducible refine S_ops ?_
      | with_reducible refine O_step ?_
      | ((with_reducible apply K_mov_d); exact rfl)
      | with_reducible refine O_nil ?_
      | with_reducible refine seq_n ?_
      | with_reducible refine S_skip ?_
      | ((with_reducible apply T_itet); exact rfl)
      | ((with_reducible apply T_itef); exact rfl)
      | ((with_reducible apply T_ite1); exact rfl; (first | with_reducible assumption | omega))
      | ((with_reducible apply T_ite0); exact rfl; (first | with_reducible assumption | omega))
      | ((with_reducible apply T_iteP); exact rfl; all_goals intro _)
      | with_reducible refine S_ret ?_
      | with_reducible refine seq_r ?_
      | with_reducible refine rnd_r ?_
      | ((with_reducible apply K_neq); exact rfl; exact rfl)
      | ((with_reducible apply K_neqS); exact rfl; exact rfl)
      | ((with_reducible apply K_mov_ref); exact rfl)
      | ((with_reducible apply K_mov_ptr); exact rfl)
      | ((with_reducible apply K_mov_yld); exact rfl)
    exact ends_2 rfl
  · rw [if_neg h]
    refine fn_cr fn30 (Nat.le_of_ble_eq_true rfl) rfl ?_
    unfold sc30
    repeat' first
      | ((with_reducible apply K_call_0 (f := 62) (ys := [.str s, d])); exact rfl; exact c62; exact rfl)
      | with_reducible refine T_seq ?_
      | with_reducible refine S_ops ?_
      | with_reducible refine O_step ?_
      | ((with_reducible apply K_mov_d); exact rfl)
      | with_reducible refine O_nil ?_
      | with_reducible refine seq_n ?_
      | with_reducible refine S_skip ?_
      | ((with_reducible apply T_itet); exact rfl)
      | ((with_reducible apply T_itef); exact rfl)
      | ((with_reducible apply T_ite1); exact rfl; (first | with_reducible assumption | omega))
      | ((with_reducible apply T_ite0); exact rfl; (first | with_reducible assumption | omega))
      | ((with_reducible apply T_iteP); exact rfl; all_goals intro _)
      | with_reducible refine S_ret ?_
      | with_reducible refine seq_r ?_
      | with_reducible refine rnd_r ?_
      | ((with_reducible apply K_neq); exact rfl; exact rfl)
      | ((with_reducible apply K_neqS); exact rfl; exact rfl)
      | ((with_reducible apply K_mov_ref); exact rfl)
      | ((with_reducible apply K_mov_ptr); exact rfl)
      | ((with_reducible apply K_mov_yld); exact rfl)
    exact ends_2 rfl
theorem cr61 (s : List UInt8) (d : D) (hd : d.cells = [d]) : CR Try.prog 61 [st s, .d d] [] (.fn 76 [.ptr 1 0, .ptr 0 0]) [.box [st s], .box [.d d]] := by
  refine fn_cr fn61 (Nat.le_of_ble_eq_true rfl) rfl ?_
  unfold sc61
  have hd2 : d.cells.length = 1 := by rw [hd]; rfl
  repeat' first
    | ((with_reducible apply K_box_d); exact rfl; exact hd2)
    | with_reducible refine T_seq ?_
    | with_reducible refine S_ops ?_
    | with_reducible refine O_step ?_
    | ((with_reducible apply K_mov_d); exact rfl)
    | with_reducible refine O_nil ?_
    | with_reducible refine seq_n ?_
    | with_reducible refine S_ret ?_
    | with_reducible refine seq_r ?_
    | with_reducible refine rnd_r ?_
    | ((with_reducible apply K_mov_ref); exact rfl)
    | ((with_reducible apply K_mov_ptr); exact rfl)
    | ((with_reducible apply K_mov_fn); exact rfl)
    | ((with_reducible apply K_mov_yld); exact rfl)
    | ((with_reducible apply K_box_d); exact rfl; exact rfl)
    | with_reducible refine K_mkfn0 ?_
    | ((with_reducible apply K_mkfn); exact rfl; exact rfl)
  rw [hd]
  exact ⟨.inr rfl, _, [0, 1], rfl, rfl, by decide, (by intro i hi; simp at hi; simp; omega), rfl, rfl⟩
theorem ir76 (s : List UInt8) (d : D) (l : List Int) (hd : SL 1 d (dInts l)) (hl : l.length ≤ 1000) (hs : s.length ≤ 20000) (hr : ∀ i ∈ l, -9223372036854775808 ≤ i ∧ i < 9223372036854775808) :
    IR Try.prog 76 [.ptr 1 0, .ptr 0 0] [.box [st s], .box [.d d]] (pRest s l 0) := by
  refine it_ir fn76 (Nat.le_of_ble_eq_true rfl) (fun j off h => ?_) fun lp => ?_
  · simp at h; simp; omega
  unfold sc76
  have e0 : (dInts l).length = l.length := by simp
  repeat' first
    | ((with_reducible apply K_len_SL hd); exact rfl)
    | with_reducible refine T_seq ?_
    | with_reducible refine S_ops ?_
    | with_reducible refine O_step ?_
    | ((with_reducible apply K_mov_d); exact rfl)
    | with_reducible refine O_nil ?_
    | with_reducible refine seq_n ?_
    | with_reducible refine S_skip ?_
    | ((with_reducible apply T_itet); exact rfl)
    | ((with_reducible apply T_itef); exact rfl)
    | ((with_reducible apply T_ite1); exact rfl; (first | with_reducible assumption | omega))
    | ((with_reducible apply T_ite0); exact rfl; (first | with_reducible assumption | omega))
    | ((with_reducible apply T_iteP); exact rfl; all_goals intro _)
    | with_reducible refine S_ret ?_
    | with_reducible refine seq_r ?_
    | with_reducible refine S_exit ?_
    | with_reducible refine seq_e ?_
    | with_reducible refine T_block ?_
    | with_reducible refine blk_1 ?_
    | with_reducible refine blk_0 rfl ?_
    | with_reducible refine blk_n ?_
    | with_reducible refine blk_r ?_
    | with_reducible refine rnd_r ?_
    | with_reducible refine rnd_e ?_
    | ((with_reducible apply K_lss); exact rfl; exact rfl)
    | ((with_reducible apply K_eql); exact rfl; exact rfl)
    | ((with_reducible apply K_neq); exact rfl; exact rfl)
    | ((with_reducible apply K_eqlS); exact rfl; exact rfl)
    | ((with_reducible apply K_neqS); exact rfl; exact rfl)
    | ((with_reducible apply K_add); exact rfl; exact rfl; (first | omega | decide))
    | ((with_reducible apply K_addw); exact rfl; exact rfl)
    | ((with_reducible apply K_and3); exact rfl; exact rfl; (first | omega | decide))
    | ((with_reducible apply K_and7); exact rfl; exact rfl; (first | omega | decide))
    | ((with_reducible apply K_shrc 2); exact rfl; exact rfl; exact rfl; (first | omega | decide))
    | ((with_reducible apply K_shrc 4); exact rfl; exact rfl; exact rfl; (first | omega | decide))
    | ((with_reducible apply K_shrc 8); exact rfl; exact rfl; exact rfl; (first | omega | decide))
    | ((with_reducible apply K_rem0); exact rfl; exact rfl; (first | omega | decide); (first | omega | decide))
    | ((with_reducible apply K_rem); exact rfl; exact rfl; (first | omega | decide))
    | ((with_reducible apply K_and); exact rfl; exact rfl)
    | ((with_reducible apply K_shr); exact rfl; exact rfl; (first | omega | decide))
    | ((with_reducible apply K_not_t); exact rfl)
    | ((with_reducible apply K_not_f); exact rfl)
    | ((with_reducible apply K_notP); exact rfl)
    | ((with_reducible apply K_lenS); exact rfl)
    | ((with_reducible apply K_len_d); exact rfl)
    | ((with_reducible apply K_len_nil); exact rfl)
    | ((with_reducible apply K_len_ref); exact rfl; exact rfl)
    | ((with_reducible apply K_idxA_ref); exact rfl; exact rfl; exact rfl; (first | omega | decide))
    | ((with_reducible apply K_idxA_d); exact rfl; exact rfl; (first | omega | decide))
    | ((with_reducible apply K_load1_ptr); exact rfl; exact rfl; exact rfl)
    | ((with_reducible apply K_load1_fp); exact rfl)
    | ((with_reducible apply K_load1_byte); exact rfl; exact rfl; (first | omega | decide))
    | ((with_reducible apply K_mov_ref); exact rfl)
    | ((with_reducible apply K_mov_ptr); exact rfl)
    | ((with_reducible apply K_mov_yld); exact rfl)
    | ((with_reducible apply K_slS_hi); exact rfl; exact rfl; (first | omega | decide))
    | ((with_reducible apply K_slS_lo); exact rfl; exact rfl; (first | omega | decide))
    | ((with_reducible apply K_slS_2); exact rfl; exact rfl; exact rfl; (first | omega | decide); (first | omega | decide))
    | ((with_reducible apply K_min); exact rfl; exact rfl)
    | ((with_reducible apply K_store1_pd); exact rfl; exact rfl; exact rfl; (first | decide | simp); exact rfl)
    | ((with_reducible apply K_store1_pr); exact rfl; exact rfl; exact rfl; (first | decide | simp))
  refine T_loop (fun t => Nat.ble 4 t && (!(Nat.beq t 7) && !(Nat.beq t 8))) [9, G] (fun k : Nat => [i64 k, .gh lp (pRest s l k)]) (fun k => [.box [st (cutN s l k).2], .box [.d d]]) (· ≤ l.length) (l.length - ·) 0 rfl (Nat.zero_le _) rfl rfl ?_
  intro k g hk
  have hle := cutN_left s l k
  have hrk := rng_get hr k
  have c64 := cr64 _ hrk
  have hm0 := natS_ge (l.getD k 0)
  have hm1 := natS_lt hrk
  by_cases hlt : k < l.length
  · by_cases h8 : natS (l.getD k 0) / 8 % 4 = 0
    · have e9 := sizeS_y (n := l.getD k 0) (len := (cutN s l k).2.length) h8
      have hy := pRest_part hlt e9
      repeat' first
        | ((with_reducible apply O_yield); exact rfl; exact congrArg (AV.gh lp) hy; exact rfl)
        | ((with_reducible apply K_idxA_map (fun i : Int => D.int .i64 i) 0 hd); exact rfl; exact rfl; omega)
        | ((with_reducible apply K_call_0 (f := 64) (ys := [.int .i64 (l.getD k 0)])); exact rfl; exact c64; exact rfl)
        | with_reducible refine T_seq ?_
        | with_reducible refine S_ops ?_
        | with_reducible refine O_step ?_
        | ((with_reducible apply K_mov_d); exact rfl)
        | with_reducible refine O_nil ?_
        | with_reducible refine seq_n ?_
        | with_reducible refine S_skip ?_
        | ((with_reducible apply T_itet); exact rfl)
        | ((with_reducible apply T_itef); exact rfl)
        | ((with_reducible apply T_ite1); exact rfl; (first | with_reducible assumption | omega))
        | ((with_reducible apply T_ite0); exact rfl; (first | with_reducible assumption | omega))
        | ((with_reducible apply T_iteP); exact rfl; all_goals intro _)
        | with_reducible refine S_ret ?_
        | with_reducible refine seq_r ?_
        | with_reducible refine S_exit ?_
        | with_reducible refine seq_e ?_
        | with_reducible refine T_block ?_
        | with_reducible refine blk_1 ?_
        | with_reducible refine blk_0 rfl ?_
        | with_reducible refine blk_n ?_
        | with_reducible refine blk_r ?_
        | with_reducible refine rnd_r ?_
        | with_reducible refine rnd_e ?_
        | ((with_reducible apply K_lss); exact rfl; exact rfl)
        | ((with_reducible apply K_eql); exact rfl; exact rfl)
        | ((with_reducible apply K_neq); exact rfl; exact rfl)
        | ((with_reducible apply K_eqlS); exact rfl; exact rfl)
        | ((with_reducible apply K_neqS); exact rfl; exact rfl)
        | ((with_reducible apply K_add); exact rfl; exact rfl; (first | omega | decide))
        | ((with_reducible apply K_addw); exact rfl; exact rfl)
        | ((with_reducible apply K_and3); exact rfl; exact rfl; (first | omega | decide))
        | ((with_reducible apply K_and7); exact rfl; exact rfl; (first | omega | decide))
        | ((with_reducible apply K_shrc 2); exact rfl; exact rfl; exact rfl; (first | omega | decide))
        | ((with_reducible apply K_shrc 4); exact rfl; exact rfl; exact rfl; (first | omega | decide))
        | ((with_reducible apply K_shrc 8); exact rfl; exact rfl; exact rfl; (first | omega | decide))
        | ((with_reducible apply K_rem0); exact rfl; exact rfl; (first | omega | decide); (first | omega | decide))
        | ((with_reducible apply K_rem); exact rfl; exact rfl; (first | omega | decide))
        | ((with_reducible apply K_and); exact rfl; exact rfl)
        | ((with_reducible apply K_shr); exact rfl; exact rfl; (first | omega | decide))
        | ((with_reducible apply K_not_t); exact rfl)
        | ((with_reducible apply K_not_f); exact rfl)
        | ((with_reducible apply K_notP); exact rfl)
        | ((with_reducible apply K_lenS); exact rfl)
        | ((with_reducible apply K_len_d); exact rfl)
        | ((with_reducible apply K_len_nil); exact rfl)
        | ((with_reducible apply K_len_ref); exact rfl; exact rfl)
        | ((with_reducible apply K_idxA_ref); exact rfl; exact rfl; exact rfl; (first | omega | decide))
        | ((with_reducible apply K_idxA_d); exact rfl; exact rfl; (first | omega | decide))
        | ((with_reducible apply K_load1_ptr); exact rfl; exact rfl; exact rfl)
        | ((with_reducible apply K_load1_fp); exact rfl)
        | ((with_reducible apply K_load1_byte); exact rfl; exact rfl; (first | omega | decide))
        | ((with_reducible apply K_mov_ref); exact rfl)
        | ((with_reducible apply K_mov_ptr); exact rfl)
        | ((with_reducible apply K_mov_yld); exact rfl)
        | ((with_reducible apply K_slS_hi); exact rfl; exact rfl; (first | omega | decide))
        | ((with_reducible apply K_slS_lo); exact rfl; exact rfl; (first | omega | decide))
        | ((with_reducible apply K_slS_2); exact rfl; exact rfl; exact rfl; (first | omega | decide); (first | omega | decide))
        | ((with_reducible apply K_min); exact rfl; exact rfl)
        | ((with_reducible apply K_store1_pd); exact rfl; exact rfl; exact rfl; (first | decide | simp); exact rfl)
        | ((with_reducible apply K_store1_pr); exact rfl; exact rfl; exact rfl; (first | decide | simp))
      · refine rnd_n (k + 1) ⟨by omega, by omega⟩ rfl ?_
        show [AO.box [st ((cutN s l k).2.drop (min (natS (l.getD k 0) % 8) ((cutN s l k).2.length : Int)).toNat)], AO.box [.d d]] = _
        rw [e9]; rfl
      · exact ⟨.inr rfl, rfl⟩
    · have e9 := sizeS_n (n := l.getD k 0) (len := (cutN s l k).2.length) h8
      have hy := pRest_part hlt e9
      repeat' first
        | ((with_reducible apply O_yield); exact rfl; exact congrArg (AV.gh lp) hy; exact rfl)
        | ((with_reducible apply K_idxA_map (fun i : Int => D.int .i64 i) 0 hd); exact rfl; exact rfl; omega)
        | ((with_reducible apply K_call_0 (f := 64) (ys := [.int .i64 (l.getD k 0)])); exact rfl; exact c64; exact rfl)
        | with_reducible refine T_seq ?_
        | with_reducible refine S_ops ?_
        | with_reducible refine O_step ?_
        | ((with_reducible apply K_mov_d); exact rfl)
        | with_reducible refine O_nil ?_
        | with_reducible refine seq_n ?_
        | with_reducible refine S_skip ?_
        | ((with_reducible apply T_itet); exact rfl)
        | ((with_reducible apply T_itef); exact rfl)
        | ((with_reducible apply T_ite1); exact rfl; (first | with_reducible assumption | omega))
        | ((with_reducible apply T_ite0); exact rfl; (first | with_reducible assumption | omega))
        | ((with_reducible apply T_iteP); exact rfl; all_goals intro _)
        | with_reducible refine S_ret ?_
        | with_reducible refine seq_r ?_
        | with_reducible refine S_exit ?_
        | with_reducible refine seq_e ?_
        | with_reducible refine T_block ?_
        | with_reducible refine blk_1 ?_
        | with_reducible refine blk_0 rfl ?_
        | with_reducible refine blk_n ?_
        | with_reducible refine blk_r ?_
        | with_reducible refine rnd_r ?_
        | with_reducible refine rnd_e ?_
        | ((with_reducible apply K_lss); exact rfl; exact rfl)
        | ((with_reducible apply K_eql); exact rfl; exact rfl)
        | ((with_reducible apply K_neq); exact rfl; exact rfl)
        | ((with_reducible apply K_eqlS); exact rfl; exact rfl)
        | ((with_reducible apply K_neqS); exact rfl; exact rfl)
        | ((with_reducible apply K_add); exact rfl; exact rfl; (first | omega | decide))
        | ((with_reducible apply K_addw); exact rfl; exact rfl)
        | ((with_reducible apply K_and3); exact rfl; exact rfl; (first | omega | decide))
        | ((with_reducible apply K_and7); exact rfl; exact rfl; (first | omega | decide))
        | ((with_reducible apply K_shrc 2); exact rfl; exact rfl; exact rfl; (first | omega | decide))
        | ((with_reducible apply K_shrc 4); exact rfl; exact rfl; exact rfl; (first | omega | decide))
        | ((with_reducible apply K_shrc 8); exact rfl; exact rfl; exact rfl; (first | omega | decide))
        | ((with_reducible apply K_rem0); exact rfl; exact rfl; (first | omega | decide); (first | omega | decide))
        | ((with_reducible apply K_rem); exact rfl; exact rfl; (first | omega | decide))
        | ((with_reducible apply K_and); exact rfl; exact rfl)
        | ((with_reducible apply K_shr); exact rfl; exact rfl; (first | omega | decide))
        | ((with_reducible apply K_not_t); exact rfl)
        | ((with_reducible apply K_not_f); exact rfl)
        | ((with_reducible apply K_notP); exact rfl)
        | ((with_reducible apply K_lenS); exact rfl)
        | ((with_reducible apply K_len_d); exact rfl)
        | ((with_reducible apply K_len_nil); exact rfl)
        | ((with_reducible apply K_len_ref); exact rfl; exact rfl)
        | ((with_reducible apply K_idxA_ref); exact rfl; exact rfl; exact rfl; (first | omega | decide))
        | ((with_reducible apply K_idxA_d); exact rfl; exact rfl; (first | omega | decide))
        | ((with_reducible apply K_load1_ptr); exact rfl; exact rfl; exact rfl)
        | ((with_reducible apply K_load1_fp); exact rfl)
        | ((with_reducible apply K_load1_byte); exact rfl; exact rfl; (first | omega | decide))
        | ((with_reducible apply K_mov_ref); exact rfl)
        | ((with_reducible apply K_mov_ptr); exact rfl)
        | ((with_reducible apply K_mov_yld); exact rfl)
        | ((with_reducible apply K_slS_hi); exact rfl; exact rfl; (first | omega | decide))
        | ((with_reducible apply K_slS_lo); exact rfl; exact rfl; (first | omega | decide))
        | ((with_reducible apply K_slS_2); exact rfl; exact rfl; exact rfl; (first | omega | decide); (first | omega | decide))
        | ((with_reducible apply K_min); exact rfl; exact rfl)
        | ((with_reducible apply K_store1_pd); exact rfl; exact rfl; exact rfl; (first | decide | simp); exact rfl)
        | ((with_reducible apply K_store1_pr); exact rfl; exact rfl; exact rfl; (first | decide | simp))
      · refine rnd_n (k + 1) ⟨by omega, by omega⟩ rfl ?_
        show [AO.box [st ((cutN s l k).2.drop (min (natS (l.getD k 0) % 40) ((cutN s l k).2.length : Int)).toNat)], AO.box [.d d]] = _
        rw [e9]; rfl
      · exact ⟨.inr rfl, rfl⟩
  · have : k = l.length := by omega
    subst this
    by_cases ht : (cutN s l l.length).2 = []
    · have hy := pRest_none ht
      have hnt : ¬ ((cutN s l l.length).2 ≠ []) := fun h => h ht
      repeat' first
        | with_reducible refine T_seq ?_
        | with_reducible refine S_ops ?_
        | with_reducible refine O_step ?_
        | ((with_reducible apply K_mov_d); exact rfl)
        | with_reducible refine O_nil ?_
        | with_reducible refine seq_n ?_
        | with_reducible refine S_skip ?_
        | ((with_reducible apply T_itet); exact rfl)
        | ((with_reducible apply T_itef); exact rfl)
        | ((with_reducible apply T_ite1); exact rfl; (first | with_reducible assumption | omega))
        | ((with_reducible apply T_ite0); exact rfl; (first | with_reducible assumption | omega))
        | ((with_reducible apply T_iteP); exact rfl; all_goals intro _)
        | with_reducible refine S_ret ?_
        | with_reducible refine seq_r ?_
        | with_reducible refine S_exit ?_
        | with_reducible refine seq_e ?_
        | with_reducible refine T_block ?_
        | with_reducible refine blk_1 ?_
        | with_reducible refine blk_0 rfl ?_
        | with_reducible refine blk_n ?_
        | with_reducible refine blk_r ?_
        | with_reducible refine rnd_r ?_
        | with_reducible refine rnd_e ?_
        | ((with_reducible apply K_lss); exact rfl; exact rfl)
        | ((with_reducible apply K_eql); exact rfl; exact rfl)
        | ((with_reducible apply K_neq); exact rfl; exact rfl)
        | ((with_reducible apply K_eqlS); exact rfl; exact rfl)
        | ((with_reducible apply K_neqS); exact rfl; exact rfl)
        | ((with_reducible apply K_add); exact rfl; exact rfl; (first | omega | decide))
        | ((with_reducible apply K_addw); exact rfl; exact rfl)
        | ((with_reducible apply K_and3); exact rfl; exact rfl; (first | omega | decide))
        | ((with_reducible apply K_and7); exact rfl; exact rfl; (first | omega | decide))
        | ((with_reducible apply K_shrc 2); exact rfl; exact rfl; exact rfl; (first | omega | decide))
        | ((with_reducible apply K_shrc 4); exact rfl; exact rfl; exact rfl; (first | omega | decide))
        | ((with_reducible apply K_shrc 8); exact rfl; exact rfl; exact rfl; (first | omega | decide))
        | ((with_reducible apply K_rem0); exact rfl; exact rfl; (first | omega | decide); (first | omega | decide))
        | ((with_reducible apply K_rem); exact rfl; exact rfl; (first | omega | decide))
        | ((with_reducible apply K_and); exact rfl; exact rfl)
        | ((with_reducible apply K_shr); exact rfl; exact rfl; (first | omega | decide))
        | ((with_reducible apply K_not_t); exact rfl)
        | ((with_reducible apply K_not_f); exact rfl)
        | ((with_reducible apply K_notP); exact rfl)
        | ((with_reducible apply K_lenS); exact rfl)
        | ((with_reducible apply K_len_d); exact rfl)
        | ((with_reducible apply K_len_nil); exact rfl)
        | ((with_reducible apply K_len_ref); exact rfl; exact rfl)
        | ((with_reducible apply K_idxA_ref); exact rfl; exact rfl; exact rfl; (first | omega | decide))
        | ((with_reducible apply K_idxA_d); exact rfl; exact rfl; (first | omega | decide))
        | ((with_reducible apply K_load1_ptr); exact rfl; exact rfl; exact rfl)
        | ((with_reducible apply K_load1_fp); exact rfl)
        | ((with_reducible apply K_load1_byte); exact rfl; exact rfl; (first | omega | decide))
        | ((with_reducible apply K_mov_ref); exact rfl)
        | ((with_reducible apply K_mov_ptr); exact rfl)
        | ((with_reducible apply K_mov_yld); exact rfl)
        | ((with_reducible apply K_slS_hi); exact rfl; exact rfl; (first | omega | decide))
        | ((with_reducible apply K_slS_lo); exact rfl; exact rfl; (first | omega | decide))
        | ((with_reducible apply K_slS_2); exact rfl; exact rfl; exact rfl; (first | omega | decide); (first | omega | decide))
        | ((with_reducible apply K_min); exact rfl; exact rfl)
        | ((with_reducible apply K_store1_pd); exact rfl; exact rfl; exact rfl; (first | decide | simp); exact rfl)
        | ((with_reducible apply K_store1_pr); exact rfl; exact rfl; exact rfl; (first | decide | simp))
      exact ⟨.inl rfl, congrArg (AV.gh lp) hy⟩
    · have hy := pRest_tail ht
      repeat' first
        | ((with_reducible apply O_yield); exact rfl; exact congrArg (AV.gh lp) hy; exact rfl)
        | with_reducible refine T_seq ?_
        | with_reducible refine S_ops ?_
        | with_reducible refine O_step ?_
        | ((with_reducible apply K_mov_d); exact rfl)
        | with_reducible refine O_nil ?_
        | with_reducible refine seq_n ?_
        | with_reducible refine S_skip ?_
        | ((with_reducible apply T_itet); exact rfl)
        | ((with_reducible apply T_itef); exact rfl)
        | ((with_reducible apply T_ite1); exact rfl; (first | with_reducible assumption | omega))
        | ((with_reducible apply T_ite0); exact rfl; (first | with_reducible assumption | omega))
        | ((with_reducible apply T_iteP); exact rfl; all_goals intro _)
        | with_reducible refine S_ret ?_
        | with_reducible refine seq_r ?_
        | with_reducible refine S_exit ?_
        | with_reducible refine seq_e ?_
        | with_reducible refine T_block ?_
        | with_reducible refine blk_1 ?_
        | with_reducible refine blk_0 rfl ?_
        | with_reducible refine blk_n ?_
        | with_reducible refine blk_r ?_
        | with_reducible refine rnd_r ?_
        | with_reducible refine rnd_e ?_
        | ((with_reducible apply K_lss); exact rfl; exact rfl)
        | ((with_reducible apply K_eql); exact rfl; exact rfl)
        | ((with_reducible apply K_neq); exact rfl; exact rfl)
        | ((with_reducible apply K_eqlS); exact rfl; exact rfl)
        | ((with_reducible apply K_neqS); exact rfl; exact rfl)
        | ((with_reducible apply K_add); exact rfl; exact rfl; (first | omega | decide))
        | ((with_reducible apply K_addw); exact rfl; exact rfl)
        | ((with_reducible apply K_and3); exact rfl; exact rfl; (first | omega | decide))
        | ((with_reducible apply K_and7); exact rfl; exact rfl; (first | omega | decide))
        | ((with_reducible apply K_shrc 2); exact rfl; exact rfl; exact rfl; (first | omega | decide))
        | ((with_reducible apply K_shrc 4); exact rfl; exact rfl; exact rfl; (first | omega | decide))
        | ((with_reducible apply K_shrc 8); exact rfl; exact rfl; exact rfl; (first | omega | decide))
        | ((with_reducible apply K_rem0); exact rfl; exact rfl; (first | omega | decide); (first | omega | decide))
        | ((with_reducible apply K_rem); exact rfl; exact rfl; (first | omega | decide))
        | ((with_reducible apply K_and); exact rfl; exact rfl)
        | ((with_reducible apply K_shr); exact rfl; exact rfl; (first | omega | decide))
        | ((with_reducible apply K_not_t); exact rfl)
        | ((with_reducible apply K_not_f); exact rfl)
        | ((with_reducible apply K_notP); exact rfl)
        | ((with_reducible apply K_lenS); exact rfl)
        | ((with_reducible apply K_len_d); exact rfl)
        | ((with_reducible apply K_len_nil); exact rfl)
        | ((with_reducible apply K_len_ref); exact rfl; exact rfl)
        | ((with_reducible apply K_idxA_ref); exact rfl; exact rfl; exact rfl; (first | omega | decide))
        | ((with_reducible apply K_idxA_d); exact rfl; exact rfl; (first | omega | decide))
        | ((with_reducible apply K_load1_ptr); exact rfl; exact rfl; exact rfl)
        | ((with_reducible apply K_load1_fp); exact rfl)
        | ((with_reducible apply K_load1_byte); exact rfl; exact rfl; (first | omega | decide))
        | ((with_reducible apply K_mov_ref); exact rfl)
        | ((with_reducible apply K_mov_ptr); exact rfl)
        | ((with_reducible apply K_mov_yld); exact rfl)
        | ((with_reducible apply K_slS_hi); exact rfl; exact rfl; (first | omega | decide))
        | ((with_reducible apply K_slS_lo); exact rfl; exact rfl; (first | omega | decide))
        | ((with_reducible apply K_slS_2); exact rfl; exact rfl; exact rfl; (first | omega | decide); (first | omega | decide))
        | ((with_reducible apply K_min); exact rfl; exact rfl)
        | ((with_reducible apply K_store1_pd); exact rfl; exact rfl; exact rfl; (first | decide | simp); exact rfl)
        | ((with_reducible apply K_store1_pr); exact rfl; exact rfl; exact rfl; (first | decide | simp))
      all_goals exact ⟨.inl rfl, rfl⟩
theorem cr29 (s : List UInt8) (d : D) (l : List Int) (hd : SL 1 d (dInts l)) (hl : l.length ≤ 1000) (hr : ∀ i ∈ l, -9223372036854775808 ≤ i ∧ i < 9223372036854775808) :
    CR Try.prog 29 [st s, .d d] [] (if checkS s l.length = 0 then .tup [.d (slD 1 (dStrs (cutL s l))), i64 0] else .tup [.d .nilsl, i64 (checkS s l.length)]) [] := by
  have c60 := cr60 s d l hd (by omega)
  by_cases h : checkS s l.length = 0
  · rw [if_pos h]
    have hs : s.length ≤ 20000 := by unfold checkS at h; split at h <;> omega
    have c61 := cr61 s d hd.cells
    have hit := ir76 s d l hd hl hs hr
    refine fn_cr fn29 (Nat.le_of_ble_eq_true rfl) rfl ?_
    unfold sc29
    repeat' first
      | ((with_reducible apply K_call_0 (f := 60) (ys := [.str s, d])); exact rfl; exact c60; exact rfl)
      | ((with_reducible apply K_call_d (f := 61) (ys := [.str s, d])); exact rfl; exact c61; exact ⟨rfl, rfl⟩)
      | with_reducible refine T_seq ?_
      | with_reducible refine S_ops ?_
      | with_reducible refine O_step ?_
      | ((with_reducible apply K_mov_d); exact rfl)
      | with_reducible refine O_nil ?_
      | with_reducible refine seq_n ?_
      | with_reducible refine S_skip ?_
      | ((with_reducible apply T_itet); exact rfl)
      | ((with_reducible apply T_itef); exact rfl)
      | ((with_reducible apply T_ite1); exact rfl; (first | with_reducible assumption | omega))
      | ((with_reducible apply T_ite0); exact rfl; (first | with_reducible assumption | omega))
      | ((with_reducible apply T_iteP); exact rfl; all_goals intro _)
      | with_reducible refine S_ret ?_
      | with_reducible refine seq_r ?_
      | with_reducible refine T_block ?_
      | with_reducible refine blk_n ?_
      | with_reducible refine blk_r ?_
      | with_reducible refine rnd_r ?_
      | with_reducible refine body_r ?_
      | with_reducible refine asg_n ?_
      | ((with_reducible apply K_neq); exact rfl; exact rfl)
      | ((with_reducible apply K_neqS); exact rfl; exact rfl)
      | ((with_reducible apply K_load1_ptr); exact rfl; exact rfl; exact rfl)
      | ((with_reducible apply K_load1_fp); exact rfl)
      | ((with_reducible apply K_load1_byte); exact rfl; exact rfl; (first | omega | decide))
      | ((with_reducible apply K_mov_ref); exact rfl)
      | ((with_reducible apply K_mov_ptr); exact rfl)
      | ((with_reducible apply K_mov_yld); exact rfl)
      | with_reducible refine K_alloc ?_
      | ((with_reducible apply K_store1_pd); exact rfl; exact rfl; exact rfl; (first | decide | simp); exact rfl)
      | ((with_reducible apply K_store1_pr); exact rfl; exact rfl; exact rfl; (first | decide | simp))
      | ((with_reducible apply K_bslice1); exact rfl; exact rfl)
      | ((with_reducible apply K_bslice); exact rfl)
    have hlen : (cutL s l).length ≤ 1001 := by rw [cutL_len]; split <;> omega
    refine T_rng [1, 2] [.ptr 1 0, .ptr 0 0] [.box [st s], .box [.d d]] (pRest s l 0) (fun k S => ∃ v t, S = [.box [v], .dead, .dead] ++ t ∧ OutT 3 v t 1 (dStrs ((cutL s l).take k))) rfl hit (fun xs hx => ?_) rfl (by decide) rfl ⟨.d .nilsl, [], rfl, .nil _ _ _⟩ ?_ ?_
    · unfold pRest at hx
      obtain ⟨i, _, rfl⟩ := List.mem_map.1 hx
      rfl
    · rintro S ⟨v, t, rfl, ho⟩
      rw [pRest_len, List.take_length] at ho
      repeat' first
        | ((with_reducible apply K_mov_any v); exact rfl)
        | with_reducible refine T_seq ?_
        | with_reducible refine S_ops ?_
        | with_reducible refine O_step ?_
        | ((with_reducible apply K_mov_d); exact rfl)
        | with_reducible refine O_nil ?_
        | with_reducible refine seq_n ?_
        | with_reducible refine S_skip ?_
        | ((with_reducible apply T_itet); exact rfl)
        | ((with_reducible apply T_itef); exact rfl)
        | ((with_reducible apply T_ite1); exact rfl; (first | with_reducible assumption | omega))
        | ((with_reducible apply T_ite0); exact rfl; (first | with_reducible assumption | omega))
        | ((with_reducible apply T_iteP); exact rfl; all_goals intro _)
        | with_reducible refine S_ret ?_
        | with_reducible refine seq_r ?_
        | with_reducible refine T_block ?_
        | with_reducible refine blk_n ?_
        | with_reducible refine blk_r ?_
        | with_reducible refine rnd_r ?_
        | with_reducible refine body_r ?_
        | with_reducible refine asg_n ?_
        | ((with_reducible apply K_neq); exact rfl; exact rfl)
        | ((with_reducible apply K_neqS); exact rfl; exact rfl)
        | ((with_reducible apply K_load1_ptr); exact rfl; exact rfl; exact rfl)
        | ((with_reducible apply K_load1_fp); exact rfl)
        | ((with_reducible apply K_load1_byte); exact rfl; exact rfl; (first | omega | decide))
        | ((with_reducible apply K_mov_ref); exact rfl)
        | ((with_reducible apply K_mov_ptr); exact rfl)
        | ((with_reducible apply K_mov_yld); exact rfl)
        | with_reducible refine K_alloc ?_
        | ((with_reducible apply K_store1_pd); exact rfl; exact rfl; exact rfl; (first | decide | simp); exact rfl)
        | ((with_reducible apply K_store1_pr); exact rfl; exact rfl; exact rfl; (first | decide | simp))
        | ((with_reducible apply K_bslice1); exact rfl; exact rfl)
        | ((with_reducible apply K_bslice); exact rfl)
      exact ends_out (S0 := [.box [v], .dead, .dead]) ho rfl rfl rfl
    · rintro k S ⟨v, t, rfl, ho⟩ hk
      rw [pRest_len] at hk
      rw [pRest_get hk]
      have hx : (cutL s l).take (k + 1) = (cutL s l).take k ++ [(cutL s l).getD k []] := by
        rw [List.take_succ_eq_append_getElem hk]; simp [List.getD_eq_getElem?_getD, hk]
      have hln : ((cutL s l).take k).length ≤ 1001 := by simp; omega
      repeat' first
        | ((with_reducible apply K_app_el (S0 := [.box [v], .dead, .dead]) ho); exact rfl; exact rfl; exact rfl; (simp); (simp at hln ⊢; omega); intro v2 t2 ho2)
        | ((with_reducible apply K_store1_ptr (v := v2)); exact rfl; exact rfl; exact rfl; simp; exact ho2.okc; exact ho2.cells)
        | with_reducible refine T_seq ?_
        | with_reducible refine S_ops ?_
        | with_reducible refine O_step ?_
        | ((with_reducible apply K_mov_d); exact rfl)
        | with_reducible refine O_nil ?_
        | with_reducible refine seq_n ?_
        | with_reducible refine S_skip ?_
        | ((with_reducible apply T_itet); exact rfl)
        | ((with_reducible apply T_itef); exact rfl)
        | ((with_reducible apply T_ite1); exact rfl; (first | with_reducible assumption | omega))
        | ((with_reducible apply T_ite0); exact rfl; (first | with_reducible assumption | omega))
        | ((with_reducible apply T_iteP); exact rfl; all_goals intro _)
        | with_reducible refine S_ret ?_
        | with_reducible refine seq_r ?_
        | with_reducible refine T_block ?_
        | with_reducible refine blk_n ?_
        | with_reducible refine blk_r ?_
        | with_reducible refine rnd_r ?_
        | with_reducible refine body_r ?_
        | with_reducible refine asg_n ?_
        | ((with_reducible apply K_neq); exact rfl; exact rfl)
        | ((with_reducible apply K_neqS); exact rfl; exact rfl)
        | ((with_reducible apply K_load1_ptr); exact rfl; exact rfl; exact rfl)
        | ((with_reducible apply K_load1_fp); exact rfl)
        | ((with_reducible apply K_load1_byte); exact rfl; exact rfl; (first | omega | decide))
        | ((with_reducible apply K_mov_ref); exact rfl)
        | ((with_reducible apply K_mov_ptr); exact rfl)
        | ((with_reducible apply K_mov_yld); exact rfl)
        | with_reducible refine K_alloc ?_
        | ((with_reducible apply K_store1_pd); exact rfl; exact rfl; exact rfl; (first | decide | simp); exact rfl)
        | ((with_reducible apply K_store1_pr); exact rfl; exact rfl; exact rfl; (first | decide | simp))
        | ((with_reducible apply K_bslice1); exact rfl; exact rfl)
        | ((with_reducible apply K_bslice); exact rfl)
      exact body_n ⟨v2, t2, rfl, by rw [hx]; simpa using ho2⟩
  · rw [if_neg h]
    refine fn_cr fn29 (Nat.le_of_ble_eq_true rfl) rfl ?_
    unfold sc29
    repeat' first
      | ((with_reducible apply K_call_0 (f := 60) (ys := [.str s, d])); exact rfl; exact c60; exact rfl)
      | with_reducible refine T_seq ?_
      | with_reducible refine S_ops ?_
      | with_reducible refine O_step ?_
      | ((with_reducible apply K_mov_d); exact rfl)
      | with_reducible refine O_nil ?_
      | with_reducible refine seq_n ?_
      | with_reducible refine S_skip ?_
      | ((with_reducible apply T_itet); exact rfl)
      | ((with_reducible apply T_itef); exact rfl)
      | ((with_reducible apply T_ite1); exact rfl; (first | with_reducible assumption | omega))
      | ((with_reducible apply T_ite0); exact rfl; (first | with_reducible assumption | omega))
      | ((with_reducible apply T_iteP); exact rfl; all_goals intro _)
      | with_reducible refine S_ret ?_
      | with_reducible refine seq_r ?_
      | with_reducible refine T_block ?_
      | with_reducible refine blk_n ?_
      | with_reducible refine blk_r ?_
      | with_reducible refine rnd_r ?_
      | with_reducible refine body_r ?_
      | with_reducible refine asg_n ?_
      | ((with_reducible apply K_neq); exact rfl; exact rfl)
      | ((with_reducible apply K_neqS); exact rfl; exact rfl)
      | ((with_reducible apply K_load1_ptr); exact rfl; exact rfl; exact rfl)
      | ((with_reducible apply K_load1_fp); exact rfl)
      | ((with_reducible apply K_load1_byte); exact rfl; exact rfl; (first | omega | decide))
      | ((with_reducible apply K_mov_ref); exact rfl)
      | ((with_reducible apply K_mov_ptr); exact rfl)
      | ((with_reducible apply K_mov_yld); exact rfl)
      | with_reducible refine K_alloc ?_
      | ((with_reducible apply K_store1_pd); exact rfl; exact rfl; exact rfl; (first | decide | simp); exact rfl)
      | ((with_reducible apply K_store1_pr); exact rfl; exact rfl; exact rfl; (first | decide | simp))
      | ((with_reducible apply K_bslice1); exact rfl; exact rfl)
      | ((with_reducible apply K_bslice); exact rfl)
    exact ends_2 rfl
end Go.Abs
/- A law's argument that is a slice of integers. -/
namespace Go.Abs
open Go.Proofs
theorem Kept.trod {H : Type} {enc : TypeId × Value → H} {P : Program} {t : TypeId} (hl : laidOutB P = true) (hr : P.readableRec t = true) (hrow : t < P.types.size) {W W' : World} {v : Value} {d : DataW H} {ps : List MemPlace}
    (h : DataW.Trod enc P W 0 (fun _ => true) true t v d ps) (hb : Kept W W') (hlt : ∀ x ∈ ps, x.block < W.heap.size) :
    DataW.Trod enc P W' 0 (fun b => decide (b < W.heap.size)) true t v d ps :=
  WideElems.Trod_stays hl hr hrow h (fun x hx => by
    cases x with
    | cell b o => exact World.cell?_of_block (w := W) (hb.block b (hlt _ hx))
    | map b => exact hb.block b (hlt _ hx)) (fun x hx => by simpa using hlt x hx)
theorem ar_ints {P : Program} {W : World} {base : Nat} {t e : TypeId} {a : Option Addr} {len cap : Nat} {zs : List Int} (ht : P.underlying t = some (.slice e)) (hv : Value.okWide P W .any base t (.slice a len cap))
    (h : (a = none ∧ len = 0 ∧ cap = 0 ∧ zs = []) ∨ ∃ x, a = some x ∧ len ≤ cap ∧ cap ≤ maxLen ∧ zs.length = cap ∧ (∀ i, i < zs.length → W.cell? (x.add i) = some (.int .i64 (zs.getD i 0))) ∧ ∀ n ∈ zs, (Lit.int .i64 n).wf = true) :
    ∃ d, SL 1 d (dInts (zs.take len)) ∧ AR (cx W γ00 (fun _ => False) []) (.d d) (.slice a len cap) ∧ ∀ i ∈ zs.take len, -9223372036854775808 ≤ i ∧ i < 9223372036854775808 := by
  rcases h with ⟨rfl, rfl, rfl, rfl⟩ | ⟨x, rfl, h1, h2, h3, h4, h5⟩
  · exact ⟨.nilsl, .inl ⟨rfl, rfl⟩, DR.nilsl, by simp⟩
  · simp only [Value.okWide, ht, Cell.okWide, Cell.ok] at hv
    obtain ⟨_, _, _, hsp, row, cells, hsh, _⟩ := hv
    obtain ⟨b, off, sp⟩ := x
    dsimp only at hsp
    subst hsp
    have hb : b < W.heap.size := by
      rcases Nat.lt_or_ge b W.heap.size with h | h
      · exact h
      · unfold World.shape? at hsh
        rw [Array.getElem?_eq_none h] at hsh; cases hsh
    have hl : (dInts (zs.take len)).length = len := by simp; omega
    have hm : maxLen = 9223372036854775807 := rfl
    refine ⟨.sl 1 (dInts (zs.take len)), .inr rfl, ?_, fun i hi => i64_rng (h5 i (List.mem_of_mem_take hi))⟩
    have hd : DR W (O00 W) (.val (.sl 1 (dInts (zs.take len))) (.slice (some ⟨b, off, none⟩) (dInts (zs.take len)).length cap)) := by
      refine DR.sl 1 b off cap _ (fun i => [.int .i64 (zs.getD i 0)]) not_O00 hb (by omega) (by omega) (fun i x hx => ?_) (fun i hi => ⟨rfl, fun j hj => ?_⟩)
      · have hi : i < len := by have := (List.getElem?_eq_some_iff.1 hx).1; omega
        have e : (dInts (zs.take len))[i]? = some (.int .i64 (zs.getD i 0)) := by
          have h6 : i < zs.length := by omega
          simp [hi, List.getD_eq_getElem?_getD, h6]
        rw [e] at hx
        injection hx with hx
        subst hx
        exact DR.ccons _ _ _ _ (DR.int _ _) rfl DR.cnil
      · obtain rfl : j = 0 := by omega
        have h7 := h4 i (by omega)
        have e : (⟨b, off + i * 1 + 0, none⟩ : Addr) = Addr.add ⟨b, off, none⟩ i := by
          unfold Addr.add
          split
          · rename_i h; rw [h]; simp
          · rw [Nat.mul_one]; rfl
        rw [e]; exact h7
    rw [hl] at hd
    exact hd
end Go.Abs
/- Contracts: scripts of a string. -/
namespace Go.Abs
open Go.Proofs
theorem cr77 (n : Int) (h : 0 ≤ n ∧ n < 9223372036854775808) : CR Try.prog 77 [.ptr 0 0] [.box [i64 n]] (.d (otherD 0 n)) [.box [i64 n]] := by
  refine fn_cr fn77 (Nat.le_of_ble_eq_true rfl) rfl ?_
  unfold sc77
  repeat' first
    | with_reducible refine T_seq ?_
    | with_reducible refine S_ops ?_
    | with_reducible refine O_step ?_
    | ((with_reducible apply K_mov_d); exact rfl)
    | with_reducible refine O_nil ?_
    | with_reducible refine seq_n ?_
    | with_reducible refine S_ret ?_
    | with_reducible refine seq_r ?_
    | with_reducible refine rnd_r ?_
    | ((with_reducible apply K_add); exact rfl; exact rfl; (first | omega | decide))
    | ((with_reducible apply K_addw); exact rfl; exact rfl)
    | ((with_reducible apply K_quo0); exact rfl; exact rfl; (first | omega | decide); (first | omega | decide))
    | ((with_reducible apply K_rem0); exact rfl; exact rfl; (first | omega | decide); (first | omega | decide))
    | ((with_reducible apply K_quo); exact rfl; exact rfl; (first | omega | decide))
    | ((with_reducible apply K_rem); exact rfl; exact rfl; (first | omega | decide))
    | ((with_reducible apply K_load1_ptr); exact rfl; exact rfl; exact rfl)
    | ((with_reducible apply K_load1_fp); exact rfl)
    | ((with_reducible apply K_load1_byte); exact rfl; exact rfl; (first | omega | decide))
    | ((with_reducible apply K_mov_ref); exact rfl)
    | ((with_reducible apply K_mov_ptr); exact rfl)
    | ((with_reducible apply K_mov_agg); exact rfl)
    | ((with_reducible apply K_mov_yld); exact rfl)
    | with_reducible refine K_alloc ?_
    | ((with_reducible apply K_build_d); exact rfl; exact rfl)
    | ((with_reducible apply K_storeA_pd); exact rfl; exact rfl; exact rfl; exact rfl; (first | decide | simp))
  exact ⟨.inr rfl, _, [], rfl, rfl, .nil, by simp, rfl, rfl⟩
theorem cr78 : CR Try.prog 78 [] [] (.d (callD 3 64 [])) [] := by
  refine fn_cr fn78 (Nat.le_of_ble_eq_true rfl) rfl ?_
  unfold sc78
  repeat' first
    | with_reducible refine T_seq ?_
    | with_reducible refine S_ops ?_
    | with_reducible refine O_step ?_
    | ((with_reducible apply K_mov_d); exact rfl)
    | with_reducible refine O_nil ?_
    | with_reducible refine seq_n ?_
    | with_reducible refine S_ret ?_
    | with_reducible refine seq_r ?_
    | with_reducible refine rnd_r ?_
    | ((with_reducible apply K_mov_ref); exact rfl)
    | ((with_reducible apply K_mov_ptr); exact rfl)
    | ((with_reducible apply K_mov_agg); exact rfl)
    | ((with_reducible apply K_mov_yld); exact rfl)
    | with_reducible refine K_alloc ?_
    | ((with_reducible apply K_build_d); exact rfl; exact rfl)
    | ((with_reducible apply K_storeA_pd); exact rfl; exact rfl; exact rfl; exact rfl; (first | decide | simp))
  exact ends_d rfl
theorem cr79 : CR Try.prog 79 [] [] (.d (callD 4 0 [])) [] := by
  refine fn_cr fn79 (Nat.le_of_ble_eq_true rfl) rfl ?_
  unfold sc79
  repeat' first
    | with_reducible refine T_seq ?_
    | with_reducible refine S_ops ?_
    | with_reducible refine O_step ?_
    | ((with_reducible apply K_mov_d); exact rfl)
    | with_reducible refine O_nil ?_
    | with_reducible refine seq_n ?_
    | with_reducible refine S_ret ?_
    | with_reducible refine seq_r ?_
    | with_reducible refine rnd_r ?_
    | ((with_reducible apply K_mov_ref); exact rfl)
    | ((with_reducible apply K_mov_ptr); exact rfl)
    | ((with_reducible apply K_mov_agg); exact rfl)
    | ((with_reducible apply K_mov_yld); exact rfl)
    | with_reducible refine K_alloc ?_
    | ((with_reducible apply K_build_d); exact rfl; exact rfl)
    | ((with_reducible apply K_storeA_pd); exact rfl; exact rfl; exact rfl; exact rfl; (first | decide | simp))
  exact ends_d rfl
theorem cr80 : CR Try.prog 80 [] [] (.d (callD 5 0 [])) [] := by
  refine fn_cr fn80 (Nat.le_of_ble_eq_true rfl) rfl ?_
  unfold sc80
  repeat' first
    | with_reducible refine T_seq ?_
    | with_reducible refine S_ops ?_
    | with_reducible refine O_step ?_
    | ((with_reducible apply K_mov_d); exact rfl)
    | with_reducible refine O_nil ?_
    | with_reducible refine seq_n ?_
    | with_reducible refine S_ret ?_
    | with_reducible refine seq_r ?_
    | with_reducible refine rnd_r ?_
    | ((with_reducible apply K_mov_ref); exact rfl)
    | ((with_reducible apply K_mov_ptr); exact rfl)
    | ((with_reducible apply K_mov_agg); exact rfl)
    | ((with_reducible apply K_mov_yld); exact rfl)
    | with_reducible refine K_alloc ?_
    | ((with_reducible apply K_build_d); exact rfl; exact rfl)
    | ((with_reducible apply K_storeA_pd); exact rfl; exact rfl; exact rfl; exact rfl; (first | decide | simp))
  exact ends_d rfl
theorem cr65 (k n : Int) (hk : 0 ≤ k ∧ k < 4) (h : 0 ≤ n ∧ n < 9223372036854775808) : CR Try.prog 65 [i64 k, i64 n] [] (.d (otherD k n)) [] := by
  refine fn_cr fn65 (Nat.le_of_ble_eq_true rfl) rfl ?_
  unfold sc65
  have hc : k = 0 ∨ k = 1 ∨ k = 2 ∨ k = 3 := by omega
  have c77 := cr77 n h
  rcases hc with rfl | rfl | rfl | rfl
  all_goals
    repeat' first
      | ((with_reducible apply K_build_a); exact rfl; exact rfl)
      | ((with_reducible apply K_storeA_pa); exact rfl; exact rfl; exact rfl; exact rfl; (first | decide | simp))
      | ((with_reducible apply K_idxP); exact rfl; exact rfl; decide)
      | ((with_reducible apply K_callV_0 (ys := [])); exact rfl; exact rfl; (first | exact cr78 | exact cr79 | exact cr80); exact rfl)
      | ((with_reducible apply K_callV_fn (ids := [0]) (S1 := [.box [i64 n]])); exact rfl; exact rfl; exact rfl; exact rfl; exact rfl; exact c77; exact ⟨rfl, rfl⟩)
      | with_reducible refine T_seq ?_
      | with_reducible refine S_ops ?_
      | with_reducible refine O_step ?_
      | ((with_reducible apply K_mov_d); exact rfl)
      | with_reducible refine O_nil ?_
      | with_reducible refine seq_n ?_
      | with_reducible refine S_ret ?_
      | with_reducible refine seq_r ?_
      | with_reducible refine rnd_r ?_
      | ((with_reducible apply K_load1_ptr); exact rfl; exact rfl; exact rfl)
      | ((with_reducible apply K_load1_fp); exact rfl)
      | ((with_reducible apply K_load1_byte); exact rfl; exact rfl; (first | omega | decide))
      | ((with_reducible apply K_mov_ref); exact rfl)
      | ((with_reducible apply K_mov_ptr); exact rfl)
      | ((with_reducible apply K_mov_fn); exact rfl)
      | ((with_reducible apply K_mov_agg); exact rfl)
      | ((with_reducible apply K_mov_yld); exact rfl)
      | with_reducible refine K_alloc ?_
      | ((with_reducible apply K_build_d); exact rfl; exact rfl)
      | ((with_reducible apply K_storeA_pd); exact rfl; exact rfl; exact rfl; exact rfl; (first | decide | simp))
      | ((with_reducible apply K_box_d); exact rfl; exact rfl)
      | with_reducible refine K_mkfn0 ?_
      | ((with_reducible apply K_mkfn); exact rfl; exact rfl)
  all_goals exact ends_dd rfl rfl
theorem cr67 (k n : Int) (h : 0 ≤ n ∧ n < 9223372036854775808) : CR Try.prog 67 [i64 k, i64 n] [] (.d (otherD k n)) [] := by
  refine fn_cr fn67 (Nat.le_of_ble_eq_true rfl) rfl ?_
  unfold sc67
  by_cases h0 : k = 0
  · subst h0
    repeat' first
      | with_reducible refine T_seq ?_
      | with_reducible refine S_ops ?_
      | with_reducible refine O_step ?_
      | ((with_reducible apply K_mov_d); exact rfl)
      | with_reducible refine O_nil ?_
      | with_reducible refine seq_n ?_
      | with_reducible refine S_skip ?_
      | ((with_reducible apply T_itet); exact rfl)
      | ((with_reducible apply T_itef); exact rfl)
      | ((with_reducible apply T_ite1); exact rfl; (first | with_reducible assumption | omega))
      | ((with_reducible apply T_ite0); exact rfl; (first | with_reducible assumption | omega))
      | ((with_reducible apply T_iteP); exact rfl; all_goals intro _)
      | with_reducible refine S_ret ?_
      | with_reducible refine seq_r ?_
      | with_reducible refine T_block ?_
      | with_reducible refine blk_n ?_
      | with_reducible refine blk_r ?_
      | with_reducible refine rnd_r ?_
      | ((with_reducible apply K_eql); exact rfl; exact rfl)
      | ((with_reducible apply K_eqlS); exact rfl; exact rfl)
      | ((with_reducible apply K_add); exact rfl; exact rfl; (first | omega | decide))
      | ((with_reducible apply K_addw); exact rfl; exact rfl)
      | ((with_reducible apply K_quo0); exact rfl; exact rfl; (first | omega | decide); (first | omega | decide))
      | ((with_reducible apply K_rem0); exact rfl; exact rfl; (first | omega | decide); (first | omega | decide))
      | ((with_reducible apply K_quo); exact rfl; exact rfl; (first | omega | decide))
      | ((with_reducible apply K_rem); exact rfl; exact rfl; (first | omega | decide))
      | ((with_reducible apply K_mov_ref); exact rfl)
      | ((with_reducible apply K_mov_ptr); exact rfl)
      | ((with_reducible apply K_mov_agg); exact rfl)
      | ((with_reducible apply K_mov_yld); exact rfl)
      | with_reducible refine K_alloc ?_
      | ((with_reducible apply K_build_d); exact rfl; exact rfl)
      | ((with_reducible apply K_storeA_pd); exact rfl; exact rfl; exact rfl; exact rfl; (first | decide | simp))
    exact ends_dd rfl rfl
  by_cases h1 : k = 1
  · subst h1
    repeat' first
      | with_reducible refine T_seq ?_
      | with_reducible refine S_ops ?_
      | with_reducible refine O_step ?_
      | ((with_reducible apply K_mov_d); exact rfl)
      | with_reducible refine O_nil ?_
      | with_reducible refine seq_n ?_
      | with_reducible refine S_skip ?_
      | ((with_reducible apply T_itet); exact rfl)
      | ((with_reducible apply T_itef); exact rfl)
      | ((with_reducible apply T_ite1); exact rfl; (first | with_reducible assumption | omega))
      | ((with_reducible apply T_ite0); exact rfl; (first | with_reducible assumption | omega))
      | ((with_reducible apply T_iteP); exact rfl; all_goals intro _)
      | with_reducible refine S_ret ?_
      | with_reducible refine seq_r ?_
      | with_reducible refine T_block ?_
      | with_reducible refine blk_n ?_
      | with_reducible refine blk_r ?_
      | with_reducible refine rnd_r ?_
      | ((with_reducible apply K_eql); exact rfl; exact rfl)
      | ((with_reducible apply K_eqlS); exact rfl; exact rfl)
      | ((with_reducible apply K_add); exact rfl; exact rfl; (first | omega | decide))
      | ((with_reducible apply K_addw); exact rfl; exact rfl)
      | ((with_reducible apply K_quo0); exact rfl; exact rfl; (first | omega | decide); (first | omega | decide))
      | ((with_reducible apply K_rem0); exact rfl; exact rfl; (first | omega | decide); (first | omega | decide))
      | ((with_reducible apply K_quo); exact rfl; exact rfl; (first | omega | decide))
      | ((with_reducible apply K_rem); exact rfl; exact rfl; (first | omega | decide))
      | ((with_reducible apply K_mov_ref); exact rfl)
      | ((with_reducible apply K_mov_ptr); exact rfl)
      | ((with_reducible apply K_mov_agg); exact rfl)
      | ((with_reducible apply K_mov_yld); exact rfl)
      | with_reducible refine K_alloc ?_
      | ((with_reducible apply K_build_d); exact rfl; exact rfl)
      | ((with_reducible apply K_storeA_pd); exact rfl; exact rfl; exact rfl; exact rfl; (first | decide | simp))
    exact ends_dd rfl rfl
  by_cases h2 : k = 2
  · subst h2
    repeat' first
      | with_reducible refine T_seq ?_
      | with_reducible refine S_ops ?_
      | with_reducible refine O_step ?_
      | ((with_reducible apply K_mov_d); exact rfl)
      | with_reducible refine O_nil ?_
      | with_reducible refine seq_n ?_
      | with_reducible refine S_skip ?_
      | ((with_reducible apply T_itet); exact rfl)
      | ((with_reducible apply T_itef); exact rfl)
      | ((with_reducible apply T_ite1); exact rfl; (first | with_reducible assumption | omega))
      | ((with_reducible apply T_ite0); exact rfl; (first | with_reducible assumption | omega))
      | ((with_reducible apply T_iteP); exact rfl; all_goals intro _)
      | with_reducible refine S_ret ?_
      | with_reducible refine seq_r ?_
      | with_reducible refine T_block ?_
      | with_reducible refine blk_n ?_
      | with_reducible refine blk_r ?_
      | with_reducible refine rnd_r ?_
      | ((with_reducible apply K_eql); exact rfl; exact rfl)
      | ((with_reducible apply K_eqlS); exact rfl; exact rfl)
      | ((with_reducible apply K_add); exact rfl; exact rfl; (first | omega | decide))
      | ((with_reducible apply K_addw); exact rfl; exact rfl)
      | ((with_reducible apply K_quo0); exact rfl; exact rfl; (first | omega | decide); (first | omega | decide))
      | ((with_reducible apply K_rem0); exact rfl; exact rfl; (first | omega | decide); (first | omega | decide))
      | ((with_reducible apply K_quo); exact rfl; exact rfl; (first | omega | decide))
      | ((with_reducible apply K_rem); exact rfl; exact rfl; (first | omega | decide))
      | ((with_reducible apply K_mov_ref); exact rfl)
      | ((with_reducible apply K_mov_ptr); exact rfl)
      | ((with_reducible apply K_mov_agg); exact rfl)
      | ((with_reducible apply K_mov_yld); exact rfl)
      | with_reducible refine K_alloc ?_
      | ((with_reducible apply K_build_d); exact rfl; exact rfl)
      | ((with_reducible apply K_storeA_pd); exact rfl; exact rfl; exact rfl; exact rfl; (first | decide | simp))
    exact ends_dd rfl rfl
  repeat' first
    | with_reducible refine T_seq ?_
    | with_reducible refine S_ops ?_
    | with_reducible refine O_step ?_
    | ((with_reducible apply K_mov_d); exact rfl)
    | with_reducible refine O_nil ?_
    | with_reducible refine seq_n ?_
    | with_reducible refine S_skip ?_
    | ((with_reducible apply T_itet); exact rfl)
    | ((with_reducible apply T_itef); exact rfl)
    | ((with_reducible apply T_ite1); exact rfl; (first | with_reducible assumption | omega))
    | ((with_reducible apply T_ite0); exact rfl; (first | with_reducible assumption | omega))
    | ((with_reducible apply T_iteP); exact rfl; all_goals intro _)
    | with_reducible refine S_ret ?_
    | with_reducible refine seq_r ?_
    | with_reducible refine T_block ?_
    | with_reducible refine blk_n ?_
    | with_reducible refine blk_r ?_
    | with_reducible refine rnd_r ?_
    | ((with_reducible apply K_eql); exact rfl; exact rfl)
    | ((with_reducible apply K_eqlS); exact rfl; exact rfl)
    | ((with_reducible apply K_add); exact rfl; exact rfl; (first | omega | decide))
    | ((with_reducible apply K_addw); exact rfl; exact rfl)
    | ((with_reducible apply K_quo0); exact rfl; exact rfl; (first | omega | decide); (first | omega | decide))
    | ((with_reducible apply K_rem0); exact rfl; exact rfl; (first | omega | decide); (first | omega | decide))
    | ((with_reducible apply K_quo); exact rfl; exact rfl; (first | omega | decide))
    | ((with_reducible apply K_rem); exact rfl; exact rfl; (first | omega | decide))
    | ((with_reducible apply K_mov_ref); exact rfl)
    | ((with_reducible apply K_mov_ptr); exact rfl)
    | ((with_reducible apply K_mov_agg); exact rfl)
    | ((with_reducible apply K_mov_yld); exact rfl)
    | with_reducible refine K_alloc ?_
    | ((with_reducible apply K_build_d); exact rfl; exact rfl)
    | ((with_reducible apply K_storeA_pd); exact rfl; exact rfl; exact rfl; exact rfl; (first | decide | simp))
  exact ends_dd rfl (by unfold otherD; rw [if_neg h0, if_neg h1, if_neg h2]; rfl)
theorem cr68 : CR Try.prog 68 [] [] (.d (slD 3 endL)) [] := by
  refine fn_cr fn68 (Nat.le_of_ble_eq_true rfl) rfl ?_
  unfold sc68
  repeat' first
    | with_reducible refine T_seq ?_
    | with_reducible refine S_ops ?_
    | with_reducible refine O_step ?_
    | ((with_reducible apply K_mov_d); exact rfl)
    | with_reducible refine O_nil ?_
    | with_reducible refine seq_n ?_
    | with_reducible refine S_skip ?_
    | ((with_reducible apply T_itet); exact rfl)
    | ((with_reducible apply T_itef); exact rfl)
    | ((with_reducible apply T_ite1); exact rfl; (first | with_reducible assumption | omega))
    | ((with_reducible apply T_ite0); exact rfl; (first | with_reducible assumption | omega))
    | ((with_reducible apply T_iteP); exact rfl; all_goals intro _)
    | with_reducible refine S_ret ?_
    | with_reducible refine seq_r ?_
    | with_reducible refine S_exit ?_
    | with_reducible refine seq_e ?_
    | with_reducible refine T_block ?_
    | with_reducible refine blk_1 ?_
    | with_reducible refine blk_0 rfl ?_
    | with_reducible refine blk_n ?_
    | with_reducible refine blk_r ?_
    | with_reducible refine rnd_r ?_
    | with_reducible refine rnd_e ?_
    | ((with_reducible apply K_lss); exact rfl; exact rfl)
    | ((with_reducible apply K_add); exact rfl; exact rfl; (first | omega | decide))
    | ((with_reducible apply K_addw); exact rfl; exact rfl)
    | ((with_reducible apply K_mov_ref); exact rfl)
    | ((with_reducible apply K_mov_ptr); exact rfl)
    | ((with_reducible apply K_mov_agg); exact rfl)
    | ((with_reducible apply K_mov_yld); exact rfl)
    | ((with_reducible apply K_build_d); exact rfl; exact rfl)
    | ((with_reducible apply K_bslice1); exact rfl; exact rfl)
    | ((with_reducible apply K_bslice); exact rfl)
  refine T_loop (fun t => Nat.beq t 1 || Nat.ble 2 t) [1, 2] (fun u : Nat × AV × St => [u.2.1, i64 u.1]) (fun u => u.2.2) (fun u => u.1 ≤ 8 ∧ OutT 0 u.2.1 u.2.2 3 (callD 2 0 [] :: List.replicate u.1 (callD 3 64 []))) (fun u => 8 - u.1) (0, .ref 0 0 0 1, [.arr 0 3 [callD 2 0 []]]) rfl ⟨by omega, .inr ⟨by simp, 0, 0, rfl, rfl⟩⟩ rfl rfl ?_
  rintro ⟨k, v, t⟩ g ⟨hk, ho⟩
  dsimp only at hk ho ⊢
  repeat' first
    | ((with_reducible apply K_mov_any v); exact rfl)
    | ((with_reducible apply K_mov_any v2); exact rfl)
    | ((with_reducible apply K_app_el (S0 := []) ho); exact rfl; exact rfl; exact rfl; (simp); (simp; omega); intro v2 t2 ho2)
    | with_reducible refine T_seq ?_
    | with_reducible refine S_ops ?_
    | with_reducible refine O_step ?_
    | ((with_reducible apply K_mov_d); exact rfl)
    | with_reducible refine O_nil ?_
    | with_reducible refine seq_n ?_
    | with_reducible refine S_skip ?_
    | ((with_reducible apply T_itet); exact rfl)
    | ((with_reducible apply T_itef); exact rfl)
    | ((with_reducible apply T_ite1); exact rfl; (first | with_reducible assumption | omega))
    | ((with_reducible apply T_ite0); exact rfl; (first | with_reducible assumption | omega))
    | ((with_reducible apply T_iteP); exact rfl; all_goals intro _)
    | with_reducible refine S_ret ?_
    | with_reducible refine seq_r ?_
    | with_reducible refine S_exit ?_
    | with_reducible refine seq_e ?_
    | with_reducible refine T_block ?_
    | with_reducible refine blk_1 ?_
    | with_reducible refine blk_0 rfl ?_
    | with_reducible refine blk_n ?_
    | with_reducible refine blk_r ?_
    | with_reducible refine rnd_r ?_
    | with_reducible refine rnd_e ?_
    | ((with_reducible apply K_lss); exact rfl; exact rfl)
    | ((with_reducible apply K_add); exact rfl; exact rfl; (first | omega | decide))
    | ((with_reducible apply K_addw); exact rfl; exact rfl)
    | ((with_reducible apply K_mov_ref); exact rfl)
    | ((with_reducible apply K_mov_ptr); exact rfl)
    | ((with_reducible apply K_mov_agg); exact rfl)
    | ((with_reducible apply K_mov_yld); exact rfl)
    | ((with_reducible apply K_build_d); exact rfl; exact rfl)
    | ((with_reducible apply K_bslice1); exact rfl; exact rfl)
    | ((with_reducible apply K_bslice); exact rfl)
  · refine rnd_n (k + 1, v2, t2) ⟨⟨by dsimp only; omega, ?_⟩, by dsimp only; omega⟩ rfl rfl
    dsimp only
    rw [List.replicate_succ']
    exact ho2
  · have : k = 8 := by omega
    subst this
    exact ends_out1 (S0 := []) ho rfl rfl
set_option maxHeartbeats 2000000 in
set_option maxRecDepth 4000 in
theorem cr32 (s : List UInt8) (d : D) (l : List Int) (hd : SL 1 d (dInts l)) (hl : l.length ≤ 1000) (hr : ∀ i ∈ l, -9223372036854775808 ≤ i ∧ i < 9223372036854775808) :
    CR Try.prog 32 [st s, .d d] [] (if checkS s l.length = 0 then .tup [.d (slD 3 (callsL s l)), i64 0] else .tup [.d .nilsl, i64 (checkS s l.length)]) [] := by
  have c62 := cr62 s d l hd (by omega)
  by_cases h : checkS s l.length = 0
  · rw [if_pos h]
    have hs : s.length ≤ 20000 := by unfold checkS at h; split at h <;> omega
    have c63 := cr63 s d l hd hl hs hr
    have hp := SL_slD 1 (dStrs (cutL s l))
    obtain ⟨dp, hdp⟩ : ∃ dp, dp = slD 1 (dStrs (cutL s l)) := ⟨_, rfl⟩
    rw [← hdp] at hp c63
    have e0 : (dInts l).length = l.length := by simp
    have e1 : (dStrs (cutL s l)).length = (cutL s l).length := by simp
    have hlen : (cutL s l).length ≤ 1001 := by rw [cutL_len]; split <;> omega
    refine fn_cr fn32 (Nat.le_of_ble_eq_true rfl) rfl ?_
    unfold sc32
    repeat' first
      | ((with_reducible apply K_call_0 (f := 62) (ys := [.str s, d])); exact rfl; exact c62; exact rfl)
      | ((with_reducible apply K_call_0 (f := 63) (ys := [.str s, d])); exact rfl; exact c63; exact rfl)
      | with_reducible refine T_seq ?_
      | with_reducible refine S_ops ?_
      | with_reducible refine O_step ?_
      | ((with_reducible apply K_mov_d); exact rfl)
      | with_reducible refine O_nil ?_
      | with_reducible refine seq_n ?_
      | with_reducible refine S_skip ?_
      | ((with_reducible apply T_itet); exact rfl)
      | ((with_reducible apply T_itef); exact rfl)
      | ((with_reducible apply T_ite1); exact rfl; (first | with_reducible assumption | omega))
      | ((with_reducible apply T_ite0); exact rfl; (first | with_reducible assumption | omega))
      | ((with_reducible apply T_iteP); exact rfl; all_goals intro _)
      | with_reducible refine S_ret ?_
      | with_reducible refine seq_r ?_
      | with_reducible refine S_exit ?_
      | with_reducible refine seq_e ?_
      | with_reducible refine T_block ?_
      | with_reducible refine blk_1 ?_
      | with_reducible refine blk_0 rfl ?_
      | with_reducible refine blk_n ?_
      | with_reducible refine blk_r ?_
      | with_reducible refine rnd_r ?_
      | with_reducible refine rnd_e ?_
      | ((with_reducible apply K_lss); exact rfl; exact rfl)
      | ((with_reducible apply K_gtr); exact rfl; exact rfl)
      | ((with_reducible apply K_neq); exact rfl; exact rfl)
      | ((with_reducible apply K_neqS); exact rfl; exact rfl)
      | ((with_reducible apply K_add); exact rfl; exact rfl; (first | omega | decide))
      | ((with_reducible apply K_addw); exact rfl; exact rfl)
      | ((with_reducible apply K_quo0); exact rfl; exact rfl; (first | omega | decide); (first | omega | decide))
      | ((with_reducible apply K_rem0); exact rfl; exact rfl; (first | omega | decide); (first | omega | decide))
      | ((with_reducible apply K_quo); exact rfl; exact rfl; (first | omega | decide))
      | ((with_reducible apply K_rem); exact rfl; exact rfl; (first | omega | decide))
      | ((with_reducible apply K_len_d); exact rfl)
      | ((with_reducible apply K_len_nil); exact rfl)
      | ((with_reducible apply K_len_ref); exact rfl; exact rfl)
      | ((with_reducible apply K_idxA_ref); exact rfl; exact rfl; exact rfl; (first | omega | decide))
      | ((with_reducible apply K_idxA_d); exact rfl; exact rfl; (first | omega | decide))
      | ((with_reducible apply K_load1_ptr); exact rfl; exact rfl; exact rfl)
      | ((with_reducible apply K_load1_fp); exact rfl)
      | ((with_reducible apply K_load1_byte); exact rfl; exact rfl; (first | omega | decide))
      | ((with_reducible apply K_mov_ref); exact rfl)
      | ((with_reducible apply K_mov_ptr); exact rfl)
      | ((with_reducible apply K_mov_agg); exact rfl)
      | ((with_reducible apply K_mov_yld); exact rfl)
      | ((with_reducible apply K_build_d); exact rfl; exact rfl)
      | ((with_reducible apply K_bslice1); exact rfl; exact rfl)
      | ((with_reducible apply K_bslice); exact rfl)
    refine T_loop (fun t => Nat.beq t 7 || Nat.ble 9 t) [7, 9] (fun u : Nat × AV × St => [u.2.1, i64 u.1]) (fun u => u.2.2) (fun u => u.1 ≤ (cutL s l).length ∧ OutT 0 u.2.1 u.2.2 3 (callsK s l u.1)) (fun u => (cutL s l).length - u.1) (0, .d .nilsl, []) rfl ⟨by omega, .nil _ _ _⟩ rfl rfl ?_
    rintro ⟨k, v, t⟩ g ⟨hk, ho⟩
    dsimp only at hk ho ⊢
    have hrk := rng_get hr k
    have c66 := cr66 _ hrk
    have hm0 := natS_ge (l.getD k 0)
    have hm1 := natS_lt hrk
    have hck := callsK_len s l k
    have hstep : callsK s l (k + 1) = callsK s l k ++ stepC s l k := rfl
    generalize hn : natS (l.getD k 0) = n at c66 hm0 hm1
    have c67a := cr67 (n / 480 % 4) n ⟨hm0, hm1⟩
    have c67b := cr67 (n / 1920 % 4) n ⟨hm0, hm1⟩
    unfold stepC at hstep
    rw [hn] at hstep
    have c68 := cr68
    have he := SL_slD 3 endL
    obtain ⟨de, hde⟩ : ∃ de, de = slD 3 endL := ⟨_, rfl⟩
    rw [← hde] at c68 he
    repeat' first
      | ((with_reducible apply K_mov_any v4); exact rfl)
      | ((with_reducible apply K_mov_any v3); exact rfl)
      | ((with_reducible apply K_mov_any v2); exact rfl)
      | ((with_reducible apply K_mov_any v); exact rfl)
      | ((with_reducible apply K_len_SL hd); exact rfl)
      | ((with_reducible apply K_len_SL hp); exact rfl)
      | ((with_reducible apply K_idxA_map (fun i : Int => D.int .i64 i) 0 hd); exact rfl; exact rfl; omega)
      | ((with_reducible apply K_idxA_map (fun s : List UInt8 => D.str s) [] hp); exact rfl; exact rfl; omega)
      | ((with_reducible apply K_call_0 (f := 66) (ys := [.int .i64 (l.getD k 0)])); exact rfl; exact c66; exact rfl)
      | ((with_reducible apply K_call_0 (f := 67) (ys := [.int .i64 (n / 480 % 4), .int .i64 n])); exact rfl; exact c67a; exact rfl)
      | ((with_reducible apply K_call_0 (f := 67) (ys := [.int .i64 (n / 1920 % 4), .int .i64 n])); exact rfl; exact c67b; exact rfl)
      | ((with_reducible apply K_bslice1); exact rfl; exact otherD_cells _ _)
      | ((with_reducible apply K_call_0 (f := 68) (ys := [])); exact rfl; exact c68; exact rfl)
      | ((with_reducible apply K_app_el (S0 := []) ho3); exact rfl; exact rfl; exact rfl; (simp); (simp; omega); intro v4 t4 ho4)
      | ((with_reducible apply K_app_el (S0 := []) ho2); exact rfl; exact rfl; exact rfl; (simp); (simp; omega); intro v3 t3 ho3)
      | ((with_reducible apply K_app_el (S0 := []) ho); exact rfl; exact rfl; exact rfl; (simp); (simp; omega); intro v2 t2 ho2)
      | ((with_reducible apply K_app_sl (S0 := []) ho he); exact rfl; exact rfl; exact rfl; (simp [endL]); (simp [endL]; omega); intro v2 t2 ho2)
      | with_reducible refine T_seq ?_
      | with_reducible refine S_ops ?_
      | with_reducible refine O_step ?_
      | ((with_reducible apply K_mov_d); exact rfl)
      | with_reducible refine O_nil ?_
      | with_reducible refine seq_n ?_
      | with_reducible refine S_skip ?_
      | ((with_reducible apply T_itet); exact rfl)
      | ((with_reducible apply T_itef); exact rfl)
      | ((with_reducible apply T_ite1); exact rfl; (first | with_reducible assumption | omega))
      | ((with_reducible apply T_ite0); exact rfl; (first | with_reducible assumption | omega))
      | ((with_reducible apply T_iteP); exact rfl; all_goals intro _)
      | with_reducible refine S_ret ?_
      | with_reducible refine seq_r ?_
      | with_reducible refine S_exit ?_
      | with_reducible refine seq_e ?_
      | with_reducible refine T_block ?_
      | with_reducible refine blk_1 ?_
      | with_reducible refine blk_0 rfl ?_
      | with_reducible refine blk_n ?_
      | with_reducible refine blk_r ?_
      | with_reducible refine rnd_r ?_
      | with_reducible refine rnd_e ?_
      | ((with_reducible apply K_lss); exact rfl; exact rfl)
      | ((with_reducible apply K_gtr); exact rfl; exact rfl)
      | ((with_reducible apply K_neq); exact rfl; exact rfl)
      | ((with_reducible apply K_neqS); exact rfl; exact rfl)
      | ((with_reducible apply K_add); exact rfl; exact rfl; (first | omega | decide))
      | ((with_reducible apply K_addw); exact rfl; exact rfl)
      | ((with_reducible apply K_quo0); exact rfl; exact rfl; (first | omega | decide); (first | omega | decide))
      | ((with_reducible apply K_rem0); exact rfl; exact rfl; (first | omega | decide); (first | omega | decide))
      | ((with_reducible apply K_quo); exact rfl; exact rfl; (first | omega | decide))
      | ((with_reducible apply K_rem); exact rfl; exact rfl; (first | omega | decide))
      | ((with_reducible apply K_len_d); exact rfl)
      | ((with_reducible apply K_len_nil); exact rfl)
      | ((with_reducible apply K_len_ref); exact rfl; exact rfl)
      | ((with_reducible apply K_idxA_ref); exact rfl; exact rfl; exact rfl; (first | omega | decide))
      | ((with_reducible apply K_idxA_d); exact rfl; exact rfl; (first | omega | decide))
      | ((with_reducible apply K_load1_ptr); exact rfl; exact rfl; exact rfl)
      | ((with_reducible apply K_load1_fp); exact rfl)
      | ((with_reducible apply K_load1_byte); exact rfl; exact rfl; (first | omega | decide))
      | ((with_reducible apply K_mov_ref); exact rfl)
      | ((with_reducible apply K_mov_ptr); exact rfl)
      | ((with_reducible apply K_mov_agg); exact rfl)
      | ((with_reducible apply K_mov_yld); exact rfl)
      | ((with_reducible apply K_build_d); exact rfl; exact rfl)
      | ((with_reducible apply K_bslice1); exact rfl; exact rfl)
      | ((with_reducible apply K_bslice); exact rfl)
    · refine rnd_n (k + 1, v4, t4) ⟨⟨by dsimp only; omega, ?_⟩, by dsimp only; omega⟩ rfl rfl
      dsimp only
      rw [hstep, if_pos (by omega), othersL_2 (by omega), ← List.append_assoc]
      exact (by simpa [List.append_assoc, callD] using ho4)
    · refine rnd_n (k + 1, v3, t3) ⟨⟨by dsimp only; omega, ?_⟩, by dsimp only; omega⟩ rfl rfl
      dsimp only
      rw [hstep, if_pos (by omega), othersL_1 (by omega), ← List.append_assoc]
      exact (by simpa [List.append_assoc, callD] using ho3)
    · refine rnd_n (k + 1, v2, t2) ⟨⟨by dsimp only; omega, ?_⟩, by dsimp only; omega⟩ rfl rfl
      dsimp only
      rw [hstep, if_pos (by omega), othersL_0 (by omega), List.nil_append]
      exact ho2
    · refine rnd_n (k + 1, v2, t2) ⟨⟨by dsimp only; omega, ?_⟩, by dsimp only; omega⟩ rfl rfl
      dsimp only
      rw [hstep, if_neg (by omega), List.nil_append]
      exact ho2
    · have : k = (cutL s l).length := by omega
      subst this
      exact ends_out (S0 := []) ho2 rfl rfl rfl
  · rw [if_neg h]
    refine fn_cr fn32 (Nat.le_of_ble_eq_true rfl) rfl ?_
    unfold sc32
    repeat' first
      | ((with_reducible apply K_call_0 (f := 62) (ys := [.str s, d])); exact rfl; exact c62; exact rfl)
      | with_reducible refine T_seq ?_
      | with_reducible refine S_ops ?_
      | with_reducible refine O_step ?_
      | ((with_reducible apply K_mov_d); exact rfl)
      | with_reducible refine O_nil ?_
      | with_reducible refine seq_n ?_
      | with_reducible refine S_skip ?_
      | ((with_reducible apply T_itet); exact rfl)
      | ((with_reducible apply T_itef); exact rfl)
      | ((with_reducible apply T_ite1); exact rfl; (first | with_reducible assumption | omega))
      | ((with_reducible apply T_ite0); exact rfl; (first | with_reducible assumption | omega))
      | ((with_reducible apply T_iteP); exact rfl; all_goals intro _)
      | with_reducible refine S_ret ?_
      | with_reducible refine seq_r ?_
      | with_reducible refine S_exit ?_
      | with_reducible refine seq_e ?_
      | with_reducible refine T_block ?_
      | with_reducible refine blk_1 ?_
      | with_reducible refine blk_0 rfl ?_
      | with_reducible refine blk_n ?_
      | with_reducible refine blk_r ?_
      | with_reducible refine rnd_r ?_
      | with_reducible refine rnd_e ?_
      | ((with_reducible apply K_lss); exact rfl; exact rfl)
      | ((with_reducible apply K_gtr); exact rfl; exact rfl)
      | ((with_reducible apply K_neq); exact rfl; exact rfl)
      | ((with_reducible apply K_neqS); exact rfl; exact rfl)
      | ((with_reducible apply K_add); exact rfl; exact rfl; (first | omega | decide))
      | ((with_reducible apply K_addw); exact rfl; exact rfl)
      | ((with_reducible apply K_quo0); exact rfl; exact rfl; (first | omega | decide); (first | omega | decide))
      | ((with_reducible apply K_rem0); exact rfl; exact rfl; (first | omega | decide); (first | omega | decide))
      | ((with_reducible apply K_quo); exact rfl; exact rfl; (first | omega | decide))
      | ((with_reducible apply K_rem); exact rfl; exact rfl; (first | omega | decide))
      | ((with_reducible apply K_len_d); exact rfl)
      | ((with_reducible apply K_len_nil); exact rfl)
      | ((with_reducible apply K_len_ref); exact rfl; exact rfl)
      | ((with_reducible apply K_idxA_ref); exact rfl; exact rfl; exact rfl; (first | omega | decide))
      | ((with_reducible apply K_idxA_d); exact rfl; exact rfl; (first | omega | decide))
      | ((with_reducible apply K_load1_ptr); exact rfl; exact rfl; exact rfl)
      | ((with_reducible apply K_load1_fp); exact rfl)
      | ((with_reducible apply K_load1_byte); exact rfl; exact rfl; (first | omega | decide))
      | ((with_reducible apply K_mov_ref); exact rfl)
      | ((with_reducible apply K_mov_ptr); exact rfl)
      | ((with_reducible apply K_mov_agg); exact rfl)
      | ((with_reducible apply K_mov_yld); exact rfl)
      | ((with_reducible apply K_build_d); exact rfl; exact rfl)
      | ((with_reducible apply K_bslice1); exact rfl; exact rfl)
      | ((with_reducible apply K_bslice); exact rfl)
    exact ends_2 rfl
end Go.Abs
/- Contracts: the program's scripts of a string. -/
namespace Go.Abs
open Go.Proofs
set_option maxHeartbeats 4000000 in
set_option maxRecDepth 4000 in
theorem cr31 (s : List UInt8) (d : D) (l : List Int) (hd : SL 1 d (dInts l)) (hl : l.length ≤ 1000) (hr : ∀ i ∈ l, -9223372036854775808 ≤ i ∧ i < 9223372036854775808) :
    CR Try.prog 31 [st s, .d d] [] (if checkS s l.length = 0 then .tup [.d (slD 3 (callsL s l)), i64 0] else .tup [.d .nilsl, i64 (checkS s l.length)]) [] := by
  have c60 := cr60 s d l hd (by omega)
  have hdc : d.cells.length = 1 := by rw [hd.cells]; rfl
  by_cases h : checkS s l.length = 0
  · rw [if_pos h]
    have hs : s.length ≤ 20000 := by unfold checkS at h; split at h <;> omega
    have c61 := cr61 s d hd.cells
    have hit := ir76 s d l hd hl hs hr
    have c65b : CR Try.prog 65 [i64 1, i64 0] [] (.d (callD 3 64 [])) [] := cr65 1 0 (by omega) (by omega)
    have e0 : (dInts l).length = l.length := by simp
    refine fn_cr fn31 (Nat.le_of_ble_eq_true rfl) rfl ?_
    unfold sc31
    have ebox : [AO.box (d.cells.map AV.d)] = [AO.box [.d d]] := by rw [hd.cells]; rfl
    repeat' first
      | ((with_reducible apply K_box_d); exact rfl; exact hdc; rw [ebox])
      | ((with_reducible apply K_call_0 (f := 60) (ys := [.str s, d])); exact rfl; exact c60; exact rfl)
      | ((with_reducible apply K_call_d (f := 61) (ys := [.str s, d])); exact rfl; exact c61; exact ⟨rfl, rfl⟩)
      | with_reducible refine T_seq ?_
      | with_reducible refine S_ops ?_
      | with_reducible refine O_step ?_
      | ((with_reducible apply K_mov_d); exact rfl)
      | with_reducible refine O_nil ?_
      | with_reducible refine seq_n ?_
      | with_reducible refine S_skip ?_
      | ((with_reducible apply T_itet); exact rfl)
      | ((with_reducible apply T_itef); exact rfl)
      | ((with_reducible apply T_ite1); exact rfl; (first | with_reducible assumption | omega))
      | ((with_reducible apply T_ite0); exact rfl; (first | with_reducible assumption | omega))
      | ((with_reducible apply T_iteP); exact rfl; all_goals intro _)
      | with_reducible refine S_ret ?_
      | with_reducible refine seq_r ?_
      | with_reducible refine S_exit ?_
      | with_reducible refine seq_e ?_
      | with_reducible refine T_block ?_
      | with_reducible refine blk_1 ?_
      | with_reducible refine blk_0 rfl ?_
      | with_reducible refine blk_n ?_
      | with_reducible refine blk_r ?_
      | with_reducible refine rnd_r ?_
      | with_reducible refine rnd_e ?_
      | with_reducible refine body_r ?_
      | with_reducible refine body_e ?_
      | with_reducible refine asg_n ?_
      | ((with_reducible apply K_lss); exact rfl; exact rfl)
      | ((with_reducible apply K_geq); exact rfl; exact rfl)
      | ((with_reducible apply K_neq); exact rfl; exact rfl)
      | ((with_reducible apply K_neqS); exact rfl; exact rfl)
      | ((with_reducible apply K_add); exact rfl; exact rfl; (first | omega | decide))
      | ((with_reducible apply K_addw); exact rfl; exact rfl)
      | ((with_reducible apply K_quo0); exact rfl; exact rfl; (first | omega | decide); (first | omega | decide))
      | ((with_reducible apply K_rem0); exact rfl; exact rfl; (first | omega | decide); (first | omega | decide))
      | ((with_reducible apply K_quo); exact rfl; exact rfl; (first | omega | decide))
      | ((with_reducible apply K_rem); exact rfl; exact rfl; (first | omega | decide))
      | ((with_reducible apply K_len_d); exact rfl)
      | ((with_reducible apply K_len_nil); exact rfl)
      | ((with_reducible apply K_len_ref); exact rfl; exact rfl)
      | with_reducible refine S_draw0 ?_
      | with_reducible refine D_nil ?_
      | ((with_reducible apply D_step1); exact trivial)
      | ((with_reducible apply D_step1); exact rfl)
      | ((with_reducible apply K_idxA_ref); exact rfl; exact rfl; exact rfl; (first | omega | decide))
      | ((with_reducible apply K_idxA_d); exact rfl; exact rfl; (first | omega | decide))
      | ((with_reducible apply K_load1_ptr); exact rfl; exact rfl; exact rfl)
      | ((with_reducible apply K_load1_fp); exact rfl)
      | ((with_reducible apply K_load1_byte); exact rfl; exact rfl; (first | omega | decide))
      | ((with_reducible apply K_mov_ref); exact rfl)
      | ((with_reducible apply K_mov_ptr); exact rfl)
      | ((with_reducible apply K_mov_agg); exact rfl)
      | ((with_reducible apply K_mov_yld); exact rfl)
      | with_reducible refine K_alloc ?_
      | ((with_reducible apply K_build_d); exact rfl; exact rfl)
      | ((with_reducible apply K_storeA_pd); exact rfl; exact rfl; exact rfl; exact rfl; (first | decide | simp))
      | ((with_reducible apply K_store1_pd); exact rfl; exact rfl; exact rfl; (first | decide | simp); exact rfl)
      | ((with_reducible apply K_store1_pr); exact rfl; exact rfl; exact rfl; (first | decide | simp))
      | ((with_reducible apply K_box_d); exact rfl; exact rfl)
      | ((with_reducible apply K_bslice1); exact rfl; exact rfl)
      | ((with_reducible apply K_bslice); exact rfl)
    have hlen : (cutL s l).length ≤ 1001 := by rw [cutL_len]; split <;> omega
    refine T_rng [2, 3] [.ptr 1 0, .ptr 0 0] [.box [st s], .box [.d d]] (pRest s l 0) (fun k S => ∃ v t, S = [.box [.d d], .box [v], .dead, .dead] ++ t ∧ OutT 4 v t 3 (callsK s l k)) rfl hit (fun xs hx => ?_) rfl (by decide) rfl ⟨.d .nilsl, [], rfl, .nil _ _ _⟩ ?_ ?_
    · unfold pRest at hx
      obtain ⟨i, _, rfl⟩ := List.mem_map.1 hx
      rfl
    · rintro S ⟨v, t, rfl, ho⟩
      rw [pRest_len] at ho
      have hb := callsK_len s l (cutL s l).length
      repeat' first
        | ((with_reducible apply K_mov_any v4); exact rfl)
        | ((with_reducible apply K_mov_any v3); exact rfl)
        | ((with_reducible apply K_mov_any v2); exact rfl)
        | ((with_reducible apply K_mov_any v); exact rfl)
        | ((with_reducible apply K_app_el (S0 := [.box [.d d], .box [v], .dead, .dead]) ho); exact rfl; exact rfl; exact rfl; (simp); (simp at hb ⊢; omega); intro v2 t2 ho2)
        | ((with_reducible apply K_store1_ptr (v := v2)); exact rfl; exact rfl; exact rfl; simp; exact ho2.okc; exact ho2.cells)
        | with_reducible refine T_seq ?_
        | with_reducible refine S_ops ?_
        | with_reducible refine O_step ?_
        | ((with_reducible apply K_mov_d); exact rfl)
        | with_reducible refine O_nil ?_
        | with_reducible refine seq_n ?_
        | with_reducible refine S_skip ?_
        | ((with_reducible apply T_itet); exact rfl)
        | ((with_reducible apply T_itef); exact rfl)
        | ((with_reducible apply T_ite1); exact rfl; (first | with_reducible assumption | omega))
        | ((with_reducible apply T_ite0); exact rfl; (first | with_reducible assumption | omega))
        | ((with_reducible apply T_iteP); exact rfl; all_goals intro _)
        | with_reducible refine S_ret ?_
        | with_reducible refine seq_r ?_
        | with_reducible refine S_exit ?_
        | with_reducible refine seq_e ?_
        | with_reducible refine T_block ?_
        | with_reducible refine blk_1 ?_
        | with_reducible refine blk_0 rfl ?_
        | with_reducible refine blk_n ?_
        | with_reducible refine blk_r ?_
        | with_reducible refine rnd_r ?_
        | with_reducible refine rnd_e ?_
        | with_reducible refine body_r ?_
        | with_reducible refine body_e ?_
        | with_reducible refine asg_n ?_
        | ((with_reducible apply K_lss); exact rfl; exact rfl)
        | ((with_reducible apply K_geq); exact rfl; exact rfl)
        | ((with_reducible apply K_neq); exact rfl; exact rfl)
        | ((with_reducible apply K_neqS); exact rfl; exact rfl)
        | ((with_reducible apply K_add); exact rfl; exact rfl; (first | omega | decide))
        | ((with_reducible apply K_addw); exact rfl; exact rfl)
        | ((with_reducible apply K_quo0); exact rfl; exact rfl; (first | omega | decide); (first | omega | decide))
        | ((with_reducible apply K_rem0); exact rfl; exact rfl; (first | omega | decide); (first | omega | decide))
        | ((with_reducible apply K_quo); exact rfl; exact rfl; (first | omega | decide))
        | ((with_reducible apply K_rem); exact rfl; exact rfl; (first | omega | decide))
        | ((with_reducible apply K_len_d); exact rfl)
        | ((with_reducible apply K_len_nil); exact rfl)
        | ((with_reducible apply K_len_ref); exact rfl; exact rfl)
        | with_reducible refine S_draw0 ?_
        | with_reducible refine D_nil ?_
        | ((with_reducible apply D_step1); exact trivial)
        | ((with_reducible apply D_step1); exact rfl)
        | ((with_reducible apply K_idxA_ref); exact rfl; exact rfl; exact rfl; (first | omega | decide))
        | ((with_reducible apply K_idxA_d); exact rfl; exact rfl; (first | omega | decide))
        | ((with_reducible apply K_load1_ptr); exact rfl; exact rfl; exact rfl)
        | ((with_reducible apply K_load1_fp); exact rfl)
        | ((with_reducible apply K_load1_byte); exact rfl; exact rfl; (first | omega | decide))
        | ((with_reducible apply K_mov_ref); exact rfl)
        | ((with_reducible apply K_mov_ptr); exact rfl)
        | ((with_reducible apply K_mov_agg); exact rfl)
        | ((with_reducible apply K_mov_yld); exact rfl)
        | with_reducible refine K_alloc ?_
        | ((with_reducible apply K_build_d); exact rfl; exact rfl)
        | ((with_reducible apply K_storeA_pd); exact rfl; exact rfl; exact rfl; exact rfl; (first | decide | simp))
        | ((with_reducible apply K_store1_pd); exact rfl; exact rfl; exact rfl; (first | decide | simp); exact rfl)
        | ((with_reducible apply K_store1_pr); exact rfl; exact rfl; exact rfl; (first | decide | simp))
        | ((with_reducible apply K_box_d); exact rfl; exact rfl)
        | ((with_reducible apply K_bslice1); exact rfl; exact rfl)
        | ((with_reducible apply K_bslice); exact rfl)
      refine T_loop (fun t => Nat.ble 64 t) [64] (fun u : Nat × AV × St => [i64 u.1]) (fun u => [.box [.d d], .box [u.2.1], .dead, .dead] ++ u.2.2) (fun u => u.1 ≤ 8 ∧ OutT 4 u.2.1 u.2.2 3 (callsK s l (cutL s l).length ++ (callD 2 0 [] :: List.replicate u.1 (callD 3 64 [])))) (fun u => 8 - u.1) (0, v2, t2) rfl ⟨by omega, ho2⟩ rfl rfl ?_
      rintro ⟨m, v, t⟩ g ⟨hm, ho⟩
      dsimp only at hm ho ⊢
      repeat' first
        | ((with_reducible apply K_mov_any v4); exact rfl)
        | ((with_reducible apply K_mov_any v3); exact rfl)
        | ((with_reducible apply K_mov_any v2); exact rfl)
        | ((with_reducible apply K_mov_any v); exact rfl)
        | ((with_reducible apply K_call_0 (f := 65) (ys := [.int .i64 1, .int .i64 0])); exact rfl; exact c65b; exact rfl)
        | ((with_reducible apply K_app_el (S0 := [.box [.d d], .box [v], .dead, .dead]) ho); exact rfl; exact rfl; exact rfl; (simp); (simp at hb ⊢; omega); intro v2 t2 ho2)
        | ((with_reducible apply K_store1_ptr (v := v2)); exact rfl; exact rfl; exact rfl; simp; exact ho2.okc; exact ho2.cells)
        | with_reducible refine T_seq ?_
        | with_reducible refine S_ops ?_
        | with_reducible refine O_step ?_
        | ((with_reducible apply K_mov_d); exact rfl)
        | with_reducible refine O_nil ?_
        | with_reducible refine seq_n ?_
        | with_reducible refine S_skip ?_
        | ((with_reducible apply T_itet); exact rfl)
        | ((with_reducible apply T_itef); exact rfl)
        | ((with_reducible apply T_ite1); exact rfl; (first | with_reducible assumption | omega))
        | ((with_reducible apply T_ite0); exact rfl; (first | with_reducible assumption | omega))
        | ((with_reducible apply T_iteP); exact rfl; all_goals intro _)
        | with_reducible refine S_ret ?_
        | with_reducible refine seq_r ?_
        | with_reducible refine S_exit ?_
        | with_reducible refine seq_e ?_
        | with_reducible refine T_block ?_
        | with_reducible refine blk_1 ?_
        | with_reducible refine blk_0 rfl ?_
        | with_reducible refine blk_n ?_
        | with_reducible refine blk_r ?_
        | with_reducible refine rnd_r ?_
        | with_reducible refine rnd_e ?_
        | with_reducible refine body_r ?_
        | with_reducible refine body_e ?_
        | with_reducible refine asg_n ?_
        | ((with_reducible apply K_lss); exact rfl; exact rfl)
        | ((with_reducible apply K_geq); exact rfl; exact rfl)
        | ((with_reducible apply K_neq); exact rfl; exact rfl)
        | ((with_reducible apply K_neqS); exact rfl; exact rfl)
        | ((with_reducible apply K_add); exact rfl; exact rfl; (first | omega | decide))
        | ((with_reducible apply K_addw); exact rfl; exact rfl)
        | ((with_reducible apply K_quo0); exact rfl; exact rfl; (first | omega | decide); (first | omega | decide))
        | ((with_reducible apply K_rem0); exact rfl; exact rfl; (first | omega | decide); (first | omega | decide))
        | ((with_reducible apply K_quo); exact rfl; exact rfl; (first | omega | decide))
        | ((with_reducible apply K_rem); exact rfl; exact rfl; (first | omega | decide))
        | ((with_reducible apply K_len_d); exact rfl)
        | ((with_reducible apply K_len_nil); exact rfl)
        | ((with_reducible apply K_len_ref); exact rfl; exact rfl)
        | with_reducible refine S_draw0 ?_
        | with_reducible refine D_nil ?_
        | ((with_reducible apply D_step1); exact trivial)
        | ((with_reducible apply D_step1); exact rfl)
        | ((with_reducible apply K_idxA_ref); exact rfl; exact rfl; exact rfl; (first | omega | decide))
        | ((with_reducible apply K_idxA_d); exact rfl; exact rfl; (first | omega | decide))
        | ((with_reducible apply K_load1_ptr); exact rfl; exact rfl; exact rfl)
        | ((with_reducible apply K_load1_fp); exact rfl)
        | ((with_reducible apply K_load1_byte); exact rfl; exact rfl; (first | omega | decide))
        | ((with_reducible apply K_mov_ref); exact rfl)
        | ((with_reducible apply K_mov_ptr); exact rfl)
        | ((with_reducible apply K_mov_agg); exact rfl)
        | ((with_reducible apply K_mov_yld); exact rfl)
        | with_reducible refine K_alloc ?_
        | ((with_reducible apply K_build_d); exact rfl; exact rfl)
        | ((with_reducible apply K_storeA_pd); exact rfl; exact rfl; exact rfl; exact rfl; (first | decide | simp))
        | ((with_reducible apply K_store1_pd); exact rfl; exact rfl; exact rfl; (first | decide | simp); exact rfl)
        | ((with_reducible apply K_store1_pr); exact rfl; exact rfl; exact rfl; (first | decide | simp))
        | ((with_reducible apply K_box_d); exact rfl; exact rfl)
        | ((with_reducible apply K_bslice1); exact rfl; exact rfl)
        | ((with_reducible apply K_bslice); exact rfl)
      · refine rnd_n (m + 1, v2, t2) ⟨⟨by dsimp only; omega, ?_⟩, by dsimp only; omega⟩ rfl rfl
        dsimp only
        rw [List.replicate_succ', ← List.cons_append, ← List.append_assoc]
        exact ho2
      · have : m = 8 := by omega
        subst this
        exact ends_out (S0 := [.box [.d d], .box [v], .dead, .dead]) ho rfl rfl rfl
    · rintro k S ⟨v, t, rfl, ho⟩ hk
      rw [pRest_len] at hk
      rw [pRest_get hk]
      have hb := callsK_len s l k
      have hstep : callsK s l (k + 1) = callsK s l k ++ stepC s l k := rfl
      by_cases hk2 : k < l.length
      · have hpi : pItem s l k = [.int .i64 k, .str ((cutL s l).getD k [])] := by unfold pItem; rw [if_pos hk2]
        rw [hpi]
        have hrk := rng_get hr k
        have c64 := cr64 _ hrk
        have hm0 := natS_ge (l.getD k 0)
        have hm1 := natS_lt hrk
        unfold stepC at hstep
        rw [if_pos hk2] at hstep
        generalize natS (l.getD k 0) = n at c64 hm0 hm1 hstep
        have hK : SL 1 (.sl 1 (([.int .i64 (n / 480 % 4), .int .i64 (n / 1920 % 4)] : List D).take (n / 160 % 3).toNat)) (dInts (kindsL n)) := .inr (by unfold kindsL dInts; rw [List.map_take]; rfl)
        have ek : (dInts (kindsL n)).length = (kindsL n).length := by simp
        have hkl := kindsL_len n
        repeat' first
          | ((with_reducible apply K_len_SL hK); exact rfl)
          | ((with_reducible apply K_mov_any v4); exact rfl)
          | ((with_reducible apply K_mov_any v3); exact rfl)
          | ((with_reducible apply K_mov_any v2); exact rfl)
          | ((with_reducible apply K_mov_any v); exact rfl)
          | ((with_reducible apply K_idxA_map (fun i : Int => D.int .i64 i) 0 hd); exact rfl; exact rfl; omega)
          | ((with_reducible apply K_call_0 (f := 64) (ys := [.int .i64 (l.getD k 0)])); exact rfl; exact c64; exact rfl)
          | ((with_reducible apply K_storeA_last (S1 := [.box [.d d], .box [v], .dead, .dead] ++ t)); exact rfl; exact rfl; exact rfl; exact rfl; (first | decide | simp))
          | ((with_reducible apply K_slArr_last (S1 := [.box [.d d], .box [v], .dead, .dead] ++ t)); exact rfl; exact rfl; exact rfl; exact rfl; exact rfl; omega)
          | with_reducible refine T_seq ?_
          | with_reducible refine S_ops ?_
          | with_reducible refine O_step ?_
          | ((with_reducible apply K_mov_d); exact rfl)
          | with_reducible refine O_nil ?_
          | with_reducible refine seq_n ?_
          | with_reducible refine S_skip ?_
          | ((with_reducible apply T_itet); exact rfl)
          | ((with_reducible apply T_itef); exact rfl)
          | ((with_reducible apply T_ite1); exact rfl; (first | with_reducible assumption | omega))
          | ((with_reducible apply T_ite0); exact rfl; (first | with_reducible assumption | omega))
          | ((with_reducible apply T_iteP); exact rfl; all_goals intro _)
          | with_reducible refine S_ret ?_
          | with_reducible refine seq_r ?_
          | with_reducible refine S_exit ?_
          | with_reducible refine seq_e ?_
          | with_reducible refine T_block ?_
          | with_reducible refine blk_1 ?_
          | with_reducible refine blk_0 rfl ?_
          | with_reducible refine blk_n ?_
          | with_reducible refine blk_r ?_
          | with_reducible refine rnd_r ?_
          | with_reducible refine rnd_e ?_
          | with_reducible refine body_r ?_
          | with_reducible refine body_e ?_
          | with_reducible refine asg_n ?_
          | ((with_reducible apply K_lss); exact rfl; exact rfl)
          | ((with_reducible apply K_geq); exact rfl; exact rfl)
          | ((with_reducible apply K_neq); exact rfl; exact rfl)
          | ((with_reducible apply K_neqS); exact rfl; exact rfl)
          | ((with_reducible apply K_add); exact rfl; exact rfl; (first | omega | decide))
          | ((with_reducible apply K_addw); exact rfl; exact rfl)
          | ((with_reducible apply K_quo0); exact rfl; exact rfl; (first | omega | decide); (first | omega | decide))
          | ((with_reducible apply K_rem0); exact rfl; exact rfl; (first | omega | decide); (first | omega | decide))
          | ((with_reducible apply K_quo); exact rfl; exact rfl; (first | omega | decide))
          | ((with_reducible apply K_rem); exact rfl; exact rfl; (first | omega | decide))
          | ((with_reducible apply K_len_d); exact rfl)
          | ((with_reducible apply K_len_nil); exact rfl)
          | ((with_reducible apply K_len_ref); exact rfl; exact rfl)
          | with_reducible refine S_draw0 ?_
          | with_reducible refine D_nil ?_
          | ((with_reducible apply D_step1); exact trivial)
          | ((with_reducible apply D_step1); exact rfl)
          | ((with_reducible apply K_idxA_ref); exact rfl; exact rfl; exact rfl; (first | omega | decide))
          | ((with_reducible apply K_idxA_d); exact rfl; exact rfl; (first | omega | decide))
          | ((with_reducible apply K_load1_ptr); exact rfl; exact rfl; exact rfl)
          | ((with_reducible apply K_load1_fp); exact rfl)
          | ((with_reducible apply K_load1_byte); exact rfl; exact rfl; (first | omega | decide))
          | ((with_reducible apply K_mov_ref); exact rfl)
          | ((with_reducible apply K_mov_ptr); exact rfl)
          | ((with_reducible apply K_mov_agg); exact rfl)
          | ((with_reducible apply K_mov_yld); exact rfl)
          | with_reducible refine K_alloc ?_
          | ((with_reducible apply K_build_d); exact rfl; exact rfl)
          | ((with_reducible apply K_storeA_pd); exact rfl; exact rfl; exact rfl; exact rfl; (first | decide | simp))
          | ((with_reducible apply K_store1_pd); exact rfl; exact rfl; exact rfl; (first | decide | simp); exact rfl)
          | ((with_reducible apply K_store1_pr); exact rfl; exact rfl; exact rfl; (first | decide | simp))
          | ((with_reducible apply K_box_d); exact rfl; exact rfl)
          | ((with_reducible apply K_bslice1); exact rfl; exact rfl)
          | ((with_reducible apply K_bslice); exact rfl)
        refine T_loop (fun t => Nat.beq t 13 || Nat.ble 44 t) [44] (fun u : Nat × AV × St => [i64 u.1]) (fun u => [.box [.d d], .box [u.2.1], .dead, .dead] ++ u.2.2) (fun u => u.1 ≤ (kindsL n).length ∧ OutT 4 u.2.1 u.2.2 3 (callsK s l k ++ ((kindsL n).take u.1).map fun k => otherD k n)) (fun u => (kindsL n).length - u.1) (0, v, t ++ [.dead]) rfl ⟨by omega, by simpa using ho.more _⟩ rfl rfl ?_
        rintro ⟨m, v, t⟩ g ⟨hm, ho⟩
        dsimp only at hm ho ⊢
        have c65 := cr65 ((kindsL n).getD m 0) n (kindsL_get n m) ⟨hm0, hm1⟩
        repeat' first
          | ((with_reducible apply K_mov_any v4); exact rfl)
          | ((with_reducible apply K_mov_any v3); exact rfl)
          | ((with_reducible apply K_mov_any v2); exact rfl)
          | ((with_reducible apply K_mov_any v); exact rfl)
          | ((with_reducible apply K_idxA_map (fun i : Int => D.int .i64 i) 0 hK); exact rfl; exact rfl; omega)
          | ((with_reducible apply K_call_0 (f := 65) (ys := [.int .i64 ((kindsL n).getD m 0), .int .i64 n])); exact rfl; exact c65; exact rfl)
          | ((with_reducible apply K_bslice1); exact rfl; exact otherD_cells _ _)
          | ((with_reducible apply K_app_el (S0 := [.box [.d d], .box [v], .dead, .dead]) ho); exact rfl; exact rfl; exact rfl; (simp); (simp at hb ⊢; omega); intro v2 t2 ho2)
          | ((with_reducible apply K_store1_ptr (v := v2)); exact rfl; exact rfl; exact rfl; simp; exact ho2.okc; exact ho2.cells)
          | with_reducible refine T_seq ?_
          | with_reducible refine S_ops ?_
          | with_reducible refine O_step ?_
          | ((with_reducible apply K_mov_d); exact rfl)
          | with_reducible refine O_nil ?_
          | with_reducible refine seq_n ?_
          | with_reducible refine S_skip ?_
          | ((with_reducible apply T_itet); exact rfl)
          | ((with_reducible apply T_itef); exact rfl)
          | ((with_reducible apply T_ite1); exact rfl; (first | with_reducible assumption | omega))
          | ((with_reducible apply T_ite0); exact rfl; (first | with_reducible assumption | omega))
          | ((with_reducible apply T_iteP); exact rfl; all_goals intro _)
          | with_reducible refine S_ret ?_
          | with_reducible refine seq_r ?_
          | with_reducible refine S_exit ?_
          | with_reducible refine seq_e ?_
          | with_reducible refine T_block ?_
          | with_reducible refine blk_1 ?_
          | with_reducible refine blk_0 rfl ?_
          | with_reducible refine blk_n ?_
          | with_reducible refine blk_r ?_
          | with_reducible refine rnd_r ?_
          | with_reducible refine rnd_e ?_
          | with_reducible refine body_r ?_
          | with_reducible refine body_e ?_
          | with_reducible refine asg_n ?_
          | ((with_reducible apply K_lss); exact rfl; exact rfl)
          | ((with_reducible apply K_geq); exact rfl; exact rfl)
          | ((with_reducible apply K_neq); exact rfl; exact rfl)
          | ((with_reducible apply K_neqS); exact rfl; exact rfl)
          | ((with_reducible apply K_add); exact rfl; exact rfl; (first | omega | decide))
          | ((with_reducible apply K_addw); exact rfl; exact rfl)
          | ((with_reducible apply K_quo0); exact rfl; exact rfl; (first | omega | decide); (first | omega | decide))
          | ((with_reducible apply K_rem0); exact rfl; exact rfl; (first | omega | decide); (first | omega | decide))
          | ((with_reducible apply K_quo); exact rfl; exact rfl; (first | omega | decide))
          | ((with_reducible apply K_rem); exact rfl; exact rfl; (first | omega | decide))
          | ((with_reducible apply K_len_d); exact rfl)
          | ((with_reducible apply K_len_nil); exact rfl)
          | ((with_reducible apply K_len_ref); exact rfl; exact rfl)
          | with_reducible refine S_draw0 ?_
          | with_reducible refine D_nil ?_
          | ((with_reducible apply D_step1); exact trivial)
          | ((with_reducible apply D_step1); exact rfl)
          | ((with_reducible apply K_idxA_ref); exact rfl; exact rfl; exact rfl; (first | omega | decide))
          | ((with_reducible apply K_idxA_d); exact rfl; exact rfl; (first | omega | decide))
          | ((with_reducible apply K_load1_ptr); exact rfl; exact rfl; exact rfl)
          | ((with_reducible apply K_load1_fp); exact rfl)
          | ((with_reducible apply K_load1_byte); exact rfl; exact rfl; (first | omega | decide))
          | ((with_reducible apply K_mov_ref); exact rfl)
          | ((with_reducible apply K_mov_ptr); exact rfl)
          | ((with_reducible apply K_mov_agg); exact rfl)
          | ((with_reducible apply K_mov_yld); exact rfl)
          | with_reducible refine K_alloc ?_
          | ((with_reducible apply K_build_d); exact rfl; exact rfl)
          | ((with_reducible apply K_storeA_pd); exact rfl; exact rfl; exact rfl; exact rfl; (first | decide | simp))
          | ((with_reducible apply K_store1_pd); exact rfl; exact rfl; exact rfl; (first | decide | simp); exact rfl)
          | ((with_reducible apply K_store1_pr); exact rfl; exact rfl; exact rfl; (first | decide | simp))
          | ((with_reducible apply K_box_d); exact rfl; exact rfl)
          | ((with_reducible apply K_bslice1); exact rfl; exact rfl)
          | ((with_reducible apply K_bslice); exact rfl)
        · refine rnd_n (m + 1, v2, t2) ⟨⟨by dsimp only; omega, ?_⟩, by dsimp only; omega⟩ rfl rfl
          have hml : m < (kindsL n).length := by omega
          have e5 : (kindsL n).take (m + 1) = (kindsL n).take m ++ [(kindsL n).getD m 0] := by
            rw [List.take_succ_eq_append_getElem hml]; simp [List.getD_eq_getElem?_getD, hml]
          dsimp only
          rw [e5, List.map_append, ← List.append_assoc]
          exact ho2
        · have : m = (kindsL n).length := by omega
          subst this
          rw [List.take_length] at ho2
          exact body_n ⟨v2, t2, rfl, by
            rw [hstep, ← List.append_assoc]; exact ho2⟩
      · have hpi : pItem s l k = [.int .i64 (-1), .str ((cutL s l).getD k [])] := by unfold pItem; rw [if_neg hk2]
        rw [hpi]
        repeat' first
          | ((with_reducible apply K_mov_any v4); exact rfl)
          | ((with_reducible apply K_mov_any v3); exact rfl)
          | ((with_reducible apply K_mov_any v2); exact rfl)
          | ((with_reducible apply K_mov_any v); exact rfl)
          | ((with_reducible apply K_app_el (S0 := [.box [.d d], .box [v], .dead, .dead]) ho); exact rfl; exact rfl; exact rfl; (simp); (simp at hb ⊢; omega); intro v2 t2 ho2)
          | ((with_reducible apply K_store1_ptr (v := v2)); exact rfl; exact rfl; exact rfl; simp; exact ho2.okc; exact ho2.cells)
          | with_reducible refine T_seq ?_
          | with_reducible refine S_ops ?_
          | with_reducible refine O_step ?_
          | ((with_reducible apply K_mov_d); exact rfl)
          | with_reducible refine O_nil ?_
          | with_reducible refine seq_n ?_
          | with_reducible refine S_skip ?_
          | ((with_reducible apply T_itet); exact rfl)
          | ((with_reducible apply T_itef); exact rfl)
          | ((with_reducible apply T_ite1); exact rfl; (first | with_reducible assumption | omega))
          | ((with_reducible apply T_ite0); exact rfl; (first | with_reducible assumption | omega))
          | ((with_reducible apply T_iteP); exact rfl; all_goals intro _)
          | with_reducible refine S_ret ?_
          | with_reducible refine seq_r ?_
          | with_reducible refine S_exit ?_
          | with_reducible refine seq_e ?_
          | with_reducible refine T_block ?_
          | with_reducible refine blk_1 ?_
          | with_reducible refine blk_0 rfl ?_
          | with_reducible refine blk_n ?_
          | with_reducible refine blk_r ?_
          | with_reducible refine rnd_r ?_
          | with_reducible refine rnd_e ?_
          | with_reducible refine body_r ?_
          | with_reducible refine body_e ?_
          | with_reducible refine asg_n ?_
          | ((with_reducible apply K_lss); exact rfl; exact rfl)
          | ((with_reducible apply K_geq); exact rfl; exact rfl)
          | ((with_reducible apply K_neq); exact rfl; exact rfl)
          | ((with_reducible apply K_neqS); exact rfl; exact rfl)
          | ((with_reducible apply K_add); exact rfl; exact rfl; (first | omega | decide))
          | ((with_reducible apply K_addw); exact rfl; exact rfl)
          | ((with_reducible apply K_quo0); exact rfl; exact rfl; (first | omega | decide); (first | omega | decide))
          | ((with_reducible apply K_rem0); exact rfl; exact rfl; (first | omega | decide); (first | omega | decide))
          | ((with_reducible apply K_quo); exact rfl; exact rfl; (first | omega | decide))
          | ((with_reducible apply K_rem); exact rfl; exact rfl; (first | omega | decide))
          | ((with_reducible apply K_len_d); exact rfl)
          | ((with_reducible apply K_len_nil); exact rfl)
          | ((with_reducible apply K_len_ref); exact rfl; exact rfl)
          | with_reducible refine S_draw0 ?_
          | with_reducible refine D_nil ?_
          | ((with_reducible apply D_step1); exact trivial)
          | ((with_reducible apply D_step1); exact rfl)
          | ((with_reducible apply K_idxA_ref); exact rfl; exact rfl; exact rfl; (first | omega | decide))
          | ((with_reducible apply K_idxA_d); exact rfl; exact rfl; (first | omega | decide))
          | ((with_reducible apply K_load1_ptr); exact rfl; exact rfl; exact rfl)
          | ((with_reducible apply K_load1_fp); exact rfl)
          | ((with_reducible apply K_load1_byte); exact rfl; exact rfl; (first | omega | decide))
          | ((with_reducible apply K_mov_ref); exact rfl)
          | ((with_reducible apply K_mov_ptr); exact rfl)
          | ((with_reducible apply K_mov_agg); exact rfl)
          | ((with_reducible apply K_mov_yld); exact rfl)
          | with_reducible refine K_alloc ?_
          | ((with_reducible apply K_build_d); exact rfl; exact rfl)
          | ((with_reducible apply K_storeA_pd); exact rfl; exact rfl; exact rfl; exact rfl; (first | decide | simp))
          | ((with_reducible apply K_store1_pd); exact rfl; exact rfl; exact rfl; (first | decide | simp); exact rfl)
          | ((with_reducible apply K_store1_pr); exact rfl; exact rfl; exact rfl; (first | decide | simp))
          | ((with_reducible apply K_box_d); exact rfl; exact rfl)
          | ((with_reducible apply K_bslice1); exact rfl; exact rfl)
          | ((with_reducible apply K_bslice); exact rfl)
        exact body_n ⟨v2, t2, rfl, by
          rw [hstep]; unfold stepC; rw [if_neg hk2]; exact ho2⟩
  · rw [if_neg h]
    refine fn_cr fn31 (Nat.le_of_ble_eq_true rfl) rfl ?_
    unfold sc31
    have ebox : [AO.box (d.cells.map AV.d)] = [AO.box [.d d]] := by rw [hd.cells]; rfl
    repeat' first
      | ((with_reducible apply K_box_d); exact rfl; exact hdc; rw [ebox])
      | ((with_reducible apply K_call_0 (f := 60) (ys := [.str s, d])); exact rfl; exact c60; exact rfl)
      | with_reducible refine T_seq ?_
      | with_reducible refine S_ops ?_
      | with_reducible refine O_step ?_
      | ((with_reducible apply K_mov_d); exact rfl)
      | with_reducible refine O_nil ?_
      | with_reducible refine seq_n ?_
      | with_reducible refine S_skip ?_
      | ((with_reducible apply T_itet); exact rfl)
      | ((with_reducible apply T_itef); exact rfl)
      | ((with_reducible apply T_ite1); exact rfl; (first | with_reducible assumption | omega))
      | ((with_reducible apply T_ite0); exact rfl; (first | with_reducible assumption | omega))
      | ((with_reducible apply T_iteP); exact rfl; all_goals intro _)
      | with_reducible refine S_ret ?_
      | with_reducible refine seq_r ?_
      | with_reducible refine S_exit ?_
      | with_reducible refine seq_e ?_
      | with_reducible refine T_block ?_
      | with_reducible refine blk_1 ?_
      | with_reducible refine blk_0 rfl ?_
      | with_reducible refine blk_n ?_
      | with_reducible refine blk_r ?_
      | with_reducible refine rnd_r ?_
      | with_reducible refine rnd_e ?_
      | with_reducible refine body_r ?_
      | with_reducible refine body_e ?_
      | with_reducible refine asg_n ?_
      | ((with_reducible apply K_lss); exact rfl; exact rfl)
      | ((with_reducible apply K_geq); exact rfl; exact rfl)
      | ((with_reducible apply K_neq); exact rfl; exact rfl)
      | ((with_reducible apply K_neqS); exact rfl; exact rfl)
      | ((with_reducible apply K_add); exact rfl; exact rfl; (first | omega | decide))
      | ((with_reducible apply K_addw); exact rfl; exact rfl)
      | ((with_reducible apply K_quo0); exact rfl; exact rfl; (first | omega | decide); (first | omega | decide))
      | ((with_reducible apply K_rem0); exact rfl; exact rfl; (first | omega | decide); (first | omega | decide))
      | ((with_reducible apply K_quo); exact rfl; exact rfl; (first | omega | decide))
      | ((with_reducible apply K_rem); exact rfl; exact rfl; (first | omega | decide))
      | ((with_reducible apply K_len_d); exact rfl)
      | ((with_reducible apply K_len_nil); exact rfl)
      | ((with_reducible apply K_len_ref); exact rfl; exact rfl)
      | with_reducible refine S_draw0 ?_
      | with_reducible refine D_nil ?_
      | ((with_reducible apply D_step1); exact trivial)
      | ((with_reducible apply D_step1); exact rfl)
      | ((with_reducible apply K_idxA_ref); exact rfl; exact rfl; exact rfl; (first | omega | decide))
      | ((with_reducible apply K_idxA_d); exact rfl; exact rfl; (first | omega | decide))
      | ((with_reducible apply K_load1_ptr); exact rfl; exact rfl; exact rfl)
      | ((with_reducible apply K_load1_fp); exact rfl)
      | ((with_reducible apply K_load1_byte); exact rfl; exact rfl; (first | omega | decide))
      | ((with_reducible apply K_mov_ref); exact rfl)
      | ((with_reducible apply K_mov_ptr); exact rfl)
      | ((with_reducible apply K_mov_agg); exact rfl)
      | ((with_reducible apply K_mov_yld); exact rfl)
      | with_reducible refine K_alloc ?_
      | ((with_reducible apply K_build_d); exact rfl; exact rfl)
      | ((with_reducible apply K_storeA_pd); exact rfl; exact rfl; exact rfl; exact rfl; (first | decide | simp))
      | ((with_reducible apply K_store1_pd); exact rfl; exact rfl; exact rfl; (first | decide | simp); exact rfl)
      | ((with_reducible apply K_store1_pr); exact rfl; exact rfl; exact rfl; (first | decide | simp))
      | ((with_reducible apply K_box_d); exact rfl; exact rfl)
      | ((with_reducible apply K_bslice1); exact rfl; exact rfl)
      | ((with_reducible apply K_bslice); exact rfl)
    exact ends_2 rfl
end Go.Abs
