/- An abstract semantics of the model's code, second part: calls, drawn orders, loops, ranges over functions, contracts, steps; a library for the laws, it claims nothing by itself. -/
import Derived.OrdersIn
import Derived.IntWalk
import Derived.ChangeSame
import Derived.ProofKit
import Derived.OpenShut
import Derived.ShutString
import Derived.Test.YtkdcdcdeffednaaAbsA
set_option linter.unusedVariables false
set_option linter.unusedSimpArgs false
/- Operations of a region, one behind the other. -/
namespace Go.Abs

/-- The fence: everything is allowed; in a round of a loop or not. -/
abbrev FW (rd : Option Nat) : Fence := { Fence.wide with round := rd }
theorem fenced_FW (P : Program) (rd : Option Nat) : Machine.fenced P (FW rd) = Machine.fenced P Fence.wide := rfl
theorem calls_FW {rd : Option Nat} {n : Nat} {P : Program} {f : FuncId} {args : Array Value} {w : World} {R : Ending → World → Prop} : CallsIn (FW rd) n P f args w R ↔ Calls P f args w R :=
  callsIn_wide (n := n)

/-- Calls of 'yield': the loop's body runs a round; behind it the world is as it was, but for what others may write. -/
def YieldOK (P : Program) (inv : AV → (Nat → Gh) → (Nat → Prop) → St → World → Prop) : Prop :=
  ∀ l xs rest γ env S w (cargs : List Value), inv (.gh l (xs :: rest)) γ env S w → HR w γ env S → All2 (fun d v => DR w (cx w γ env S).O (.val d v)) xs cargs →
    ∃ fn tmps assign body, (Instr.yield l cargs.toArray).run P w = .ok (.round l fn tmps assign body) w ∧
      RoundIn Fence.wide 0 P l fn tmps assign body w fun e w' => ∃ (t : Bool) (env' : Nat → Prop), e = .returned (.bool t) ∧ w.heap.size ≤ w'.heap.size ∧
        (∀ b, b < w.heap.size → ¬ env b → w'.heap[b]? = w.heap[b]?) ∧ (∀ b, b < w.heap.size → env' b → env b) ∧ (∀ b, env' b → b < w'.heap.size) ∧ inv (.gh l (if t then rest else [])) γ env' S w'

/-- What a range over a function leaves among an activation's deferred calls. -/
def mark (D : Nat) : Deferred := { target := .collected D, args := #[] }
/-- What is known of an activation, whatever it does. -/
structure Base (P : Program) where
  N : Nat
  hN : N ≤ G
  lo : Nat
  keep : Nat → Obj → Prop
  inv : AV → (Nat → Gh) → (Nat → Prop) → St → World → Prop
  cl : ∀ {g γ env S w w' γ' S'}, inv g γ env S w → HR w γ env S → Stp w γ env S w' γ' S' → inv g γ' env S' w'
  los : ∀ {g γ env S w}, inv g γ env S w → lo ≤ w.heap.size
  yl : YieldOK P inv

structure RelG {P : Program} (B : Base P) (fr : Fr) (S : St) (γ : Nat → Gh) (env : Nat → Prop) (a : Act) (w : World) : Prop where
  size : a.tmps.size = B.N
  frame : FrOK w γ env S fr a
  hr : HR w γ env S
  marks : ∃ Ds : List Nat, a.defers = Ds.map mark ∧ Ds.Nodup ∧ ∀ D ∈ Ds, w.heap[D]? = some (.deferred (some [])) ∧ ¬ env D ∧ B.lo ≤ D
  keep : ∀ b o, B.keep b o → w.heap[b]? = some o ∧ o.isCells = false ∧ ¬ env b
  inv : B.inv (fr G) γ env S w
def Rel {P : Program} (B : Base P) (fr : Fr) (S : St) (a : Act) (w : World) : Prop := ∃ γ env, RelG B fr S γ env a w

section
variable {P : Program} {B : Base P} {fr : Fr} {S S' : St} {γ γ' : Nat → Gh} {env : Nat → Prop} {a : Act} {w w' : World}

theorem HR.own_cells (h : HR w γ env S) {b : Nat} (hb : Own S γ b) : ∃ cs T fz, w.heap[b]? = some (.cells cs T fz) := by
  obtain ⟨i, o, h1, h2, rfl⟩ := hb
  have ho := h.objs i o h1
  cases o with
  | box l => obtain ⟨_, cs, ⟨T, fz, h3, _⟩, _⟩ := ho; exact ⟨cs, T, fz, h3⟩
  | arr g es l => obtain ⟨_, _, _, cs, ⟨T, fz, h3, _⟩, _⟩ := ho; exact ⟨cs, T, fz, h3⟩
  | frz g es l => cases h2
  | dead => cases h2
theorem Stp.keeps (h : Stp w γ env S w' γ' S') (hr : HR w γ env S) {b : Nat} {o : Obj} (hb : w.heap[b]? = some o) (ho : o.isCells = false) : w'.heap[b]? = some o := by
  rw [h.chg b (heap_lt hb) fun hO => ?_]
  · exact hb
  · obtain ⟨cs, T, fz, h1⟩ := hr.own_cells hO
    rw [hb] at h1; injection h1 with h1; subst h1; cases ho

theorem put_size (a : Act) (d : Option Tmp) (v : Value) : (a.put d v).tmps.size = a.tmps.size := by cases d <;> simp [Act.put]
theorem put_defers (a : Act) (d : Option Tmp) (v : Value) : (a.put d v).defers = a.defers := by cases d <;> rfl
theorem frame_put {d : Option Nat} {v : AV} {cv : Value} (hd : ∀ t, d = some t → t < a.tmps.size) (hF : FrOK w γ env S fr a) (hv : TR (cx w γ env S) v cv) : FrOK w γ env S (updO fr d v) (a.put d cv) := by
  intro t
  cases d with
  | none => exact hF t
  | some d =>
    have hlt := hd d rfl
    simp only [updO, upd, Act.put]
    split
    · rename_i e; subst e; simpa [Array.getD_eq_getD_getElem?, hlt] using hv
    · rename_i e
      have := hF t
      have e2 : (a.tmps.setIfInBounds d cv).getD t undef = a.tmps.getD t undef := by
        simp only [Array.getD_eq_getD_getElem?]
        rw [Array.getElem?_setIfInBounds_ne (fun h => e h.symm)]
      rw [e2]; exact this

theorem updO_G {B : Base P} {d : Option Nat} {v : AV} (hd : ∀ t, d = some t → t < B.N) : updO fr d v G = fr G := by
  cases d with
  | none => rfl
  | some t =>
    have h1 := hd t rfl
    have h2 := B.hN
    simp only [updO, upd]
    rw [if_neg]
    omega
theorem RelG.step {d : Option Nat} {v : AV} {cv : Value} (h : RelG B fr S γ env a w) (hd : ∀ t, d = some t → t < B.N) (hs : Stp w γ env S w' γ' S') (hv : TR (cx w' γ' env S') v cv) : RelG B (updO fr d v) S' γ' env (a.put d cv) w' := by
  refine ⟨(put_size a d cv).trans h.size, frame_put (fun t e => by rw [h.size]; exact hd t e) (fun t => hs.le.tr (h.frame t)) hv, hs.hr, ?_, fun b o hb => ?_, ?_⟩
  · rw [put_defers]
    obtain ⟨Ds, h1, h2, h3⟩ := h.marks
    exact ⟨Ds, h1, h2, fun D hD => ⟨hs.keeps h.hr (h3 D hD).1 rfl, (h3 D hD).2⟩⟩
  · obtain ⟨h1, h2, h3⟩ := h.keep b o hb
    exact ⟨hs.keeps h.hr h1 h2, h2, h3⟩
  · rw [updO_G hd]; exact B.cl h.inv h.hr hs

variable {n : Nat} {rd : Option Nat} {ops : Array Oper} {Q : Exit → Act → World → Prop} {E : Env} {o : Oper} {K : AV → St → Prop} {next : Act → World → Prop}

theorem trI_nodefer {si : SI} (h : trI P o.op = some si) : ∀ c, o.op ≠ .defer c := by
  intro c e; rw [e] at h; simp [trI] at h

/-- An operation. -/
theorem trD_lt {N : Nat} {d : Option Tmp} {d' : Option Nat} (h : trD N d = some d') : d' = d ∧ ∀ t, d = some t → t < N := by
  cases d with
  | none => simp [trD] at h; subst h; simp
  | some t =>
    simp only [trD] at h
    split at h
    · rename_i hlt; injection h with h; subst h; exact ⟨rfl, fun u e => by injection e with e; subst e; exact hlt⟩
    · cases h

theorem trBin_call {op : BinOp} {t : TypeId} {x y : Opd} {si : SI} (h : trBin P op t x y = some si) : si.isCall = false := by
  unfold trBin at h
  repeat' split at h
  all_goals first
    | (injection h with h; subst h; rfl)
    | cases h
theorem trConv_call {s t : TypeId} {x : Opd} {si : SI} (h : trConv P s t x = some si) : si.isCall = false := by
  unfold trConv at h
  repeat' split at h
  all_goals first
    | (injection h with h; subst h; rfl)
    | cases h
theorem trBuild_call {t : TypeId} {ps : List (Nat × Operand)} {si : SI} (h : trBuild P t ps = some si) : si.isCall = false := by
  unfold trBuild at h
  repeat' split at h
  all_goals first
    | (obtain ⟨u, _, h⟩ := Option.map_eq_some_iff.1 h; subst h; rfl)
    | cases h
theorem trI_call {op : Op} {si : SI} (h : trI P op = some si) (hc : si.isCall = true) : ∃ c, op = .call c ∧ trCall P c = some si := by
  unfold trI at h
  repeat' split at h
  all_goals first
    | exact ⟨_, rfl, h⟩
    | (rw [trBin_call h] at hc; cases hc)
    | (rw [trConv_call h] at hc; cases hc)
    | (rw [trBuild_call h] at hc; cases hc)
    | (injection h with h; subst h; cases hc)
    | (obtain ⟨u, _, h⟩ := Option.map_eq_some_iff.1 h; subst h; cases hc)
    | cases h
theorem trCall_call {c : Call} {si : SI} (h : trCall P c = some si) (hc : si.isCall = true) :
    (∃ f args, c.callee = .value (.func f) ∧ trOs c.args.toList = some args ∧ si = .call f args) ∨ (∃ t args, c.callee = .value (.tmp t) ∧ trOs c.args.toList = some args ∧ si = .callV (.t t) args) := by
  unfold trCall at h
  repeat' split at h
  all_goals try (injection h with h; subst h; cases hc; done)
  all_goals try (cases h; done)
  all_goals (obtain ⟨u, h1, h⟩ := Option.map_eq_some_iff.1 h; subst h)
  · exact .inl ⟨_, u, ‹_›, h1, rfl⟩
  · exact .inr ⟨_, u, ‹_›, h1, rfl⟩

theorem map_list {α β : Type} (f : α → β) (l : Array α) : (l.toList.map f).toArray = l.map f := by apply Array.ext'; simp

theorem op_ok (hE : EOK P E) {si : SI} (htr : trI P o.op = some si) {d : Option Nat} (hd : trD B.N o.dst = some d) (hR : RelG B fr S γ env a w)
    (hk : stepK E fr S si K) (hn : ∀ v γ' S' a' w', K v S' → RelG B (updO fr d v) S' γ' env a' w' → next a' w') : o.wpIn (FW rd) n P a w next Q := by
  obtain ⟨rfl, hlt⟩ := trD_lt hd
  refine ⟨fun _ _ => trivial, ?_⟩
  rw [Oper.semAt_eq _ _ _ (trI_nodefer htr)]
  by_cases hc : si.isCall = false
  · obtain ⟨v, cv, w', γ', S', h1, h2, h3, h4⟩ := does E hR.hr hR.frame htr hc hk
    rcases h1 with h1 | ⟨h1, rfl⟩
    · rw [h1, Oper.uponIn_value]; exact hn v γ' S' _ _ h4 (hR.step hlt h2 h3)
    · rw [h1, Oper.uponIn_skip]; exact hn v γ' S' _ _ h4 (hR.step hlt h2 h3)
  · -- a call
    have key : ∀ f vs (cvs : List Value), (execOp a.eval o) = invoke (.fn (.func f) #[]) cvs.toArray ∨ (∃ caps xs, (execOp a.eval o) = invoke (.fn (.func f) caps) xs ∧ xs ++ caps = cvs.toArray) →
        All2 (TR (cx w γ env S)) vs cvs → callK E f vs S K → o.uponIn (FW rd) n P a next Q ((execOp a.eval o).run P w) := by
      intro f vs cvs hx hv hk
      have hrun : (execOp a.eval o).run P w = .ok (.enter f cvs.toArray) w := by
        rcases hx with hx | ⟨caps, xs, hx, e⟩
        · rw [hx]; simpa [invoke] using callK_ent hE hk cvs.toArray w
        · rw [hx]; simp only [invoke, e]; exact callK_ent hE hk cvs.toArray w
      rw [hrun, Oper.uponIn_enter]
      refine ⟨fun h => by simp [Fence.wide] at h, calls_FW.2 ((callK_ok hE hR.hr hv hk).mono fun e w' => ?_)⟩
      rintro ⟨v, cv, γ', S', rfl, h1, h2, h3⟩
      exact hn v γ' S' _ _ h3 (hR.step hlt h1 h2)
    obtain ⟨c, ho, htc⟩ := trI_call htr (by simpa using hc)
    rcases trCall_call htc (by simpa using hc) with ⟨f, args, h1, h2, rfl⟩ | ⟨t, args, h1, h2, rfl⟩
    · refine key f (args.map (ld fr)) (c.args.toList.map a.eval) (.inr ⟨#[], c.args.map a.eval, ?_, by rw [map_list, Array.append_empty]⟩) (trOs_ok hR.frame h2) hk
      have e : a.eval (.func f) = .func (.func f) #[] #[] := rfl
      simp [execOp, ho, resolve, h1, e, Deferred.ofValue]
    · have hx := hR.frame t
      have e0 : a.eval (.tmp t) = a.tmps.getD t undef := rfl
      simp only [stepK, ld] at hk
      split at hk
      · rename_i f hf
        rw [hf] at hx
        have hx' := tr_d hx
        generalize ht : a.tmps.getD t undef = tv at hx'
        cases hx'
        refine key f (args.map (ld fr)) (c.args.toList.map a.eval) (.inr ⟨#[], c.args.map a.eval, ?_, by rw [map_list, Array.append_empty]⟩) (trOs_ok hR.frame h2) hk
        simp [execOp, ho, resolve, h1, e0, ht, Deferred.ofValue]
      · rename_i f caps hf
        rw [hf] at hx
        obtain ⟨vs, ht, hcaps⟩ := hx
        have hcaps' : All2 (TR (cx w γ env S)) caps vs := hcaps.mono fun _ _ _ h => vr_tr (c0_tr h)
        refine key f (args.map (ld fr) ++ caps) (c.args.toList.map a.eval ++ vs) (.inr ⟨vs.toArray, c.args.map a.eval, ?_, by simp⟩) ((trOs_ok hR.frame h2).append hcaps') hk
        simp [execOp, ho, resolve, h1, e0, ht, Deferred.ofValue]
      · exact hk.elim

theorem roundIn_FW {rd : Option Nat} {n m : Nat} {l : Nat} {f : FuncId} {tmps : Array Value} {assign body : Code} {R : Ending → World → Prop} (h : RoundIn Fence.wide m P l f tmps assign body w R) : RoundIn (FW rd) n P l f tmps assign body w R :=
  ⟨trivial, fun c cs _ => h.2 c cs (room_wide _)⟩

/-- Behind a round of the loop's body. -/
theorem RelG.round {env' : Nat → Prop} {l : Nat} {xs : List (List D)} {ys : List (List D)} {d : Option Nat} {t : Bool} (h : RelG B fr S γ env a w) (hd : ∀ t, d = some t → t < B.N)
    (hs : w.heap.size ≤ w'.heap.size) (h1 : ∀ b, b < w.heap.size → ¬ env b → w'.heap[b]? = w.heap[b]?) (h2 : ∀ b, b < w.heap.size → env' b → env b) (h3 : ∀ b, env' b → b < w'.heap.size)
    (hi : B.inv (.gh l ys) γ env' S w') : RelG B (updO (upd fr G (.gh l ys)) d (.d (.bool t))) S γ env' (a.put d (.bool t)) w' := by
  have hle : (cx w γ env S).Le (cx w' γ env' S) := ⟨hs, fun b hb hO => h1 b hb fun h => hO (.inr h), fun b hb hO => hO.imp id (h2 b hb), Nat.le_refl _, fun _ _ => GX.refl _⟩
  have hap : ∀ b, env' b → ¬ Own S γ b := fun b hb hO => h.hr.apart b (h2 b (h.hr.own_lt hO) hb) hO
  have hnl : ∀ b, Own S γ b → w'.heap[b]? = w.heap[b]? := fun b hO => h1 b (h.hr.own_lt hO) fun h' => h.hr.apart b h' hO
  have hF : FrOK w' γ env' S (upd fr G (.gh l ys)) a := fun u => by
    unfold upd
    split
    · rename_i e
      have h2 := B.hN
      have : a.tmps.getD u undef = undef := by rw [Array.getD_eq_getD_getElem?, Array.getElem?_eq_none (by rw [h.size, e]; exact h2)]; rfl
      rw [this]; exact rfl
    · exact hle.tr (h.frame u)
  refine ⟨(put_size a d _).trans h.size, frame_put (fun t e => by rw [h.size]; exact hd t e) hF (DR.bool t), ⟨fun i o ho => ?_, h.hr.inj, h3, hap⟩, ?_, fun b o hb => ?_, ?_⟩
  · exact (h.hr.objs i o ho).mono hle rfl fun hl => hnl _ ⟨i, o, ho, hl, rfl⟩
  · rw [put_defers]
    obtain ⟨Ds, k1, k2, k3⟩ := h.marks
    exact ⟨Ds, k1, k2, fun D hD => ⟨(h1 D (heap_lt (k3 D hD).1) (k3 D hD).2.1).trans (k3 D hD).1, fun h' => (k3 D hD).2.1 (h2 D (heap_lt (k3 D hD).1) h'), (k3 D hD).2.2⟩⟩
  · obtain ⟨k1, k2, k3⟩ := h.keep b o hb
    exact ⟨(h1 b (heap_lt k1) k3).trans k1, k2, fun h' => k3 (h2 b (heap_lt k1) h')⟩
  · rw [updO_G hd]; simpa [upd] using hi

/-- An operation, calls of 'yield' with it. -/
theorem opE_ok (hE : EOK P E) {si : SI} (htr : trI P o.op = some si) {d : Option Nat} (hd : trD B.N o.dst = some d) (hR : RelG B fr S γ env a w) {K : AV → Fr → St → Prop}
    (hk : stepE E fr S si K) (hn : ∀ v fr' γ' env' S' a' w', K v fr' S' → RelG B (updO fr' d v) S' γ' env' a' w' → next a' w') : o.wpIn (FW rd) n P a w next Q := by
  unfold stepE at hk
  split at hk
  · rename_i x args
    split at hk
    · rename_i l hx
      split at hk
      · rename_i l' xs rest hg
        obtain ⟨⟨rfl, hargs⟩, hk1, hk2⟩ := hk
        obtain ⟨c, ho, htc⟩ := trI_call htr rfl
        rcases trCall_call htc rfl with ⟨f, args', h1, h2, h3⟩ | ⟨t, args', h1, h2, h3⟩
        · cases h3
        · injection h3 with h3 h4; subst h3; subst h4
          obtain ⟨rfl, hlt⟩ := trD_lt hd
          have hxx := hR.frame t
          rw [show fr t = .yld l from hx] at hxx
          have hxx : a.tmps.getD t undef = .func (.yield l) #[] #[] := hxx
          have hv := trOs_ok hR.frame h2
          rw [hargs] at hv
          have hv' : All2 (fun d v => DR w (cx w γ env S).O (.val d v)) xs (c.args.toList.map a.eval) := hv.unmap
          have hinv := hR.inv
          rw [hg] at hinv
          obtain ⟨fn, tmps, assign, body, hy, hround⟩ := B.yl l xs rest γ env S w _ hinv hR.hr hv'
          rw [map_list] at hy
          refine ⟨fun _ _ => trivial, ?_⟩
          rw [Oper.semAt_eq _ _ _ (trI_nodefer htr)]
          have e0 : a.eval (.tmp t) = a.tmps.getD t undef := rfl
          have hrun : (execOp a.eval o).run P w = .ok (.round l fn tmps assign body) w := by
            simpa [execOp, ho, resolve, h1, e0, hxx, Deferred.ofValue, invoke] using hy
          rw [hrun, Oper.uponIn_round]
          refine ⟨fun h => by simp [Fence.wide] at h, (roundIn_FW hround).mono fun e w' => ?_⟩
          rintro ⟨t', env', rfl, k1, k2, k3, k4, k5⟩
          cases t'
          · exact hn _ _ _ _ _ _ _ hk2 (hR.round (xs := []) hlt k1 k2 k3 k4 k5)
          · exact hn _ _ _ _ _ _ _ hk1 (hR.round (xs := []) hlt k1 k2 k3 k4 k5)
      · exact hk.elim
    · exact op_ok hE htr hd hR hk fun v γ' S' a' w' h1 h2 => hn _ _ _ _ _ _ _ h1 h2
  · exact op_ok hE htr hd hR hk fun v γ' S' a' w' h1 h2 => hn _ _ _ _ _ _ _ h1 h2

/-- A guard, as it is read. -/
theorem guard_ok {N : Nat} {g : Option (Nat × Bool)} (hg : trG ops o.guard = some g) (hF : FrOK w γ env S fr a) (hw : a.tmps.size = N) :
    match g with
    | none => Region.wanted o (yielded ops a.tmps) = true
    | some (t, want) => match fr t with
      | .d (.bool b) => t < N → Region.wanted o (yielded ops a.tmps) = (b == want)
      | .skip => Region.wanted o (yielded ops a.tmps) = false
      | _ => True := by
  unfold trG at hg
  split at hg
  · rename_i h; injection hg with hg; subst hg; simp [Region.wanted, h]
  · rename_i j want h
    split at hg
    · rename_i t ht
      injection hg with hg; subst hg
      simp only
      have hx := hF t
      split
      · rename_i b hb
        intro hlt
        rw [hb] at hx
        have hx' := tr_d hx
        have e : a.tmps[t]? = some (a.tmps.getD t undef) := by simp [Array.getD_eq_getD_getElem?, hw, hlt]
        generalize a.tmps.getD t undef = tv at hx' e
        cases hx'
        simp [Region.wanted, h, yielded, ht, e]
      · rename_i hb
        rw [hb] at hx
        have hx' : a.tmps.getD t undef = undef := hx
        have : yielded ops a.tmps j = none := by
          unfold yielded
          rw [ht]
          simp only [Option.bind_some]
          rw [Array.getD_eq_getD_getElem?] at hx'
          cases h2 : a.tmps[t]? with
          | none => rfl
          | some v => rw [h2] at hx'; simp at hx'; subst hx'; rfl
        simp [Region.wanted, h, this]
      · trivial
    · cases hg

theorem wpOps_cons {so : SOp} {l : List SOp} {K : Fr → St → Prop} : wpOps E (so :: l) K fr S ↔ stepOp E so (wpOps E l K) fr S := Iff.rfl

/-- Guards look at slots of the frame. -/
def SOp.gIn (N : Nat) (so : SOp) : Bool := match so.g with | some (t, _) => decide (t < N) | none => true

theorem sop_ok (hE : EOK P E) {so : SOp} (htr : trOp P B.N ops o = some so) (hgi : so.gIn B.N = true) {i : Nat} (hi : ops[i]? = some o) {K : Fr → St → Prop} (hR : Rel B fr S a w)
    (hk : stepOp E so K fr S) (hn : ∀ fr' S' a' w', K fr' S' → Rel B fr' S' a' w' → next a' w') : wpOpIn (FW rd) n P ops Q i next a w := by
  obtain ⟨γ, env, hR⟩ := hR
  unfold trOp at htr
  split at htr
  · rename_i d g si hd hg hsi
    injection htr with htr; subst htr
    have hgd := guard_ok (ops := ops) (o := o) hg hR.frame hR.size
    unfold wpOpIn
    simp only [hi]
    have skip : Region.wanted o (yielded ops a.tmps) = false → K (updO fr d .skip) S → if Region.wanted o (yielded ops a.tmps) = true then o.wpIn (FW rd) n P a w next Q else (∀ f, o.about P w a.eval = some f → (FW rd).fn f) ∧ next (a.put o.dst undef) w := by
      intro hw hK
      rw [if_neg (by rw [hw]; simp)]
      obtain ⟨rfl, hlt⟩ := trD_lt hd
      exact ⟨fun _ _ => trivial, hn _ _ _ _ hK ⟨γ, env, hR.step (v := .skip) hlt (.refl hR.hr) rfl⟩⟩
    have want : Region.wanted o (yielded ops a.tmps) = true → (stepE E fr S si fun v fr' S' => K (updO fr' d v) S') → if Region.wanted o (yielded ops a.tmps) = true then o.wpIn (FW rd) n P a w next Q else (∀ f, o.about P w a.eval = some f → (FW rd).fn f) ∧ next (a.put o.dst undef) w := by
      intro hw hK
      rw [if_pos hw]
      exact opE_ok hE hsi hd hR hK fun v fr' γ' env' S' a' w' h1 h2 => hn _ _ _ _ h1 ⟨γ', env', h2⟩
    unfold stepOp at hk
    cases g with
    | none => exact want hgd hk
    | some p =>
      obtain ⟨t, wn⟩ := p
      simp only at hgd hk
      split at hk
      · rename_i b hb
        rw [hb] at hgd
        simp only [SOp.gIn, decide_eq_true_eq] at hgi
        have hgd := hgd hgi
        by_cases e : b = wn
        · exact want (by rw [hgd, e]; simp) (hk.1 e)
        · exact skip (by rw [hgd]; simpa using e) (hk.2 (by cases b <;> cases wn <;> simp_all))
      · rename_i hb
        rw [hb] at hgd
        exact skip hgd hk
      · exact hk.elim
  · cases htr

theorem trOps_len {N : Nat} {ops : Array Oper} : ∀ {l : List Oper} {sl : List SOp}, trOps P N ops l = some sl → l.length = sl.length
  | [], sl, h => by simp [trOps] at h; subst h; rfl
  | o :: l, sl, h => by
    unfold trOps at h
    split at h
    · rename_i x xs h1 h2; injection h with h; subst h; simp [trOps_len h2]
    · cases h
theorem trOps_get {N : Nat} {ops : Array Oper} : ∀ {l : List Oper} {sl : List SOp}, trOps P N ops l = some sl → ∀ (j : Nat) (so : SOp), sl[j]? = some so → ∃ o, l[j]? = some o ∧ trOp P N ops o = some so
  | [], sl, h, j, so, hj => by simp [trOps] at h; subst h; simp at hj
  | o :: l, sl, h, j, so, hj => by
    unfold trOps at h
    split at h
    · rename_i x xs h1 h2
      injection h with h; subst h
      cases j with
      | zero => simp at hj; subst hj; exact ⟨o, by simp, h1⟩
      | succ j => simp at hj; obtain ⟨o', h3, h4⟩ := trOps_get h2 j so hj; exact ⟨o', by simpa using h3, h4⟩
    · cases h

/-- Operations in some order: these instructions belong to those operations. -/
theorem list_ok (hE : EOK P E) {K : Fr → St → Prop} : ∀ (is : List Nat) (sl : List SOp), All2 (fun i so => ∃ o, ops[i]? = some o ∧ trOp P B.N ops o = some so ∧ so.gIn B.N = true) is sl →
    ∀ {fr : Fr} {S : St} {a : Act} {w : World}, Rel B fr S a w → wpOps E sl K fr S → (∀ fr' S' a' w', K fr' S' → Rel B fr' S' a' w' → Q .normal a' w') → wpOpsIn (FW rd) n P ops Q is a w := by
  intro is
  induction is with
  | nil => intro sl h fr S a w hR hk hn; cases h; exact hn _ _ _ _ hk hR
  | cons i is ih =>
    intro sl h fr S a w hR hk hn
    cases h with
    | cons h1 h2 =>
      obtain ⟨o, h3, h4, h5⟩ := h1
      rw [wpOpsIn_cons]
      exact sop_ok hE h4 h5 h3 hR (wpOps_cons.1 hk) fun fr' S' a' w' h6 h7 => ih _ h2 h7 h6 hn

end
end Go.Abs
/- Orders: operations that may change places. -/
namespace Go.Abs

section
variable {E : Env} {fr fr' : Fr} {S S' S2 : St} {i : SI} {K K' : AV → St → Prop}

theorem boundsOK_wit {lo hi : Option AV} {len cap : Nat} {K : Nat → Nat → Prop} (h : boundsOK lo hi len cap K) : ∃ a b, K a b ∧ ∀ K' : Nat → Nat → Prop, K' a b → boundsOK lo hi len cap K' := by
  unfold boundsOK at h
  split at h
  · exact ⟨_, _, h, fun K' h' => h'⟩
  · exact ⟨_, _, h.2, fun K' h' => ⟨h.1, h'⟩⟩
  · exact ⟨_, _, h.2, fun K' h' => ⟨h.1, h'⟩⟩
  · exact ⟨_, _, h.2.2, fun K' h' => ⟨h.1, h.2.1, h'⟩⟩
  · exact h.elim

/-! ### what an instruction reads of the frame -/
theorem ld_congr {x : Opd} (h : ∀ t ∈ x.rd, fr t = fr' t) : ld fr x = ld fr' x := by
  cases x with
  | t n => exact h n (by simp [Opd.rd])
  | c v => rfl
  | f n => rfl
theorem lds_congr {xs : List Opd} (h : ∀ t ∈ xs.flatMap Opd.rd, fr t = fr' t) : xs.map (ld fr) = xs.map (ld fr') :=
  List.map_congr_left fun x hx => ld_congr fun t ht => h t (List.mem_flatMap.2 ⟨x, hx, ht⟩)
theorem opt_congr {x : Option Opd} (h : ∀ t ∈ (x.map Opd.rd).getD [], fr t = fr' t) : x.map (ld fr) = x.map (ld fr') := by
  cases x with
  | none => rfl
  | some x => simp only [Option.map_some]; rw [ld_congr h]
theorem stepK_congr (h : ∀ t ∈ i.rds, fr t = fr' t) : stepK E fr S i K ↔ stepK E fr' S i K := by
  cases i <;> simp only [SI.rds, List.mem_append] at h
  case alloc => exact Iff.rfl
  case build z ps =>
    have e : (ps.map fun (o, n, x) => (o, n, ld fr x)) = ps.map fun (o, n, x) => (o, n, ld fr' x) :=
      List.map_congr_left fun p hp => by have := ld_congr (x := p.2.2) fun t ht => h t (List.mem_flatMap.2 ⟨p, hp, ht⟩); simp only [this]
    simp only [stepK, e]
  case bslice es n z ps =>
    have e : (ps.map fun (o, x) => (o, ld fr x)) = ps.map fun (o, x) => (o, ld fr' x) :=
      List.map_congr_left fun p hp => by have := ld_congr (x := p.2) fun t ht => h t (List.mem_flatMap.2 ⟨p, hp, ht⟩); simp only [this]
    simp only [stepK, e]
  case mkfn f xs => simp only [stepK, lds_congr h]
  case call f xs => simp only [stepK, lds_congr h]
  case callV x xs => simp only [stepK, ld_congr fun t ht => h t (.inl ht), lds_congr fun t ht => h t (.inr ht)]
  case pick c a b => simp only [stepK, ld_congr fun t ht => h t (.inl (.inl ht)), ld_congr fun t ht => h t (.inl (.inr ht)), ld_congr fun t ht => h t (.inr ht)]
  case slS x lo hi => simp only [stepK, ld_congr fun t ht => h t (.inl (.inl ht)), opt_congr fun t ht => h t (.inl (.inr ht)), opt_congr fun t ht => h t (.inr ht)]
  case slL x lo hi => simp only [stepK, ld_congr fun t ht => h t (.inl (.inl ht)), opt_congr fun t ht => h t (.inl (.inr ht)), opt_congr fun t ht => h t (.inr ht)]
  case slArr x lo hi => simp only [stepK, ld_congr fun t ht => h t (.inl (.inl ht)), opt_congr fun t ht => h t (.inl (.inr ht)), opt_congr fun t ht => h t (.inr ht)]
  all_goals first
    | (simp only [stepK, ld_congr h]; done)
    | (simp only [stepK, ld_congr fun t ht => h t (.inl ht), ld_congr fun t ht => h t (.inr ht)]; done)
theorem noPtr_congr (h : ∀ t ∈ i.rds, fr t = fr' t) : noPtr fr i ↔ noPtr fr' i := by
  cases i <;> first
    | exact Iff.rfl
    | (rename_i f xs; simp only [SI.rds] at h; simp only [noPtr, lds_congr h]; done)
    | (rename_i x xs; simp only [SI.rds, List.mem_append] at h; simp only [noPtr, ld_congr fun t ht => h t (.inl ht), lds_congr fun t ht => h t (.inr ht)])

/-! ### classes -/
/-- 0: only computes; 1: reads the store; 2: adds to the store; 3: writes. -/
def SI.cls (np : Bool) : SI → Nat
  | .mov _ | .pick .. | .bin .. | .eqA .. | .eqB .. | .not _ | .cpl _ | .idxP .. | .neg _ | .lenS _ | .conv .. | .idxS .. | .idxG .. | .build .. | .slS .. | .mn .. | .ext .. | .mkfn .. => 0
  | .len _ | .ofBytes _ | .idxA .. | .load1 _ | .loadA .. | .fldA .. | .slL .. => 1
  | .alloc _ | .box .. | .bytes _ | .bslice .. | .mks .. => 2
  | .call .. | .callV .. => if np then 2 else 3
  | _ => 3

theorem wit_pure {np : Bool} (hc : i.cls np = 0) (h : stepK E fr S i K) : ∃ v, K v S ∧ ∀ S2 (K' : AV → St → Prop), K' v S2 → stepK E fr S2 i K' := by
  cases i <;> simp [SI.cls] at hc
  case mov x => exact ⟨_, h, fun S2 K' h' => h'⟩
  case pick c a b =>
    simp only [stepK] at h ⊢
    split at h
    · rename_i t ht
      cases t
      · exact ⟨_, h.2 rfl, fun S2 K' h' => ⟨fun e => (by cases e), fun _ => h'⟩⟩
      · exact ⟨_, h.1 rfl, fun S2 K' h' => ⟨fun _ => h', fun e => (by cases e)⟩⟩
    · exact h.elim
  case bin op x y =>
    simp only [stepK] at h ⊢
    split at h
    · split at h
      · exact ⟨_, h, fun S2 K' h' => h'⟩
      · exact h.elim
    · exact h.elim
  case eqA ng ks x y =>
    simp only [stepK] at h ⊢
    split at h
    · split at h
      · exact ⟨_, h, fun S2 K' h' => h'⟩
      · exact h.elim
    · exact h.elim
  case eqB ng x y =>
    simp only [stepK] at h ⊢
    split at h
    · exact ⟨_, h, fun S2 K' h' => h'⟩
    · exact h.elim
  case not x =>
    simp only [stepK] at h ⊢
    split at h
    · exact ⟨_, h, fun S2 K' h' => h'⟩
    · exact h.elim
  case neg x =>
    simp only [stepK] at h ⊢
    split at h
    · exact ⟨_, h, fun S2 K' h' => h'⟩
    · exact h.elim
  case cpl x =>
    simp only [stepK] at h ⊢
    split at h
    · exact ⟨_, h, fun S2 K' h' => h'⟩
    · exact h.elim
  case idxP n es x y =>
    simp only [stepK] at h ⊢
    split at h
    · exact ⟨_, h.2, fun S2 K' h' => ⟨h.1, h'⟩⟩
    · exact h.elim
  case lenS x =>
    simp only [stepK] at h ⊢
    split at h
    · exact ⟨_, h, fun S2 K' h' => h'⟩
    · exact h.elim
  case conv k x =>
    simp only [stepK] at h ⊢
    split at h
    · exact ⟨_, h, fun S2 K' h' => h'⟩
    · exact h.elim
  case idxS x y =>
    simp only [stepK] at h ⊢
    split at h
    · exact ⟨_, h.2, fun S2 K' h' => ⟨h.1, h'⟩⟩
    · exact h.elim
  case idxG n x y =>
    simp only [stepK] at h ⊢
    split at h
    · exact ⟨_, h.2.2, fun S2 K' h' => ⟨h.1, h.2.1, h'⟩⟩
    · exact ⟨_, h.2.2, fun S2 K' h' => ⟨h.1, h.2.1, h'⟩⟩
    · exact h.elim
  case build z ps =>
    simp only [stepK] at h ⊢
    split at h
    · rename_i h3; exact ⟨_, h, fun S2 K' h' => h'⟩
    · exact h.elim
  case slS x lo hi =>
    simp only [stepK] at h ⊢
    split at h
    · obtain ⟨a, b, h1, h2⟩ := boundsOK_wit h
      exact ⟨_, h1, fun S2 K' h' => h2 (fun a b => K' _ S2) h'⟩
    · exact h.elim
  case mn x y =>
    simp only [stepK] at h ⊢
    split at h
    · exact ⟨_, h.2, fun S2 K' h' => ⟨h.1, h'⟩⟩
    · exact h.elim
  case ext n x =>
    simp only [stepK] at h ⊢
    split at h
    · exact ⟨_, h.2, fun S2 K' h' => ⟨h.1, h'⟩⟩
    · exact h.elim
  case mkfn f xs =>
    simp only [stepK] at h ⊢
    by_cases e : xs.isEmpty = true
    · simp only [e, if_true] at h ⊢; exact ⟨_, h, fun S2 K' h' => h'⟩
    · simp only [e] at h ⊢; exact ⟨_, h.2, fun S2 K' h' => ⟨h.1, h'⟩⟩
  case call => split at hc <;> cases hc
  case callV => split at hc <;> cases hc

def boxOf (S : St) (j : Nat) : Option (List AV) := match S[j]? with | some (.box l) => some l | _ => none
theorem boxOf_some {j : Nat} {l : List AV} (h : boxOf S j = some l) : S[j]? = some (.box l) := by
  unfold boxOf at h
  split at h
  · rename_i h1; injection h with h; subst h; exact h1
  · cases h
def SI.objs (fr : Fr) : SI → List Nat
  | .len x | .ofBytes x | .idxA _ x _ | .load1 x | .loadA _ x | .slL _ x _ _ => objA (ld fr x)
  | .fldA _ x => match ld fr x with | .ep j _ _ _ => [j] | _ => []
  | _ => []
def Same (S S2 : St) (j : Nat) : Prop := rd S2 j = rd S j ∧ boxOf S2 j = boxOf S j
theorem rd_lt {j : Nat} {p : Nat × Nat × List D} (h : rd S j = some p) : j < S.length := by
  unfold rd at h
  split at h
  · rename_i h1; exact (List.getElem?_eq_some_iff.1 h1).1
  · rename_i h1; exact (List.getElem?_eq_some_iff.1 h1).1
  · cases h

theorem wit_read {np : Bool} (hc : i.cls np = 1) (h : stepK E fr S i K) : (∀ j ∈ i.objs fr, j < S.length) ∧
    ∃ v, K v S ∧ ∀ S2 (K' : AV → St → Prop), (∀ j ∈ i.objs fr, Same S S2 j) → K' v S2 → stepK E fr S2 i K' := by
  cases i <;> simp [SI.cls] at hc
  case call => split at hc <;> cases hc
  case callV => split at hc <;> cases hc
  case len x =>
    simp only [stepK, SI.objs] at h ⊢
    split at h
    · rename_i h0; rw [h0]; exact ⟨by simp [objA], _, h, fun S2 K' _ h' => h'⟩
    · rename_i h0; rw [h0]; exact ⟨by simp [objA], _, h, fun S2 K' _ h' => h'⟩
    · rename_i j g off n h0
      rw [h0]
      split at h
      · rename_i h1
        refine ⟨fun k hk => by simp [objA] at hk; subst hk; exact rd_lt h1, _, h.2, fun S2 K' hs h' => ?_⟩
        simp only [(hs j (by simp [objA])).1, h1]; exact ⟨h.1, h'⟩
      · exact h.elim
    · exact h.elim
  case ofBytes x =>
    simp only [stepK, SI.objs] at h ⊢
    have hw : ∀ S2, (∀ j ∈ objA (ld fr x), Same S S2 j) → window S2 (ld fr x) = window S (ld fr x) := fun S2 hs => by
      cases hx : ld fr x with
      | ref j g off n => rw [hx] at hs; simp only [window, (hs j (by simp [objA])).1]
      | d x => cases x <;> rfl
      | _ => rfl
    split at h
    · rename_i es l h1
      refine ⟨fun k hk => ?_, ?_⟩
      · cases hx : ld fr x <;> rw [hx] at hk h1 <;> simp [objA, window] at hk h1
        subst hk
        cases hr : rd S k with
        | none => simp [hr] at h1
        | some p => exact rd_lt hr
      · obtain ⟨h2, s, h3, h4⟩ := h
        exact ⟨_, h4, fun S2 K' hs h' => by rw [hw S2 hs, h1]; exact ⟨h2, s, h3, h'⟩⟩
    · rename_i h1
      refine ⟨fun k hk => by rw [h.1] at hk; simp [objA] at hk, _, h.2, fun S2 K' hs h' => ?_⟩
      rw [hw S2 hs, h1]; exact ⟨h.1, h'⟩
  case idxA es x y =>
    simp only [stepK, SI.objs] at h ⊢
    split at h
    · rename_i j g off n k0 k h0 h0'
      rw [h0]
      split at h
      · rename_i h1
        refine ⟨fun k hk => by simp [objA] at hk; subst hk; exact rd_lt h1, _, h.2.2, fun S2 K' hs h' => ?_⟩
        simp only [(hs j (by simp [objA])).1, h1]; exact ⟨h.1, h.2.1, h'⟩
      · exact h.elim
    · rename_i h0 h0'; rw [h0]; exact ⟨by simp [objA], _, h.2.2, fun S2 K' _ h' => ⟨h.1, h.2.1, h'⟩⟩
    · exact h.elim
  case load1 x =>
    simp only [stepK, SI.objs] at h ⊢
    split at h
    · rename_i h0; rw [h0]; exact ⟨by simp [objA], _, h, fun S2 K' _ h' => h'⟩
    · rename_i h0; rw [h0]; exact ⟨by simp [objA], _, h, fun S2 K' _ h' => h'⟩
    · rename_i j g k off h0
      rw [h0]
      split at h
      · rename_i h1
        obtain ⟨h2, h⟩ := h
        split at h
        · rename_i v h3
          refine ⟨fun k hk => by simp [objA] at hk; subst hk; exact rd_lt h1, _, h, fun S2 K' hs h' => ?_⟩
          simp only [(hs j (by simp [objA])).1, h1, h3]; exact ⟨h2, h'⟩
        · exact h.elim
      · exact h.elim
    · rename_i j off h0
      rw [h0]
      split at h
      · rename_i l h1
        split at h
        · rename_i v h3
          refine ⟨fun k hk => by simp [objA] at hk; subst hk; exact (List.getElem?_eq_some_iff.1 h1).1, _, h, fun S2 K' hs h' => ?_⟩
          have h4 : S2[j]? = some (.box l) := boxOf_some ((hs j (by simp [objA])).2.trans (by simp [boxOf, h1]))
          simp only [h4, h3]; exact h'
        · exact h.elim
      · exact h.elim
    · exact h.elim
  case loadA n x =>
    simp only [stepK, SI.objs] at h ⊢
    split at h
    · rename_i h0; rw [h0]; exact ⟨by simp [objA], _, h.2, fun S2 K' _ h' => ⟨h.1, h'⟩⟩
    · rename_i j g k off h0
      rw [h0]
      split at h
      · rename_i h1
        refine ⟨fun k hk => by simp [objA] at hk; subst hk; exact rd_lt h1, _, h.2, fun S2 K' hs h' => ?_⟩
        simp only [(hs j (by simp [objA])).1, h1]; exact ⟨h.1, h'⟩
      · exact h.elim
    · rename_i j off h0
      rw [h0]
      split at h
      · rename_i l h1
        refine ⟨fun k hk => by simp [objA] at hk; subst hk; exact (List.getElem?_eq_some_iff.1 h1).1, _, h.2, fun S2 K' hs h' => ?_⟩
        have h4 : S2[j]? = some (.box l) := boxOf_some ((hs j (by simp [objA])).2.trans (by simp [boxOf, h1]))
        simp only [h4]; exact ⟨h.1, h'⟩
      · exact h.elim
    · exact h.elim
  case fldA off x =>
    simp only [stepK, SI.objs] at h ⊢
    split at h
    · rename_i h0; rw [h0]; exact ⟨by simp, _, h, fun S2 K' _ h' => h'⟩
    · rename_i j g k o h0
      rw [h0]
      split at h
      · rename_i h1
        refine ⟨fun k hk => by simp at hk; subst hk; exact rd_lt h1, _, h.2, fun S2 K' hs h' => ?_⟩
        simp only [(hs j (by simp)).1, h1]; exact ⟨h.1, h'⟩
      · exact h.elim
    · rename_i h0; rw [h0]; exact ⟨by simp, _, h, fun S2 K' _ h' => h'⟩
    · exact h.elim
  case slL es x lo hi =>
    simp only [stepK, SI.objs] at h ⊢
    split at h
    · rename_i h0; rw [h0]
      obtain ⟨a, b, h1, h2⟩ := boundsOK_wit h
      exact ⟨by simp [objA], _, h1, fun S2 K' _ h' => h2 (fun _ _ => K' _ S2) h'⟩
    · rename_i h0; rw [h0]
      obtain ⟨a, b, h1, h2⟩ := boundsOK_wit h.2
      exact ⟨by simp [objA], _, h1, fun S2 K' _ h' => ⟨h.1, h2 (fun a b => K' (.d (.sl es _)) S2) h'⟩⟩
    · rename_i j g off n h0
      rw [h0]
      split at h
      · rename_i h1
        obtain ⟨a, b, h3, h2⟩ := boundsOK_wit h.2
        refine ⟨fun k hk => by simp [objA] at hk; subst hk; exact rd_lt h1, _, h3, fun S2 K' hs h' => ?_⟩
        simp only [(hs j (by simp [objA])).1, h1]; exact ⟨h.1, h2 (fun a b => K' (.ref j g (off + a) (b - a)) S2) h'⟩
      · exact h.elim
    · exact h.elim

/-- The store only grows. -/
def Ext (S S2 : St) : Prop := S.length ≤ S2.length ∧ ∀ j, j < S.length → Same S S2 j
theorem ext_push (o : AO) : Ext S (S ++ [o]) := ⟨by simp, fun j hj => by simp only [Same, rd, boxOf, List.getElem?_append_left hj]; exact ⟨trivial, trivial⟩⟩

theorem callK_wit {f : Nat} {vs : List AV} (hn : ptrIds [] vs = []) (h : callK E f vs S K) : ∃ v S', Ext S S' ∧ K v S' ∧ ∀ K', K' v S' → callK E f vs S K' := by
  unfold callK at h ⊢
  rw [hn] at h ⊢
  split at h
  · rename_i S0 as h1 h2
    obtain ⟨r, S1, h3, h4, h5⟩ := h
    refine ⟨_, _, ?_, h5, fun K' h' => ⟨r, S1, h3, h4, h'⟩⟩
    simp only [putAll]
    have hb : Ext S (if (r.flat && S1.all AO.flat) = true then S else freezeL vs S) := by
      split
      · exact ⟨Nat.le_refl _, fun j _ => ⟨rfl, rfl⟩⟩
      · refine ⟨by rw [freezeL_len]; exact Nat.le_refl _, fun j _ => ⟨freezeL_rd vs S j, ?_⟩⟩
        cases hx : boxOf S j with
        | some l => simp only [boxOf, freezeL_box.2 (boxOf_some hx)]
        | none =>
          cases hy : boxOf (freezeL vs S) j with
          | none => rfl
          | some l => have := freezeL_box.1 (boxOf_some hy); simp [boxOf, this] at hx
    refine ⟨by rw [List.length_append]; exact Nat.le_trans hb.1 (Nat.le_add_right _ _), fun j hj => ?_⟩
    have := hb.2 j hj
    have hlt : j < (if (r.flat && S1.all AO.flat) = true then S else freezeL vs S).length := Nat.lt_of_lt_of_le hj hb.1
    simp only [Same, rd, boxOf, List.getElem?_append_left hlt] at this ⊢
    exact this
  · exact h.elim

theorem wit_ext {np : Bool} (hc : i.cls np = 2) (hn : np = true → noPtr fr i) (h : stepK E fr S i K) : ∃ v S', Ext S S' ∧ K v S' ∧ ∀ K', K' v S' → stepK E fr S i K' := by
  cases i <;> simp [SI.cls] at hc
  case alloc z => exact ⟨_, _, ext_push _, h, fun K' h' => h'⟩
  case box n x => exact ⟨_, _, ext_push _, h.2, fun K' h' => ⟨h.1, h'⟩⟩
  case bytes x =>
    simp only [stepK] at h ⊢
    split at h
    · rename_i h0; exact ⟨_, _, ext_push _, h, fun K' h' => h'⟩
    · exact h.elim
  case bslice es n z ps =>
    simp only [stepK] at h ⊢
    split at h
    · rename_i h0; exact ⟨_, _, ext_push _, h, fun K' h' => h'⟩
    · exact h.elim
  case mks es by_ z n c =>
    simp only [stepK] at h ⊢
    split at h
    · rename_i h0; exact ⟨_, _, ext_push _, h.2, fun K' h' => ⟨h.1, h'⟩⟩
    · exact h.elim
  case call f xs =>
    have hnp : np = true := by cases np <;> simp_all
    have := hn hnp
    exact callK_wit this h
  case callV x xs =>
    have hnp : np = true := by cases np <;> simp_all
    have := hn hnp
    simp only [stepK, noPtr] at h this ⊢
    split at h
    · rename_i h0
      rw [h0] at this
      exact callK_wit this h
    · rename_i h0
      rw [h0] at this
      exact callK_wit this h
    · exact h.elim

end
end Go.Abs
/- Orders: changing places. -/
namespace Go.Abs

section
variable {E : Env} {fr fr' : Fr} {S S' S2 : St} {i : SI} {K K' : AV → St → Prop}

theorem putAll_ge (ids : List Nat) (os S : St) (T : St) : S.length ≤ (putAll ids os S ++ T).length := by rw [List.length_append, putAll_len]; exact Nat.le_add_right _ _
theorem callK_any {f : Nat} {vs : List AV} (h : callK E f vs S K) : ∃ v S', S.length ≤ S'.length ∧ K v S' ∧ ∀ K', K' v S' → callK E f vs S K' := by
  unfold callK at h ⊢
  split at h
  · rename_i S0 as h1 h2
    obtain ⟨r, S1, h3, h4, h5⟩ := h
    refine ⟨_, _, ?_, h5, fun K' h' => ⟨r, S1, h3, h4, h'⟩⟩
    split
    · exact putAll_ge _ _ _ _
    · have := putAll_ge (ptrIds [] vs) (S1.map (shO (ptrIds [] vs) S.length)) (freezeL vs S) ((S1.drop (ptrIds [] vs).length).map (shO (ptrIds [] vs) S.length))
      rw [freezeL_len] at this; exact this
  · exact h.elim
theorem wit_any {np : Bool} (h : stepK E fr S i K) : ∃ v S', S.length ≤ S'.length ∧ K v S' ∧ ∀ K', K' v S' → stepK E fr S i K' := by
  by_cases h0 : i.cls false = 0
  · obtain ⟨v, h1, h2⟩ := wit_pure h0 h; exact ⟨v, S, Nat.le_refl _, h1, fun K' h' => h2 S K' h'⟩
  by_cases h1 : i.cls false = 1
  · obtain ⟨_, v, h1, h2⟩ := wit_read h1 h; exact ⟨v, S, Nat.le_refl _, h1, fun K' h' => h2 S K' (fun _ _ => ⟨rfl, rfl⟩) h'⟩
  by_cases h2 : i.cls false = 2
  · obtain ⟨v, S', h1, h2, h3⟩ := wit_ext (np := false) h2 (fun e => by cases e) h; exact ⟨v, S', h1.1, h2, h3⟩
  cases i <;> simp [SI.cls] at h0 h1 h2
  case call f xs => exact callK_any h
  case callV x xs =>
    simp only [stepK] at h ⊢
    split at h
    · exact callK_any h
    · exact callK_any h
    · exact h.elim
  case store1 ad x =>
    simp only [stepK] at h ⊢
    split at h
    · split at h
      · exact ⟨_, _, by rw [List.length_set]; exact Nat.le_refl _, h.2.2.2, fun K' h' => ⟨h.1, h.2.1, h.2.2.1, h'⟩⟩
      · exact h.elim
    · split at h
      · exact ⟨_, _, by rw [List.length_set]; exact Nat.le_refl _, h.2, fun K' h' => ⟨h.1, h'⟩⟩
      · exact h.elim
    · exact h.elim
  case storeA n ad x =>
    simp only [stepK] at h ⊢
    split at h
    · split at h
      · exact ⟨_, _, by rw [List.length_set]; exact Nat.le_refl _, h.2, fun K' h' => ⟨h.1, h'⟩⟩
      · exact h.elim
    · split at h
      · exact ⟨_, _, by rw [List.length_set]; exact Nat.le_refl _, h.2, fun K' h' => ⟨h.1, h'⟩⟩
      · exact h.elim
    · exact h.elim
  case slArr n x lo hi =>
    simp only [stepK] at h ⊢
    split at h
    · split at h
      · split at h
        · obtain ⟨a, b, h1, h2⟩ := boundsOK_wit h.2
          exact ⟨_, _, by rw [List.length_set]; exact Nat.le_refl _, h1, fun K' h' => ⟨h.1, h2 (fun a b => K' (.d (.sl 1 _)) _) h'⟩⟩
        · exact h.elim
      · exact h.elim
    · exact h.elim
  case app es by_ x y =>
    simp only [stepK] at h ⊢
    split at h
    · rename_i es' new hw
      obtain ⟨h0, h⟩ := h
      split at h
      · exact ⟨_, _, by rw [List.length_append]; exact Nat.le_add_right _ _, h.2, fun K' h' => ⟨h0, h.1, h'⟩⟩
      · split at h
        · rename_i h3
          by_cases hn : new = []
          · exact ⟨_, _, Nat.le_refl _, h.2.1 hn, fun K' h' => ⟨h0, h.1, fun _ => h', fun hne => absurd hn hne⟩⟩
          · exact ⟨_, _, by rw [List.length_set]; exact Nat.le_refl _, (h.2.2 hn).2, fun K' h' => ⟨h0, h.1, fun e => absurd e hn, fun _ => ⟨(h.2.2 hn).1, h'⟩⟩⟩
        · exact h.elim
      · exact h.elim
    · exact h.elim

/-! ### one operation, as to its value -/
def valD (E : Env) (np : Bool) (so : SOp) (KV : AV → St → Prop) (fr : Fr) (S : St) : Prop :=
  match so.g with
  | none => (np = true → noPtr fr so.i) ∧ stepK E fr S so.i KV
  | some (t, want) => match fr t with
    | .d (.bool b) => (b = want → (np = true → noPtr fr so.i) ∧ stepK E fr S so.i KV) ∧ (b = !want → KV .skip S)
    | .skip => KV .skip S
    | _ => False
def SOp.rd (so : SOp) : List Nat := so.i.rds ++ (match so.g with | some (t, _) => [t] | none => [])

variable {np : Bool} {so sj si : SOp}
theorem stepD_val {K : Fr → St → Prop} : stepD E np so K fr S ↔ valD E np so (fun v S' => K (updO fr so.d v) S') fr S := Iff.rfl
theorem valD_congr (h : ∀ t ∈ so.rd, fr t = fr' t) : valD E np so K fr S ↔ valD E np so K fr' S := by
  have h1 : ∀ t ∈ so.i.rds, fr t = fr' t := fun t ht => h t (by simp [SOp.rd, ht])
  unfold valD
  cases hg : so.g with
  | none => simp only [noPtr_congr h1, stepK_congr h1]
  | some p =>
    obtain ⟨t, wn⟩ := p
    have h2 : fr t = fr' t := h t (by simp [SOp.rd, hg])
    simp only [h2, noPtr_congr h1, stepK_congr h1]

/-- What the operation does: whether it is held back by its guard. -/
theorem valD_cases (h : valD E np so K fr S) : (K .skip S ∧ ∀ S2 K', K' .skip S2 → valD E np so K' fr S2) ∨
    ((np = true → noPtr fr so.i) ∧ stepK E fr S so.i K ∧ ∀ S2 K', stepK E fr S2 so.i K' → valD E np so K' fr S2) := by
  unfold valD at h ⊢
  cases hg : so.g with
  | none => rw [hg] at h; exact .inr ⟨h.1, h.2, fun S2 K' h' => ⟨h.1, h'⟩⟩
  | some p =>
    obtain ⟨t, wn⟩ := p
    rw [hg] at h
    simp only at h ⊢
    split at h
    · rename_i b hb
      by_cases e : b = wn
      · have := h.1 e
        exact .inr ⟨this.1, this.2, fun S2 K' h' => ⟨fun _ => ⟨this.1, h'⟩, fun e' => by subst e; cases b <;> cases e'⟩⟩
      · have e' : b = !wn := by cases b <;> cases wn <;> simp_all
        exact .inl ⟨h.2 e', fun S2 K' h' => ⟨fun e2 => absurd e2 e, fun _ => h'⟩⟩
    · exact .inl ⟨h, fun S2 K' h' => h'⟩
    · exact h.elim

def SI.rslot : SI → Option Nat
  | .len (.t x) | .ofBytes (.t x) | .idxA _ (.t x) _ | .load1 (.t x) | .loadA _ (.t x) | .slL _ (.t x) _ _ | .fldA _ (.t x) => some x
  | _ => none
def SI.wslot : SI → Option Nat
  | .store1 (.t y) _ | .storeA _ (.t y) _ => some y
  | _ => none
/-- A reading and a store that go to different objects. -/
def djC (dj : List (Nat × Nat)) (r s : SI) : Bool :=
  match r.rslot, s.wslot with
  | some x, some y => dj.any fun p => p.1 == x && p.2 == y
  | _, _ => false
def commC (np : Bool) (dj : List (Nat × Nat)) (j i : SI) : Bool :=
  (djC dj j i && j.cls np == 1) || (djC dj i j && i.cls np == 1) ||
  j.cls np == 0 || i.cls np == 0 || (decide (j.cls np ≤ 1) && decide (i.cls np ≤ 1)) || (j.cls np == 1 && i.cls np == 2) || (j.cls np == 2 && i.cls np == 1)

theorem ext_same (h : Ext S S2) {l : List Nat} (hl : ∀ j ∈ l, j < S.length) : ∀ j ∈ l, Same S S2 j := fun j hj => h.2 j (hl j hj)
theorem same_symm {j : Nat} (h : Same S S2 j) : Same S2 S j := ⟨h.1.symm, h.2.symm⟩

theorem disj_mem {dj : List (Nat × Nat)} (hD : disj fr dj) {x y : Nat} (h : dj.any (fun p => p.1 == x && p.2 == y) = true) : ∀ j ∈ objA (fr x), j ∉ objA (fr y) := by
  induction dj with
  | nil => simp at h
  | cons p dj ih =>
    obtain ⟨p1, p2⟩ := p
    simp only [List.any_cons, Bool.or_eq_true, Bool.and_eq_true, beq_iff_eq] at h
    rcases h with ⟨h1, h2⟩ | h
    · subst h1; subst h2; exact hD.1
    · exact ih hD.2 h
theorem objs_rslot {x : Nat} (h : i.rslot = some x) : ∀ j ∈ i.objs fr, j ∈ objA (fr x) := by
  intro j hj
  unfold SI.rslot at h
  split at h
  all_goals try (cases h; done)
  all_goals (injection h with h; subst h)
  all_goals try exact hj
  simp only [SI.objs, ld] at hj
  split at hj
  · rename_i e; rw [e]; exact hj
  · cases hj
theorem wit_store {y : Nat} (hy : i.wslot = some y) (h : stepK E fr S i K) : ∃ v S', S.length ≤ S'.length ∧ (∀ j, j ∉ objA (fr y) → Same S S' j) ∧ K v S' ∧ ∀ K', K' v S' → stepK E fr S i K' := by
  have hset : ∀ (k : Nat) (o : AO), k ∈ objA (fr y) → ∀ j, j ∉ objA (fr y) → Same S (S.set k o) j := fun k o hk j hj => by
    have : k ≠ j := fun e => hj (e ▸ hk)
    simp only [Same, Abs.rd, boxOf, List.getElem?_set_ne this]
    exact ⟨trivial, trivial⟩
  unfold SI.wslot at hy
  split at hy
  · rename_i z x
    injection hy with hy; subst hy
    simp only [stepK, ld] at h ⊢
    split at h
    · rename_i k off he
      split at h
      · exact ⟨_, _, by rw [List.length_set]; exact Nat.le_refl _, hset _ _ (by rw [he]; simp [objA]), h.2.2.2, fun K' h' => ⟨h.1, h.2.1, h.2.2.1, h'⟩⟩
      · exact h.elim
    · rename_i k g q off he
      split at h
      · exact ⟨_, _, by rw [List.length_set]; exact Nat.le_refl _, hset _ _ (by rw [he]; simp [objA]), h.2, fun K' h' => ⟨h.1, h'⟩⟩
      · exact h.elim
    · exact h.elim
  · rename_i n z x
    injection hy with hy; subst hy
    simp only [stepK, ld] at h ⊢
    split at h
    · rename_i k off he
      split at h
      · exact ⟨_, _, by rw [List.length_set]; exact Nat.le_refl _, hset _ _ (by rw [he]; simp [objA]), h.2, fun K' h' => ⟨h.1, h'⟩⟩
      · exact h.elim
    · rename_i k g q off he
      split at h
      · exact ⟨_, _, by rw [List.length_set]; exact Nat.le_refl _, hset _ _ (by rw [he]; simp [objA]), h.2, fun K' h' => ⟨h.1, h'⟩⟩
      · exact h.elim
    · exact h.elim
  · cases hy
theorem djC_spec {dj : List (Nat × Nat)} {r s : SI} (hD : disj fr dj) (h : djC dj r s = true) : ∃ y, s.wslot = some y ∧ ∀ j ∈ r.objs fr, j ∉ objA (fr y) := by
  unfold djC at h
  split at h
  · rename_i x y hx hy
    exact ⟨y, hy, fun j hj => disj_mem hD h j (objs_rslot hx j hj)⟩
  · cases h

theorem val_swap {dj : List (Nat × Nat)} {Kuv : AV → AV → St → Prop} (hD : disj fr dj) (hc : commC np dj sj.i si.i = true) (hwf : ∀ j ∈ si.i.objs fr, j < S.length)
    (h : valD E np sj (fun u S1 => valD E np si (fun v S2 => Kuv u v S2) fr S1) fr S) : valD E np si (fun v S1 => valD E np sj (fun u S2 => Kuv u v S2) fr S1) fr S := by
  rcases valD_cases h with ⟨h1, h2⟩ | ⟨hn, h1, h2⟩
  · -- j is held back
    rcases valD_cases h1 with ⟨h3, h4⟩ | ⟨hn', h3, h4⟩
    · exact h4 _ _ (h2 _ _ h3)
    · obtain ⟨v, S', h5, h6, h7⟩ := wit_any (np := np) h3
      exact h4 _ _ (h7 _ (h2 _ _ h6))
  · simp only [commC, Bool.or_eq_true, Bool.and_eq_true, beq_iff_eq, decide_eq_true_eq] at hc
    by_cases hd1 : djC dj sj.i si.i = true ∧ sj.i.cls np = 1
    · obtain ⟨y, hy, hdis⟩ := djC_spec hD hd1.1
      obtain ⟨_, u, h3, h4⟩ := wit_read hd1.2 h1
      rcases valD_cases h3 with ⟨h5, h6⟩ | ⟨hn', h5, h6⟩
      · exact h6 _ _ (h2 _ _ (h4 _ _ (fun _ _ => ⟨rfl, rfl⟩) h5))
      · obtain ⟨v, S', _, h7, h8, h9⟩ := wit_store hy h5
        exact h6 _ _ (h9 _ (h2 _ _ (h4 _ _ (fun j hj => h7 j (hdis j hj)) h8)))
    by_cases hd2 : djC dj si.i sj.i = true ∧ si.i.cls np = 1
    · obtain ⟨y, hy, hdis⟩ := djC_spec hD hd2.1
      obtain ⟨u, S1, _, h3, h4, h5⟩ := wit_store hy h1
      rcases valD_cases h4 with ⟨h6, h7⟩ | ⟨hn', h6, h7⟩
      · exact h7 _ _ (h2 _ _ (h5 _ h6))
      · obtain ⟨_, v, h8, h9⟩ := wit_read hd2.2 h6
        exact h7 _ _ (h9 _ _ (fun j hj => same_symm (h3 j (hdis j hj))) (h2 _ _ (h5 _ h8)))
    simp only [hd1, hd2, false_or] at hc
    by_cases hj0 : sj.i.cls np = 0
    · obtain ⟨u, h3, h4⟩ := wit_pure hj0 h1
      rcases valD_cases h3 with ⟨h5, h6⟩ | ⟨hn', h5, h6⟩
      · exact h6 _ _ (h2 _ _ (h4 _ _ h5))
      · obtain ⟨v, S', h7, h8, h9⟩ := wit_any (np := np) h5
        exact h6 _ _ (h9 _ (h2 _ _ (h4 _ _ h8)))
    by_cases hi0 : si.i.cls np = 0
    · obtain ⟨u, S1, h3, h4, h5⟩ := wit_any (np := np) h1
      rcases valD_cases h4 with ⟨h6, h7⟩ | ⟨hn', h6, h7⟩
      · exact h7 _ _ (h2 _ _ (h5 _ h6))
      · obtain ⟨v, h8, h9⟩ := wit_pure hi0 h6
        exact h7 _ _ (h9 _ _ (h2 _ _ (h5 _ h8)))
    by_cases hj1 : sj.i.cls np = 1
    · obtain ⟨hobj, u, h3, h4⟩ := wit_read hj1 h1
      rcases valD_cases h3 with ⟨h5, h6⟩ | ⟨hn', h5, h6⟩
      · exact h6 _ _ (h2 _ _ (h4 _ _ (fun _ _ => ⟨rfl, rfl⟩) h5))
      · by_cases hi1 : si.i.cls np = 1
        · obtain ⟨_, v, h7, h8⟩ := wit_read hi1 h5
          exact h6 _ _ (h8 _ _ (fun _ _ => ⟨rfl, rfl⟩) (h2 _ _ (h4 _ _ (fun _ _ => ⟨rfl, rfl⟩) h7)))
        · have hi2 : si.i.cls np = 2 := by omega
          obtain ⟨v, S', h7, h8, h9⟩ := wit_ext hi2 hn' h5
          exact h6 _ _ (h9 _ (h2 _ _ (h4 _ _ (ext_same h7 hobj) h8)))
    · have hj2 : sj.i.cls np = 2 := by omega
      have hi1 : si.i.cls np = 1 := by omega
      obtain ⟨u, S1, h3, h4, h5⟩ := wit_ext hj2 hn h1
      rcases valD_cases h4 with ⟨h6, h7⟩ | ⟨hn', h6, h7⟩
      · exact h7 _ _ (h2 _ _ (h5 _ h6))
      · obtain ⟨_, v, h8, h9⟩ := wit_read hi1 h6
        exact h7 _ _ (h9 _ _ (fun j hj => same_symm (h3.2 j (hwf j hj))) (h2 _ _ (h5 _ h8)))

/-! ### frames -/
def SOp.apart (sj si : SOp) : Bool :=
  (match sj.d with | some d => !si.rd.contains d && (match si.d with | some e => d != e | none => true) | none => true) &&
  (match si.d with | some e => !sj.rd.contains e | none => true)
theorem updO_rd {d : Option Nat} {v : AV} {l : List Nat} (h : ∀ t, d = some t → t ∉ l) : ∀ t ∈ l, updO fr d v t = fr t := fun t ht => by
  cases d with
  | none => rfl
  | some u =>
    have := h u rfl
    simp only [updO, upd]
    rw [if_neg]
    intro e; subst e; exact this ht
theorem updO_comm {d e : Option Nat} {u v : AV} (h : ∀ t s, d = some t → e = some s → t ≠ s) : updO (updO fr d u) e v = updO (updO fr e v) d u := by
  cases d with
  | none => rfl
  | some t => cases e with
    | none => rfl
    | some s =>
      have := h t s rfl rfl
      funext x
      simp only [updO, upd]
      by_cases h1 : x = s
      · subst h1; simp; intro e; exact absurd e.symm this
      · by_cases h2 : x = t
        · simp [h2, this]
        · simp [h1, h2]
theorem apart_spec (h : SOp.apart sj si = true) : (∀ t, sj.d = some t → t ∉ si.rd) ∧ (∀ t, si.d = some t → t ∉ sj.rd) ∧ ∀ t s, sj.d = some t → si.d = some s → t ≠ s := by
  unfold SOp.apart at h
  simp only [Bool.and_eq_true] at h
  obtain ⟨h1, h2⟩ := h
  refine ⟨fun t ht => ?_, fun t ht => ?_, fun t s ht hs => ?_⟩
  · rw [ht] at h1; simp only [Bool.and_eq_true] at h1; simpa using h1.1
  · rw [ht] at h2; simpa using h2
  · rw [ht] at h1; rw [hs] at h1; simp only [Bool.and_eq_true] at h1; simpa using h1.2
theorem objs_congr (h : ∀ t ∈ i.rds, fr t = fr' t) : i.objs fr = i.objs fr' := by
  cases i <;> simp only [SI.rds, List.mem_append] at h <;> first
    | rfl
    | (simp only [SI.objs, ld_congr h]; done)
    | (simp only [SI.objs, ld_congr fun t ht => h t (.inl ht)]; done)
    | (simp only [SI.objs, ld_congr fun t ht => h t (.inl (.inl ht))]; done)

theorem step_swap {dj : List (Nat × Nat)} {K : Fr → St → Prop} (hD : disj fr dj) (ha : SOp.apart sj si = true) (hc : commC np dj sj.i si.i = true) (hwf : ∀ j ∈ si.i.objs fr, j < S.length)
    (h : stepD E np sj (stepD E np si K) fr S) : stepD E np si (stepD E np sj K) fr S := by
  obtain ⟨h1, h2, h3⟩ := apart_spec ha
  rw [stepD_val] at h ⊢
  have e1 : ∀ u S1, stepD E np si K (updO fr sj.d u) S1 ↔ valD E np si (fun v S' => K (updO (updO fr sj.d u) si.d v) S') fr S1 := fun u S1 => by
    rw [stepD_val]; exact valD_congr fun t ht => updO_rd h1 t ht
  have e2 : ∀ v S1, stepD E np sj K (updO fr si.d v) S1 ↔ valD E np sj (fun u S' => K (updO (updO fr sj.d u) si.d v) S') fr S1 := fun v S1 => by
    rw [stepD_val]
    simp only [updO_comm (fr := fr) h3]
    exact valD_congr fun t ht => updO_rd h2 t ht
  simp only [e1] at h
  simp only [e2]
  exact val_swap hD hc hwf h

theorem stepD_mono {K K' : Fr → St → Prop} (h : stepD E np so K fr S) (hk : ∀ v S', S.length ≤ S'.length → K (updO fr so.d v) S' → K' (updO fr so.d v) S') : stepD E np so K' fr S := by
  rw [stepD_val] at h ⊢
  rcases valD_cases h with ⟨h1, h2⟩ | ⟨hn, h1, h2⟩
  · exact h2 _ _ (hk _ _ (Nat.le_refl _) h1)
  · obtain ⟨v, S', h3, h4, h5⟩ := wit_any (np := np) h1
    exact h2 _ _ (h5 _ (hk _ _ h3 h4))

/-- The slots of the list are not written. -/
def SOp.keeps (dj : List (Nat × Nat)) (so : SOp) : Bool := match so.d with | some d => dj.all fun p => p.1 != d && p.2 != d | none => true
theorem disj_upd {dj : List (Nat × Nat)} {v : AV} (h : so.keeps dj = true) (hD : disj fr dj) : disj (updO fr so.d v) dj := by
  unfold SOp.keeps at h
  cases hd : so.d with
  | none => exact hD
  | some d =>
    rw [hd] at h
    simp only at h
    induction dj with
    | nil => trivial
    | cons p dj ih =>
      obtain ⟨p1, p2⟩ := p
      simp only [List.all_cons, Bool.and_eq_true, bne_iff_ne, ne_eq] at h
      refine ⟨?_, ih hD.2 h.2⟩
      simp only [updO, upd, h.1.1, h.1.2, if_false]
      exact hD.1

/-- An operation comes forward. -/
theorem bubble {dj : List (Nat × Nat)} {K : Fr → St → Prop} {l2 : List SOp} : ∀ (l1 : List SOp) {fr : Fr} {S : St}, disj fr dj → (∀ sj ∈ l1, (SOp.apart sj si = true ∧ commC np dj sj.i si.i = true) ∧ sj.keeps dj = true) → (∀ j ∈ si.i.objs fr, j < S.length) →
    wpD E np (l1 ++ si :: l2) K fr S → wpD E np (si :: (l1 ++ l2)) K fr S := by
  intro l1
  induction l1 with
  | nil => intro fr S _ _ _ h; exact h
  | cons sj l1 ih =>
    intro fr S hD ha hwf h
    obtain ⟨h1, hkp⟩ := ha sj (by simp)
    have h2 : stepD E np sj (wpD E np (l1 ++ si :: l2) K) fr S := h
    have h3 : stepD E np sj (stepD E np si (wpD E np (l1 ++ l2) K)) fr S := stepD_mono h2 fun v S' hs hk => by
      refine ih (disj_upd hkp hD) (fun x hx => ha x (by simp [hx])) (fun j hj => ?_) hk
      rw [objs_congr (fr' := fr) fun t ht => updO_rd (apart_spec h1.1).1 t (by simp [SOp.rd, ht])] at hj
      exact Nat.lt_of_lt_of_le (hwf j hj) hs
    exact step_swap hD h1.1 h1.2 hwf h3

end
end Go.Abs
/- Code is right. -/
namespace Go.Abs

/-! ### drawn orders -/
def deps (ops : Array Oper) (i : Nat) : List Nat :=
  match ops[i]? with
  | some o => (o.after.toList.filter fun e => Region.binds .any e).map (·.on)
  | none => []
def pathB (ops : Array Oper) : Nat → Nat → Nat → Bool
  | 0, _, _ => false
  | f + 1, j, i => (deps ops i).any fun k => k == j || pathB ops f j k
def sopAt (sl : List SOp) (i : Nat) : SOp := sl.getD i ⟨none, none, .mov (.t 0)⟩
def orderOK (np : Bool) (dj : List (Nat × Nat)) (ops : Array Oper) (sl : List SOp) : Bool :=
  (sl.all fun so => so.keeps dj) && (List.range ops.size).all fun i => (deps ops i).all (fun k => decide (k < i)) && (List.range i).all fun j =>
    (SOp.apart (sopAt sl j) (sopAt sl i) && commC np dj (sopAt sl j).i (sopAt sl i).i) || pathB ops 4 j i

section
variable {P : Program} {B : Base P} {fr : Fr} {S S' : St} {γ γ' : Nat → Gh} {env : Nat → Prop} {a : Act} {w w' : World}
variable {n : Nat} {rd : Option Nat} {ops : Array Oper} {Q : Exit → Act → World → Prop} {E : Env} {K : Fr → St → Prop} {np : Bool} {dj : List (Nat × Nat)}

theorem Stp.heap (hr : HR w γ env S) (h : w'.heap = w.heap) (hio : IOs w w') : Stp w γ env S w' γ S := by
  have hle : (cx w γ env S).Le (cx w' γ env S) := ⟨by simp [cx, h], fun b _ _ => by simp [cx, h], fun _ _ h => h, Nat.le_refl _, fun _ _ => GX.refl _⟩
  exact ⟨hle, ⟨fun i o hi => (hr.objs i o hi).mono hle rfl fun _ => by simp [cx, h], hr.inj, fun b hb => by rw [h]; exact hr.elt b hb, hr.apart⟩, fun b _ _ => by rw [h], fun b hb => .inl hb, hio⟩
theorem Rel.heap (h : Rel B fr S a w) (hh : w'.heap = w.heap) (hio : IOs w w') : Rel B fr S a w' := by
  obtain ⟨γ, env, h⟩ := h
  exact ⟨γ, env, h.step (d := none) (v := .undef) (cv := undef) (fun t e => by cases e) (Stp.heap h.hr hh hio) trivial⟩

theorem objA_wf {x : Opd} (hF : FrOK w γ env S fr a) : ∀ j ∈ objA (ld fr x), j < S.length := by
  intro j hj
  cases x with
  | t m =>
    have h := hF m
    simp only [ld] at hj
    cases hv : fr m <;> rw [hv] at hj h <;> simp [objA] at hj
    all_goals (subst hj; exact h.1)
  | c v => simp [ld, objA] at hj
  | f m => simp [ld, objA] at hj
theorem objs_wf (hF : FrOK w γ env S fr a) (i : SI) : ∀ j ∈ i.objs fr, j < S.length := by
  intro j hj
  cases i <;> simp only [SI.objs, List.not_mem_nil] at hj <;> first
    | exact objA_wf hF j hj
    | (rename_i off x
       refine objA_wf (x := x) hF j ?_
       split at hj
       · rename_i h; rw [h]; exact hj
       · cases hj)

theorem stepOp_of_D {so : SOp} (h : stepD E np so K fr S) : stepOp E so K fr S := by
  have key : stepK E fr S so.i (fun v S' => K (updO fr so.d v) S') → stepE E fr S so.i (fun v fr' S' => K (updO fr' so.d v) S') := by
    intro h
    unfold stepE
    split
    · rename_i x args e
      split
      · rename_i l hl
        rw [e] at h
        simp [stepK, hl] at h
      · rw [e] at h; exact h
    · exact h
  unfold stepD at h
  unfold stepOp
  cases hg : so.g with
  | none => rw [hg] at h; exact key h.2
  | some p =>
    obtain ⟨t, wn⟩ := p
    rw [hg] at h
    simp only at h ⊢
    split at h
    · exact ⟨fun e => key (h.1 e).2, h.2⟩
    · exact h
    · exact h.elim

theorem path_listed {rem : List Nat} (hcl : ∀ i, i ∉ rem → ∀ k ∈ deps ops i, k ∉ rem) : ∀ (f j i : Nat), (∀ k ∈ deps ops i, k ∉ rem) → pathB ops f j i = true → j ∉ rem
  | 0, j, i, _, h => by simp [pathB] at h
  | f + 1, j, i, hd, h => by
    simp only [pathB, List.any_eq_true] at h
    obtain ⟨k, hk, h⟩ := h
    simp only [Bool.or_eq_true, beq_iff_eq] at h
    rcases h with rfl | h
    · exact hd _ hk
    · exact path_listed hcl f j k (hcl k (hd k hk)) h

theorem ready_deps {listed : Array Bool} {i : Nat} (h : i ∈ Region.ready .any ops listed) : ∀ k ∈ deps ops i, listed.getD k true = true := by
  intro k hk
  obtain ⟨_, o, ho, hall⟩ := mem_ready.1 h
  simp only [deps, ho, List.mem_map, List.mem_filter] at hk
  obtain ⟨e, ⟨he, hb⟩, rfl⟩ := hk
  have := hall e (by simpa using he) hb
  rcases Nat.lt_or_ge e.on listed.size with h' | h'
  · simp [h'] at this ⊢; exact this
  · simp [Array.getElem?_eq_none h'] at this

theorem draw_any (hE : EOK P E) {sl : List SOp} (hsl : trOps P B.N ops ops.toList = some sl) (hgi : sl.all (·.gIn B.N) = true) (hok : orderOK np dj ops sl = true)
    (hn : ∀ fr' S' a' w', K fr' S' → Rel B fr' S' a' w' → Q .normal a' w') : ∀ (fuel : Nat) (rem : List Nat) (listed : Array Bool) (fr : Fr) (S : St) (a : Act) (w : World), rem.length = fuel → listed.size = ops.size →
      rem.Pairwise (· < ·) → (∀ i, i ∈ rem ↔ listed.getD i true = false) → (∀ i, i ∉ rem → ∀ k ∈ deps ops i, k ∉ rem) → Rel B fr S a w → disj fr dj → wpD E np (rem.map (sopAt sl)) K fr S →
      wpAnyIn (FW rd) n P .any ops Q fuel listed a w := by
  have hlen : ops.size = sl.length := by have := trOps_len hsl; simpa using this
  intro fuel
  induction fuel with
  | zero =>
    intro rem listed fr S a w hf hs hp hm hcl hR hD h
    have : rem = [] := List.eq_nil_of_length_eq_zero hf
    subst this
    refine ⟨?_, hn _ _ _ _ h hR⟩
    refine List.eq_nil_iff_forall_not_mem.2 fun i hi => ?_
    have := (hm i).2 (mem_ready.1 hi).1
    simp at this
  | succ fuel ih =>
    intro rem listed fr S a w hf hs hp hm hcl hR hD h
    have hlt : ∀ i, i ∈ rem → i < ops.size := fun i hi => by
      have := (hm i).1 hi
      rcases Nat.lt_or_ge i listed.size with h' | h'
      · omega
      · simp [Array.getElem?_eq_none h'] at this
    have hchk : ∀ i, i < ops.size → (∀ k ∈ deps ops i, k < i) ∧ ∀ j, j < i → (SOp.apart (sopAt sl j) (sopAt sl i) = true ∧ commC np dj (sopAt sl j).i (sopAt sl i).i = true) ∨ pathB ops 4 j i = true := fun i hi => by
      have hok2 := hok
      simp only [orderOK, Bool.and_eq_true] at hok2
      have := List.all_eq_true.1 hok2.2 i (List.mem_range.2 hi)
      simp only [Bool.and_eq_true, List.all_eq_true, decide_eq_true_eq, Bool.or_eq_true, List.mem_range] at this
      exact this
    refine ⟨fun h0 => ?_, fun i hi => ?_⟩
    · -- the first one left is ready
      exfalso
      cases rem with
      | nil => simp at hf
      | cons i0 rem =>
        have hi0 := hlt i0 (by simp)
        have hr : i0 ∈ Region.ready .any ops listed := by
          refine mem_ready.2 ⟨(hm i0).1 (by simp), ops[i0], by simp [hi0], fun e he hb => ?_⟩
          have hk : e.on ∈ deps ops i0 := by
            simp only [deps, show ops[i0]? = some ops[i0] by simp [hi0], List.mem_map, List.mem_filter]
            exact ⟨e, ⟨by simpa using he, hb⟩, rfl⟩
          have hkl := (hchk i0 hi0).1 _ hk
          have hnr : e.on ∉ i0 :: rem := fun h' => by
            rcases List.mem_cons.1 h' with h' | h'
            · omega
            · have := (List.pairwise_cons.1 hp).1 _ h'; omega
          have h1 : ¬ listed.getD e.on true = false := fun h' => hnr ((hm _).2 h')
          have h2 : e.on < listed.size := by omega
          simp [h2] at h1 ⊢; exact h1
        rw [h0] at hr; cases hr
    · have him : i ∈ rem := (hm i).2 (mem_ready.1 hi).1
      obtain ⟨l1, l2, rfl⟩ := List.append_of_mem him
      have hil := hlt i him
      have hdr : ∀ k ∈ deps ops i, k ∉ l1 ++ i :: l2 := fun k hk h' => by
        have h1 := ready_deps hi k hk
        have h2 := (hm k).1 h'
        rw [h1] at h2; cases h2
      have hR' := hR
      obtain ⟨γ, env, hG⟩ := hR
      rw [List.map_append, List.map_cons] at h
      have hkp : ∀ i, i < ops.size → (sopAt sl i).keeps dj = true := fun i hi => by
        have hok2 := hok
        simp only [orderOK, Bool.and_eq_true] at hok2
        refine List.all_eq_true.1 hok2.1 _ ?_
        have : i < sl.length := by omega
        simp [sopAt, List.getD_eq_getElem?_getD, this]
      have hb := bubble (dj := dj) (l1.map (sopAt sl)) (si := sopAt sl i) (l2 := l2.map (sopAt sl)) hD (fun sj hj => by
        obtain ⟨j, hj1, rfl⟩ := List.mem_map.1 hj
        refine ⟨?_, hkp j (hlt j (List.mem_append_left _ hj1))⟩
        have hji : j < i := by
          have := (List.pairwise_append.1 hp).2.2 j hj1 i (by simp)
          exact this
        rcases (hchk i hil).2 j hji with h1 | h1
        · exact h1
        · exact absurd (List.mem_append_left _ hj1) (path_listed hcl 4 j i hdr h1)) (objs_wf hG.frame _) h
      have hb' : stepD E np (sopAt sl i) (wpD E np ((l1 ++ l2).map (sopAt sl)) K) fr S := by rw [List.map_append]; exact hb
      have hso : sl[i]? = some (sopAt sl i) := by
        have : i < sl.length := by omega
        simp [sopAt, List.getD_eq_getElem?_getD, this]
      obtain ⟨o, ho1, ho2⟩ := trOps_get hsl i _ hso
      have hgi' := List.all_eq_true.1 hgi (sopAt sl i) (List.mem_of_getElem? hso)
      refine sop_ok hE ho2 hgi' (by simpa using ho1) hR' (stepOp_of_D (stepD_mono (K' := fun fr' S' => wpD E np ((l1 ++ l2).map (sopAt sl)) K fr' S' ∧ disj fr' dj) hb' fun v S' _ hk => ⟨hk, disj_upd (hkp i hil) hD⟩)) fun fr' S' a' w' h1 h2 => ?_
      have hnd : i ∉ l1 ++ l2 := fun h' => by
        have h3 := List.pairwise_append.1 hp
        rcases List.mem_append.1 h' with h4 | h4
        · exact absurd (h3.2.2 i h4 i (by simp)) (Nat.lt_irrefl _)
        · exact absurd ((List.pairwise_cons.1 h3.2.1).1 i h4) (Nat.lt_irrefl _)
      have hsub : ∀ k, k ∈ l1 ++ l2 → k ∈ l1 ++ i :: l2 := fun k hk => by
        rcases List.mem_append.1 hk with h4 | h4
        · exact List.mem_append_left _ h4
        · exact List.mem_append_right _ (List.mem_cons_of_mem _ h4)
      refine ih (l1 ++ l2) (listed.setIfInBounds i true) fr' S' a' w' (by simp at hf ⊢; omega) (by simp [hs]) ?_ (fun k => ?_) (fun k hk m hmd hm' => ?_) h2 h1.2 h1.1
      · exact hp.sublist ((List.Sublist.refl l1).append (List.sublist_cons_self i l2))
      · by_cases hki : k = i
        · subst hki
          have h5 : (listed.setIfInBounds k true).getD k true = true := by
            rcases Nat.lt_or_ge k listed.size with h' | h'
            · simp [h']
            · simp [Array.getElem?_eq_none h']
          rw [h5]
          exact ⟨fun h' => absurd h' hnd, fun h' => by cases h'⟩
        · rw [getD_set_ne true (fun e => hki e.symm), ← hm k]
          simp only [List.mem_append, List.mem_cons, hki, false_or]
      · by_cases hki : k = i
        · subst hki; exact hdr m hmd (hsub m hm')
        · refine hcl k (fun h' => hk ?_) m hmd (hsub m hm')
          simp only [List.mem_append, List.mem_cons, hki, false_or] at h' ⊢
          exact h'

theorem draw_ok (hE : EOK P E) (hm : P.follows .mixedOrders = true) {id : Nat} {sl : List SOp} (hsl : trOps P B.N ops ops.toList = some sl) (hgi : sl.all (·.gIn B.N) = true) (hok : orderOK np dj ops sl = true)
    (hR : Rel B fr S a w) (hD : disj fr dj) (h : wpD E np sl K fr S) (hn : ∀ fr' S' a' w', K fr' S' → Rel B fr' S' a' w' → Q .normal a' w') : (Code.region id ops true).wpIn (FW rd) n P Q a w := by
  have hlen : ops.size = sl.length := by have := trOps_len hsl; simpa using this
  have hmap : (List.range ops.size).map (sopAt sl) = sl := by
    apply List.ext_getElem?
    intro i
    rw [hlen]
    by_cases hi : i < sl.length
    · simp [sopAt, hi]
    · simp [hi]
  refine wpIn_region_any hm (draw_any hE hsl hgi hok hn ops.size (List.range ops.size) _ fr S a _ (by simp) (by simp) (List.pairwise_lt_range) (fun i => ?_) (fun i hi k hk => ?_) (hR.heap rfl ⟨rfl, rfl⟩) hD (by rw [hmap]; exact h))
  · rw [List.mem_range]
    constructor
    · intro hi; simp [hi]
    · intro hi
      rcases Nat.lt_or_ge i ops.size with h' | h'
      · exact h'
      · simp [show ¬ i < ops.size by omega] at hi
  · rw [List.mem_range] at hi
    simp only [deps] at hk
    rw [Array.getElem?_eq_none (by omega)] at hk
    cases hk

end
end Go.Abs
/- Code is right: sequences, branches, loops. -/
namespace Go.Abs

/-- Readings and stores that no order is told of. -/
def djOf (ops : Array Oper) (sl : List SOp) : List (Nat × Nat) :=
  (List.range ops.size).flatMap fun i => (List.range i).flatMap fun j =>
    if pathB ops 4 j i then [] else match (sopAt sl j).i.rslot, (sopAt sl i).i.wslot, (sopAt sl i).i.rslot, (sopAt sl j).i.wslot with
      | some x, some y, _, _ => [(x, y)]
      | _, _, some x, some y => [(x, y)]
      | _, _, _, _ => []
def stripR (P : Program) (N : Nat) (ops : Array Oper) (draw : Bool) : Option SC :=
  match trOps P N ops ops.toList with
  | some sl => if sl.all (·.gIn N) then
      if draw then (if P.follows .mixedOrders then (if orderOK false (djOf ops sl) ops sl then some (.draw false (djOf ops sl) sl) else if orderOK true (djOf ops sl) ops sl then some (.draw true (djOf ops sl) sl) else none) else none)
      else some (.ops sl)
    else none
  | none => none
def strip (P : Program) (N : Nat) : Code → Option SC
  | .skip => some .skip
  | .label _ => some .skip
  | .region _ ops draw => stripR P N ops draw
  | .seq a b => match strip P N a, strip P N b with
    | some x, some y => some (.seq x y)
    | _, _ => none
  | .cond c a b => match trO c, strip P N a, strip P N b with
    | some c, some x, some y => some (.ite c x y)
    | _, _, _ => none
  | .block i b => (strip P N b).map (.block i)
  | .loop b => (strip P N b).map .loop
  | .exit i => some (.exit i)
  | .ret => some .ret
  | .rangeFunc f ps as b => match trO f, strip P N as, strip P N b with
    | some x, some a, some b => if ps.all (· < N) then some (.rng x ps.toList a b) else none
    | _, _, _ => none
  | _ => none

/-- What is known where code is left. -/
def QK {P : Program} (B : Base P) (Q : Ex → Fr → St → Prop) : Exit → Act → World → Prop
  | .normal, a, w => ∃ fr S, Rel B fr S a w ∧ Q .normal fr S
  | .ret, a, w => ∃ fr S, Rel B fr S a w ∧ Q .ret fr S
  | .exit i, a, w => ∃ fr S, Rel B fr S a w ∧ Q (.exit i) fr S
  | _, _, _ => False

section
variable {P : Program} {fr : Fr} {S : St} {a : Act} {w : World}
variable {n : Nat} {rd : Option Nat} {E : Env}

theorem QK.mono {B : Base P} {Q Q' : Ex → Fr → St → Prop} (h : ∀ e fr S, Q e fr S → Q' e fr S) {e : Exit} (hq : QK B Q e a w) : QK B Q' e a w := by
  cases e <;> first
    | exact hq.elim
    | (obtain ⟨fr, S, h1, h2⟩ := hq; exact ⟨fr, S, h1, h _ _ _ h2⟩)

/-- A loop: what holds at its head may speak of things that the activation does not show. -/
theorem wpIn_loopX {α : Type} {F : Fence} {c : Code} {Q : Exit → Act → World → Prop} (I : α → Act → World → Prop) (μ : α → Nat) {x : α} (h0 : I x a w)
    (round : ∀ x a w, I x a w → c.wpIn F n P (Exit.then (fun a' w' => ∃ y, I y a' w' ∧ μ y < μ x) Q) a w) : (Code.loop c).wpIn F n P Q a w := by
  have hex : ∀ {a w}, (∃ x, I x a w) → ∃ k x, I x a w ∧ μ x = k := fun ⟨x, h⟩ => ⟨μ x, x, h, rfl⟩
  have hmin : ∀ (p : Nat → Prop), (∃ k, p k) → ∃ k, p k ∧ ∀ m, p m → k ≤ m := by
    intro p ⟨k, hk⟩
    induction k using Nat.strongRecOn with
    | _ k ih =>
      by_cases h : ∃ m, m < k ∧ p m
      · obtain ⟨m, h1, h2⟩ := h; exact ih m h1 h2
      · exact ⟨k, hk, fun m hm => Nat.le_of_not_lt fun hlt => h ⟨m, hlt, hm⟩⟩
  have hmin' : ∀ a w, ∃ k, (∃ x, I x a w) → (∃ x, I x a w ∧ μ x = k) ∧ ∀ x, I x a w → k ≤ μ x := fun a w => by
    by_cases h : ∃ x, I x a w
    · obtain ⟨k, h1, h2⟩ := hmin _ (hex h)
      exact ⟨k, fun _ => ⟨h1, fun x hx => h2 _ ⟨x, hx, rfl⟩⟩⟩
    · exact ⟨0, fun h' => absurd h' h⟩
  refine wpIn_loop (fun a w => ∃ x, I x a w) (fun a w => Classical.choose (hmin' a w)) ⟨x, h0⟩ fun a w hI => ?_
  obtain ⟨⟨x, hx, hk⟩, _⟩ := Classical.choose_spec (hmin' a w) hI
  refine wpIn_mono (round x a w hx) fun e a' w' h => ?_
  cases e <;> first
    | exact h
    | (obtain ⟨y, hy, hlt⟩ := h
       refine ⟨⟨y, hy⟩, ?_⟩
       have := (Classical.choose_spec (hmin' a' w') ⟨y, hy⟩).2 y hy
       rw [← hk] at *
       omega)

/-- Within a round the loop's record is kept. -/
def RdOK {P : Program} (B : Base P) (rd : Option Nat) : Prop := ∀ l, rd = some l → ∃ r, B.keep l (.loop r)
/-- The rule for a range over a function (proved behind this text). -/
def RngOK (P : Program) (E : Env) : Prop :=
  ∀ (B : Base P) (rd : Option Nat) (n : Nat) (f : Operand) (ps : Array Tmp) (as b : Code) (x : Opd) (sa sb : SC) (Q : Ex → Fr → St → Prop) (fr : Fr) (S : St) (a : Act) (w : World),
    trO f = some x → ps.all (· < B.N) = true → RdOK B rd →
    (∀ (B' : Base P) (rd : Option Nat) (Q : Ex → Fr → St → Prop) (fr : Fr) (S : St) (a : Act) (w : World), B'.N = B.N → RdOK B' rd → Rel B' fr S a w → wpS E sa Q fr S → as.wpIn (FW rd) n P (QK B' Q) a w) →
    (∀ (B' : Base P) (rd : Option Nat) (Q : Ex → Fr → St → Prop) (fr : Fr) (S : St) (a : Act) (w : World), B'.N = B.N → RdOK B' rd → Rel B' fr S a w → wpS E sb Q fr S → b.wpIn (FW rd) n P (QK B' Q) a w) →
    Rel B fr S a w → wpS E (.rng x ps.toList sa sb) Q fr S → (Code.rangeFunc f ps as b).wpIn (FW rd) n P (QK B Q) a w

theorem code_ok (hE : EOK P E) (hrng : RngOK P E) : ∀ (c : Code) (sc : SC) (B : Base P) (rd : Option Nat) (Q : Ex → Fr → St → Prop) (fr : Fr) (S : St) (a : Act) (w : World),
    strip P B.N c = some sc → RdOK B rd → Rel B fr S a w → wpS E sc Q fr S → c.wpIn (FW rd) n P (QK B Q) a w := by
  intro c
  induction c with
  | skip => intro sc B rd Q fr S a w hs hrd hR h; injection hs with hs; subst hs; exact wpIn_skip ⟨fr, S, hR, h⟩
  | label l => intro sc B rd Q fr S a w hs hrd hR h; injection hs with hs; subst hs; exact wpIn_label ⟨fr, S, hR, h⟩
  | exit i => intro sc B rd Q fr S a w hs hrd hR h; injection hs with hs; subst hs; exact wpIn_exit ⟨fr, S, hR, h⟩
  | ret => intro sc B rd Q fr S a w hs hrd hR h; injection hs with hs; subst hs; exact wpIn_ret ⟨fr, S, hR, h⟩
  | goto l => intro sc B rd Q fr S a w hs; cases hs
  | refuse l => intro sc B rd Q fr S a w hs; cases hs
  | scope c ih => intro sc B rd Q fr S a w hs; cases hs
  | region id ops draw =>
    intro sc B rd Q fr S a w hs hrd hR h
    simp only [strip, stripR] at hs
    split at hs
    · rename_i sl hsl
      split at hs
      · rename_i hgi
        split at hs
        · rename_i hd
          subst hd
          split at hs
          · rename_i hm
            split at hs
            · rename_i hok; injection hs with hs; subst hs
              exact draw_ok hE hm hsl hgi hok hR h.1 h.2 fun fr' S' a' w' h1 h2 => ⟨fr', S', h2, h1⟩
            · split at hs
              · rename_i hok; injection hs with hs; subst hs
                exact draw_ok hE hm hsl hgi hok hR h.1 h.2 fun fr' S' a' w' h1 h2 => ⟨fr', S', h2, h1⟩
              · cases hs
          · cases hs
        · rename_i hd
          have hd : draw = false := by simpa using hd
          subst hd
          injection hs with hs; subst hs
          refine wpIn_region (list_ok hE _ sl (.of_get (by have := trOps_len hsl; simpa using this) fun i j so hi hso => ?_) hR h fun fr' S' a' w' h1 h2 => ⟨fr', S', h2, h1⟩)
          have hji : j = i := by
            have h1 := List.getElem?_eq_some_iff.1 hi
            obtain ⟨h1, h2⟩ := h1
            simpa using h2.symm
          subst hji
          obtain ⟨o, h1, h2⟩ := trOps_get hsl _ _ hso
          exact ⟨o, by simpa using h1, h2, List.all_eq_true.1 hgi _ (List.mem_of_getElem? hso)⟩
      · cases hs
    · cases hs
  | seq c1 c2 ih1 ih2 =>
    intro sc B rd Q fr S a w hs hrd hR h
    simp only [strip] at hs
    split at hs
    · rename_i x y h1 h2
      injection hs with hs; subst hs
      refine wpIn_seq (wpIn_mono (ih1 x B rd _ fr S a w h1 hrd hR h) fun e a' w' hq => ?_)
      cases e <;> first
        | exact hq
        | exact hq.elim
        | (obtain ⟨fr', S', h3, h4⟩ := hq; exact ih2 y B rd Q fr' S' a' w' h2 hrd h3 h4)
    · cases hs
  | cond c c1 c2 ih1 ih2 =>
    intro sc B rd Q fr S a w hs hrd hR h
    simp only [strip] at hs
    split at hs
    · rename_i cc x y hc h1 h2
      injection hs with hs; subst hs
      simp only [wpS] at h
      split at h
      · rename_i t ht
        obtain ⟨γ, env, hG⟩ := hR
        have e := evB hG.frame hc ht
        exact wpIn_cond_split e (fun e => ih1 x B rd Q fr S a w h1 hrd ⟨γ, env, hG⟩ (h.1 e)) fun e => ih2 y B rd Q fr S a w h2 hrd ⟨γ, env, hG⟩ (h.2 e)
      · exact h.elim
    · cases hs
  | block i c ih =>
    intro sc B rd Q fr S a w hs hrd hR h
    obtain ⟨x, h1, rfl⟩ := Option.map_eq_some_iff.1 hs
    refine wpIn_block (wpIn_mono (ih x B rd _ fr S a w h1 hrd hR h) fun e a' w' hq => ?_)
    cases e with
    | exit j =>
      obtain ⟨fr', S', h3, h4⟩ := hq
      simp only [Exit.inBlock]
      split
      · rename_i e; simp only [if_pos e] at h4; exact ⟨fr', S', h3, h4⟩
      · rename_i e; simp only [if_neg e] at h4; exact ⟨fr', S', h3, h4⟩
    | _ => exact hq
  | loop c ih =>
    intro sc B rd Q fr S a w hs hrd hR h
    obtain ⟨x, h1, rfl⟩ := Option.map_eq_some_iff.1 hs
    obtain ⟨I, m, h2, h3⟩ := h
    refine wpIn_loopX (α := Fr × St) (fun p a w => Rel B p.1 p.2 a w ∧ I p.1 p.2) (fun p => m p.1 p.2) (x := (fr, S)) ⟨hR, h2⟩ fun p a w hp => ?_
    refine wpIn_mono (ih x B rd _ p.1 p.2 a w h1 hrd hp.1 (h3 p.1 p.2 hp.2)) fun e a' w' hq => ?_
    cases e <;> first
      | exact hq
      | exact hq.elim
      | (obtain ⟨fr', S', h4, h5, h6⟩ := hq; exact ⟨(fr', S'), ⟨h4, h5⟩, h6⟩)
  | rangeFunc f ps as b iha ihb =>
    intro sc B rd Q fr S a w hs hrd hR h
    simp only [strip] at hs
    split at hs
    · rename_i x sa sb h1 h2 h3
      split at hs
      · rename_i h4
        injection hs with hs; subst hs
        exact hrng B rd n f ps as b x sa sb Q fr S a w h1 h4 hrd (fun B' rd Q fr S a w hN => iha sa B' rd Q fr S a w (by rw [hN]; exact h2)) (fun B' rd Q fr S a w hN => ihb sb B' rd Q fr S a w (by rw [hN]; exact h3)) hR h
      · cases hs
    · cases hs

end
end Go.Abs
/- The end of an activation: book-keeping blocks; results; what is kept of its store. -/
namespace Go.Abs

/-- Blocks of book-keeping have turned. -/
structure Book (Ds : List Nat) (w w' : World) : Prop where
  size : w'.heap.size = w.heap.size
  same : ∀ b, b ∉ Ds → w'.heap[b]? = w.heap[b]?
  book : ∀ b, b ∈ Ds → (∃ o, w.heap[b]? = some o ∧ o.isCells = false) ∧ ∃ o, w'.heap[b]? = some o ∧ o.isCells = false
  io : IOs w w'

section
variable {w w' : World} {γ : Nat → Gh} {env : Nat → Prop} {S : St} {Ds : List Nat}

theorem cell_none {b off : Nat} {o : Obj} (h : w.heap[b]? = some o) (ho : o.isCells = false) : w.cell? ⟨b, off, none⟩ = none := by
  cases o <;> simp [Obj.isCells] at ho <;> simp [World.cell?, h]
theorem Book.cell (h : Book Ds w w') (b off : Nat) : w'.cell? ⟨b, off, none⟩ = w.cell? ⟨b, off, none⟩ := by
  by_cases hb : b ∈ Ds
  · obtain ⟨⟨o, h1, h2⟩, o', h3, h4⟩ := h.book b hb
    rw [cell_none h1 h2, cell_none h3 h4]
  · exact World.cell?_of_block (h.same b hb)
theorem Book.cells (h : Book Ds w w') {b : Nat} {cs : Array Value} {T : TypeId} {fz : Nat × Nat} (hb : w.heap[b]? = some (.cells cs T fz)) : b ∉ Ds := fun hD => by
  obtain ⟨⟨o, h1, h2⟩, _⟩ := h.book b hD
  rw [hb] at h1; injection h1 with h1; subst h1; cases h2
theorem Book.dr (h : Book Ds w w') {O : Nat → Prop} {j : Job} (hd : DR w O j) : DR w' O j := by
  induction hd with
  | bool b => exact .bool b
  | int k n => exact .int k n
  | str s h => exact .str s h
  | nilsl => exact .nilsl
  | sl es b off cap l vs h1 h2 h3 h3' h4 h5 ih =>
    exact .sl es b off cap l vs h1 (by rw [h.size]; exact h2) h3 h3' ih fun i hi => ⟨(h5 i hi).1, fun j hj => by rw [h.cell]; exact (h5 i hi).2 j hj⟩
  | agg l vs _ ih => exact .agg l vs ih
  | nilp => exact .nilp
  | nilf => exact .nilf
  | nili => exact .nili
  | nilm => exact .nilm
  | fn f => exact .fn f
  | iface t x v _ ih => exact .iface t x v ih
  | cnil => exact .cnil
  | ccons x v l vs _ h2 _ ih1 ih2 => exact .ccons x v l vs ih1 h2 ih2
theorem Book.vr (h : Book Ds w w') {v : AV} {cv : Value} (hv : VR (cx w γ env S) v cv) : VR (cx w' γ env S) v cv := by
  cases v <;> simp only [VR] at hv ⊢ <;> first
    | exact hv
    | exact h.dr hv
    | skip
  · obtain ⟨b, off, vs, h1, h2, h3, h4, h5⟩ := hv
    exact ⟨b, off, vs, h1, h2, by simp only [cx, h.size] at h3 ⊢; exact h3, h.dr h4, fun j hj => (h.cell b (off + j)).trans (h5 j hj)⟩
  · obtain ⟨vs, h1, h2⟩ := hv
    exact ⟨vs, h1, h2.mono fun a v _ h3 => by cases a <;> simp only [C0] at h3 ⊢ <;> first | exact h3 | exact ⟨h.dr h3.1, h3.2⟩⟩
theorem Book.ar (h : Book Ds w w') {v : AV} {cv : Value} (hv : AR (cx w γ env S) v cv) : AR (cx w' γ env S) v cv := by
  cases v <;> simp only [AR] at hv ⊢ <;> first
    | exact h.vr hv
    | (obtain ⟨vs, h1, h2⟩ := hv; exact ⟨vs, h1, h2.mono fun _ _ _ h3 => ⟨h.vr h3.1, h3.2⟩⟩)
theorem Book.tr (h : Book Ds w w') {v : AV} {cv : Value} (hv : TR (cx w γ env S) v cv) : TR (cx w' γ env S) v cv := by
  cases v <;> simp only [TR] at hv ⊢ <;> first
    | exact h.ar hv
    | (obtain ⟨vs, h1, h2⟩ := hv; exact ⟨vs, h1, h2.mono fun _ _ _ h3 => h.ar h3⟩)
theorem Book.blk (h : Book Ds w w') {b : Nat} {cs : Array Value} (hb : Blk w b cs) : Blk w' b cs := by
  obtain ⟨T, fz, h1, h2⟩ := hb
  exact Blk.of ⟨T, fz, h1, h2⟩ (h.same b (h.cells h1))
theorem Book.hr (h : Book Ds w w') (hr : HR w γ env S) : HR w' γ env S := by
  refine ⟨fun i o hi => ?_, hr.inj, fun b hb => by rw [h.size]; exact hr.elt b hb, hr.apart⟩
  have ho := hr.objs i o hi
  have hel : ∀ {cs es l}, Elems (cx w γ env S) cs es l → Elems (cx w' γ env S) cs es l := fun ⟨vs, h1, h2⟩ => ⟨vs, fun i d hd => h.dr (h1 i d hd), h2⟩
  cases o with
  | box l =>
    obtain ⟨h1, cs, h2, h3⟩ := ho
    exact ⟨h1, cs, h.blk h2, h3.mono fun _ _ _ h4 => ⟨h.vr h4.1, h4.2⟩⟩
  | arr g es l =>
    obtain ⟨h0, h1, h2, cs, h3, h4, h5, h6, h7⟩ := ho
    exact ⟨h0, h1, h2, cs, h.blk h3, h4, h5, h6, hel h7⟩
  | frz g es l =>
    obtain ⟨h0, h1, h2, h3, h4, cs, T, fz, h5, h6, h7, h8, h9⟩ := ho
    exact ⟨h0, h1, h2, h3, by simp only [cx, h.size] at h4 ⊢; exact h4, cs, T, fz, (h.same _ (h.cells h5)).trans h5, h6, h7, h8, hel h9⟩
  | dead => trivial

/-- An activation on its way out, with marks among its deferred calls. -/
theorem leaves_ok {P : Program} {F : Fence} {n : Nat} {fn : Func} {tmps : Array Value} {R : Ending → World → Prop} : ∀ (Ds : List Nat) (w : World), Ds.Nodup → (∀ D ∈ Ds, w.heap[D]? = some (.deferred (some []))) →
    (∀ w', Book Ds w w' → ∃ v, (results fn tmps).run P w' = .ok v w' ∧ R (.returned v) w') → LeavesInM F n P fn tmps R (Ds.map mark) .returning w
  | [], w, _, _, h => h w ⟨rfl, fun _ _ => rfl, (fun b hb => by cases hb), .refl w⟩
  | D :: Ds, w, hnd, hD, h => by
    obtain ⟨h1, h2⟩ := List.nodup_cons.1 hnd
    have hlt := heap_lt (hD D (by simp))
    refine ⟨by simp, .inl ⟨D, w.putObj D (.deferred none), rfl, run_takeDeferred (hD D (by simp)), leaves_ok Ds _ h2 (fun D' hD' => ?_) fun w' hB => h w' ⟨?_, fun b hb => ?_, fun b hb => ?_, ⟨hB.io.os, hB.io.output⟩⟩⟩⟩
    · rw [World.putObj_heap_other (fun (e : D' = D) => h1 (e ▸ hD'))]; exact hD D' (by simp [hD'])
    · rw [hB.size, World.putObj_size]
    · simp only [List.mem_cons, not_or] at hb
      rw [hB.same b hb.2, World.putObj_heap_other hb.1]
    · rcases List.mem_cons.1 hb with rfl | hb
      · exact ⟨⟨_, hD b (by simp), rfl⟩, _, (hB.same b h1).trans (World.putObj_heap_same hlt), rfl⟩
      · obtain ⟨⟨o, h3, h4⟩, h5⟩ := hB.book b hb
        rw [World.putObj_heap_other (fun (e : b = D) => h1 (e ▸ hb))] at h3
        exact ⟨⟨o, h3, h4⟩, h5⟩

/-! ### results -/
inductive RV where
  | t (n : Nat) | c1 (n : Nat) | cA (n sz : Nat)
def trRes (P : Program) : List ResultVar → Option (List RV)
  | [] => some []
  | .tmp t :: r => (trRes P r).map (.t t :: ·)
  | .cell a T :: r => match szA P T, trRes P r with
    | some (sz, true), some rs => some (.cA a sz :: rs)
    | some (_, false), some rs => some (.c1 a :: rs)
    | _, _ => none
def resOne (fr : Fr) (S : St) : RV → Option AV
  | .t n => some (fr n)
  | .c1 n => match fr n with
    | .ptr i off => match S[i]? with | some (.box l) => l[off]? | _ => none
    | _ => none
  | .cA n sz => match fr n with
    | .ptr i off => match S[i]? with | some (.box l) => if off + sz ≤ l.length then some (mkAgg ((l.drop off).take sz)) else none | _ => none
    | _ => none
def resL (fr : Fr) (S : St) : List RV → Option (List AV)
  | [] => some []
  | r :: rs => match resOne fr S r, resL fr S rs with
    | some v, some vs => some (v :: vs)
    | _, _ => none
def resV (fr : Fr) (S : St) (rs : List RV) : Option AV :=
  match resL fr S rs with
  | some [v] => some v
  | some vs => some (.tup vs)
  | none => none

variable {P : Program} {fr : Fr} {a : Act}
theorem run_loadVar1 {t : TypeId} {n b off : Nat} {v : Value} (ht : szA P t = some (n, false)) (hc : w.cell? ⟨b, off, none⟩ = some v) : (loadVar t ⟨b, off, none⟩).run P w = .ok v w := by
  obtain ⟨j, hj, hj1, hag⟩ := szA_ok ht
  simp [loadVar, hag, hc]
theorem run_loadVarA {t : TypeId} {b off : Nat} {vs : List Value} (ht : szA P t = some (vs.length, true)) (hc : ∀ j v, vs[j]? = some v → w.cell? ⟨b, off + j, none⟩ = some v) : (loadVar t ⟨b, off, none⟩).run P w = .ok (.agg vs.toArray) w := by
  obtain ⟨j, hj, hj1, hag⟩ := szA_ok ht
  have hsz := run_sizeOf (P := P) (w := w) hj
  have hcs : P.cellsOf t = vs.length := by simp [Program.cellsOf, hj, hj1]
  have hl := run_loadCells_list (P := P) w ⟨b, off, none⟩ vs (fun j v hv => by rw [add_addr]; exact hc j v hv)
  simp [loadVar, hag, hsz, hcs, hl]

def resSem (tmps : Array Value) : ResultVar → Sem Value
  | .tmp t => pure (tmps.getD t undef)
  | .cell a t => do loadVar t (← asAddr (tmps.getD a undef))
theorem results_run {fn : Func} {tmps : Array Value} {cvs : List Value} (h : (fn.results.toList.mapM (resSem tmps)).run P w = .ok cvs w) :
    (results fn tmps).run P w = .ok (match cvs with | [v] => v | vs => .tuple vs.toArray) w := by
  unfold results
  rw [Array.mapM_eq_mapM_toList]
  have e : (fun x : ResultVar => match x with
      | .tmp t => pure (tmps.getD t undef)
      | .cell a t => do loadVar t (← asAddr (tmps.getD a undef))) = resSem tmps := by funext x; cases x <;> rfl
  change (do
      let vs ← List.toArray <$> List.mapM (fun x : ResultVar => match x with
        | .tmp t => pure (tmps.getD t undef)
        | .cell a t => do loadVar t (← asAddr (tmps.getD a undef))) fn.results.toList
      pure (if h : vs.size = 1 then vs[0] else Value.tuple vs) : Sem Value).run P w = _
  rw [e]
  simp only [map_eq_pure_bind, bind_assoc, pure_bind, Sem.run_bind, h, Result.andThen_ok, Sem.run_pure]
  cases cvs with
  | nil => simp
  | cons v cvs => cases cvs with
    | nil => simp
    | cons u cvs => simp

theorem resOne_ok {r : ResultVar} {rv : RV} {v : AV} (hr : HR w γ env S) (hF : FrOK w γ env S fr a) (ht : trRes P [r] = some [rv]) (hv : resOne fr S rv = some v) :
    ∃ cv, (resSem a.tmps r).run P w = .ok cv w ∧ TR (cx w γ env S) v cv := by
  cases r with
  | tmp t =>
    simp [trRes] at ht; subst ht
    simp [resOne] at hv; subst hv
    exact ⟨_, by simp [resSem], hF t⟩
  | cell p T =>
    simp only [trRes] at ht
    split at ht
    · rename_i sz rs hs _
      injection ht with ht; injection ht with ht _; subst ht
      simp only [resOne] at hv
      split at hv
      · rename_i i off hp
        split at hv
        · rename_i l hi
          split at hv
          · rename_i hle
            injection hv with hv; subst hv
            have hx := hF p
            rw [hp] at hx
            obtain ⟨h1, h2, h3⟩ := hx
            obtain ⟨_, _, cs, h4, h5⟩ := boxed hr hi
            have hlen := h5.len
            have h6 := (h5.drop off).take sz
            have h7 : ((cs.toList.drop off).take sz).length = sz := by simp at hlen ⊢; omega
            refine ⟨.agg ((cs.toList.drop off).take sz).toArray, ?_, mkAgg_ok h6⟩
            have := run_loadVarA (P := P) (w := w) (b := (γ i).blk) (off := off) (vs := (cs.toList.drop off).take sz) (by rw [h7]; exact hs) fun j v hj => by
              rw [h4.cell]; have := get_window hj; simpa using this
            have h3' : a.tmps.getD p undef = .pointer (some ⟨(γ i).blk, off, none⟩) := h3
            simp [resSem, h3', asAddr, this]
          · cases hv
        · cases hv
      · cases hv
    · rename_i sz rs hs _
      injection ht with ht; injection ht with ht _; subst ht
      simp only [resOne] at hv
      split at hv
      · rename_i i off hp
        split at hv
        · rename_i l hi
          have hx := hF p
          rw [hp] at hx
          obtain ⟨h1, h2, h3⟩ := hx
          obtain ⟨_, _, cs, h4, h5⟩ := boxed hr hi
          obtain ⟨u, h6, h7⟩ := h5.get hv
          refine ⟨u, ?_, vr_tr h7.1⟩
          have := run_loadVar1 (P := P) (w := w) (b := (γ i).blk) (off := off) hs ((h4.cell off).trans (by simpa using h6))
          have h3' : a.tmps.getD p undef = .pointer (some ⟨(γ i).blk, off, none⟩) := h3
          simp [resSem, h3', asAddr, this]
        · cases hv
      · cases hv
    · cases ht

theorem resL_ok (hr : HR w γ env S) (hF : FrOK w γ env S fr a) : ∀ {rs : List ResultVar} {rvs : List RV} {vs : List AV}, trRes P rs = some rvs → resL fr S rvs = some vs →
    ∃ cvs, (rs.mapM (resSem a.tmps)).run P w = .ok cvs w ∧ All2 (TR (cx w γ env S)) vs cvs
  | [], rvs, vs, ht, hv => by simp [trRes] at ht; subst ht; simp [resL] at hv; subst hv; exact ⟨[], by simp, .nil⟩
  | r :: rs, rvs, vs, ht, hv => by
    have hsp : ∃ rv rvs', rvs = rv :: rvs' ∧ trRes P [r] = some [rv] ∧ trRes P rs = some rvs' := by
      cases r with
      | tmp t =>
        simp only [trRes] at ht
        obtain ⟨rvs', h1, h2⟩ := Option.map_eq_some_iff.1 ht
        exact ⟨_, _, h2.symm, rfl, h1⟩
      | cell p T =>
        simp only [trRes] at ht ⊢
        split at ht
        · rename_i h1 h2; injection ht with ht; exact ⟨_, _, ht.symm, by simp [h1], h2⟩
        · rename_i h1 h2; injection ht with ht; exact ⟨_, _, ht.symm, by simp [h1], h2⟩
        · cases ht
    obtain ⟨rv, rvs', rfl, h1, h2⟩ := hsp
    simp only [resL] at hv
    split at hv
    · rename_i v vs' h3 h4
      injection hv with hv; subst hv
      obtain ⟨cv, h5, h6⟩ := resOne_ok hr hF h1 h3
      obtain ⟨cvs, h7, h8⟩ := resL_ok hr hF h2 h4
      exact ⟨cv :: cvs, by simp [List.mapM_cons, h5, h7], .cons h6 h8⟩
    · cases hv

theorem tr_ar {x : Cx} {v : AV} {cv : Value} (hok : v.okr1 = true) (h : TR x v cv) : AR x v cv := by
  cases v <;> first
    | exact h
    | (simp [AV.okr1, AV.okr0] at hok)
theorem res_ok {fn : Func} {rvs : List RV} {v : AV} (hr : HR w γ env S) (hF : FrOK w γ env S fr a) (ht : trRes P fn.results.toList = some rvs) (hv : resV fr S rvs = some v) (hok : v.okr = true) :
    ∃ cv, (results fn a.tmps).run P w = .ok cv w ∧ TR (cx w γ env S) v cv := by
  unfold resV at hv
  split at hv
  · rename_i u hl
    injection hv with hv; subst hv
    obtain ⟨cvs, h1, h2⟩ := resL_ok hr hF ht hl
    cases h2 with | cons h3 h4 => cases h4; exact ⟨_, results_run h1, h3⟩
  · rename_i vs hne hl
    injection hv with hv; subst hv
    obtain ⟨cvs, h1, h2⟩ := resL_ok hr hF ht hl
    refine ⟨_, results_run h1, cvs, ?_, h2.mono fun v cv hm h => tr_ar ?_ h⟩
    · have := h2.len
      cases cvs with
      | nil => rfl
      | cons c cvs => cases cvs with
        | nil => exfalso; cases vs with
          | nil => simp at this
          | cons v vs => cases vs with
            | nil => exact hne v rfl
            | cons _ _ => simp at this
        | cons _ _ => rfl
    · simp only [AV.okr] at hok; exact List.all_eq_true.1 hok v hm
  · cases hv

end
end Go.Abs
/- What a function hands back: its result and the variables that are kept, in numbers of its own. -/
namespace Go.Abs

def rix (k : Nat) (keep : List Nat) (i : Nat) : Option Nat := if i < k then some i else if keep.contains i then some (k + keep.idxOf i) else none
def optL {α β : Type} (f : α → Option β) : List α → Option (List β)
  | [] => some []
  | v :: r => match f v, optL f r with
    | some x, some xs => some (x :: xs)
    | _, _ => none
def rnC (k : Nat) (keep : List Nat) : AV → Option AV
  | .d x => some (.d x)
  | .ptr i off => (rix k keep i).map (.ptr · off)
  | _ => none
def rnv (k : Nat) (keep : List Nat) (S : St) : AV → Option AV
  | .d x => some (.d x)
  | .ptr i off => (rix k keep i).map (.ptr · off)
  | .ref i g off len => if k ≤ i then
      if keep.contains i then match rd S i with
        | some (g', _, _) => if g = g' then some (.ref (k + keep.idxOf i) 0 off len) else none
        | none => none
      else match window S (.ref i g off len) with
        | some (es, l) => some (.d (.sl es l))
        | none => none
    else none
  | .fn f caps => (optL (rnC k keep) caps).map (.fn f)
  | _ => none
def rnA (k : Nat) (keep : List Nat) (S : St) : AV → Option AV
  | .agg l => (optL (rnv k keep S) l).map mkAgg
  | v => rnv k keep S v
def rnT (k : Nat) (keep : List Nat) (S : St) : AV → Option AV
  | .tup l => (optL (rnA k keep S) l).map .tup
  | v => rnA k keep S v
def rnB (k : Nat) (keep : List Nat) (S : St) : AO → Option AO
  | .box l => (optL (rnv k keep S) l).map .box
  | .dead => some .dead
  | _ => none
def rnO (k : Nat) (keep : List Nat) (S : St) : AO → Option AO
  | .arr _ es l => some (.arr 0 es l)
  | .frz _ es l => some (.frz 0 es l)
  | o => rnB k keep S o
def normS (k : Nat) (keep : List Nat) (S : St) : Option St :=
  match optL (rnB k keep S) (S.take k), optL (rnO k keep S) (keep.map fun i => S.getD i .dead) with
  | some a, some b => some (a ++ b)
  | _, _ => none
structure Norm (k : Nat) (keep : List Nat) (r : AV) (S : St) (r' : AV) (S' : St) : Prop where
  nd : keep.Nodup
  ge : ∀ i ∈ keep, k ≤ i ∧ i < S.length
  r : rnT k keep S r = some r'
  S : normS k keep S = some S'

theorem optL_all2 {α β : Type} {f : α → Option β} : ∀ {l : List α} {l' : List β}, optL f l = some l' → All2 (fun a b => f a = some b) l l'
  | [], l', h => by simp [optL] at h; subst h; exact .nil
  | v :: r, l', h => by
    simp only [optL] at h
    split at h
    · rename_i x xs h1 h2; injection h with h; subst h; exact .cons h1 (optL_all2 h2)
    · cases h
theorem All2.comp {α β γ : Type} {R : α → γ → Prop} {f : α → β → Prop} {R' : β → γ → Prop} : ∀ {l : List α} {l' : List β} {vs : List γ}, All2 f l l' → All2 R l vs → (∀ a b c, a ∈ l → f a b → R a c → R' b c) → All2 R' l' vs
  | _, _, _, .nil, h, _ => by cases h; exact .nil
  | _, _, _, .cons h1 h2, h, hk => by
    cases h with | cons h3 h4 => exact .cons (hk _ _ _ (by simp) h1 h3) (All2.comp h2 h4 fun a b c ha => hk a b c (by simp [ha]))

section
variable {w : World} {γ : Nat → Gh} {env : Nat → Prop} {S S' : St} {k : Nat} {keep : List Nat}

def normγ (k : Nat) (keep : List Nat) (γ : Nat → Gh) : Nat → Gh := fun j => if j < k then γ j else { γ (keep.getD (j - k) 0) with gen := 0 }

structure NW (k : Nat) (keep : List Nat) (w : World) (γ : Nat → Gh) (env : Nat → Prop) (S S' : St) : Prop where
  hr : HR w γ env S
  kle : k ≤ S.length
  nd : keep.Nodup
  ge : ∀ i ∈ keep, k ≤ i ∧ i < S.length
  S : normS k keep S = some S'

/-- An object of the new store: the old one. -/
theorem NW.back (N : NW k keep w γ env S S') : S'.length = k + keep.length ∧ ∀ j o', S'[j]? = some o' → ∃ i o, S[i]? = some o ∧
    ((j < k ∧ i = j ∧ rnB k keep S o = some o') ∨ (k ≤ j ∧ keep[j - k]? = some i ∧ rnO k keep S o = some o')) := by
  have h := N.S
  unfold normS at h
  split at h
  · rename_i a b h1 h2
    injection h with h; subst h
    have l1 := (optL_all2 h1)
    have l2 := (optL_all2 h2)
    have e1 : a.length = k := by have := l1.len; simp at this; have := N.kle; omega
    have e2 : b.length = keep.length := by have := l2.len; simpa using this.symm
    refine ⟨by simp [e1, e2], fun j o' hj => ?_⟩
    by_cases hjk : j < k
    · rw [List.getElem?_append_left (by omega)] at hj
      have hlt : j < S.length := by have := N.kle; omega
      obtain ⟨o'', h3, h4⟩ := l1.get (i := j) (a := S[j]) (by simp [hjk, hlt])
      rw [hj] at h3; injection h3 with h3; subst h3
      exact ⟨j, S[j], by simp [hlt], .inl ⟨hjk, rfl, h4⟩⟩
    · rw [List.getElem?_append_right (by omega), e1] at hj
      have hlt : j - k < keep.length := by have := (List.getElem?_eq_some_iff.1 hj).1; omega
      have hm := N.ge keep[j - k] (by simp)
      obtain ⟨o'', h3, h4⟩ := l2.get (i := j - k) (a := S.getD keep[j - k] .dead) (by simp [hlt])
      rw [hj] at h3; injection h3 with h3; subst h3
      refine ⟨keep[j - k], S[keep[j - k]], by simp [hm.2], .inr ⟨by omega, by simp [hlt], ?_⟩⟩
      simpa [List.getD_eq_getElem?_getD, hm.2] using h4
  · cases h

theorem rnB_live {o o' : AO} (h : rnB k keep S o = some o') : o'.live = o.live := by
  cases o <;> simp [rnB] at h
  · obtain ⟨l, _, h⟩ := h; subst h; rfl
  · subst h; rfl
theorem rnO_live {o o' : AO} (h : rnO k keep S o = some o') : o'.live = o.live := by
  cases o <;> simp only [rnO] at h <;> first
    | exact rnB_live h
    | (injection h with h; subst h; rfl)
theorem NW.γlt {j : Nat} (h : j < k) : normγ k keep γ j = γ j := by simp [normγ, h]
theorem NW.γge {j i : Nat} (h : k ≤ j) (hi : keep[j - k]? = some i) : normγ k keep γ j = { γ i with gen := 0 } := by
  simp [normγ, show ¬ j < k by omega, List.getD_eq_getElem?_getD, hi]
theorem NW.blk (N : NW k keep w γ env S S') {j : Nat} {o' : AO} (h : S'[j]? = some o') : ∃ i o, S[i]? = some o ∧ o'.live = o.live ∧ (normγ k keep γ j).blk = (γ i).blk ∧ ((j < k ∧ i = j) ∨ (k ≤ j ∧ keep[j - k]? = some i)) := by
  obtain ⟨i, o, h1, ⟨h2, h3, h4⟩ | ⟨h2, h3, h4⟩⟩ := N.back.2 j o' h
  · subst h3; exact ⟨i, o, h1, rnB_live h4, by rw [NW.γlt h2], .inl ⟨h2, rfl⟩⟩
  · exact ⟨i, o, h1, rnO_live h4, by rw [NW.γge h2 h3], .inr ⟨h2, h3⟩⟩
theorem NW.own (N : NW k keep w γ env S S') {b : Nat} (h : Own S' (normγ k keep γ) b) : Own S γ b := by
  obtain ⟨j, o', h1, h2, h3⟩ := h
  obtain ⟨i, o, h4, h5, h6, _⟩ := N.blk h1
  exact ⟨i, o, h4, by rw [← h5]; exact h2, by rw [← h6]; exact h3⟩
theorem NW.O (N : NW k keep w γ env S S') {b : Nat} (h : (cx w (normγ k keep γ) env S').O b) : (cx w γ env S).O b := h.imp N.own id
theorem NW.dr (N : NW k keep w γ env S S') {j : Job} (h : DR w (cx w γ env S).O j) : DR w (cx w (normγ k keep γ) env S').O j :=
  h.mono (Nat.le_refl _) (fun _ _ _ => rfl) fun _ _ h => N.O h
theorem NW.rix (N : NW k keep w γ env S S') {i i' : Nat} (h : rix k keep i = some i') : i' < S'.length ∧ (normγ k keep γ i').blk = (γ i).blk ∧ (normγ k keep γ i').box = (γ i).box := by
  unfold Abs.rix at h
  rw [N.back.1]
  split at h
  · rename_i hlt; injection h with h; subst h; rw [NW.γlt hlt]; exact ⟨by omega, rfl, rfl⟩
  · split at h
    · rename_i hc
      injection h with h; subst h
      have hm : i ∈ keep := by simpa using hc
      have hlt := List.idxOf_lt_length_of_mem hm
      rw [NW.γge (i := i) (by omega) (by rw [Nat.add_sub_cancel_left]; simp [hlt])]
      exact ⟨by omega, rfl, rfl⟩
    · cases h

theorem sl_of_ref (hr : HR w γ env S) {O' : Nat → Prop} {i g off n es : Nat} {l : List D} {cv : Value} (hnO : ¬ O' (γ i).blk) (hdr : ∀ j, DR w (cx w γ env S).O j → DR w O' j)
    (hv : TR (cx w γ env S) (.ref i g off n) cv) (hw : window S (.ref i g off n) = some (es, l)) : DR w O' (.val (.sl es l) cv) := by
  simp only [window] at hw
  split at hw
  · rename_i g' es' l' hrd
    split at hw
    · rename_i hc
      injection hw with hw; injection hw with h1 h2; subst h1; subst h2
      obtain ⟨rfl, hle⟩ := hc
      obtain ⟨o', e, h2, h2'⟩ := ref_ok hr hv hrd
      obtain ⟨h3, h3b, _, _, h4, h5, h5', h6⟩ := rd_ok hr hrd
      have hl : ((l'.drop off).take n).length = n := by simp; omega
      subst e
      have hwin := h6.window off n
      rw [Nat.zero_add] at hwin
      obtain ⟨vs, h7, h8⟩ := hwin
      have : DR w O' (.val (.sl es' ((l'.drop off).take n)) (.slice (some ⟨(γ i).blk, o', none⟩) ((l'.drop off).take n).length ((γ i).cap - off))) := by
        refine .sl es' (γ i).blk o' _ _ vs hnO h4 (by rw [hl]; omega) (by omega) (fun k d hd => hdr _ (h7 k d hd)) fun k hk => ⟨(h8 k hk).1, fun j hj => ?_⟩
        rw [hl] at hk
        rw [h2' (by omega)]
        exact (h8 k (by rw [hl]; exact hk)).2 j hj
      rw [hl] at this
      exact this
    · cases hw
  · cases hw

theorem NW.dropped (N : NW k keep w γ env S S') {i : Nat} (hk : k ≤ i) (hc : i ∉ keep) {p : Nat × Nat × List D} (hrd : rd S i = some p) : ¬ (cx w (normγ k keep γ) env S').O (γ i).blk := by
  unfold rd at hrd
  split at hrd
  · rename_i hi
    rintro (h | h)
    · obtain ⟨j, o', h1, h2, h3⟩ := h
      obtain ⟨i', o, h4, h5, h6, h7⟩ := N.blk h1
      have := N.hr.inj i' i o _ h4 hi (by rw [← h5]; exact h2) rfl (by rw [← h6]; exact h3)
      subst this
      rcases h7 with ⟨h7, h8⟩ | ⟨h7, h8⟩
      · omega
      · exact hc (List.mem_of_getElem? h8)
    · exact N.hr.apart _ h ⟨i, _, hi, rfl, rfl⟩
  · rename_i hi
    obtain ⟨_, _, _, hf, _⟩ := N.hr.objs i _ hi
    exact fun h => hf (N.O h)
  · cases hrd

theorem NW.c0 (N : NW k keep w γ env S S') {v v' : AV} {cv : Value} (h : rnC k keep v = some v') (hv : C0 (cx w γ env S) v cv) : C0 (cx w (normγ k keep γ) env S') v' cv := by
  cases v <;> simp only [rnC] at h <;> first
    | cases h; done
    | skip
  · cases h; exact ⟨N.dr hv.1, hv.2⟩
  · obtain ⟨i', h1, h2⟩ := Option.map_eq_some_iff.1 h
    subst h2
    obtain ⟨h3, h4, h5⟩ := N.rix h1
    obtain ⟨h6, h7, h8⟩ := hv
    exact ⟨h3, h5.trans h7, by simp only [cx, h4]; exact h8⟩
theorem NW.vr (N : NW k keep w γ env S S') {v v' : AV} {cv : Value} (h : rnv k keep S v = some v') (hv : VR (cx w γ env S) v cv) : VR (cx w (normγ k keep γ) env S') v' cv := by
  cases v <;> simp only [rnv] at h <;> first
    | cases h; done
    | skip
  · cases h; exact N.dr hv
  · obtain ⟨i', h1, h2⟩ := Option.map_eq_some_iff.1 h
    subst h2
    obtain ⟨h3, h4, h5⟩ := N.rix h1
    obtain ⟨h6, h7, h8⟩ := hv
    exact ⟨h3, h5.trans h7, by simp only [cx, h4]; exact h8⟩
  · rename_i i g off len
    split at h
    · rename_i hk
      split at h
      · rename_i hc
        split at h
        · rename_i g' es l hrd
          split at h
          · rename_i e; subst e
            injection h with h; subst h
            have hm : i ∈ keep := by simpa using hc
            have hlt := List.idxOf_lt_length_of_mem hm
            have hγ : normγ k keep γ (k + keep.idxOf i) = { γ i with gen := 0 } := NW.γge (i := i) (by omega) (by rw [Nat.add_sub_cancel_left]; simp [hlt])
            obtain ⟨_, _, hg, _⟩ := rd_ok N.hr hrd
            obtain ⟨h1, h2, h3, h4, h5⟩ := hv
            refine ⟨by simp only [cx, N.back.1]; omega, by simp only [cx, hγ]; exact h2, Nat.zero_le _, h4, fun _ => ?_⟩
            simp only [cx, hγ]
            exact h5 hg
          · cases h
        · cases h
      · rename_i hc
        split at h
        · rename_i es l hw
          injection h with h; subst h
          have hw' := hw
          simp only [window] at hw
          split at hw
          · rename_i hrd
            exact sl_of_ref N.hr (N.dropped hk (by simpa using hc) hrd) (fun _ h => N.dr h) (vr_tr hv) hw'
          · cases hw
        · cases h
    · cases h
  · obtain ⟨caps', h1, h2⟩ := Option.map_eq_some_iff.1 h
    subst h2
    obtain ⟨vs, h3, h4⟩ := hv
    exact ⟨vs, h3, (optL_all2 h1).comp h4 fun _ _ _ _ h5 h6 => N.c0 h5 h6⟩
theorem mkAgg_ar {x : Cx} {l : List AV} {vs : List Value} (hv : All2 (fun a v => VR x a v ∧ v.oneCell = true) l vs) : AR x (mkAgg l) (.agg vs.toArray) := by
  have := mkAgg_ok hv
  unfold mkAgg at this ⊢
  split at this <;> exact this
theorem NW.ar (N : NW k keep w γ env S S') {v v' : AV} {cv : Value} (h : rnA k keep S v = some v') (hv : AR (cx w γ env S) v cv) : AR (cx w (normγ k keep γ) env S') v' cv := by
  have key : ∀ {v v' cv}, rnv k keep S v = some v' → VR (cx w γ env S) v cv → AR (cx w (normγ k keep γ) env S') v' cv := fun {v v' cv} h hv => by
    have := N.vr h hv
    cases v' <;> first
      | exact this
      | (simp [VR] at this)
  cases v <;> simp only [rnA] at h <;> first
    | exact key h hv
    | skip
  obtain ⟨l', h1, h2⟩ := Option.map_eq_some_iff.1 h
  subst h2
  obtain ⟨vs, rfl, h4⟩ := hv
  exact mkAgg_ar ((optL_all2 h1).comp h4 fun _ _ _ _ h5 h6 => ⟨N.vr h5 h6.1, h6.2⟩)
theorem NW.tr (N : NW k keep w γ env S S') {v v' : AV} {cv : Value} (h : rnT k keep S v = some v') (hv : TR (cx w γ env S) v cv) : TR (cx w (normγ k keep γ) env S') v' cv := by
  have key : ∀ {v v' cv}, rnA k keep S v = some v' → AR (cx w γ env S) v cv → TR (cx w (normγ k keep γ) env S') v' cv := fun {v v' cv} h hv => by
    have := N.ar h hv
    cases v' <;> first
      | exact this
      | (simp [AR, VR] at this)
  cases v <;> simp only [rnT] at h <;> first
    | exact key h hv
    | skip
  obtain ⟨l', h1, h2⟩ := Option.map_eq_some_iff.1 h
  subst h2
  obtain ⟨vs, h3, h4⟩ := hv
  exact ⟨vs, h3, (optL_all2 h1).comp h4 fun _ _ _ _ h5 h6 => N.ar h5 h6⟩

theorem NW.hr' (N : NW k keep w γ env S S') : HR w (normγ k keep γ) env S' := by
  have hbox : ∀ {i j : Nat} {o o' : AO}, S[i]? = some o → rnB k keep S o = some o' → (normγ k keep γ j).blk = (γ i).blk → (normγ k keep γ j).box = (γ i).box → OR (cx w (normγ k keep γ) env S') j o' := by
    intro i j o o' hi h hb hbx
    cases o <;> simp only [rnB] at h <;> first
      | (cases h; done)
      | skip
    · obtain ⟨l', h1, h2⟩ := Option.map_eq_some_iff.1 h
      subst h2
      obtain ⟨h3, cs, h4, h5⟩ := N.hr.objs i _ hi
      exact ⟨by simp only [cx, hbx]; exact h3, cs, by simp only [cx, hb]; exact h4, (optL_all2 h1).comp h5 fun _ _ _ _ h6 h7 => ⟨N.vr h6 h7.1, h7.2⟩⟩
    · injection h with h; subst h; trivial
  have hel : ∀ {cs es l}, Elems (cx w γ env S) cs es l → Elems (cx w (normγ k keep γ) env S') cs es l := fun ⟨vs, h1, h2⟩ => ⟨vs, fun i d hd => N.dr (h1 i d hd), h2⟩
  refine ⟨fun j o' hj => ?_, fun i j oi oj hi hj hli hlj he => ?_, N.hr.elt, fun b hb hO => N.hr.apart b hb (N.own hO)⟩
  · obtain ⟨i, o, h1, ⟨h2, h3, h4⟩ | ⟨h2, h3, h4⟩⟩ := N.back.2 j o' hj
    · subst h3; exact hbox h1 h4 (by rw [NW.γlt h2]) (by rw [NW.γlt h2])
    · have hγ := NW.γge (γ := γ) h2 h3
      cases o <;> simp only [rnO] at h4 <;> first
        | exact hbox h1 h4 (by rw [hγ]) (by rw [hγ])
        | skip
      · injection h4 with h4; subst h4
        obtain ⟨k0, k1, k2, cs, k3, k4, k5, k6, k7⟩ := N.hr.objs i _ h1
        refine ⟨by simp only [cx, hγ]; exact k0, by simp only [cx, hγ], by simp only [cx, hγ]; exact k2, cs, by simp only [cx, hγ]; exact k3, by simp only [cx, hγ]; exact k4, by simp only [cx, hγ]; exact k5, by simp only [cx, hγ]; exact k6, hel k7⟩
      · injection h4 with h4; subst h4
        obtain ⟨k0, k1, k2, k2', k2'', cs, T, fz, k3, k4, k5, k6, k7⟩ := N.hr.objs i _ h1
        refine ⟨by simp only [cx, hγ]; exact k0, by simp only [cx, hγ], by simp only [cx, hγ]; exact k2, fun h' => k2' ?_, by simp only [cx, hγ]; exact k2'', cs, T, fz, by simp only [cx, hγ]; exact k3, by simp only [cx, hγ]; exact k4, by simp only [cx, hγ]; exact k5, by simp only [cx, hγ]; exact k6, hel k7⟩
        have := N.O h'
        simp only [cx, hγ] at this ⊢
        exact this
  · obtain ⟨i', o, h1, h2, h3, h4⟩ := N.blk hi
    obtain ⟨j', o', h1', h2', h3', h4'⟩ := N.blk hj
    have := N.hr.inj i' j' o o' h1 h1' (by rw [← h2]; exact hli) (by rw [← h2']; exact hlj) (by rw [← h3, ← h3']; exact he)
    subst this
    rcases h4 with ⟨h4, h5⟩ | ⟨h4, h5⟩ <;> rcases h4' with ⟨h6, h7⟩ | ⟨h6, h7⟩
    · omega
    · have := N.ge i' (List.mem_of_getElem? h7); omega
    · have := N.ge i' (List.mem_of_getElem? h5); omega
    · have := (List.getElem?_inj (List.getElem?_eq_some_iff.1 h5).1 N.nd).1 (h5.trans h7.symm)
      omega

end
end Go.Abs
/- A function's contract from its code. -/
namespace Go.Abs

def fr0 (as : List AV) : Fr := fun t => as.getD t .undef
def AO.isBox : AO → Bool
  | .box _ => true
  | _ => false
/-- What an activation's end must show. -/
def Ends (k : Nat) (rvs : List RV) (r : AV) (S1 : St) : Ex → Fr → St → Prop :=
  fun e fr S => (e = .normal ∨ e = .ret) ∧ ∃ r0 keep, resV fr S rvs = some r0 ∧ r0.okr = true ∧ Norm k keep r0 S r S1

section
variable {P : Program} {E : Env}

theorem Stp.trans' {w w' w'' : World} {γ γ' γ'' : Nat → Gh} {env : Nat → Prop} {S S' S'' : St} (h : Stp w γ env S w' γ' S') (k : Stp w' γ' env S' w'' γ'' S'') : Stp w γ env S w'' γ'' S'' := h.trans k

def fnBase (P : Program) (N : Nat) (hN : N ≤ G) (w : World) (γ0 : Nat → Gh) (env : Nat → Prop) (S0 : St) : Base P where
  N := N
  hN := hN
  lo := w.heap.size
  keep := fun _ _ => False
  inv := fun g γ e S w' => g = .undef ∧ e = env ∧ Stp w γ0 env S0 w' γ S
  cl := fun ⟨h1, h2, h3⟩ _ h4 => ⟨h1, h2, h3.trans (h2 ▸ h4)⟩
  los := fun ⟨_, _, h3⟩ => h3.le.size
  yl := fun _ _ _ _ _ _ _ _ h => by cases h.1

theorem ar_tr {x : Cx} {v : AV} {cv : Value} (h : AR x v cv) : TR x v cv := by
  cases v <;> first
    | exact h
    | (simp [AR, VR] at h)

theorem frame_enter {w : World} {γ : Nat → Gh} {env : Nat → Prop} {S : St} {as : List AV} {cargs : List Value} {N : Nat} (h : All2 (AR (cx w γ env S)) as cargs) (hl : as.length ≤ N) :
    FrOK w γ env S (fr0 as) { tmps := cargs.toArray ++ Array.replicate (N - cargs.toArray.size) undef, defers := [] } ∧ (cargs.toArray ++ Array.replicate (N - cargs.toArray.size) undef).size = N := by
  have hlen := h.len
  refine ⟨fun t => ?_, by simp; omega⟩
  unfold fr0
  by_cases ht : t < as.length
  · obtain ⟨v, h1, h2⟩ := h.get (i := t) (a := as[t]) (by simp)
    have e : (cargs.toArray ++ Array.replicate (N - cargs.toArray.size) undef).getD t undef = v := by
      rw [Array.getD_eq_getD_getElem?, Array.getElem?_append_left (by simp; omega)]
      simp [h1]
    rw [e]
    simpa [List.getD_eq_getElem?_getD, ht] using ar_tr h2
  · simp only [List.getD_eq_getElem?_getD, List.getElem?_eq_none (Nat.le_of_not_lt ht), Option.getD_none]
    trivial

theorem fn_ok (hE : EOK P E) (hrng : RngOK P E) {f : Nat} {fn : Func} {c : Code} {sc : SC} {rvs : List RV} {as : List AV} {S0 S1 : St} {r : AV} (hf : P.funcs[f]? = some fn) (hb : fn.body = some c)
    (hs : strip P fn.ntmps c = some sc) (hN : fn.ntmps ≤ G) (hres : trRes P fn.results.toList = some rvs) (hlen : as.length ≤ fn.ntmps) (hS0 : S0.all AO.isBox = true)
    (h : wpS E sc (Ends S0.length rvs r S1) (fr0 as) S0) : CallR P f as S0 r S1 := by
  intro w γ0 env cargs hHR hargs
  obtain ⟨hF, hsz⟩ := frame_enter (N := fn.ntmps) hargs hlen
  have hG0 : fr0 as G = .undef := by
    have : ¬ G < as.length := by omega
    simp only [fr0, List.getD_eq_getElem?_getD, List.getElem?_eq_none (Nat.le_of_not_lt this), Option.getD_none]
  have hR : Rel (fnBase P fn.ntmps hN w γ0 env S0) (fr0 as) S0 { tmps := cargs.toArray ++ Array.replicate (fn.ntmps - cargs.toArray.size) undef, defers := [] } w :=
    ⟨γ0, env, hsz, hF, hHR, ⟨[], rfl, .nil, fun D hD => by cases hD⟩, fun b o hb => hb.elim, hG0, rfl, .refl hHR⟩
  have hbox : ∀ j, j < S0.length → (γ0 j).box = true := fun j hj => by
    have h1 : S0[j]? = some S0[j] := by simp [hj]
    have h2 := List.all_eq_true.1 hS0 S0[j] (by simp)
    have h3 := hHR.objs j _ h1
    cases ho : S0[j] with
    | box l => rw [ho] at h3; exact h3.1
    | _ => rw [ho] at h2; cases h2
  refine (callsIn_wide (n := 0)).1 (callsIn_of_wp_marks hf hb trivial ?_)
  refine wpIn_mono (code_ok (n := 0) hE hrng c sc (fnBase P fn.ntmps hN w γ0 env S0) none _ _ _ _ _ hs (fun _ h => by cases h) hR h) fun e a' w' hq => ?_
  have fin : ∀ {fr' : Fr} {S' : St} {ex : Ex}, Rel (fnBase P fn.ntmps hN w γ0 env S0) fr' S' a' w' → Ends S0.length rvs r S1 ex fr' S' →
      LeavesInM Fence.wide 0 P fn a'.tmps (fun e w' => ∃ cv γ1, e = .returned cv ∧ S0.length ≤ S1.length ∧ TR (cx w' γ1 env S1) r cv ∧ HR w' γ1 env S1 ∧ (∀ j, j < S0.length → γ1 j = γ0 j) ∧
      w.heap.size ≤ w'.heap.size ∧ (∀ b, b < w.heap.size → ¬ Own S0 γ0 b → w'.heap[b]? = w.heap[b]?) ∧ (∀ b, Own S1 γ1 b → Own S0 γ0 b ∨ w.heap.size ≤ b) ∧ IOs w w') a'.defers .returning w' := by
    rintro fr' S' ex ⟨γ, e', hG⟩ ⟨_, r0, keep, k1, k2, k3⟩
    obtain ⟨_, rfl, hstp⟩ := hG.inv
    obtain ⟨Ds, m1, m2, m3⟩ := hG.marks
    rw [m1]
    refine leaves_ok Ds w' m2 (fun D hD => (m3 D hD).1) fun w'' hB => ?_
    have hr'' := hB.hr hG.hr
    obtain ⟨cv, hrun, hTR⟩ := res_ok (a := a') hr'' (fun t => hB.tr (hG.frame t)) hres k1 k2
    have N : NW S0.length keep w'' γ e' S' S1 := ⟨hr'', hstp.le.n, k3.nd, k3.ge, k3.S⟩
    have hsz1 : w.heap.size ≤ w'.heap.size := hstp.le.size
    refine ⟨cv, hrun, cv, normγ S0.length keep γ, rfl, by rw [N.back.1]; omega, N.tr k3.r hTR, N.hr', fun j hj => ?_, by rw [hB.size]; exact hsz1, fun b hb hO => ?_, fun b hO => hstp.own b (N.own hO), hstp.io.trans hB.io⟩
    · rw [NW.γlt hj]
      exact (hstp.le.gh j hj).blk (hbox j hj)
    · have hbD : b ∉ Ds := fun hD => by
        have h1 : w.heap.size ≤ b := (m3 b hD).2.2
        omega
      rw [hB.same b hbD]; exact hstp.chg b hb hO
  cases e with
  | normal => obtain ⟨fr', S', h1, h2⟩ := hq; exact fin h1 h2
  | ret => obtain ⟨fr', S', h1, h2⟩ := hq; exact fin h1 h2
  | exit i => obtain ⟨fr', S', h1, h2, _⟩ := hq; rcases h2 with h2 | h2 <;> cases h2
  | goto l => exact hq.elim
  | panic ch => exact hq.elim
  | outgrown => exact hq.elim

end
end Go.Abs
/- Steps: one lemma for each kind of instruction; to be applied one behind the other. -/
namespace Go.Abs

section
variable {E : Env} {a b : SC} {Q : Ex → Fr → St → Prop} {fr : Fr} {S : St} {l os : List SOp} {K : Fr → St → Prop} {d : Option Nat} {x y c : Opd} {i : SI} {t : Nat}

theorem S_skip (h : Q .normal fr S) : wpS E .skip Q fr S := h
theorem S_seq (h : wpS E a (fun e fr S => match e with | .normal => wpS E b Q fr S | e => Q e fr S) fr S) : wpS E (.seq a b) Q fr S := h
theorem S_ops (h : wpOps E l (Q .normal) fr S) : wpS E (.ops l) Q fr S := h
theorem S_draw {np : Bool} {dj : List (Nat × Nat)} (h : disj fr dj) (h' : wpD E np l (Q .normal) fr S) : wpS E (.draw np dj l) Q fr S := ⟨h, h'⟩
theorem S_ret (h : Q .ret fr S) : wpS E .ret Q fr S := h
theorem S_exit {n : Nat} (h : Q (.exit n) fr S) : wpS E (.exit n) Q fr S := h
theorem S_block {n : Nat} (h : wpS E a (fun e fr S => match e with | .exit j => if j = n then Q .normal fr S else Q (.exit j) fr S | e => Q e fr S) fr S) : wpS E (.block n a) Q fr S := h
theorem S_ite {p : Bool} (e : ld fr c = .d (.bool p)) (h1 : p = true → wpS E a Q fr S) (h2 : p = false → wpS E b Q fr S) : wpS E (.ite c a b) Q fr S := by
  simp only [wpS, e]; exact ⟨h1, h2⟩
theorem S_ite1 {p : Bool} (e : ld fr c = .d (.bool p)) (hp : p = true) (h1 : wpS E a Q fr S) : wpS E (.ite c a b) Q fr S := S_ite e (fun _ => h1) fun h => by rw [hp] at h; cases h
theorem S_ite0 {p : Bool} (e : ld fr c = .d (.bool p)) (hp : p = false) (h1 : wpS E b Q fr S) : wpS E (.ite c a b) Q fr S := S_ite e (fun h => by rw [hp] at h; cases h) fun _ => h1
theorem S_loop (I : Fr → St → Prop) (m : Fr → St → Nat) (h0 : I fr S) (h : ∀ fr S, I fr S → wpS E a (fun e fr' S' => match e with | .normal => I fr' S' ∧ m fr' S' < m fr S | e => Q e fr' S') fr S) : wpS E (.loop a) Q fr S := ⟨I, m, h0, h⟩

theorem O_nil (h : K fr S) : wpOps E [] K fr S := h
/-- An instruction that is no call of 'yield'. -/
theorem O_step (h : stepK E fr S i fun v S' => wpOps E os K (updO fr d v) S') : wpOps E (⟨none, d, i⟩ :: os) K fr S := by
  show stepOp E ⟨none, d, i⟩ (wpOps E os K) fr S
  simp only [stepOp]
  unfold stepE
  split
  · split
    · rename_i hl; simp [stepK, hl] at h
    · exact h
  · exact h
theorem G_skip {w : Bool} (e : fr t = .skip) (h : wpOps E os K (updO fr d .skip) S) : wpOps E (⟨some (t, w), d, i⟩ :: os) K fr S := by
  show stepOp E _ (wpOps E os K) fr S
  simp only [stepOp, e]; exact h
theorem G_bool {w p : Bool} (e : fr t = .d (.bool p)) (h1 : p = w → wpOps E (⟨none, d, i⟩ :: os) K fr S) (h2 : p = !w → wpOps E os K (updO fr d .skip) S) : wpOps E (⟨some (t, w), d, i⟩ :: os) K fr S := by
  show stepOp E _ (wpOps E os K) fr S
  simp only [stepOp, e]; exact ⟨h1, h2⟩
theorem G_1t {p : Bool} (e : fr t = .d (.bool p)) (hp : p = true) (h : wpOps E (⟨none, d, i⟩ :: os) K fr S) : wpOps E (⟨some (t, true), d, i⟩ :: os) K fr S := G_bool e (fun _ => h) fun h => by rw [hp] at h; cases h
theorem G_1f {p : Bool} (e : fr t = .d (.bool p)) (hp : p = false) (h : wpOps E os K (updO fr d .skip) S) : wpOps E (⟨some (t, true), d, i⟩ :: os) K fr S := G_bool e (fun h => by rw [hp] at h; cases h) fun _ => h
theorem G_0t {p : Bool} (e : fr t = .d (.bool p)) (hp : p = true) (h : wpOps E os K (updO fr d .skip) S) : wpOps E (⟨some (t, false), d, i⟩ :: os) K fr S := G_bool e (fun h => by rw [hp] at h; cases h) fun _ => h
theorem G_0f {p : Bool} (e : fr t = .d (.bool p)) (hp : p = false) (h : wpOps E (⟨none, d, i⟩ :: os) K fr S) : wpOps E (⟨some (t, false), d, i⟩ :: os) K fr S := G_bool e (fun _ => h) fun h => by rw [hp] at h; cases h
theorem G_1 {p : Bool} (e : fr t = .d (.bool p)) (h1 : p = true → wpOps E (⟨none, d, i⟩ :: os) K fr S) (h2 : p = false → wpOps E os K (updO fr d .skip) S) : wpOps E (⟨some (t, true), d, i⟩ :: os) K fr S := G_bool e h1 h2
theorem G_0 {p : Bool} (e : fr t = .d (.bool p)) (h1 : p = false → wpOps E (⟨none, d, i⟩ :: os) K fr S) (h2 : p = true → wpOps E os K (updO fr d .skip) S) : wpOps E (⟨some (t, false), d, i⟩ :: os) K fr S := G_bool e h1 h2

/-! ### instructions -/
theorem K_mov {KV : AV → St → Prop} {v : AV} (e : ld fr x = v) (h : KV v S) : stepK E fr S (.mov x) KV := by simp only [stepK, e]; exact h
theorem O_mov_d {v : D} (e : ld fr x = .d v) (h : wpOps E os K (updO fr d (.d v)) S) : wpOps E (⟨none, d, .mov x⟩ :: os) K fr S := O_step (K_mov e h)
theorem O_mov_ref {j g off n : Nat} (e : ld fr x = .ref j g off n) (h : wpOps E os K (updO fr d (.ref j g off n)) S) : wpOps E (⟨none, d, .mov x⟩ :: os) K fr S := O_step (K_mov e h)
theorem O_mov_ptr {j off : Nat} (e : ld fr x = .ptr j off) (h : wpOps E os K (updO fr d (.ptr j off)) S) : wpOps E (⟨none, d, .mov x⟩ :: os) K fr S := O_step (K_mov e h)
theorem O_mov_fn {f : Nat} {cs : List AV} (e : ld fr x = .fn f cs) (h : wpOps E os K (updO fr d (.fn f cs)) S) : wpOps E (⟨none, d, .mov x⟩ :: os) K fr S := O_step (K_mov e h)
theorem O_mov_agg {vs : List AV} (e : ld fr x = .agg vs) (h : wpOps E os K (updO fr d (.agg vs)) S) : wpOps E (⟨none, d, .mov x⟩ :: os) K fr S := O_step (K_mov e h)
theorem O_mov_tup {vs : List AV} (e : ld fr x = .tup vs) (h : wpOps E os K (updO fr d (.tup vs)) S) : wpOps E (⟨none, d, .mov x⟩ :: os) K fr S := O_step (K_mov e h)
theorem O_mov_yld {n : Nat} (e : ld fr x = .yld n) (h : wpOps E os K (updO fr d (.yld n)) S) : wpOps E (⟨none, d, .mov x⟩ :: os) K fr S := O_step (K_mov e h)
theorem O_pick1 {p : Bool} {v : D} {z : Opd} (e : ld fr c = .d (.bool p)) (hp : p = true) (ev : ld fr x = .d v) (h : wpOps E os K (updO fr d (.d v)) S) : wpOps E (⟨none, d, .pick c x z⟩ :: os) K fr S :=
  O_step (by simp only [stepK, e, hp, ev]; exact ⟨fun _ => h, fun e => by cases e⟩)
theorem O_pick0 {p : Bool} {v : D} {z : Opd} (e : ld fr c = .d (.bool p)) (hp : p = false) (ev : ld fr x = .d v) (h : wpOps E os K (updO fr d (.d v)) S) : wpOps E (⟨none, d, .pick c z x⟩ :: os) K fr S :=
  O_step (by simp only [stepK, e, hp, ev]; exact ⟨fun e => (by cases e), fun _ => h⟩)
theorem O_bin {op : BinOp} {p q v : D} (e : ld fr x = .d p) (e2 : ld fr y = .d q) (e3 : bin op p q = some v) (h : wpOps E os K (updO fr d (.d v)) S) : wpOps E (⟨none, d, .bin op x y⟩ :: os) K fr S :=
  O_step (by simp only [stepK, e, e2, e3]; exact h)
theorem O_not {p : Bool} (e : ld fr x = .d (.bool p)) (h : wpOps E os K (updO fr d (.d (.bool (!p)))) S) : wpOps E (⟨none, d, .not x⟩ :: os) K fr S :=
  O_step (by simp only [stepK, e]; exact h)
theorem O_conv {k k' : IntKind} {n : Int} (e : ld fr x = .d (.int k' n)) (h : wpOps E os K (updO fr d (.d (.int k (k.wrap n)))) S) : wpOps E (⟨none, d, .conv k x⟩ :: os) K fr S :=
  O_step (by simp only [stepK, e]; exact h)
theorem O_lenS {s : List UInt8} (e : ld fr x = .d (.str s)) (h : wpOps E os K (updO fr d (.d (.int .i64 s.length))) S) : wpOps E (⟨none, d, .lenS x⟩ :: os) K fr S :=
  O_step (by simp only [stepK, e]; exact h)
theorem O_bytes {s : List UInt8} (e : ld fr x = .d (.str s)) (h : wpOps E os K (updO fr d (.ref S.length 0 0 s.length)) (S ++ [.arr 0 1 (s.map byteD)])) : wpOps E (⟨none, d, .bytes x⟩ :: os) K fr S :=
  O_step (by simp only [stepK, e]; exact h)
theorem O_ext {n : Nat} {vs : List AV} {v : AV} (e : ld fr x = .tup vs) (e2 : vs[n]? = some v) (h : wpOps E os K (updO fr d v) S) : wpOps E (⟨none, d, .ext n x⟩ :: os) K fr S :=
  O_step (by
    have hl := (List.getElem?_eq_some_iff.1 e2).1
    simp only [stepK, e, List.getD_eq_getElem?_getD, e2, Option.getD_some]; exact ⟨hl, h⟩)
theorem O_alloc {z : List D} (h : wpOps E os K (updO fr d (.ptr S.length 0)) (S ++ [.box (z.map .d)])) : wpOps E (⟨none, d, .alloc z⟩ :: os) K fr S := O_step h
theorem O_box {n : Nat} (h0 : (ld fr x).okc = true ∧ (ld fr x).cells.length = n) (h : wpOps E os K (updO fr d (.ptr S.length 0)) (S ++ [.box (ld fr x).cells])) : wpOps E (⟨none, d, .box n x⟩ :: os) K fr S := O_step ⟨h0, h⟩
/-- A call that hands over no variables and hands back data that holds no place. -/
theorem O_call {f : Nat} {args : List Opd} {as : List AV} {r : AV} (h0 : ptrIds [] (args.map (ld fr)) = []) (h1 : lendAll [] S (args.map (ld fr)) = some as) (hc : E.call f as [] r []) (hok : r.okr = true) (hfl : r.flat = true)
    (h : wpOps E os K (updO fr d (sh2 [] S.length r)) S) : wpOps E (⟨none, d, .call f args⟩ :: os) K fr S := by
  refine O_step ?_
  simp only [stepK, callK, h0, getAll, h1]
  exact ⟨r, [], hc, ⟨hok, rfl⟩, by simpa [hfl, putAll] using h⟩

end
end Go.Abs
/- More steps; contracts put together. -/
namespace Go.Abs

section
variable {E : Env} {fr : Fr} {S : St} {os : List SOp} {K : Fr → St → Prop} {d : Option Nat} {x y : Opd} {lo hi : Option Opd}

theorem O_len_d {es : Nat} {l : List D} (e : ld fr x = .d (.sl es l)) (h : wpOps E os K (updO fr d (.d (.int .i64 l.length))) S) : wpOps E (⟨none, d, .len x⟩ :: os) K fr S :=
  O_step (by simp only [stepK, e]; exact h)
theorem O_len_nil (e : ld fr x = .d .nilsl) (h : wpOps E os K (updO fr d (.d (.int .i64 0))) S) : wpOps E (⟨none, d, .len x⟩ :: os) K fr S :=
  O_step (by simp only [stepK, e]; exact h)
theorem O_len_ref {j g off n es : Nat} {l : List D} (e : ld fr x = .ref j g off n) (e2 : rd S j = some (g, es, l)) (h : wpOps E os K (updO fr d (.d (.int .i64 n))) S) : wpOps E (⟨none, d, .len x⟩ :: os) K fr S :=
  O_step (by simp only [stepK, e, e2]; exact ⟨trivial, h⟩)
theorem O_idxA_d {es : Nat} {l : List D} {k : IntKind} {n : Int} (e : ld fr x = .d (.sl es l)) (e2 : ld fr y = .d (.int k n)) (hb : 0 ≤ n ∧ n < (l.length : Int)) (h : wpOps E os K (updO fr d (.fp (l.getD n.toNat .nilp).cells)) S) : wpOps E (⟨none, d, .idxA es x y⟩ :: os) K fr S :=
  O_step (by simp only [stepK, e, e2]; exact ⟨trivial, hb, h⟩)
theorem O_idxA_ref {j g off m es : Nat} {l : List D} {k : IntKind} {n : Int} (e : ld fr x = .ref j g off m) (e2 : ld fr y = .d (.int k n)) (e3 : rd S j = some (g, es, l)) (hb : 0 ≤ n ∧ n < (m : Int)) (h : wpOps E os K (updO fr d (.ep j g (off + n.toNat) 0)) S) : wpOps E (⟨none, d, .idxA es x y⟩ :: os) K fr S :=
  O_step (by simp only [stepK, e, e2, e3]; exact ⟨⟨trivial, trivial⟩, hb, h⟩)
theorem O_idxS {s : List UInt8} {k : IntKind} {n : Int} (e : ld fr x = .d (.str s)) (e2 : ld fr y = .d (.int k n)) (hb : 0 ≤ n ∧ n < (s.length : Int)) (h : wpOps E os K (updO fr d (.d (byteD (s.getD n.toNat 0)))) S) : wpOps E (⟨none, d, .idxS x y⟩ :: os) K fr S :=
  O_step (by simp only [stepK, e, e2]; exact ⟨hb, h⟩)
theorem O_load1_ep {j g k off es : Nat} {l : List D} {v : D} (e : ld fr x = .ep j g k off) (e2 : rd S j = some (g, es, l)) (hk : k < l.length) (hv : (l.getD k .nilp).cells[off]? = some v) (h : wpOps E os K (updO fr d (.d v)) S) : wpOps E (⟨none, d, .load1 x⟩ :: os) K fr S :=
  O_step (by simp only [stepK, e, e2, hv]; exact ⟨⟨trivial, hk⟩, h⟩)
theorem O_load1_ptr {j off : Nat} {l : List AV} {v : AV} (e : ld fr x = .ptr j off) (e2 : S[j]? = some (.box l)) (hv : l[off]? = some v) (h : wpOps E os K (updO fr d v) S) : wpOps E (⟨none, d, .load1 x⟩ :: os) K fr S :=
  O_step (by simp only [stepK, e, e2, hv]; exact h)
theorem O_load1_fp {l : List D} {v : D} (e : ld fr x = .fp l) (hv : l[0]? = some v) (h : wpOps E os K (updO fr d (.d v)) S) : wpOps E (⟨none, d, .load1 x⟩ :: os) K fr S :=
  O_step (by
    simp only [stepK, e]
    cases l with
    | nil => simp at hv
    | cons u l => simp at hv; subst hv; cases l <;> exact h)
theorem O_store1_ptr {j off : Nat} {l : List AV} (e : ld fr x = .ptr j off) (e2 : S[j]? = some (.box l)) (ho : off < l.length) (hc : (ld fr y).okc = true) (hc2 : (ld fr y).cells = [ld fr y]) (h : wpOps E os K (updO fr d .undef) (S.set j (.box (l.set off (ld fr y))))) : wpOps E (⟨none, d, .store1 x y⟩ :: os) K fr S :=
  O_step (by simp only [stepK, e, e2]; exact ⟨ho, hc, hc2, h⟩)
theorem O_store1_ep {j g k off es : Nat} {l : List D} {v : D} (e : ld fr x = .ep j g k off) (e2 : S[j]? = some (.arr g es l)) (ev : ld fr y = .d v) (hk : k < l.length) (ho : off < (l.getD k .nilp).cells.length) (hv : v.cells = [v])
    (h : wpOps E os K (updO fr d .undef) (S.set j (.arr g es (l.set k (match l.getD k .nilp with | .agg cs => .agg (cs.set off v) | _ => v))))) : wpOps E (⟨none, d, .store1 x y⟩ :: os) K fr S :=
  O_step (by simp only [stepK, e, e2, ev]; exact ⟨⟨trivial, hk, ho, hv⟩, h⟩)
theorem O_ofBytes {es : Nat} {l : List D} {s : List UInt8} (e : window S (ld fr x) = some (es, l)) (he : es = 1) (hs : l = s.map byteD) (h : wpOps E os K (updO fr d (.d (.str s))) S) : wpOps E (⟨none, d, .ofBytes x⟩ :: os) K fr S :=
  O_step (by simp only [stepK, e]; exact ⟨he, s, hs, h⟩)
theorem O_slS {s : List UInt8} {p q : Nat} (e : ld fr x = .d (.str s)) (hb : ∀ K' : Nat → Nat → Prop, K' p q → boundsOK (lo.map (ld fr)) (hi.map (ld fr)) s.length s.length K') (h : wpOps E os K (updO fr d (.d (.str ((s.drop p).take (q - p))))) S) : wpOps E (⟨none, d, .slS x lo hi⟩ :: os) K fr S :=
  O_step (by simp only [stepK, e]; exact hb _ h)
end

/-! ### contracts put together -/
def Env.none : Env := ⟨fun _ _ _ _ _ => False, fun _ _ _ _ => False⟩
def Env.add (E : Env) (g : Nat) (C : List AV → St → AV → St → Prop) : Env := ⟨fun f as S0 r S1 => (f = g ∧ C as S0 r S1) ∨ E.call f as S0 r S1, E.iter⟩
theorem EOK.none (P : Program) : EOK P Env.none := ⟨fun _ _ _ _ _ h => h.elim, fun _ _ _ _ _ h => h.elim⟩
theorem EOK.add {P : Program} {E : Env} (hE : EOK P E) {g : Nat} {C : List AV → St → AV → St → Prop} {fn : Func} {c : Code} (hf : P.funcs[g]? = some fn) (hn : (fn.name == "runtime.NumGoroutine") = false) (hb : fn.body = some c)
    (h : ∀ as S0 r S1, C as S0 r S1 → CallR P g as S0 r S1) : EOK P (E.add g C) :=
  ⟨fun f as S0 r S1 hc => by
      rcases hc with ⟨rfl, hc⟩ | hc
      · exact h _ _ _ _ hc
      · exact hE.call _ _ _ _ _ hc,
   fun f as S0 r S1 hc => by
      rcases hc with ⟨rfl, hc⟩ | hc
      · exact ⟨fn, c, hf, hn, hb⟩
      · exact hE.ent _ _ _ _ _ hc⟩

end Go.Abs
/- Iterators: what a function that yields does, whatever the loop's body does. -/
namespace Go.Abs

/-- What a caller claims, over the blocks A of the iterator's own and the blocks C that others may write, outlives what the iterator does. -/
structure ClA (lo : Nat) (X : (Nat → Prop) → (Nat → Prop) → World → Prop) : Prop where
  step : ∀ {A A' C : Nat → Prop} {w w' : World}, X A C w → (∀ b, A b → b < w.heap.size) → (∀ b, C b → b < w.heap.size) → w.heap.size ≤ w'.heap.size →
    (∀ b, b < w.heap.size → ¬ A b → w'.heap[b]? = w.heap[b]?) → (∀ b, A' b → A b ∨ w.heap.size ≤ b) → (∀ b, A' b → b < w'.heap.size) → IOs w w' → X A' C w'
  book : ∀ {A C : Nat → Prop} {w w' : World} {Ds : List Nat}, X A C w → Book Ds w w' → (∀ D ∈ Ds, lo ≤ D ∧ ¬ C D) → X A C w'

/-- One round, as the iterator sees it. -/
def Rnd (P : Program) (l : Nat) (L : List (List D)) (I : Nat → (Nat → Prop) → (Nat → Prop) → World → Prop) (Ix : (Nat → Prop) → (Nat → Prop) → World → Prop) : Prop :=
  ∀ (k : Nat) (A C : Nat → Prop) (W : World) (xs : List D) (cargs : List Value), L[k]? = some xs → I k A C W → (∀ b, A b → b < W.heap.size) → (∀ b, C b → b < W.heap.size) →
    All2 (fun d v => DR W (fun b => A b ∨ C b) (.val d v)) xs cargs →
    ∃ fn tmps assign body, (Instr.yield l cargs.toArray).run P W = .ok (.round l fn tmps assign body) W ∧
      RoundIn Fence.wide 0 P l fn tmps assign body W fun e W' => ∃ (t : Bool) (C' : Nat → Prop), e = .returned (.bool t) ∧ W.heap.size ≤ W'.heap.size ∧
        (∀ b, b < W.heap.size → ¬ C b → W'.heap[b]? = W.heap[b]?) ∧ (∀ b, b < W.heap.size → C' b → C b) ∧ (∀ b, C' b → b < W'.heap.size) ∧ (if t then I (k + 1) A C' W' else Ix A C' W')

/-- AN ITERATOR's CONTRACT: function g, with these captured values, these variables handed over, yields L. -/
def IterR (P : Program) (g : Nat) (caps0 : List AV) (S0 : St) (L : List (List D)) : Prop :=
  (∀ j off, AV.ptr j off ∈ caps0 → j < S0.length) ∧
  ∀ (w : World) (γ0 : Nat → Gh) (env : Nat → Prop) (lb : List Value) (l : Nat) (I : Nat → (Nat → Prop) → (Nat → Prop) → World → Prop) (Ix : (Nat → Prop) → (Nat → Prop) → World → Prop),
    HR w γ0 env S0 → All2 (C0 (cx w γ0 env S0)) caps0 lb → (∀ k, ClA w.heap.size (I k)) → ClA w.heap.size Ix → Rnd P l L I Ix → I 0 (Own S0 γ0) env w →
    Calls P g (Value.func (.yield l) #[] #[] :: lb).toArray w fun e w' => ∃ v, e = .returned v ∧ ∃ A C, I L.length A C w' ∨ Ix A C w'

section
variable {P : Program} {E : Env}

def itBase (P : Program) (N : Nat) (hN : N ≤ G) (w : World) (l : Nat) (L : List (List D)) (I : Nat → (Nat → Prop) → (Nat → Prop) → World → Prop) (Ix : (Nat → Prop) → (Nat → Prop) → World → Prop)
    (hI : ∀ k, ClA w.heap.size (I k)) (hIx : ClA w.heap.size Ix) (hR : Rnd P l L I Ix) : Base P where
  N := N
  hN := hN
  lo := w.heap.size
  keep := fun _ _ => False
  inv := fun g γ e S W => w.heap.size ≤ W.heap.size ∧ ∃ rest, g = .gh l rest ∧ ((∃ k, k ≤ L.length ∧ rest = L.drop k ∧ I k (Own S γ) e W) ∨ (rest = [] ∧ Ix (Own S γ) e W))
  cl := fun ⟨h1, rest, h2, h3⟩ hr hs => ⟨Nat.le_trans h1 hs.le.size, rest, h2, h3.imp
    (fun ⟨k, k1, k2, k3⟩ => ⟨k, k1, k2, (hI k).step k3 (fun _ h => hr.own_lt h) hr.elt hs.le.size hs.chg hs.own (fun _ h => hs.hr.own_lt h) hs.io⟩)
    (fun ⟨k1, k2⟩ => ⟨k1, hIx.step k2 (fun _ h => hr.own_lt h) hr.elt hs.le.size hs.chg hs.own (fun _ h => hs.hr.own_lt h) hs.io⟩)⟩
  los := fun h => h.1
  yl := fun l' xs rest γ env S W cargs hinv hr hargs => by
    obtain ⟨h1, rest', h2, h3⟩ := hinv
    injection h2 with h4 h5
    subst h4; subst h5
    rcases h3 with ⟨k, k1, k2, k3⟩ | ⟨h, _⟩
    · have hlt : k < L.length := by
        rcases Nat.lt_or_ge k L.length with h | h
        · exact h
        · rw [List.drop_eq_nil_of_le h] at k2; cases k2
      rw [List.drop_eq_getElem_cons hlt] at k2
      injection k2 with k4 k5
      obtain ⟨fn, tmps, assign, body, h6, h7⟩ := hR k (Own S γ) env W xs cargs (by rw [k4]; simp [hlt]) k3 (fun _ h => hr.own_lt h) hr.elt hargs
      refine ⟨fn, tmps, assign, body, h6, h7.mono fun e w' => ?_⟩
      rintro ⟨t, C', rfl, m1, m2, m3, m4, m5⟩
      refine ⟨t, C', rfl, m1, m2, m3, m4, Nat.le_trans h1 m1, _, rfl, ?_⟩
      cases t
      · exact .inr ⟨rfl, m5⟩
      · exact .inl ⟨k + 1, hlt, k5, m5⟩
    · cases h

theorem c0_ar {x : Cx} {v : AV} {cv : Value} (h : C0 x v cv) : AR x v cv := by
  cases v <;> first | exact h.1 | exact h | exact h.elim

/-- An iterator's contract from its code. -/
theorem iter_ok (hE : EOK P E) (hrng : RngOK P E) {g : Nat} {fn : Func} {c : Code} {sc : SC} {caps0 : List AV} {S0 : St} {L : List (List D)} (hf : P.funcs[g]? = some fn) (hb : fn.body = some c)
    (hs : strip P fn.ntmps c = some sc) (hN : fn.ntmps ≤ G) (hres : fn.results.toList = []) (hlen : caps0.length + 1 ≤ fn.ntmps) (hcap : ∀ j off, AV.ptr j off ∈ caps0 → j < S0.length)
    (h : ∀ l, wpS E sc (fun e fr _ => (e = .normal ∨ e = .ret) ∧ fr G = .gh l []) (upd (fr0 (.yld l :: caps0)) G (.gh l L)) S0) : IterR P g caps0 S0 L := by
  refine ⟨hcap, fun w γ0 env lb l I Ix hHR hcaps hI hIx hR h0 => ?_⟩
  obtain ⟨hF, hsz⟩ := frame_enter (N := fn.ntmps) (as := .yld l :: caps0) (cargs := Value.func (.yield l) #[] #[] :: lb) (γ := γ0) (env := env) (S := S0) (w := w)
    (.cons rfl (hcaps.mono fun _ _ _ h => c0_ar h)) hlen
  have hFG : FrOK w γ0 env S0 (upd (fr0 (.yld l :: caps0)) G (.gh l L)) { tmps := (Value.func (.yield l) #[] #[] :: lb).toArray ++ Array.replicate (fn.ntmps - (Value.func (.yield l) #[] #[] :: lb).toArray.size) undef, defers := [] } := fun u => by
    unfold upd
    split
    · rename_i e
      subst e
      rw [Array.getD_eq_getD_getElem?, Array.getElem?_eq_none (by rw [hsz]; exact hN)]; exact rfl
    · exact hF u
  have hR0 : Rel (itBase P fn.ntmps hN w l L I Ix hI hIx hR) (upd (fr0 (.yld l :: caps0)) G (.gh l L)) S0 { tmps := (Value.func (.yield l) #[] #[] :: lb).toArray ++ Array.replicate (fn.ntmps - (Value.func (.yield l) #[] #[] :: lb).toArray.size) undef, defers := [] } w :=
    ⟨γ0, env, hsz, hFG, hHR, ⟨[], rfl, .nil, fun D hD => by cases hD⟩, fun b o hb => hb.elim, Nat.le_refl _, L, by simp [upd], .inl ⟨0, Nat.zero_le _, by simp, h0⟩⟩
  refine (callsIn_wide (n := 0)).1 (callsIn_of_wp_marks hf hb trivial ?_)
  refine wpIn_mono (code_ok (n := 0) hE hrng c sc (itBase P fn.ntmps hN w l L I Ix hI hIx hR) none _ _ _ _ _ hs (fun _ h => by cases h) hR0 (h l)) fun e a' w' hq => ?_
  have fin : ∀ {fr' : Fr} {S' : St}, Rel (itBase P fn.ntmps hN w l L I Ix hI hIx hR) fr' S' a' w' → fr' G = .gh l [] →
      LeavesInM Fence.wide 0 P fn a'.tmps (fun e w' => ∃ v, e = .returned v ∧ ∃ A C, I L.length A C w' ∨ Ix A C w') a'.defers .returning w' := by
    rintro fr' S' ⟨γ, e', hG⟩ hg
    obtain ⟨_, rest, hr1, hr2⟩ := hG.inv
    rw [hg] at hr1
    injection hr1 with _ hr1
    subst hr1
    obtain ⟨Ds, m1, m2, m3⟩ := hG.marks
    rw [m1]
    refine leaves_ok Ds w' m2 (fun D hD => (m3 D hD).1) fun w'' hB => ⟨_, results_run (cvs := []) (by simp [hres]), _, rfl, Own S' γ, e', ?_⟩
    rcases hr2 with ⟨k, k1, k2, k3⟩ | ⟨_, k3⟩
    · have : k = L.length := by
        have := congrArg List.length k2
        simp at this; omega
      subst this
      exact .inl ((hI _).book k3 hB fun D hD => ⟨(m3 D hD).2.2, (m3 D hD).2.1⟩)
    · exact .inr (hIx.book k3 hB fun D hD => ⟨(m3 D hD).2.2, (m3 D hD).2.1⟩)
  cases e with
  | normal => obtain ⟨fr', S', h1, h2⟩ := hq; exact fin h1 h2.2
  | ret => obtain ⟨fr', S', h1, h2⟩ := hq; exact fin h1 h2.2
  | exit i => obtain ⟨fr', S', h1, h2, _⟩ := hq; rcases h2 with h2 | h2 <;> cases h2
  | goto l => exact hq.elim
  | panic ch => exact hq.elim
  | outgrown => exact hq.elim

end
end Go.Abs
/- A loop over an iterator: what stays known of the activation that holds it. -/
namespace Go.Abs

section
variable {P : Program} {w w' : World} {γ γ' γ'' : Nat → Gh} {env env' : Nat → Prop} {S S' S'' : St}

/-- Others change what they may. -/
theorem HR.others (h : HR w γ env S) (hs : w.heap.size ≤ w'.heap.size) (hsame : ∀ b, b < w.heap.size → ¬ env b → w'.heap[b]? = w.heap[b]?) (he : ∀ b, b < w.heap.size → env' b → env b) (ht : ∀ b, env' b → b < w'.heap.size) :
    (cx w γ env S).Le (cx w' γ env' S) ∧ HR w' γ env' S := by
  have hle : (cx w γ env S).Le (cx w' γ env' S) := ⟨hs, fun b hb hO => hsame b hb fun h => hO (.inr h), fun b hb hO => hO.imp id (he b hb), Nat.le_refl _, fun _ _ => GX.refl _⟩
  refine ⟨hle, fun i o ho => ?_, h.inj, ht, fun b hb hO => h.apart b (he b (h.own_lt hO) hb) hO⟩
  exact (h.objs i o ho).mono hle rfl fun hl => hsame _ ((h.objs i o ho).live_lt hl) fun h' => h.apart _ h' ⟨i, o, ho, hl, rfl⟩

theorem kill_len : ∀ (ids : List Nat) (S : St), (kill ids S).length = S.length
  | [], S => rfl
  | i :: ids, S => by simp [kill, kill_len ids]
theorem kill_get : ∀ (ids : List Nat) (S : St) (i : Nat) (o : AO), (kill ids S)[i]? = some o → (i ∉ ids ∧ S[i]? = some o) ∨ o = .dead
  | [], S, i, o, h => .inl ⟨by simp, h⟩
  | k :: ids, S, i, o, h => by
    rcases kill_get ids _ i o h with ⟨h1, h2⟩ | h1
    · by_cases e : k = i
      · subst e
        have hlt : k < S.length := by
          have := (List.getElem?_eq_some_iff.1 h2).1; simpa using this
        rw [List.getElem?_set_self hlt] at h2; injection h2 with h2; exact .inr h2.symm
      · rw [List.getElem?_set_ne e] at h2
        exact .inl ⟨by simp [h1]; exact fun e' => e e'.symm, h2⟩
    · exact .inr h1

/-- A loop's invariant as far as memory goes: since world W0 with store S; A: what the iterator owns; l: the loop's record; Ds: a mark of the loop's. -/
structure LInv (W0 : World) (γ : Nat → Gh) (env0 : Nat → Prop) (S : St) (l lo : Nat) (Ds : List Nat) (A : Nat → Prop) (γ' : Nat → Gh) (S' : St) (W : World) : Prop where
  le : (cx W0 γ env0 S).Le (cx W γ' (fun b => A b ∨ env0 b) S')
  hr : HR W γ' (fun b => A b ∨ env0 b) S'
  chg : ∀ b, b < W0.heap.size → ¬ Own S γ b → W.heap[b]? = W0.heap[b]?
  own : ∀ b, Own S' γ' b → Own S γ b ∨ W0.heap.size ≤ b
  aown : ∀ b, A b → Own S γ b ∨ W0.heap.size ≤ b
  al : ¬ A l
  ll : W0.heap.size ≤ l
  lnc : ∃ r, W.heap[l]? = some (.loop r)
  ds : ∀ D ∈ Ds, W.heap[D]? = some (.deferred (some [])) ∧ ¬ A D ∧ D < lo ∧ W0.heap.size ≤ D ∧ D ≠ l
  e0 : ∀ b, env0 b → b < W0.heap.size
  io : IOs W0 W

variable {W0 W W' : World} {env0 A A' : Nat → Prop} {l lo : Nat} {Ds : List Nat}

theorem LInv.stp (h : LInv W0 γ env0 S l lo Ds A γ' S' W) (hs : Stp W γ' (fun b => A b ∨ env0 b) S' W' γ'' S'') : LInv W0 γ env0 S l lo Ds A γ'' S'' W' := by
  have hsz : W0.heap.size ≤ W.heap.size := h.le.size
  refine ⟨h.le.trans hs.le, hs.hr, fun b hb hO => ?_, fun b hb => ?_, h.aown, h.al, h.ll, ?_, fun D hD => ?_, h.e0, h.io.trans hs.io⟩
  · rw [hs.chg b (by omega) fun h' => (h.own b h').elim hO fun h'' => by omega]; exact h.chg b hb hO
  · rcases hs.own b hb with h1 | h1
    · exact h.own b h1
    · exact .inr (by omega)
  · obtain ⟨r, hr⟩ := h.lnc; exact ⟨r, hs.keeps h.hr hr rfl⟩
  · obtain ⟨h1, h2⟩ := h.ds D hD; exact ⟨hs.keeps h.hr h1 rfl, h2⟩

theorem LInv.book (h : LInv W0 γ env0 S l lo Ds A γ' S' W) {Bs : List Nat} (hB : Book Bs W W') (hge : ∀ b ∈ Bs, W0.heap.size ≤ b ∧ b ∉ Ds) (hl : ∃ r, W'.heap[l]? = some (.loop r)) : LInv W0 γ env0 S l lo Ds A γ' S' W' := by
  have hsm : ∀ b, b < W0.heap.size → W'.heap[b]? = W.heap[b]? := fun b hb => hB.same b fun hm => by have := (hge b hm).1; omega
  refine ⟨⟨?_, fun b hb hO => (hsm b hb).trans (h.le.same b hb hO), h.le.own, h.le.n, h.le.gh⟩, hB.hr h.hr, fun b hb hO => (hsm b hb).trans (h.chg b hb hO), h.own, h.aown, h.al, h.ll, hl, fun D hD => ?_, h.e0, h.io.trans hB.io⟩
  · have := h.le.size
    simp only [cx] at this ⊢
    rw [hB.size]; exact this
  · obtain ⟨h1, h2⟩ := h.ds D hD
    exact ⟨(hB.same D fun hm => (hge D hm).2 hD).trans h1, h2⟩

theorem LInv.astep (h : LInv W0 γ env0 S l lo Ds A γ' S' W) (hs : W.heap.size ≤ W'.heap.size) (hsame : ∀ b, b < W.heap.size → ¬ A b → W'.heap[b]? = W.heap[b]?)
    (hA : ∀ b, A' b → A b ∨ W.heap.size ≤ b) (hA' : ∀ b, A' b → b < W'.heap.size) (hio : IOs W W') : LInv W0 γ env0 S l lo Ds A' γ' S' W' := by
  have hsz : W0.heap.size ≤ W.heap.size := h.le.size
  have ho := h.hr.others (w' := W') (env' := fun b => A' b ∨ env0 b) hs (fun b hb hn => hsame b hb fun h' => hn (.inl h')) (fun b hb h' => h'.imp (fun h'' => (hA b h'').resolve_right (by omega)) id)
    (fun b h' => h'.elim (hA' b) fun h'' => by have := h.e0 b h''; omega)
  have hlt : l < W.heap.size := by obtain ⟨r, hr⟩ := h.lnc; exact heap_lt hr
  refine ⟨h.le.trans ho.1, ho.2, fun b hb hO => ?_, h.own, fun b hb => ?_, fun h' => ?_, h.ll, ?_, fun D hD => ?_, h.e0, h.io.trans hio⟩
  · rw [hsame b (by omega) fun h' => (h.aown b h').elim hO fun h'' => by omega]; exact h.chg b hb hO
  · rcases hA b hb with h1 | h1
    · exact h.aown b h1
    · exact .inr (by omega)
  · rcases hA l h' with h1 | h1
    · exact h.al h1
    · omega
  · obtain ⟨r, hr⟩ := h.lnc; exact ⟨r, (hsame l hlt h.al).trans hr⟩
  · obtain ⟨h1, h2, h3⟩ := h.ds D hD
    have := heap_lt h1
    exact ⟨(hsame D this h2).trans h1, fun h' => (hA D h').elim h2 fun h'' => by omega, h3⟩

theorem book1 {l : Nat} {o o' : Obj} (h : W.heap[l]? = some o) (ho : o.isCells = false) (ho' : o'.isCells = false) : Book [l] W (W.putObj l o') :=
  ⟨by simp, fun b hb => World.putObj_heap_other (by simpa using hb), fun b hb => by
    simp at hb; subst hb
    exact ⟨⟨o, h, ho⟩, o', World.putObj_heap_same (heap_lt h), ho'⟩, ⟨rfl, rfl⟩⟩
theorem LInv.put (h : LInv W0 γ env0 S l lo Ds A γ' S' W) (r' : Loop) : LInv W0 γ env0 S l lo Ds A γ' S' (W.putObj l (.loop r')) := by
  obtain ⟨r, hr⟩ := h.lnc
  exact h.book (book1 hr rfl rfl) (fun b hb => by simp at hb; subst hb; exact ⟨h.ll, fun hD => (h.ds _ hD).2.2.2.2 rfl⟩) ⟨r', World.putObj_heap_same (heap_lt hr)⟩

/-- Within a round: since world Wr, with the blocks Or owned. -/
structure RInv (W0 : World) (γ : Nat → Gh) (env0 : Nat → Prop) (S : St) (l lo : Nat) (Ds : List Nat) (A : Nat → Prop) (Wr : World) (Or : Nat → Prop) (γ' : Nat → Gh) (S' : St) (W : World) : Prop where
  i : LInv W0 γ env0 S l lo Ds A γ' S' W
  rs : Wr.heap.size ≤ W.heap.size
  rc : ∀ b, b < Wr.heap.size → ¬ Or b → b ≠ l → W.heap[b]? = Wr.heap[b]?
  ro : ∀ b, Own S' γ' b → Or b ∨ Wr.heap.size ≤ b
variable {Wr : World} {Or : Nat → Prop}
theorem RInv.stp (h : RInv W0 γ env0 S l lo Ds A Wr Or γ' S' W) (hs : Stp W γ' (fun b => A b ∨ env0 b) S' W' γ'' S'') : RInv W0 γ env0 S l lo Ds A Wr Or γ'' S'' W' := by
  have h1 := h.rs
  have h2 : W.heap.size ≤ W'.heap.size := hs.le.size
  refine ⟨h.i.stp hs, by omega, fun b hb hO hl => ?_, fun b hb => ?_⟩
  · rw [hs.chg b (by omega) fun h' => (h.ro b h').elim hO fun h'' => by omega]; exact h.rc b hb hO hl
  · rcases hs.own b hb with h3 | h3
    · exact h.ro b h3
    · exact .inr (by omega)
theorem RInv.put (h : RInv W0 γ env0 S l lo Ds A Wr Or γ' S' W) (r' : Loop) : RInv W0 γ env0 S l lo Ds A Wr Or γ' S' (W.putObj l (.loop r')) :=
  ⟨h.i.put r', by rw [World.putObj_size]; exact h.rs, fun b hb hO hl => (World.putObj_heap_other hl).trans (h.rc b hb hO hl), h.ro⟩

/-- The activation in a round. -/
def rndBase (P : Program) (N : Nat) (hN : N ≤ G) (W0 : World) (γ : Nat → Gh) (env0 : Nat → Prop) (S : St) (l lo : Nat) (Ds : List Nat) (A : Nat → Prop) (Wr : World) (Or : Nat → Prop) (rc : Loop) : Base P where
  N := N
  hN := hN
  lo := 0
  keep := fun b o => b = l ∧ o = .loop rc
  inv := fun g γ' e S' W => g = .undef ∧ e = (fun b => A b ∨ env0 b) ∧ RInv W0 γ env0 S l lo Ds A Wr Or γ' S' W
  cl := fun ⟨h1, h2, h3⟩ _ h4 => ⟨h1, h2, h3.stp (h2 ▸ h4)⟩
  los := fun _ => Nat.zero_le _
  yl := fun _ _ _ _ _ _ _ _ h => by cases h.1

/-- What the iterator is told of its caller. -/
def LX (W0 : World) (γ : Nat → Gh) (env0 : Nat → Prop) (S : St) (l lo : Nat) (Ds : List Nat) (rc : Loop) (p : St → Prop) (A C : Nat → Prop) (W : World) : Prop :=
  ∃ γ' S', LInv W0 γ env0 S l lo Ds A γ' S' W ∧ (∀ b, C b ↔ (Own S' γ' b ∨ env0 b ∨ b = l)) ∧ W.heap[l]? = some (.loop rc) ∧ p S'
theorem LX.cl {rc : Loop} {p : St → Prop} (hlo : W0.heap.size ≤ lo) : ClA lo (LX W0 γ env0 S l lo Ds rc p) := by
  refine ⟨?_, ?_⟩
  · rintro A A' C W W' ⟨γ', S', h1, h2, h3, h4⟩ _ _ hs hsame hA hA' hio
    exact ⟨γ', S', h1.astep hs hsame hA hA' hio, h2, (hsame l (heap_lt h3) h1.al).trans h3, h4⟩
  · rintro A C W W' Bs ⟨γ', S', h1, h2, h3, h4⟩ hB hD
    have hl : l ∉ Bs := fun hm => (hD l hm).2 ((h2 l).2 (.inr (.inr rfl)))
    have hl' := (hB.same l hl).trans h3
    exact ⟨γ', S', h1.book hB (fun b hb => ⟨by have := (hD b hb).1; omega, fun hm => by have := (hD b hb).1; have := (h1.ds b hm).2.2.1; omega⟩) ⟨_, hl'⟩, h2, hl', h4⟩
theorem ClA.ex {α : Type} {X : α → (Nat → Prop) → (Nat → Prop) → World → Prop} (h : ∀ x, ClA lo (X x)) : ClA lo (fun A C W => ∃ x, X x A C W) :=
  ⟨fun ⟨x, hx⟩ h1 h2 h3 h4 h5 h6 h7 => ⟨x, (h x).step hx h1 h2 h3 h4 h5 h6 h7⟩, fun ⟨x, hx⟩ h1 h2 => ⟨x, (h x).book hx h1 h2⟩⟩

/-- Entering the statement. -/
theorem enter_ok {rd : Option Nat} (hrd : ∀ l0, rd = some l0 → ∃ r, w.heap[l0]? = some (.loop r)) (fn : FuncId) (tmps : Array Value) (ps : Array Tmp) (assign body : Code) :
    ∃ (l : Nat) (Ds : List Nat) (df : Nat) (W1 : World), (Instr.enterLoop fn tmps ps assign body rd).run P w = .ok (l, Ds.map mark) W1 ∧ w.heap.size < W1.heap.size ∧ (∀ b, b < w.heap.size → W1.heap[b]? = w.heap[b]?) ∧
      W1.heap[l]? = some (.loop { state := .ready, pending := none, fn, tmps, params := ps, assign, body, defers := df }) ∧ w.heap.size ≤ l ∧ Ds.Nodup ∧
      (∀ D ∈ Ds, W1.heap[D]? = some (.deferred (some [])) ∧ w.heap.size ≤ D ∧ D ≠ l) ∧ IOs w W1 := by
  cases rd with
  | none =>
    refine ⟨_, [w.heap.size], w.heap.size, _, run_enterLoop_outer fn tmps ps assign body, by simp; omega, fun b hb => ?_, ?_, by omega, by simp, fun D hD => ?_, ⟨rfl, rfl⟩⟩
    · rw [RowKit.Below.heap_alloc _ _ _ (by simp; omega), RowKit.Below.heap_alloc _ _ _ (by omega)]
    · have := World.alloc_heap_new (w.alloc (.deferred (some []))) (.loop { state := .ready, pending := none, fn, tmps, params := ps, assign, body, defers := w.heap.size }); rwa [World.size_alloc] at this
    · simp at hD; subst hD
      exact ⟨(RowKit.Below.heap_alloc _ _ _ (by simp)).trans (World.alloc_heap_new w _), Nat.le_refl _, by omega⟩
  | some l0 =>
    obtain ⟨r, hr⟩ := hrd l0 rfl
    refine ⟨_, [], r.defers, _, run_enterLoop_inner hr fn tmps ps assign body, by simp, fun b hb => RowKit.Below.heap_alloc _ _ _ (by omega), World.alloc_heap_new w _, Nat.le_refl _, .nil, (fun D hD => by cases hD), ⟨rfl, rfl⟩⟩

theorem updL_ok : ∀ {ps : List Nat} {xs : List D} {cargs : List Value} {fr : Fr} {t : Array Value} {ds : List Deferred}, FrOK w γ env S fr { tmps := t, defers := ds } → All2 (fun d v => DR w (cx w γ env S).O (.val d v)) xs cargs →
    (∀ p ∈ ps, p < t.size) → FrOK w γ env S (updL fr ps xs) { tmps := (ps.zip cargs).foldl (fun t p => t.setIfInBounds p.1 p.2) t, defers := ds } ∧ ((ps.zip cargs).foldl (fun t p => t.setIfInBounds p.1 p.2) t).size = t.size
  | [], xs, cargs, fr, t, ds, hF, _, _ => by simp [updL]; exact hF
  | p :: ps, [], cargs, fr, t, ds, hF, hv, _ => by cases hv; simp [updL]; exact hF
  | p :: ps, x :: xs, cargs, fr, t, ds, hF, hv, hp => by
    cases hv with
    | @cons _ v _ vs h1 h2 =>
      simp only [List.zip_cons_cons, List.foldl_cons, updL]
      have h3 : FrOK w γ env S (upd fr p (.d x)) { tmps := t.setIfInBounds p v, defers := ds } := by
        have := frame_put (a := { tmps := t, defers := ds }) (d := some p) (v := .d x) (cv := v) (fun u e => by injection e with e; subst e; exact hp _ (by simp)) hF h1
        exact this
      have h4 := updL_ok (ps := ps) h3 h2 fun q hq => by simpa using hp q (by simp [hq])
      exact ⟨h4.1, h4.2.trans (by simp)⟩

end
end Go.Abs
/- The rule for a range over a function. -/
namespace Go.Abs

/-- What is claimed of a program's iterators. -/
structure IOK (P : Program) (E : Env) : Prop where
  iter : ∀ g caps0 S0 L, E.iter g caps0 S0 L → IterR P g caps0 S0 L
  ent : ∀ g caps0 S0 L, E.iter g caps0 S0 L → ∃ fn c, P.funcs[g]? = some fn ∧ (fn.name == "runtime.NumGoroutine") = false ∧ fn.body = some c

def Jmp (e : Ex) (c : Code) : Prop := (e = .ret ∧ c = .ret) ∨ ∃ i, e = .exit i ∧ c = .exit i

section
variable {P : Program} {E : Env} {W0 : World} {γ : Nat → Gh} {env0 : Nat → Prop} {S : St} {l lo : Nat} {Ds : List Nat} {fr : Fr} {n : Nat}

theorem roundIn_n {n m : Nat} {l : Nat} {f : FuncId} {tmps : Array Value} {assign body : Code} {w : World} {R : Ending → World → Prop} (h : RoundIn Fence.wide n P l f tmps assign body w R) : RoundIn Fence.wide m P l f tmps assign body w R :=
  ⟨trivial, fun c cs _ => h.2 c cs (room_wide _)⟩

theorem RelG.next {N : Nat} {hN : N ≤ G} {W : World} {A Or : Nat → Prop} {Wr : World} {rc : Loop} (rc' : Loop) {γ' : Nat → Gh} {e' : Nat → Prop} {S' : St} {fr : Fr} {a : Act}
    (h : RelG (rndBase P N hN W0 γ env0 S l lo Ds A Wr Or rc) fr S' γ' e' a W) : RelG (rndBase P N hN W0 γ env0 S l lo Ds A Wr Or rc') fr S' γ' e' a (W.putObj l (.loop rc')) := by
  obtain ⟨hl, _, hne⟩ := h.keep l (.loop rc) ⟨rfl, rfl⟩
  have hB : Book [l] W (W.putObj l (.loop rc')) := book1 hl rfl rfl
  obtain ⟨i1, i2, i3⟩ := h.inv
  refine ⟨h.size, fun u => hB.tr (h.frame u), hB.hr h.hr, ?_, ?_, i1, i2, i3.put rc'⟩
  · obtain ⟨Ds', m1, m2, m3⟩ := h.marks
    refine ⟨Ds', m1, m2, fun D hD => ⟨?_, (m3 D hD).2⟩⟩
    rw [World.putObj_heap_other (fun e : D = l => by have := (m3 D hD).1; rw [e, hl] at this; cases this)]
    exact (m3 D hD).1
  · rintro b o ⟨rfl, rfl⟩
    exact ⟨World.putObj_heap_same (heap_lt hl), rfl, hne⟩

theorem rnd_ok {N : Nat} {hN : N ≤ G} {tm : Array Value} {ps : Array Tmp} {as b : Code} {sa sb : SC} {Q : Ex → Fr → St → Prop} {L : List (List D)} {J : Nat → St → Prop} {fn : FuncId} {df : Nat}
    (hF : FrOK W0 γ env0 S fr { tmps := tm, defers := [] }) (hsz : tm.size = N) (hps : ps.all (· < N) = true) (hlen : ∀ xs ∈ L, xs.length = ps.toList.length)
    (hA : ∀ (B' : Base P) (rd : Option Nat) (Q : Ex → Fr → St → Prop) (fr : Fr) (S : St) (a : Act) (w : World), B'.N = N → RdOK B' rd → Rel B' fr S a w → wpS E sa Q fr S → as.wpIn (FW rd) n P (QK B' Q) a w)
    (hB : ∀ (B' : Base P) (rd : Option Nat) (Q : Ex → Fr → St → Prop) (fr : Fr) (S : St) (a : Act) (w : World), B'.N = N → RdOK B' rd → Rel B' fr S a w → wpS E sb Q fr S → b.wpIn (FW rd) n P (QK B' Q) a w)
    (hwp : ∀ k S, J k S → k < L.length → wpS E sa (fun e fr1 S1 => match e with | .normal => wpS E sb (fun e' _ S2 => match e' with | .normal => J (k + 1) S2 | e' => Q e' fr S2) fr1 S1 | _ => False) (upd (updL fr ps.toList (L.getD k [])) G .undef) S) :
    Rnd P l L (fun k => LX W0 γ env0 S l lo Ds { state := .ready, pending := none, fn, tmps := tm, params := ps, assign := as, body := b, defers := df } (J k))
      (fun A C W => ∃ c, LX W0 γ env0 S l lo Ds { state := .done, pending := some c, fn, tmps := tm, params := ps, assign := as, body := b, defers := df } (fun S' => ∃ e, Jmp e c ∧ Q e fr S') A C W) := by
  intro k A C W xs cargs hk hX hAlt hClt hargs
  obtain ⟨γ', S', hi, hC, hl, hJ⟩ := hX
  have hkl : k < L.length := (List.getElem?_eq_some_iff.1 hk).1
  have hgd : L.getD k [] = xs := by simp [List.getD_eq_getElem?_getD, hk]
  have hxl : xs.length = ps.size := by simpa using hlen xs (List.mem_of_getElem? hk)
  have hal := hargs.len
  refine ⟨fn, _, as, b, run_yield hl (by simp; omega), roundIn_n (n := n) (roundIn_of_wpIn trivial ?_)⟩
  have hE0 : ∀ b, (cx W γ' (fun b => A b ∨ env0 b) S').O b → A b ∨ C b := fun b h => by
    rcases h with h | h | h
    · exact .inr ((hC b).2 (.inl h))
    · exact .inl h
    · exact .inr ((hC b).2 (.inr (.inl h)))
  have hargs' : All2 (fun d v => DR W (cx W γ' (fun b => A b ∨ env0 b) S').O (.val d v)) xs cargs := hargs.mono fun _ _ _ h => h.mono (Nat.le_refl _) (fun _ _ _ => rfl) fun b _ h' => hE0 b h'
  have hu := updL_ok (ds := []) (fun u => hi.le.tr (hF u)) hargs' (ps := ps.toList) fun p hp => by
    have := Array.all_eq_true'.1 hps p (by simpa using hp)
    simpa [hsz] using this
  have hfold : (ps.zip cargs.toArray).foldl (fun (t : Array Value) (x : Tmp × Value) => match x with | (p, v) => t.setIfInBounds p v) tm = (ps.toList.zip cargs).foldl (fun t p => t.setIfInBounds p.1 p.2) tm := by
    rw [← Array.foldl_toList, Array.toList_zip]
  have hlne : ∀ b, b = l → ¬ (A b ∨ env0 b) := fun b e h => by
    subst e
    rcases h with h | h
    · exact hi.al h
    · have := hi.e0 _ h; have := hi.ll; omega
  have hW := hwp k S' hJ hkl
  rw [hgd] at hW
  have hR1 : Rel (rndBase P N hN W0 γ env0 S l lo Ds A W (Own S' γ') { state := .ready, pending := none, fn, tmps := tm, params := ps, assign := as, body := b, defers := df }) (upd (updL fr ps.toList xs) G .undef) S'
      { tmps := (ps.zip cargs.toArray).foldl (fun (t : Array Value) (x : Tmp × Value) => match x with | (p, v) => t.setIfInBounds p v) tm, defers := [] } W := by
    rw [hfold]
    refine ⟨γ', _, hu.2.trans hsz, fun u => ?_, hi.hr, ⟨[], rfl, .nil, fun D hD => by cases hD⟩, ?_, by simp [upd], rfl, hi, Nat.le_refl _, fun _ _ _ _ => rfl, fun b h => .inl h⟩
    · unfold upd
      split
      · trivial
      · exact hu.1 u
    · rintro b o ⟨rfl, rfl⟩
      exact ⟨hl, rfl, hlne b rfl⟩
  have hA1 := hA _ (some l) _ _ _ _ _ rfl (fun l' e => by injection e with e; subst e; exact ⟨_, rfl, rfl⟩) hR1 hW
  refine wpIn_mono hA1 fun e a1 W1 hq => ?_
  cases e with
  | normal =>
    obtain ⟨fr1, S1, ⟨γ1, e1, hG1⟩, hW1⟩ := hq
    have hl1 := (hG1.keep l _ ⟨rfl, rfl⟩).1
    refine ⟨_, run_beginRound hl1 rfl, ?_⟩
    have hG2 := hG1.next { state := .busy, pending := none, fn, tmps := tm, params := ps, assign := as, body := b, defers := df }
    have hB1 := hB _ (some l) _ _ _ _ _ rfl (fun l' e => by injection e with e; subst e; exact ⟨_, rfl, rfl⟩) ⟨γ1, e1, hG2⟩ hW1
    refine wpIn_mono hB1 fun e a2 W2 hq => ?_
    have fin : ∀ {fr2 : Fr} {S2 : St} (jump : Option Code), Rel (rndBase P N hN W0 γ env0 S l lo Ds A W (Own S' γ') { state := .busy, pending := none, fn, tmps := tm, params := ps, assign := as, body := b, defers := df }) fr2 S2 a2 W2 →
        ∃ W3 C', (Instr.endRound l jump).run P W2 = .ok (.bool jump.isNone) W3 ∧ W.heap.size ≤ W3.heap.size ∧ (∀ b, b < W.heap.size → ¬ C b → W3.heap[b]? = W.heap[b]?) ∧ (∀ b, b < W.heap.size → C' b → C b) ∧ (∀ b, C' b → b < W3.heap.size) ∧
          ∀ p : St → Prop, p S2 → LX W0 γ env0 S l lo Ds { state := if jump.isNone then .ready else .done, pending := jump, fn, tmps := tm, params := ps, assign := as, body := b, defers := df } p A C' W3 := by
      rintro fr2 S2 jump ⟨γ2, e2, hG⟩
      have hl2 := (hG.keep l _ ⟨rfl, rfl⟩).1
      obtain ⟨_, he2, hri⟩ := hG.inv
      refine ⟨_, fun b => Own S2 γ2 b ∨ env0 b ∨ b = l, run_endRound jump hl2, by rw [World.putObj_size]; exact hri.rs, fun b hb hn => ?_, fun b hb h => ?_, fun b h => ?_, fun p hp => ?_⟩
      · have hbl : b ≠ l := fun e => hn ((hC b).2 (.inr (.inr e)))
        rw [World.putObj_heap_other hbl]
        exact hri.rc b hb (fun h => hn ((hC b).2 (.inl h))) hbl
      · refine (hC b).2 (h.imp (fun h => (hri.ro b h).resolve_right (by omega)) id)
      · rw [World.putObj_size]
        rcases h with h | h | h
        · exact hG.hr.own_lt h
        · have := hri.i.e0 b h; have := hri.i.le.size; simp only [cx] at this; omega
        · subst h; exact heap_lt hl2
      · exact ⟨γ2, S2, hri.i.put _, fun _ => Iff.rfl, World.putObj_heap_same (heap_lt hl2), hp⟩
    cases e with
    | normal =>
      obtain ⟨fr2, S2, hG, hq⟩ := hq
      obtain ⟨W3, C', h1, h2, h3, h4, h5, h6⟩ := fin none hG
      exact ⟨_, W3, h1, true, C', rfl, h2, h3, h4, h5, h6 _ hq⟩
    | ret =>
      obtain ⟨fr2, S2, hG, hq⟩ := hq
      obtain ⟨W3, C', h1, h2, h3, h4, h5, h6⟩ := fin (some .ret) hG
      exact ⟨_, W3, h1, false, C', rfl, h2, h3, h4, h5, .ret, h6 _ ⟨.ret, .inl ⟨rfl, rfl⟩, hq⟩⟩
    | exit i =>
      obtain ⟨fr2, S2, hG, hq⟩ := hq
      obtain ⟨W3, C', h1, h2, h3, h4, h5, h6⟩ := fin (some (.exit i)) hG
      exact ⟨_, W3, h1, false, C', rfl, h2, h3, h4, h5, .exit i, h6 _ ⟨.exit i, .inr ⟨i, rfl, rfl⟩, hq⟩⟩
    | goto t => exact hq.elim
    | panic ch => exact hq.elim
    | outgrown => exact hq.elim
  | ret => obtain ⟨_, _, _, h⟩ := hq; exact h.elim
  | exit i => obtain ⟨_, _, _, h⟩ := hq; exact h.elim
  | goto t => exact hq.elim
  | panic ch => exact hq.elim
  | outgrown => exact hq.elim

theorem rng_ok (hI : IOK P E) : RngOK P E := by
  intro B rd n f ps as b x sa sb Q fr S a w htr hps hrd hA hB hR h
  obtain ⟨γ, env, hG⟩ := hR
  simp only [wpS] at h
  split at h
  · rename_i g caps hx
    obtain ⟨ids, caps0, S0, L, J, hit, hlen, hcaps, hnd, hgA, hJ0, hdone, hround⟩ := h
    obtain ⟨hcp, hC⟩ := hI.iter _ _ _ _ hit
    obtain ⟨fng, cg, hf1, hf2, hf3⟩ := hI.ent _ _ _ _ hit
    obtain ⟨hS0l, hS0⟩ := getAll_ok hgA
    have hv := trO_ok htr hG.frame
    rw [hx] at hv
    obtain ⟨lb, hev, hlb⟩ := hv
    refine wpIn_rangeFunc fun fn _ => ?_
    obtain ⟨l, Ds, df, W1, he, hsz1, hsame1, hl1, hlge, hDnd, hDs, hio1⟩ := enter_ok (P := P) (w := w) (rd := rd) (fun l0 e => by obtain ⟨r, hr⟩ := hrd l0 e; exact ⟨r, (hG.keep l0 _ hr).1⟩) fn a.tmps ps as b
    have hlt1 := heap_lt hl1
    -- what is handed over
    have hkO : ∀ b, Own (kill ids S) γ b → Own S γ b ∧ ¬ ∃ i, i ∈ ids ∧ (γ i).blk = b := by
      rintro b ⟨i, o, h1, h2, h3⟩
      rcases kill_get ids S i o h1 with ⟨h4, h5⟩ | h4
      · refine ⟨⟨i, o, h5, h2, h3⟩, ?_⟩
        rintro ⟨k, h6, h7⟩
        obtain ⟨j, hj⟩ := List.getElem?_of_mem h6
        obtain ⟨lk, ds, h8, _⟩ := hS0 j k hj
        have := hG.hr.inj i k _ _ h5 h8 h2 rfl (h3.trans h7.symm)
        subst this; exact h4 h6
      · subst h4; cases h2
    have hA0 : ∀ b, Own S0 (lendγ ids γ) b → Own S γ b := fun b h => by
      obtain ⟨i, h1, h2⟩ := lend_own hgA h
      obtain ⟨j, hj⟩ := List.getElem?_of_mem h1
      obtain ⟨lk, ds, h3, _⟩ := hS0 j i hj
      exact ⟨i, _, h3, rfl, h2⟩
    have hA0lt : ∀ b, Own S0 (lendγ ids γ) b → b < w.heap.size := fun b h => hG.hr.own_lt (hA0 b h)
    have hLe : (cx w γ env S).Le (cx W1 γ (fun b => Own S0 (lendγ ids γ) b ∨ env b) (kill ids S)) :=
      ⟨Nat.le_of_lt hsz1, fun b hb _ => hsame1 b hb, fun b hb hO => by
        rcases hO with hO | hO | hO
        · exact .inl (hkO b hO).1
        · exact .inl (hA0 b hO)
        · exact .inr hO, by simp [cx, kill_len], fun _ _ => GX.refl _⟩
    have hHR1 : HR W1 γ (fun b => Own S0 (lendγ ids γ) b ∨ env b) (kill ids S) := by
      refine ⟨fun i o ho => ?_, fun i j oi oj h1 h2 h3 h4 h5 => ?_, fun b hb => ?_, fun b hb hO => ?_⟩
      · rcases kill_get ids S i o ho with ⟨h1, h2⟩ | h1
        · exact (hG.hr.objs i o h2).mono hLe rfl fun hl => hsame1 _ ((hG.hr.objs i o h2).live_lt hl)
        · subst h1; trivial
      · rcases kill_get ids S i oi h1 with ⟨_, k1⟩ | k1
        · rcases kill_get ids S j oj h2 with ⟨_, k2⟩ | k2
          · exact hG.hr.inj i j oi oj k1 k2 h3 h4 h5
          · subst k2; cases h4
        · subst k1; cases h3
      · rcases hb with hb | hb
        · have := hA0lt b hb; omega
        · have := hG.hr.elt b hb; omega
      · rcases hb with hb | hb
        · exact (hkO b hO).2 (lend_own hgA hb)
        · exact hG.hr.apart b hb (hkO b hO).1
    have hli : LInv w γ env S l W1.heap.size Ds (Own S0 (lendγ ids γ)) γ (kill ids S) W1 :=
      ⟨hLe, hHR1, fun b hb _ => hsame1 b hb, fun b h => .inl (hkO b h).1, fun b h => .inl (hA0 b h), fun h => by have := hA0lt l h; omega, hlge, ⟨_, hl1⟩,
       fun D hD => ⟨(hDs D hD).1, fun h => by have := hA0lt D h; have := (hDs D hD).2.1; omega, heap_lt (hDs D hD).1, (hDs D hD).2⟩, hG.hr.elt, hio1⟩
    have hlh := (lend_hr (lent := fun _ => False) hG.hr hnd hgA).others (w' := W1) (env' := fun b => Own (kill ids S) γ b ∨ env b ∨ b = l) (Nat.le_of_lt hsz1) (fun b hb _ => hsame1 b hb)
      (fun b hb h => by
        rcases h with h | h | h
        · exact ⟨.inl (hkO b h).1, (hkO b h).2, fun h => h⟩
        · refine ⟨.inr h, ?_, fun h => h⟩
          rintro ⟨i, h1, h2⟩
          obtain ⟨j, hj⟩ := List.getElem?_of_mem h1
          obtain ⟨lk, ds, h3, _⟩ := hS0 j i hj
          exact hG.hr.apart b h ⟨i, _, h3, rfl, h2⟩
        · omega)
      (fun b h => by
        rcases h with h | h | h
        · have := hG.hr.own_lt (hkO b h).1; omega
        · have := hG.hr.elt b h; omega
        · omega)
    have hcaps0 : All2 (C0 (cx W1 (lendγ ids γ) (fun b => Own (kill ids S) γ b ∨ env b ∨ b = l) S0)) caps0 lb := by
      rw [hcaps] at hlb
      refine hlb.unmap.mono fun c v hc h => ?_
      cases c with
      | d y =>
        refine ⟨DR.mono (Nat.le_of_lt hsz1) (fun b hb _ => hsame1 b hb) (fun b hb h => ?_) h.1, h.2⟩
        rcases h with h | h | h | h
        · exact .inl (hA0 b h)
        · exact .inl (hkO b h).1
        · exact .inr h
        · omega
      | ptr j off =>
        have hj := hcp j off hc
        have hj' : j < ids.length := by omega
        have e : ids[j]? = some ids[j] := by simp
        obtain ⟨h1, h2, h3⟩ := h
        rw [rn_lt e] at h1 h2 h3
        have eg : lendγ ids γ j = γ ids[j] := by simp [lendγ, List.getD_eq_getElem?_getD, hj']
        exact ⟨hj, by simp only [cx, eg]; exact h2, by simp only [cx, eg]; exact h3⟩
      | _ => exact h.elim
    have hrnd := rnd_ok (W0 := w) (γ := γ) (env0 := env) (S := S) (l := l) (lo := W1.heap.size) (Ds := Ds) (fr := fr) (n := n) (N := B.N) (hN := B.hN) (tm := a.tmps) (ps := ps) (as := as) (b := b) (sa := sa) (sb := sb) (Q := Q) (L := L) (J := J) (fn := fn) (df := df)
      hG.frame hG.size hps hlen hA hB (fun k S' h1 h2 => hround k S' h1 h2)
    have hcall := hC W1 _ _ lb l _ _ hlh.2 hcaps0 (fun k => LX.cl (Nat.le_of_lt hsz1)) (ClA.ex fun c => LX.cl (Nat.le_of_lt hsz1)) hrnd ⟨γ, kill ids S, hli, fun _ => Iff.rfl, hl1, hJ0⟩
    refine ⟨l, Ds.map mark, W1, { target := .fn (.func g) lb.toArray, args := #[.func (.yield l) #[] #[]] }, W1, g, (Value.func (.yield l) #[] #[] :: lb).toArray, W1, he, ?_, fun _ _ => trivial, ?_, fun h => by simp [Fence.wide] at h, calls_FW.2 (hcall.mono fun e W2 => ?_)⟩
    · simp only [resolve, hev]
      simp [go_sem]
    · have h4 : fng.name ≠ "runtime.NumGoroutine" := by simpa using hf2
      simp [invoke, callFunc, hf1, h4, hf3, go_sem]
    · rintro ⟨v, rfl, A, C, hX⟩
      have fin : ∀ {γ' : Nat → Gh} {S' : St} {W : World}, LInv w γ env S l W1.heap.size Ds A γ' S' W → Rel B fr S' { a with defers := Ds.map mark ++ a.defers } W := by
        intro γ' S' W hi
        have hw := hi.hr.others (w' := W) (env' := env) (Nat.le_refl _) (fun _ _ _ => rfl) (fun b _ h => .inr h) (fun b h => hi.hr.elt b (.inr h))
        have hst : Stp w γ env S W γ' S' := ⟨hi.le.trans hw.1, hw.2, hi.chg, hi.own, hi.io⟩
        obtain ⟨Ds0, m1, m2, m3⟩ := hG.marks
        refine ⟨γ', env, hG.size, fun u => hst.le.tr (hG.frame u), hw.2, ⟨Ds ++ Ds0, by simp [m1], ?_, fun D hD => ?_⟩, fun b o hb => ?_, B.cl hG.inv hG.hr hst⟩
        · refine List.nodup_append.2 ⟨hDnd, m2, fun D h1 D' h2 e => ?_⟩
          subst e
          have := heap_lt (m3 D h2).1
          have := (hDs D h1).2.1
          omega
        · rcases List.mem_append.1 hD with hD | hD
          · obtain ⟨k1, k2, k3, k4, k5⟩ := hi.ds D hD
            have := B.los hG.inv
            exact ⟨k1, fun h => by have := hG.hr.elt D h; omega, by omega⟩
          · exact ⟨hst.keeps hG.hr (m3 D hD).1 rfl, (m3 D hD).2⟩
        · obtain ⟨k1, k2, k3⟩ := hG.keep b o hb
          exact ⟨hst.keeps hG.hr k1 k2, k2, k3⟩
      rcases hX with ⟨γ', S', hi, _, hl, hJ⟩ | ⟨c, γ', S', hi, _, hl, e, hj, hQ⟩
      · exact ⟨none, _, run_endLoop hl (by simp), fr, S', fin (hi.put _), hdone _ hJ⟩
      · refine ⟨some c, _, run_endLoop hl (by simp), ?_⟩
        rcases hj with ⟨rfl, rfl⟩ | ⟨i, rfl, rfl⟩
        · exact wpIn_ret ⟨fr, S', fin (hi.put _), hQ⟩
        · exact wpIn_exit ⟨fr, S', fin (hi.put _), hQ⟩
  · exact h.elim

end
end Go.Abs
/- What code keeps: what it claims may be weakened; slots that it does not write. Loops with what they hold written out. -/
namespace Go.Abs

section
variable {E : Env} {fr : Fr} {S : St}

theorem boundsOK_mono {lo hi : Option AV} {n c : Nat} {K K' : Nat → Nat → Prop} (h : boundsOK lo hi n c K) (hK : ∀ a b, K a b → K' a b) : boundsOK lo hi n c K' := by
  unfold boundsOK at h
  split at h <;> first
    | exact hK _ _ h
    | exact ⟨h.1, hK _ _ h.2⟩
    | exact ⟨h.1, h.2.1, hK _ _ h.2.2⟩
    | exact h.elim
theorem callK_mono {f : Nat} {vs : List AV} {K K' : AV → St → Prop} (h : callK E f vs S K) (hK : ∀ v S', K v S' → K' v S') : callK E f vs S K' := by
  unfold callK at h ⊢
  split at h
  · rename_i h1 h2
    (try rw [h1, h2])
    obtain ⟨r, S1, h1, h2, h3⟩ := h; exact ⟨r, S1, h1, h2, hK _ _ h3⟩
  · exact h.elim
theorem stepK_mono {i : SI} {K K' : AV → St → Prop} (h : stepK E fr S i K) (hK : ∀ v S', K v S' → K' v S') : stepK E fr S i K' := by
  cases i
  case call f args => exact callK_mono h hK
  case callV x args =>
    simp only [stepK] at h ⊢
    split at h <;> first
      | (rename_i e; (try simp only [e]); exact callK_mono h hK)
      | exact h.elim
  case slS x lo hi =>
    simp only [stepK] at h ⊢
    split at h <;> first
      | (rename_i e; (try simp only [e]); exact boundsOK_mono h fun _ _ => hK _ _)
      | exact h.elim
  case slL es x lo hi =>
    simp only [stepK] at h ⊢
    split at h
    · rename_i e; (try simp only [e]); exact boundsOK_mono h fun _ _ => hK _ _
    · rename_i e; (try simp only [e]); exact ⟨h.1, boundsOK_mono h.2 fun _ _ => hK _ _⟩
    · rename_i e
      split at h
      · rename_i e2; (try simp only [e, e2]); exact ⟨h.1, boundsOK_mono h.2 fun _ _ => hK _ _⟩
      · exact h.elim
    · exact h.elim
  case slArr n x lo hi =>
    simp only [stepK] at h ⊢
    split at h
    · rename_i e
      split at h
      · rename_i e2
        split at h
        · rename_i e3; (try simp only [e, e2, e3]); exact ⟨h.1, boundsOK_mono h.2 fun _ _ => hK _ _⟩
        · exact h.elim
      · exact h.elim
    · exact h.elim
  case app es by_ x y =>
    simp only [stepK] at h ⊢
    split at h
    · rename_i e
      (try rw [e])
      refine ⟨h.1, ?_⟩
      have h := h.2
      split at h
      · rename_i e2; (try simp only [e2]); exact ⟨h.1, hK _ _ h.2⟩
      · rename_i e2
        split at h
        · rename_i e3
          (try simp only [e2, e3])
          exact ⟨h.1, fun e => hK _ _ (h.2.1 e), fun e => ⟨(h.2.2 e).1, hK _ _ (h.2.2 e).2⟩⟩
        · exact h.elim
      · exact h.elim
    · exact h.elim
  case ofBytes x =>
    simp only [stepK] at h ⊢
    split at h
    · rename_i e; (try simp only [e]); obtain ⟨h1, s, h2, h3⟩ := h; exact ⟨h1, s, h2, hK _ _ h3⟩
    · rename_i e; (try simp only [e]); exact ⟨h.1, hK _ _ h.2⟩
  case mn x y =>
    simp only [stepK] at h ⊢
    split at h
    · rename_i e e2; (try simp only [e, e2]); exact ⟨h.1, hK _ _ h.2⟩
    · exact h.elim
  case mkfn f caps =>
    simp only [stepK] at h ⊢
    split at h
    · rename_i e; (try rw [if_pos e]); exact hK _ _ h
    · rename_i e; (try rw [if_neg e]); exact ⟨h.1, hK _ _ h.2⟩
  all_goals
    simp only [stepK] at h ⊢
    (repeat' split at h) <;> first
      | exact hK _ _ h
      | exact h.elim
      | exact ⟨h.1, hK _ _ h.2⟩
      | exact ⟨h.1, h.2.1, hK _ _ h.2.2⟩
      | exact ⟨h.1, h.2.1, h.2.2.1, hK _ _ h.2.2.2⟩
      | simp_all

theorem stepE_keep {i : SI} {K K' : AV → Fr → St → Prop} (h : stepE E fr S i K) (hK : ∀ v fr' S', (∀ t, t ≠ G → fr' t = fr t) → K v fr' S' → K' v fr' S') : stepE E fr S i K' := by
  have hG : ∀ v : AV, ∀ t, t ≠ G → upd fr G v t = fr t := fun v t ht => by simp [upd, ht]
  unfold stepE at h ⊢
  split at h
  · rename_i x args
    split at h
    · rename_i l e
      (try simp only [e])
      split at h
      · rename_i l' xs rest e2
        (try simp only [e2])
        exact ⟨h.1, hK _ _ _ (hG _) h.2.1, hK _ _ _ (hG _) h.2.2⟩
      · exact h.elim
    · rename_i e
      first
        | exact stepK_mono h fun v S' => hK v fr S' fun _ _ => rfl
        | (split
           · rename_i l e'; exact absurd e' (e l)
           · exact stepK_mono h fun v S' => hK v fr S' fun _ _ => rfl)
  · rename_i e
    first
      | exact stepK_mono h fun v S' => hK v fr S' fun _ _ => rfl
      | (split
         · rename_i x args; exact absurd rfl (e x args)
         · exact stepK_mono h fun v S' => hK v fr S' fun _ _ => rfl)

/-- Outside of these slots nothing has turned. -/
def Ag (W : Nat → Bool) (fr fr' : Fr) : Prop := ∀ t, W t = false → t ≠ G → fr' t = fr t
theorem Ag.refl (W : Nat → Bool) (fr : Fr) : Ag W fr fr := fun _ _ _ => rfl
theorem Ag.trans {W : Nat → Bool} {a b c : Fr} (h : Ag W a b) (k : Ag W b c) : Ag W a c := fun t h1 h2 => (k t h1 h2).trans (h t h1 h2)
def dIn (W : Nat → Bool) : Option Nat → Bool
  | none => true
  | some d => W d
theorem Ag.put {W : Nat → Bool} {d : Option Nat} {v : AV} (h : dIn W d = true) {fr fr' : Fr} (k : ∀ t, t ≠ G → fr' t = fr t) : Ag W fr (updO fr' d v) := fun t h1 h2 => by
  cases d with
  | none => exact k t h2
  | some d =>
    simp only [updO, upd]
    split
    · rename_i e; subst e; simp only [dIn] at h; rw [h] at h1; cases h1
    · exact k t h2
def wrIn (W : Nat → Bool) : SC → Bool
  | .ops l => l.all fun so => dIn W so.d
  | .draw _ _ l => l.all fun so => dIn W so.d
  | .seq a b => wrIn W a && wrIn W b
  | .ite _ a b => wrIn W a && wrIn W b
  | .block _ b => wrIn W b
  | .loop b => wrIn W b
  | _ => true
theorem wrIn_true : ∀ sc : SC, wrIn (fun _ => true) sc = true
  | .ops l => List.all_eq_true.2 fun so _ => by cases h : so.d <;> rfl
  | .draw _ _ l => List.all_eq_true.2 fun so _ => by cases h : so.d <;> rfl
  | .seq a b => by simp [wrIn, wrIn_true a, wrIn_true b]
  | .ite _ a b => by simp [wrIn, wrIn_true a, wrIn_true b]
  | .block _ b => by simp [wrIn, wrIn_true b]
  | .loop b => by simp [wrIn, wrIn_true b]
  | .skip | .exit _ | .ret | .rng _ _ _ _ => rfl

theorem wpOps_keep {W : Nat → Bool} : ∀ {l : List SOp} {K K' : Fr → St → Prop} {fr : Fr} {S : St}, (l.all fun so => dIn W so.d) = true → wpOps E l K fr S → (∀ fr' S', Ag W fr fr' → K fr' S' → K' fr' S') → wpOps E l K' fr S
  | [], K, K', fr, S, _, h, hK => hK _ _ (.refl _ _) h
  | so :: l, K, K', fr, S, hl, h, hK => by
    simp only [List.all_cons, Bool.and_eq_true] at hl
    have hrest : ∀ v fr' S', (∀ t, t ≠ G → fr' t = fr t) → wpOps E l K (updO fr' so.d v) S' → wpOps E l K' (updO fr' so.d v) S' := fun v fr' S' h1 h2 => wpOps_keep hl.2 h2 fun fr'' S'' h3 h4 => hK _ _ ((Ag.put hl.1 h1).trans h3) h4
    change stepOp E so (wpOps E l K) fr S at h
    change stepOp E so (wpOps E l K') fr S
    unfold stepOp at h ⊢
    cases hg : so.g with
    | none =>
      simp only [hg] at h ⊢
      exact stepE_keep h hrest
    | some p =>
      obtain ⟨t, want⟩ := p
      simp only [hg] at h ⊢
      split at h
      · rename_i b e
        (try simp only [e])
        exact ⟨fun e => stepE_keep (h.1 e) hrest, fun e => hrest _ _ _ (fun _ _ => rfl) (h.2 e)⟩
      · rename_i e
        (try simp only [e])
        exact hrest _ _ _ (fun _ _ => rfl) h
      · exact h.elim
theorem wpD_keep {np : Bool} {W : Nat → Bool} : ∀ {l : List SOp} {K K' : Fr → St → Prop} {fr : Fr} {S : St}, (l.all fun so => dIn W so.d) = true → wpD E np l K fr S → (∀ fr' S', Ag W fr fr' → K fr' S' → K' fr' S') → wpD E np l K' fr S
  | [], K, K', fr, S, _, h, hK => hK _ _ (.refl _ _) h
  | so :: l, K, K', fr, S, hl, h, hK => by
    simp only [List.all_cons, Bool.and_eq_true] at hl
    have hrest : ∀ v S', wpD E np l K (updO fr so.d v) S' → wpD E np l K' (updO fr so.d v) S' := fun v S' h2 => wpD_keep hl.2 h2 fun fr'' S'' h3 h4 => hK _ _ ((Ag.put hl.1 fun _ _ => rfl).trans h3) h4
    change stepD E np so (wpD E np l K) fr S at h
    change stepD E np so (wpD E np l K') fr S
    unfold stepD at h ⊢
    cases hg : so.g with
    | none =>
      simp only [hg] at h ⊢
      exact ⟨h.1, stepK_mono h.2 hrest⟩
    | some p =>
      obtain ⟨t, want⟩ := p
      simp only [hg] at h ⊢
      split at h
      · rename_i b e
        (try simp only [e])
        exact ⟨fun e => ⟨(h.1 e).1, stepK_mono (h.1 e).2 hrest⟩, fun e => hrest _ _ (h.2 e)⟩
      · rename_i e
        (try simp only [e])
        exact hrest _ _ h
      · exact h.elim

theorem wpS_keep : ∀ {sc : SC} {W : Nat → Bool} {Q Q' : Ex → Fr → St → Prop} {fr : Fr} {S : St}, wrIn W sc = true → wpS E sc Q fr S → (∀ e fr' S', Ag W fr fr' → Q e fr' S' → Q' e fr' S') → wpS E sc Q' fr S := by
  intro sc
  induction sc with
  | skip => intro W Q Q' fr S _ h hQ; exact hQ _ _ _ (.refl _ _) h
  | exit i => intro W Q Q' fr S _ h hQ; exact hQ _ _ _ (.refl _ _) h
  | ret => intro W Q Q' fr S _ h hQ; exact hQ _ _ _ (.refl _ _) h
  | ops l => intro W Q Q' fr S hw h hQ; exact wpOps_keep hw h fun _ _ => hQ _ _ _
  | draw np dj l => intro W Q Q' fr S hw h hQ; exact ⟨h.1, wpD_keep hw h.2 fun _ _ => hQ _ _ _⟩
  | seq a b iha ihb =>
    intro W Q Q' fr S hw h hQ
    simp only [wrIn, Bool.and_eq_true] at hw
    refine iha hw.1 h fun e fr' S' h1 h2 => ?_
    cases e with
    | normal => exact ihb hw.2 h2 fun e fr'' S'' h3 h4 => hQ _ _ _ (h1.trans h3) h4
    | _ => exact hQ _ _ _ h1 h2
  | ite c a b iha ihb =>
    intro W Q Q' fr S hw h hQ
    simp only [wrIn, Bool.and_eq_true] at hw
    simp only [wpS] at h ⊢
    split at h
    · rename_i t e
      (try simp only [e])
      exact ⟨fun e => iha hw.1 (h.1 e) hQ, fun e => ihb hw.2 (h.2 e) hQ⟩
    · exact h.elim
  | block i b ih =>
    intro W Q Q' fr S hw h hQ
    refine ih hw h fun e fr' S' h1 h2 => ?_
    cases e with
    | exit j =>
      simp only at h2 ⊢
      split
      · rename_i e; rw [if_pos e] at h2; exact hQ _ _ _ h1 h2
      · rename_i e; rw [if_neg e] at h2; exact hQ _ _ _ h1 h2
    | _ => exact hQ _ _ _ h1 h2
  | loop b ih =>
    intro W Q Q' fr S hw h hQ
    obtain ⟨I, m, h1, h2⟩ := h
    refine ⟨fun fr' S' => I fr' S' ∧ Ag W fr fr', m, ⟨h1, .refl _ _⟩, fun fr1 S1 h3 => ih hw (h2 fr1 S1 h3.1) fun e fr' S' h4 h5 => ?_⟩
    cases e with
    | normal => exact ⟨⟨h5.1, h3.2.trans h4⟩, h5.2⟩
    | _ => exact hQ _ _ _ (h3.2.trans h4) h5
  | rng x ps a b iha ihb =>
    intro W Q Q' fr S hw h hQ
    simp only [wpS] at h ⊢
    split at h
    · rename_i g caps e
      (try simp only [e])
      obtain ⟨ids, caps0, S0, L, J, h1, h2, h3, h4, h5, h6, h7, h8⟩ := h
      refine ⟨ids, caps0, S0, L, J, h1, h2, h3, h4, h5, h6, fun S' hJ => hQ _ _ _ (.refl _ _) (h7 S' hJ), fun k S' hJ hk => iha (W := fun _ => true) (wrIn_true _) (h8 k S' hJ hk) fun e fr1 S1 _ h9 => ?_⟩
      cases e with
      | normal =>
        refine ihb (W := fun _ => true) (wrIn_true _) h9 fun e' fr2 S2 _ h10 => ?_
        cases e' with
        | normal => exact h10
        | _ => exact hQ _ _ _ (.refl _ _) h10
      | _ => exact h9
    · exact h.elim

theorem wpS_mono {sc : SC} {Q Q' : Ex → Fr → St → Prop} {fr : Fr} {S : St} (h : wpS E sc Q fr S) (hQ : ∀ e fr' S', Q e fr' S' → Q' e fr' S') : wpS E sc Q' fr S :=
  wpS_keep (wrIn_true _) h fun e fr' S' _ => hQ e fr' S'

/-! ### loops -/
def setL (fr : Fr) : List Nat → List AV → Fr
  | t :: ts, v :: vs => upd (setL fr ts vs) t v
  | _, _ => fr
/-- What may have turned is unknown. -/
def hav (W : Nat → Bool) (g fr : Fr) : Fr := fun t => bif W t then g t else bif t == G then g t else fr t
theorem setL_same {W : Nat → Bool} {fr fr' : Fr} (h : Ag W fr fr') : ∀ {T : List Nat} {vs : List AV}, T.map fr' = vs → setL (hav W fr' fr) T vs = fr'
  | [], [], _ => by
    funext t
    simp only [setL, hav]
    cases hW : W t
    · by_cases e : t = G
      · subst e; simp
      · simp [h t hW e]
    · rfl
  | [], _ :: _, e => by cases e
  | t :: T, vs, e => by
    subst e
    simp only [List.map_cons, setL]
    rw [setL_same h (T := T) rfl]
    funext u
    simp only [upd]
    split
    · rename_i e; rw [e]
    · rfl

theorem exists_min {α : Type} (p : α → Prop) (m : α → Nat) (h : ∃ x, p x) : ∃ x, p x ∧ ∀ y, p y → m x ≤ m y := by
  obtain ⟨x, hx⟩ := h
  induction hk : m x using Nat.strongRecOn generalizing x with
  | _ k ih =>
    by_cases h : ∃ y, p y ∧ m y < k
    · obtain ⟨y, h1, h2⟩ := h; exact ih _ h2 y h1 rfl
    · exact ⟨x, hx, fun y hy => Nat.le_of_not_lt fun hlt => h ⟨y, hy, by omega⟩⟩

/-- A loop: at its head the slots T hold vs x, the store is ss x, for some x with p x; m goes down. -/
theorem S_loopT {α : Type} (W : Nat → Bool) (T : List Nat) (vs : α → List AV) (ss : α → St) (p : α → Prop) (m : α → Nat) (x0 : α) {a : SC} {Q : Ex → Fr → St → Prop} (hW : wrIn W a = true) (hp : p x0) (hv : T.map fr = vs x0) (hS : S = ss x0)
    (h : ∀ x g, p x → wpS E a (fun e fr' S' => match e with | .normal => ∃ y, p y ∧ T.map fr' = vs y ∧ S' = ss y ∧ m y < m x | e => Q e fr' S') (setL (hav W g fr) T (vs x)) (ss x)) : wpS E (.loop a) Q fr S := by
  have hmin : ∀ (fr' : Fr) (S' : St), ∃ k, ∀ x, (p x ∧ T.map fr' = vs x ∧ S' = ss x) → (∃ z, (p z ∧ T.map fr' = vs z ∧ S' = ss z) ∧ m z = k) ∧ k ≤ m x := fun fr' S' => by
    by_cases he : ∃ x, p x ∧ T.map fr' = vs x ∧ S' = ss x
    · obtain ⟨z, h1, h2⟩ := exists_min _ m he
      exact ⟨m z, fun x hx => ⟨⟨z, h1, rfl⟩, h2 x hx⟩⟩
    · exact ⟨0, fun x hx => absurd ⟨x, hx⟩ he⟩
  refine ⟨fun fr' S' => (∃ x, p x ∧ T.map fr' = vs x ∧ S' = ss x) ∧ Ag W fr fr', fun fr' S' => Classical.choose (hmin fr' S'), ⟨⟨x0, hp, hv, hS⟩, .refl _ _⟩, ?_⟩
  rintro fr' S' ⟨⟨x, hx⟩, hag⟩
  obtain ⟨⟨z, ⟨h1, h2, h3⟩, h4⟩, _⟩ := Classical.choose_spec (hmin fr' S') x hx
  have h5 := h z fr' h1
  rw [setL_same hag h2, ← h3] at h5
  refine wpS_keep hW h5 fun e fr2 S2 h6 h7 => ?_
  cases e with
  | normal =>
    obtain ⟨y, k1, k2, k3, k4⟩ := h7
    refine ⟨⟨⟨y, k1, k2, k3⟩, hag.trans h6⟩, ?_⟩
    show Classical.choose (hmin fr2 S2) < Classical.choose (hmin fr' S')
    have := (Classical.choose_spec (hmin fr2 S2) y ⟨k1, k2, k3⟩).2
    omega
  | _ => exact h7

end
end Go.Abs
/- Contracts of all functions at once; steps, one lemma for each kind of instruction. -/
namespace Go.Abs

def Ent (P : Program) (f : Nat) : Prop := ∃ fn c, P.funcs[f]? = some fn ∧ (fn.name == "runtime.NumGoroutine") = false ∧ fn.body = some c
/-- A function's contract; an iterator's. -/
def CR (P : Program) (f : Nat) (as : List AV) (S0 : St) (r : AV) (S1 : St) : Prop := CallR P f as S0 r S1 ∧ Ent P f
def IR (P : Program) (g : Nat) (caps0 : List AV) (S0 : St) (L : List (List D)) : Prop := IterR P g caps0 S0 L ∧ Ent P g
/-- All that is true. -/
def Env.all (P : Program) : Env := ⟨CR P, IR P⟩
theorem eok_all (P : Program) : EOK P (Env.all P) := ⟨fun _ _ _ _ _ h => h.1, fun _ _ _ _ _ h => h.2⟩
theorem iok_all (P : Program) : IOK P (Env.all P) := ⟨fun _ _ _ _ h => h.1, fun _ _ _ _ h => h.2⟩

/-- A function's text. -/
def fnChk (P : Program) (f : Nat) : Option (Nat × SC × List RV) :=
  match P.funcs[f]? with
  | some fn => if fn.name == "runtime.NumGoroutine" then none else if fn.ntmps ≤ G then
      match fn.body with
      | some c => match strip P fn.ntmps c, trRes P fn.results.toList with
        | some sc, some rvs => some (fn.ntmps, sc, rvs)
        | _, _ => none
      | none => none
    else none
  | none => none
theorem fnChk_ok {P : Program} {f N : Nat} {sc : SC} {rvs : List RV} (h : fnChk P f = some (N, sc, rvs)) :
    ∃ fn c, P.funcs[f]? = some fn ∧ (fn.name == "runtime.NumGoroutine") = false ∧ fn.body = some c ∧ fn.ntmps = N ∧ N ≤ G ∧ strip P fn.ntmps c = some sc ∧ trRes P fn.results.toList = some rvs := by
  unfold fnChk at h
  split at h
  · rename_i fn h1
    split at h
    · cases h
    · rename_i h2
      split at h
      · rename_i h3
        split at h
        · rename_i c h4
          split at h
          · rename_i sc' rvs' h5 h6
            simp only [Option.some.injEq, Prod.mk.injEq] at h
            obtain ⟨e1, e2, e3⟩ := h
            subst e1; subst e2; subst e3
            exact ⟨fn, c, h1, by simpa using h2, h4, rfl, h3, h5, h6⟩
          · cases h
        · cases h
      · cases h
  · cases h
theorem fnChk_ent {P : Program} {f N : Nat} {sc : SC} {rvs : List RV} (h : fnChk P f = some (N, sc, rvs)) : Ent P f := by
  obtain ⟨fn, c, h1, h2, h3, _⟩ := fnChk_ok h; exact ⟨fn, c, h1, h2, h3⟩
theorem fn_cr {P : Program} {f N : Nat} {sc : SC} {rvs : List RV} {as : List AV} {S0 S1 : St} {r : AV} (h : fnChk P f = some (N, sc, rvs)) (hlen : as.length ≤ N) (hS0 : S0.all AO.isBox = true)
    (hw : wpS (Env.all P) sc (Ends S0.length rvs r S1) (fr0 as) S0) : CR P f as S0 r S1 := by
  obtain ⟨fn, c, h1, h2, h3, rfl, h4, h5, h6⟩ := fnChk_ok h
  exact ⟨fn_ok (eok_all P) (rng_ok (iok_all P)) h1 h3 h5 h4 h6 hlen hS0 hw, fn, c, h1, h2, h3⟩
theorem trRes_nil {P : Program} {l : List ResultVar} (h : trRes P l = some []) : l = [] := by
  cases l with
  | nil => rfl
  | cons r l =>
    cases r with
    | tmp t =>
      simp only [trRes] at h
      obtain ⟨u, _, h⟩ := Option.map_eq_some_iff.1 h; cases h
    | cell a T =>
      simp only [trRes] at h
      split at h <;> cases h
theorem it_ir {P : Program} {g N : Nat} {sc : SC} {caps0 : List AV} {S0 : St} {L : List (List D)} (h : fnChk P g = some (N, sc, [])) (hlen : caps0.length + 1 ≤ N) (hcap : ∀ j off, AV.ptr j off ∈ caps0 → j < S0.length)
    (hw : ∀ l, wpS (Env.all P) sc (fun e fr _ => (e = .normal ∨ e = .ret) ∧ fr G = .gh l []) (upd (fr0 (.yld l :: caps0)) G (.gh l L)) S0) : IR P g caps0 S0 L := by
  obtain ⟨fn, c, h1, h2, h3, rfl, h4, h5, h6⟩ := fnChk_ok h
  exact ⟨iter_ok (eok_all P) (rng_ok (iok_all P)) h1 h3 h5 h4 (trRes_nil h6) hlen hcap hw, fn, c, h1, h2, h3⟩

section
variable {P : Program} {E : Env} {a b : SC} {Q : Ex → Fr → St → Prop} {fr : Fr} {S : St} {K : AV → St → Prop} {x y z : Opd}

/-- The activation ends. -/
theorem ends_ret {k : Nat} {rvs : List RV} {r : AV} {S1 : St} (h : ∃ r0 keep, resV fr S rvs = some r0 ∧ r0.okr = true ∧ Norm k keep r0 S r S1) : Ends k rvs r S1 .ret fr S := ⟨.inr rfl, h⟩
/-- It ends with data, and keeps nothing. -/
theorem ends_d {rvs : List RV} {v : D} (h : resV fr S rvs = some (.d v)) : Ends 0 rvs (.d v) [] .ret fr S :=
  ⟨.inr rfl, .d v, [], h, rfl, .nil, by simp, rfl, rfl⟩
theorem ends_2 {rvs : List RV} {u v : D} (h : resV fr S rvs = some (.tup [.d u, .d v])) : Ends 0 rvs (.tup [.d u, .d v]) [] .ret fr S :=
  ⟨.inr rfl, _, [], h, rfl, .nil, by simp, rfl, rfl⟩
theorem ends_3 {rvs : List RV} {t u v : D} (h : resV fr S rvs = some (.tup [.d t, .d u, .d v])) : Ends 0 rvs (.tup [.d t, .d u, .d v]) [] .ret fr S :=
  ⟨.inr rfl, _, [], h, rfl, .nil, by simp, rfl, rfl⟩

/-- Paths meet. -/
theorem S_cut {α : Type} (W : Nat → Bool) (T : List Nat) (vs : α → List AV) (ss : α → St) (p : α → Prop) (hW : wrIn W a = true)
    (h1 : wpS E a (fun e fr' S' => match e with | .normal => ∃ x, p x ∧ T.map fr' = vs x ∧ S' = ss x | e => Q e fr' S') fr S) (h2 : ∀ x g, p x → wpS E b Q (setL (hav W g fr) T (vs x)) (ss x)) : wpS E (.seq a b) Q fr S := by
  refine S_seq (wpS_keep hW h1 fun e fr' S' hag hq => ?_)
  cases e with
  | normal =>
    obtain ⟨x, k1, k2, k3⟩ := hq
    have := h2 x fr' k1
    rw [setL_same hag k2, ← k3] at this
    exact this
  | _ => exact hq
theorem S_rng {ps : List Nat} {g : Nat} {caps : List AV} (ids : List Nat) (caps0 : List AV) (S0 : St) (L : List (List D)) (J : Nat → St → Prop) (e : ld fr x = .fn g caps) (hi : E.iter g caps0 S0 L) (hl : ∀ xs ∈ L, xs.length = ps.length)
    (hc : caps = caps0.map (sh0 ids 0)) (hn : ids.Nodup) (hg : getAll S ids = some S0) (h0 : J 0 (kill ids S)) (hd : ∀ S, J L.length S → Q .normal fr S)
    (hr : ∀ k S, J k S → k < L.length → wpS E a (fun e fr1 S1 => match e with | .normal => wpS E b (fun e' _ S2 => match e' with | .normal => J (k + 1) S2 | e' => Q e' fr S2) fr1 S1 | _ => False) (upd (updL fr ps (L.getD k [])) G .undef) S) :
    wpS E (.rng x ps a b) Q fr S := by
  simp only [wpS, e]; exact ⟨ids, caps0, S0, L, J, hi, hl, hc, hn, hg, h0, hd, hr⟩

/-! ### drawn orders -/
section
variable {np : Bool} {os : List SOp} {d : Option Nat} {i : SI} {t : Nat} {K : Fr → St → Prop}
theorem D_nil (h : K fr S) : wpD E np [] K fr S := h
theorem D_step (hp : np = true → noPtr fr i) (h : stepK E fr S i fun v S' => wpD E np os K (updO fr d v) S') : wpD E np (⟨none, d, i⟩ :: os) K fr S := ⟨hp, h⟩
theorem DG_skip {w : Bool} (e : fr t = .skip) (h : wpD E np os K (updO fr d .skip) S) : wpD E np (⟨some (t, w), d, i⟩ :: os) K fr S := by
  show stepD E np _ (wpD E np os K) fr S
  simp only [stepD, e]; exact h
theorem DG_bool {w p : Bool} (e : fr t = .d (.bool p)) (h1 : p = w → wpD E np (⟨none, d, i⟩ :: os) K fr S) (h2 : p = !w → wpD E np os K (updO fr d .skip) S) : wpD E np (⟨some (t, w), d, i⟩ :: os) K fr S := by
  show stepD E np _ (wpD E np os K) fr S
  simp only [stepD, e]; exact ⟨h1, h2⟩
end

/-! ### instructions -/
theorem K_mov_d {v : D} (e : ld fr x = .d v) (h : K (.d v) S) : stepK E fr S (.mov x) K := by simp only [stepK, e]; exact h
theorem K_mov_ref {j g off n : Nat} (e : ld fr x = .ref j g off n) (h : K (.ref j g off n) S) : stepK E fr S (.mov x) K := by simp only [stepK, e]; exact h
theorem K_mov_ptr {j off : Nat} (e : ld fr x = .ptr j off) (h : K (.ptr j off) S) : stepK E fr S (.mov x) K := by simp only [stepK, e]; exact h
theorem K_mov_fn {f : Nat} {cs : List AV} (e : ld fr x = .fn f cs) (h : K (.fn f cs) S) : stepK E fr S (.mov x) K := by simp only [stepK, e]; exact h
theorem K_mov_agg {vs : List AV} (e : ld fr x = .agg vs) (h : K (.agg vs) S) : stepK E fr S (.mov x) K := by simp only [stepK, e]; exact h
theorem K_mov_tup {vs : List AV} (e : ld fr x = .tup vs) (h : K (.tup vs) S) : stepK E fr S (.mov x) K := by simp only [stepK, e]; exact h
theorem K_mov_yld {n : Nat} (e : ld fr x = .yld n) (h : K (.yld n) S) : stepK E fr S (.mov x) K := by simp only [stepK, e]; exact h
theorem K_mov_ep {j g k off : Nat} (e : ld fr x = .ep j g k off) (h : K (.ep j g k off) S) : stepK E fr S (.mov x) K := by simp only [stepK, e]; exact h
theorem K_pick {p : Bool} (e : ld fr x = .d (.bool p)) (h1 : p = true → K (ld fr y) S) (h2 : p = false → K (ld fr z) S) : stepK E fr S (.pick x y z) K := by simp only [stepK, e]; exact ⟨h1, h2⟩
theorem K_pick1 {p : Bool} {v : D} (e : ld fr x = .d (.bool p)) (hp : p = true) (ev : ld fr y = .d v) (h : K (.d v) S) : stepK E fr S (.pick x y z) K := K_pick e (fun _ => by rw [ev]; exact h) fun h => by rw [hp] at h; cases h
theorem K_pick0 {p : Bool} {v : D} (e : ld fr x = .d (.bool p)) (hp : p = false) (ev : ld fr z = .d v) (h : K (.d v) S) : stepK E fr S (.pick x y z) K := K_pick e (fun h => by rw [hp] at h; cases h) fun _ => by rw [ev]; exact h
theorem K_bin {op : BinOp} {p q v : D} (e : ld fr x = .d p) (e2 : ld fr y = .d q) (e3 : bin op p q = some v) (h : K (.d v) S) : stepK E fr S (.bin op x y) K := by simp only [stepK, e, e2, e3]; exact h
theorem wrap64 {n : Int} (h : -9223372036854775808 ≤ n ∧ n < 9223372036854775808) : IntKind.i64.wrap n = n := IntWalk.i64_in n (by omega)
theorem K_add {p q : Int} (e : ld fr x = .d (.int .i64 p)) (e2 : ld fr y = .d (.int .i64 q)) (hb : -9223372036854775808 ≤ p + q ∧ p + q < 9223372036854775808) (h : K (.d (.int .i64 (p + q))) S) : stepK E fr S (.bin .add x y) K :=
  K_bin e e2 rfl (by rw [wrap64 hb]; exact h)
theorem K_sub {p q : Int} (e : ld fr x = .d (.int .i64 p)) (e2 : ld fr y = .d (.int .i64 q)) (hb : -9223372036854775808 ≤ p - q ∧ p - q < 9223372036854775808) (h : K (.d (.int .i64 (p - q))) S) : stepK E fr S (.bin .sub x y) K :=
  K_bin e e2 rfl (by rw [wrap64 hb]; exact h)
theorem K_mul {p q : Int} (e : ld fr x = .d (.int .i64 p)) (e2 : ld fr y = .d (.int .i64 q)) (hb : -9223372036854775808 ≤ p * q ∧ p * q < 9223372036854775808) (h : K (.d (.int .i64 (p * q))) S) : stepK E fr S (.bin .mul x y) K :=
  K_bin e e2 rfl (by rw [wrap64 hb]; exact h)
theorem K_quo {k : IntKind} {p q : Int} (e : ld fr x = .d (.int k p)) (e2 : ld fr y = .d (.int k q)) (hq : q ≠ 0) (h : K (.d (.int k (k.wrap (p.tdiv q)))) S) : stepK E fr S (.bin .quo x y) K :=
  K_bin e e2 (by simp [bin, binI, hq]) h
/-- Division of numbers from 0 on. -/
theorem K_quo0 {p q : Int} (e : ld fr x = .d (.int .i64 p)) (e2 : ld fr y = .d (.int .i64 q)) (hp : 0 ≤ p ∧ p < 9223372036854775808) (hq : 0 < q) (h : K (.d (.int .i64 (p / q))) S) : stepK E fr S (.bin .quo x y) K := by
  have h1 : p.tdiv q = p / q := Int.tdiv_eq_ediv_of_nonneg hp.1
  have h2 : p / q ≤ p := Int.ediv_le_self _ hp.1
  have h3 : 0 ≤ p / q := Int.ediv_nonneg hp.1 (by omega)
  refine K_quo e e2 (by omega) ?_
  rw [h1, wrap64 (by omega)]; exact h
theorem K_rem {k : IntKind} {p q : Int} (e : ld fr x = .d (.int k p)) (e2 : ld fr y = .d (.int k q)) (hq : q ≠ 0) (h : K (.d (.int k (p.tmod q))) S) : stepK E fr S (.bin .rem x y) K :=
  K_bin e e2 (by simp [bin, binI, hq]) h
theorem K_rem0 {k : IntKind} {p q : Int} (e : ld fr x = .d (.int k p)) (e2 : ld fr y = .d (.int k q)) (hp : 0 ≤ p) (hq : 0 < q) (h : K (.d (.int k (p % q))) S) : stepK E fr S (.bin .rem x y) K :=
  K_rem e e2 (by omega) (by rw [Int.tmod_eq_emod_of_nonneg hp]; exact h)
theorem K_shr {k k' : IntKind} {p q : Int} (e : ld fr x = .d (.int k p)) (e2 : ld fr y = .d (.int k' q)) (hq : 0 ≤ q) (h : K (.d (.int k (p.fdiv (2 ^ min q.toNat k.bits)))) S) : stepK E fr S (.bin .shr x y) K :=
  K_bin e e2 (by simp [bin, ishift, Int.not_lt.2 hq]) h
theorem K_shl {k k' : IntKind} {p q : Int} (e : ld fr x = .d (.int k p)) (e2 : ld fr y = .d (.int k' q)) (hq : 0 ≤ q) (h : K (.d (.int k (k.wrap (p * 2 ^ min q.toNat k.bits)))) S) : stepK E fr S (.bin .shl x y) K :=
  K_bin e e2 (by simp [bin, ishift, Int.not_lt.2 hq]) h
/-- Strings put together. -/
theorem K_cat {p q : List UInt8} (e : ld fr x = .d (.str p)) (e2 : ld fr y = .d (.str q)) (hb : p.length + q.length ≤ 9223372036854775807) (h : K (.d (.str (p ++ q))) S) : stepK E fr S (.bin .add x y) K :=
  K_bin e e2 (by simp [bin, hb]) h
theorem K_eqA {ng : Bool} {ks : List Nat} {p q : List D} {v : Bool} (e : ld fr x = .d (.agg p)) (e2 : ld fr y = .d (.agg q)) (e3 : deqL ks p q = some v) (h : K (.d (.bool (if ng then !v else v))) S) : stepK E fr S (.eqA ng ks x y) K := by simp only [stepK, e, e2, e3]; exact h
theorem K_eqB {ng : Bool} {p q : Bool} (e : ld fr x = .d (.bool p)) (e2 : ld fr y = .d (.bool q)) (h : K (.d (.bool (if ng then !(p == q) else p == q))) S) : stepK E fr S (.eqB ng x y) K := by simp only [stepK, e, e2]; exact h
theorem K_not {p : Bool} (e : ld fr x = .d (.bool p)) (h : K (.d (.bool (!p))) S) : stepK E fr S (.not x) K := by simp only [stepK, e]; exact h
theorem K_neg {k : IntKind} {n : Int} (e : ld fr x = .d (.int k n)) (h : K (.d (.int k (k.wrap (0 - n)))) S) : stepK E fr S (.neg x) K := by simp only [stepK, e]; exact h
theorem K_cpl {k : IntKind} {n : Int} (e : ld fr x = .d (.int k n)) (h : K (.d (.int k (ibit .xor k (if k.signed then -1 else k.max) n))) S) : stepK E fr S (.cpl x) K := by simp only [stepK, e]; exact h
theorem K_idxP {n es j off : Nat} {k : IntKind} {m : Int} (e : ld fr x = .ptr j off) (e2 : ld fr y = .d (.int k m)) (hb : 0 ≤ m ∧ m < (n : Int)) (h : K (.ptr j (off + m.toNat * es)) S) : stepK E fr S (.idxP n es x y) K := by simp only [stepK, e, e2]; exact ⟨hb, h⟩
theorem K_lenS {s : List UInt8} (e : ld fr x = .d (.str s)) (h : K (.d (.int .i64 s.length)) S) : stepK E fr S (.lenS x) K := by simp only [stepK, e]; exact h
theorem K_len_d {es : Nat} {l : List D} (e : ld fr x = .d (.sl es l)) (h : K (.d (.int .i64 l.length)) S) : stepK E fr S (.len x) K := by simp only [stepK, e]; exact h
theorem K_len_nil (e : ld fr x = .d .nilsl) (h : K (.d (.int .i64 0)) S) : stepK E fr S (.len x) K := by simp only [stepK, e]; exact h
theorem K_len_ref {j g off n es : Nat} {l : List D} (e : ld fr x = .ref j g off n) (e2 : rd S j = some (g, es, l)) (h : K (.d (.int .i64 n)) S) : stepK E fr S (.len x) K := by simp only [stepK, e, e2]; exact ⟨trivial, h⟩
theorem K_conv {k k' : IntKind} {n : Int} (e : ld fr x = .d (.int k' n)) (h : K (.d (.int k (k.wrap n))) S) : stepK E fr S (.conv k x) K := by simp only [stepK, e]; exact h
theorem K_conv64 {k' : IntKind} {n : Int} (e : ld fr x = .d (.int k' n)) (hb : -9223372036854775808 ≤ n ∧ n < 9223372036854775808) (h : K (.d (.int .i64 n)) S) : stepK E fr S (.conv .i64 x) K := K_conv e (by rw [wrap64 hb]; exact h)
theorem K_bytes {s : List UInt8} (e : ld fr x = .d (.str s)) (h : K (.ref S.length 0 0 s.length) (S ++ [.arr 0 1 (s.map byteD)])) : stepK E fr S (.bytes x) K := by simp only [stepK, e]; exact h
theorem K_ofBytes {es : Nat} {l : List D} (s : List UInt8) (e : window S (ld fr x) = some (es, l)) (he : es = 1) (hs : l = s.map byteD) (h : K (.d (.str s)) S) : stepK E fr S (.ofBytes x) K := by simp only [stepK, e]; exact ⟨he, s, hs, h⟩
theorem K_ofBytes0 (e : ld fr x = .d .nilsl) (h : K (.d (.str [])) S) : stepK E fr S (.ofBytes x) K := by simp only [stepK, e, window]; exact ⟨trivial, h⟩
theorem K_idxA_d {es : Nat} {l : List D} {k : IntKind} {n : Int} (e : ld fr x = .d (.sl es l)) (e2 : ld fr y = .d (.int k n)) (hb : 0 ≤ n ∧ n < (l.length : Int)) (h : K (.fp (l.getD n.toNat .nilp).cells) S) : stepK E fr S (.idxA es x y) K := by simp only [stepK, e, e2]; exact ⟨trivial, hb, h⟩
theorem K_idxA_ref {j g off m es : Nat} {l : List D} {k : IntKind} {n : Int} (e : ld fr x = .ref j g off m) (e2 : ld fr y = .d (.int k n)) (e3 : rd S j = some (g, es, l)) (hb : 0 ≤ n ∧ n < (m : Int)) (h : K (.ep j g (off + n.toNat) 0) S) : stepK E fr S (.idxA es x y) K := by simp only [stepK, e, e2, e3]; exact ⟨⟨trivial, trivial⟩, hb, h⟩
theorem K_idxS {s : List UInt8} {k : IntKind} {n : Int} (e : ld fr x = .d (.str s)) (e2 : ld fr y = .d (.int k n)) (hb : 0 ≤ n ∧ n < (s.length : Int)) (h : K (.d (byteD (s.getD n.toNat 0))) S) : stepK E fr S (.idxS x y) K := by simp only [stepK, e, e2]; exact ⟨hb, h⟩
theorem K_idxG_d {m : Nat} {l : List D} {k : IntKind} {n : Int} (e : ld fr x = .d (.agg l)) (e2 : ld fr y = .d (.int k n)) (hm : l.length = m) (hb : 0 ≤ n ∧ n < (m : Int)) (h : K (.d (l.getD n.toNat .nilp)) S) : stepK E fr S (.idxG m x y) K := by simp only [stepK, e, e2]; exact ⟨hm, hb, h⟩
theorem K_idxG_a {m : Nat} {l : List AV} {k : IntKind} {n : Int} (e : ld fr x = .agg l) (e2 : ld fr y = .d (.int k n)) (hm : l.length = m) (hb : 0 ≤ n ∧ n < (m : Int)) (h : K (l.getD n.toNat .undef) S) : stepK E fr S (.idxG m x y) K := by simp only [stepK, e, e2]; exact ⟨hm, hb, h⟩
theorem K_load1_ep {j g k off es : Nat} {l : List D} {v : D} (e : ld fr x = .ep j g k off) (e2 : rd S j = some (g, es, l)) (hk : k < l.length) (hv : (l.getD k .nilp).cells[off]? = some v) (h : K (.d v) S) : stepK E fr S (.load1 x) K := by simp only [stepK, e, e2, hv]; exact ⟨⟨trivial, hk⟩, h⟩
theorem K_load1_ptr {j off : Nat} {l : List AV} {v : AV} (e : ld fr x = .ptr j off) (e2 : S[j]? = some (.box l)) (hv : l[off]? = some v) (h : K v S) : stepK E fr S (.load1 x) K := by simp only [stepK, e, e2, hv]; exact h
theorem K_load1_fp {v : D} {l : List D} (e : ld fr x = .fp (v :: l)) (h : K (.d v) S) : stepK E fr S (.load1 x) K := by
  simp only [stepK, e]; cases l <;> exact h
theorem K_loadA_ptr {j off n : Nat} {l : List AV} (e : ld fr x = .ptr j off) (e2 : S[j]? = some (.box l)) (hn : off + n ≤ l.length) (h : K (mkAgg ((l.drop off).take n)) S) : stepK E fr S (.loadA n x) K := by simp only [stepK, e, e2]; exact ⟨hn, h⟩
theorem K_loadA_fp {n : Nat} {l : List D} (e : ld fr x = .fp l) (hn : n ≤ l.length) (h : K (.d (.agg (l.take n))) S) : stepK E fr S (.loadA n x) K := by simp only [stepK, e]; exact ⟨hn, h⟩
theorem K_loadA_ep {j g k off es n : Nat} {l : List D} (e : ld fr x = .ep j g k off) (e2 : rd S j = some (g, es, l)) (hk : k < l.length ∧ off + n ≤ (l.getD k .nilp).cells.length) (h : K (.d (.agg (((l.getD k .nilp).cells.drop off).take n))) S) : stepK E fr S (.loadA n x) K := by simp only [stepK, e, e2]; exact ⟨⟨trivial, hk.1, hk.2⟩, h⟩
theorem K_store1_ptr {j off : Nat} {l : List AV} {v : AV} (e : ld fr x = .ptr j off) (ev : ld fr y = v) (e2 : S[j]? = some (.box l)) (ho : off < l.length) (hc : v.okc = true) (hc2 : v.cells = [v]) (h : K .undef (S.set j (.box (l.set off v)))) : stepK E fr S (.store1 x y) K := by
  subst ev; simp only [stepK, e, e2]; exact ⟨ho, hc, hc2, h⟩
theorem K_store1_ep {j g k off es : Nat} {l : List D} {v : D} (e : ld fr x = .ep j g k off) (e2 : S[j]? = some (.arr g es l)) (ev : ld fr y = .d v) (hk : k < l.length) (ho : off < (l.getD k .nilp).cells.length) (hv : v.cells = [v])
    (h : K .undef (S.set j (.arr g es (l.set k (match l.getD k .nilp with | .agg cs => .agg (cs.set off v) | _ => v))))) : stepK E fr S (.store1 x y) K := by simp only [stepK, e, e2, ev]; exact ⟨⟨trivial, hk, ho, hv⟩, h⟩
theorem K_storeA_ptr {j off n : Nat} {l : List AV} {v : AV} (e : ld fr x = .ptr j off) (ev : ld fr y = v) (e2 : S[j]? = some (.box l)) (ho : off + n ≤ l.length) (hc : v.okc = true) (hc2 : v.cells.length = n) (h : K .undef (S.set j (.box (splice l off v.cells)))) : stepK E fr S (.storeA n x y) K := by
  subst ev; simp only [stepK, e, e2]; exact ⟨⟨ho, hc, hc2⟩, h⟩
theorem K_alloc {zs : List D} (h : K (.ptr S.length 0) (S ++ [.box (zs.map .d)])) : stepK E fr S (.alloc zs) K := h
theorem K_box {n : Nat} {v : AV} (ev : ld fr x = v) (h0 : v.okc = true ∧ v.cells.length = n) (h : K (.ptr S.length 0) (S ++ [.box v.cells])) : stepK E fr S (.box n x) K := by subst ev; exact ⟨h0, h⟩
theorem K_build {zs : List D} {ps : List (Nat × Nat × Opd)} {l : List AV} (e : fillA (zs.map .d) (ps.map fun (o, n, x) => (o, n, ld fr x)) = some l) (h : K (mkAgg l) S) : stepK E fr S (.build zs ps) K := by simp only [stepK, e]; exact h
theorem K_bslice {es n : Nat} {zs : List D} {ps : List (Nat × Opd)} {l : List D} (e : fillE es (List.replicate n (if es = 1 then zs.getD 0 .nilp else .agg zs)) (ps.map fun (o, x) => (o, ld fr x)) = some l) (h : K (.ref S.length 0 0 n) (S ++ [.arr 0 es l])) : stepK E fr S (.bslice es n zs ps) K := by simp only [stepK, e]; exact h
theorem K_fldA_ptr {j off f : Nat} (e : ld fr x = .ptr j off) (h : K (.ptr j (off + f)) S) : stepK E fr S (.fldA f x) K := by simp only [stepK, e]; exact h
theorem K_fldA_fp {f : Nat} {l : List D} (e : ld fr x = .fp l) (h : K (.fp (l.drop f)) S) : stepK E fr S (.fldA f x) K := by simp only [stepK, e]; exact h
theorem K_fldA_ep {j g k off f es : Nat} {l : List D} (e : ld fr x = .ep j g k off) (e2 : rd S j = some (g, es, l)) (h : K (.ep j g k (off + f)) S) : stepK E fr S (.fldA f x) K := by simp only [stepK, e, e2]; exact ⟨trivial, h⟩
/-- The bounds of a slice expression. -/
theorem b_none {n c p q : Nat} {K : Nat → Nat → Prop} (hp : 0 = p) (hq : n = q) (h : K p q) : boundsOK none none n c K := by subst hp; subst hq; exact h
theorem b_lo {n c p q : Nat} {k : IntKind} {i : Int} {K : Nat → Nat → Prop} (hi : 0 ≤ i ∧ i ≤ (n : Int)) (hp : i.toNat = p) (hq : n = q) (h : K p q) : boundsOK (some (.d (.int k i))) none n c K := by subst hp; subst hq; exact ⟨hi, h⟩
theorem b_hi {n c p q : Nat} {k : IntKind} {i : Int} {K : Nat → Nat → Prop} (hi : 0 ≤ i ∧ i ≤ (c : Int)) (hp : 0 = p) (hq : i.toNat = q) (h : K p q) : boundsOK none (some (.d (.int k i))) n c K := by subst hp; subst hq; exact ⟨hi, h⟩
theorem b_2 {n c p q : Nat} {k k' : IntKind} {i j : Int} {K : Nat → Nat → Prop} (hj : 0 ≤ j ∧ j ≤ (c : Int)) (hi : 0 ≤ i ∧ i ≤ j) (hp : i.toNat = p) (hq : j.toNat = q) (h : K p q) : boundsOK (some (.d (.int k i))) (some (.d (.int k' j))) n c K := by subst hp; subst hq; exact ⟨hj, hi, h⟩
/-- s[:i], s[i:], s[i:j] of a string. -/
theorem K_slS_hi {s : List UInt8} {k : IntKind} {i : Int} (e : ld fr x = .d (.str s)) (e2 : ld fr y = .d (.int k i)) (hi : 0 ≤ i ∧ i ≤ (s.length : Int)) (h : K (.d (.str (s.take i.toNat))) S) : stepK E fr S (.slS x none (some y)) K := by
  simp only [stepK, e, Option.map_some, Option.map_none, e2]; exact ⟨hi, h⟩
theorem K_slS_lo {s : List UInt8} {k : IntKind} {i : Int} (e : ld fr x = .d (.str s)) (e2 : ld fr y = .d (.int k i)) (hi : 0 ≤ i ∧ i ≤ (s.length : Int)) (h : K (.d (.str (s.drop i.toNat))) S) : stepK E fr S (.slS x (some y) none) K := by
  simp only [stepK, e, Option.map_some, Option.map_none, e2]
  refine ⟨hi, ?_⟩
  show K (.d (.str ((s.drop i.toNat).take (s.length - i.toNat)))) S
  rw [List.take_of_length_le (by simp)]; exact h
theorem K_slS_2 {s : List UInt8} {k k' : IntKind} {i j : Int} (e : ld fr x = .d (.str s)) (e2 : ld fr y = .d (.int k i)) (e3 : ld fr z = .d (.int k' j)) (hj : 0 ≤ j ∧ j ≤ (s.length : Int)) (hi : 0 ≤ i ∧ i ≤ j) (h : K (.d (.str ((s.drop i.toNat).take (j.toNat - i.toNat)))) S) : stepK E fr S (.slS x (some y) (some z)) K := by
  simp only [stepK, e, Option.map_some, e2, e3]; exact ⟨hj, hi, h⟩
theorem K_slArr_hi {n j : Nat} {l : List AV} {ds : List D} {k : IntKind} {i : Int} (e : ld fr x = .ptr j 0) (e1 : S[j]? = some (.box l)) (e3 : allD l = some ds) (hl : l.length = n) (e2 : ld fr y = .d (.int k i)) (hi : 0 ≤ i ∧ i ≤ (n : Int)) (h : K (.d (.sl 1 (ds.take i.toNat))) (S.set j .dead)) : stepK E fr S (.slArr n x none (some y)) K := by
  simp only [stepK, e, e1, e3, Option.map_some, Option.map_none, e2]; exact ⟨hl, hi, h⟩
/-- Appending. -/
theorem app_new {es : Nat} {l : List D} {es' : Nat} {new : List D} (e2 : window S (ld fr y) = some (es, l)) (hne : ∀ s, ld fr y ≠ .d (.str s))
    (h : (match ld fr y with | .d .nilsl => some (es, []) | .d (.str s) => some (1, s.map byteD) | v => window S v) = some (es', new)) : es' = es ∧ new = l := by
  split at h
  · rename_i e4; rw [e4] at e2; simp [window] at e2
  · rename_i s e4; exact absurd e4 (hne s)
  · rw [e2] at h; injection h with h; injection h with h1 h2; exact ⟨h1.symm, h2.symm⟩
theorem app_some {es : Nat} {l : List D} (e2 : window S (ld fr y) = some (es, l)) (hne : ∀ s, ld fr y ≠ .d (.str s)) :
    (match ld fr y with | .d .nilsl => some (es, []) | .d (.str s) => some (1, s.map byteD) | v => window S v) = some (es, l) := by
  split
  · rename_i e4; rw [e4] at e2; simp [window] at e2
  · rename_i s e4; exact absurd e4 (hne s)
  · exact e2
theorem K_app_new {es bs : Nat} {l : List D} (e : ld fr x = .d .nilsl) (e2 : window S (ld fr y) = some (es, l)) (hne : ∀ s, ld fr y ≠ .d (.str s)) (hb : l.length * bs ≤ 140737488355328 ∧ 0 < l.length) (h : K (.ref S.length 0 0 l.length) (S ++ [.arr 0 es l])) : stepK E fr S (.app es bs x y) K := by
  unfold stepK
  simp only [e]
  split
  · rename_i es' new hm
    obtain ⟨rfl, rfl⟩ := app_new e2 hne hm
    exact ⟨rfl, hb, h⟩
  · rename_i hm
    exact absurd (hm.symm.trans (app_some e2 hne)) (by simp)
theorem K_app_ref {es bs i g n : Nat} {l ol : List D} (e : ld fr x = .ref i g 0 n) (e2 : window S (ld fr y) = some (es, l)) (hne : ∀ s, ld fr y ≠ .d (.str s)) (e3 : S[i]? = some (.arr g es ol)) (hn : n = ol.length) (hl : 0 < l.length) (hb : (n + l.length) * bs ≤ 140737488355328)
    (h : K (.ref i (g + 1) 0 (n + l.length)) (S.set i (.arr (g + 1) es (ol ++ l)))) : stepK E fr S (.app es bs x y) K := by
  unfold stepK
  simp only [e, e3]
  split
  · rename_i es' new hm
    obtain ⟨rfl, rfl⟩ := app_new e2 hne hm
    exact ⟨rfl, ⟨trivial, trivial, by omega, hb⟩, fun e => by subst e; simp at hl, fun _ => ⟨trivial, h⟩⟩
  · rename_i hm
    exact absurd (hm.symm.trans (app_some e2 hne)) (by simp)
theorem K_mn {k : IntKind} {p q : Int} (e : ld fr x = .d (.int k p)) (e2 : ld fr y = .d (.int k q)) (h : K (.d (.int k (if q < p then q else p))) S) : stepK E fr S (.mn x y) K := by simp only [stepK, e, e2]; exact ⟨trivial, h⟩
theorem K_ext {n : Nat} {vs : List AV} {v : AV} (e : ld fr x = .tup vs) (e2 : vs[n]? = some v) (h : K v S) : stepK E fr S (.ext n x) K := by
  have hl := (List.getElem?_eq_some_iff.1 e2).1
  simp only [stepK, e, List.getD_eq_getElem?_getD, e2, Option.getD_some]; exact ⟨hl, h⟩
theorem K_mkfn0 {f : Nat} (h : K (.d (.fn f)) S) : stepK E fr S (.mkfn f []) K := h
theorem K_mkfn {f : Nat} {o : Opd} {os : List Opd} {vs : List AV} (e : (o :: os).map (ld fr) = vs) (hc : (vs.all isCap) = true) (h : K (.fn f vs) S) : stepK E fr S (.mkfn f (o :: os)) K := by
  subst e
  refine ⟨fun v hv => List.all_eq_true.1 hc v hv, h⟩
theorem K_mks {es bs : Nat} {zs : List D} {p q : Int} (e : ld fr x = .d (.int .i64 p)) (e2 : ld fr y = .d (.int .i64 q)) (hb : 0 ≤ p ∧ p ≤ q ∧ q ≤ 140737488355328 ∧ q * (bs : Int) ≤ 140737488355328)
    (h : K (.ref S.length 0 0 p.toNat) (S ++ [.arr 0 es (List.replicate p.toNat (if es = 1 then zs.getD 0 .nilp else .agg zs))])) : stepK E fr S (.mks es bs zs x y) K := by simp only [stepK, e, e2]; exact ⟨hb, h⟩

/-! ### calls -/
theorem freezeL_d : ∀ (as : List D) (S : St), freezeL (as.map .d) S = S
  | [], S => rfl
  | x :: as, S => by simp only [List.map_cons, freezeL]; exact freezeL_d as S
theorem ptrIds_d : ∀ (as : List D) (acc : List Nat), ptrIds acc (as.map .d) = acc
  | [], acc => rfl
  | x :: as, acc => by simp only [List.map_cons, ptrIds]; exact ptrIds_d as acc
theorem lendAll_d : ∀ (ids : List Nat) (S : St) (as : List D), lendAll ids S (as.map .d) = some (as.map .d)
  | ids, S, [] => rfl
  | ids, S, x :: as => by simp only [List.map_cons, lendAll, lend, lendAll_d ids S as]
/-- A call with data alone. -/
theorem callK_d {f : Nat} {vs : List AV} {ys : List D} {r : AV} {S1 : St} (e : vs = ys.map .d) (hc : E.call f (ys.map .d) [] r S1) (hok : r.okr = true ∧ S1.all AO.okr = true)
    (h : K (sh2 [] S.length r) (S ++ S1.map (shO [] S.length))) : callK E f vs S K := by
  subst e
  simp only [callK, ptrIds_d, getAll, lendAll_d]
  refine ⟨r, S1, hc, hok, ?_⟩
  simpa [freezeL_d, putAll] using h
/-- A call with data and arrays that are lent; it hands back data that holds no place. -/
theorem callK_l {f : Nat} {vs ys : List AV} {r : AV} (e : ptrIds [] vs = []) (e2 : lendAll [] S vs = some ys) (hc : E.call f ys [] r []) (hok : r.okr = true) (hf : r.flat = true) (h : K (sh2 [] S.length r) S) : callK E f vs S K := by
  simp only [callK, e, getAll, e2]
  refine ⟨r, [], hc, ⟨hok, rfl⟩, ?_⟩
  simpa [hf, putAll] using h
theorem K_call_d {f : Nat} {args : List Opd} {ys : List D} {r : AV} {S1 : St} (e : args.map (ld fr) = ys.map .d) (hc : E.call f (ys.map .d) [] r S1) (hok : r.okr = true ∧ S1.all AO.okr = true)
    (h : K (sh2 [] S.length r) (S ++ S1.map (shO [] S.length))) : stepK E fr S (.call f args) K := callK_d e hc hok h
/-- .. that makes nothing. -/
theorem K_call_0 {f : Nat} {args : List Opd} {ys : List D} {r : AV} (e : args.map (ld fr) = ys.map .d) (hc : E.call f (ys.map .d) [] r []) (hok : r.okr = true) (h : K (sh2 [] S.length r) S) : stepK E fr S (.call f args) K :=
  callK_d e hc ⟨hok, rfl⟩ (by simpa using h)
theorem K_call_l {f : Nat} {args : List Opd} {ys : List AV} {r : AV} (e : ptrIds [] (args.map (ld fr)) = []) (e2 : lendAll [] S (args.map (ld fr)) = some ys) (hc : E.call f ys [] r []) (hok : r.okr = true) (hf : r.flat = true) (h : K (sh2 [] S.length r) S) : stepK E fr S (.call f args) K := callK_l e e2 hc hok hf h
theorem K_callV_d {f : Nat} {args : List Opd} {ys : List D} {r : AV} {S1 : St} (ef : ld fr x = .d (.fn f)) (e : args.map (ld fr) = ys.map .d) (hc : E.call f (ys.map .d) [] r S1) (hok : r.okr = true ∧ S1.all AO.okr = true)
    (h : K (sh2 [] S.length r) (S ++ S1.map (shO [] S.length))) : stepK E fr S (.callV x args) K := by simp only [stepK, ef]; exact callK_d e hc hok h
/-- A call of 'yield'. -/
theorem O_yield {l : Nat} {xs : List D} {rest : List (List D)} {args : List Opd} {os : List SOp} {d : Option Nat} {K : Fr → St → Prop} (e : ld fr x = .yld l) (e2 : fr G = .gh l (xs :: rest)) (e3 : args.map (ld fr) = xs.map .d)
    (h1 : wpOps E os K (updO (upd fr G (.gh l rest)) d (.d (.bool true))) S) (h2 : wpOps E os K (updO (upd fr G (.gh l [])) d (.d (.bool false))) S) : wpOps E (⟨none, d, .callV x args⟩ :: os) K fr S := by
  show stepOp E _ (wpOps E os K) fr S
  simp only [stepOp, stepE, e, e2]
  exact ⟨⟨trivial, e3⟩, h1, h2⟩

end
end Go.Abs
/- What is asked at the ends of pieces, under names of its own. -/
namespace Go.Abs

section
variable {E : Env} {a b : SC} {Q : Ex → Fr → St → Prop} {fr : Fr} {S : St}

def seqQ (E : Env) (b : SC) (Q : Ex → Fr → St → Prop) : Ex → Fr → St → Prop := fun e fr S => match e with | .normal => wpS E b Q fr S | e => Q e fr S
theorem T_seq (h : wpS E a (seqQ E b Q) fr S) : wpS E (.seq a b) Q fr S := h
theorem seq_n (h : wpS E b Q fr S) : seqQ E b Q .normal fr S := h
theorem seq_r (h : Q .ret fr S) : seqQ E b Q .ret fr S := h
theorem seq_e {i : Nat} (h : Q (.exit i) fr S) : seqQ E b Q (.exit i) fr S := h
def blkQ (i : Nat) (Q : Ex → Fr → St → Prop) : Ex → Fr → St → Prop := fun e fr S => match e with | .exit j => if j = i then Q .normal fr S else Q (.exit j) fr S | e => Q e fr S
theorem T_block {i : Nat} (h : wpS E a (blkQ i Q) fr S) : wpS E (.block i a) Q fr S := h
theorem blk_n {i : Nat} (h : Q .normal fr S) : blkQ i Q .normal fr S := h
theorem blk_r {i : Nat} (h : Q .ret fr S) : blkQ i Q .ret fr S := h
theorem blk_1 {i : Nat} (h : Q .normal fr S) : blkQ i Q (.exit i) fr S := by simp only [blkQ, if_true]; exact h
theorem blk_0 {i j : Nat} (hn : Nat.beq j i = false) (h : Q (.exit j) fr S) : blkQ i Q (.exit j) fr S := by
  have : j ≠ i := fun e => by subst e; simp at hn
  simp only [blkQ, if_neg this]; exact h
/-- The end of a round, of a piece before a cut. -/
def rndQ {α : Type} (T : List Nat) (vs : α → List AV) (ss : α → St) (p : α → Prop) (Q : Ex → Fr → St → Prop) : Ex → Fr → St → Prop := fun e fr S => match e with | .normal => ∃ y, p y ∧ T.map fr = vs y ∧ S = ss y | e => Q e fr S
theorem rnd_r {α : Type} {T : List Nat} {vs : α → List AV} {ss : α → St} {p : α → Prop} (h : Q .ret fr S) : rndQ T vs ss p Q .ret fr S := h
theorem rnd_e {α : Type} {T : List Nat} {vs : α → List AV} {ss : α → St} {p : α → Prop} {i : Nat} (h : Q (.exit i) fr S) : rndQ T vs ss p Q (.exit i) fr S := h
theorem rnd_n {α : Type} {T : List Nat} {vs : α → List AV} {ss : α → St} {p : α → Prop} (y : α) (h : p y) (h1 : T.map fr = vs y) (h2 : S = ss y) : rndQ T vs ss p Q .normal fr S := ⟨y, h, h1, h2⟩
theorem T_loop {α : Type} (W : Nat → Bool) (T : List Nat) (vs : α → List AV) (ss : α → St) (p : α → Prop) (m : α → Nat) (x0 : α) (hW : wrIn W a = true) (hp : p x0) (hv : T.map fr = vs x0) (hS : S = ss x0)
    (h : ∀ x g, p x → wpS E a (rndQ T vs ss (fun y => p y ∧ m y < m x) Q) (setL (hav W g fr) T (vs x)) (ss x)) : wpS E (.loop a) Q fr S := by
  refine S_loopT W T vs ss p m x0 hW hp hv hS fun x g hx => wpS_mono (h x g hx) fun e fr' S' hq => ?_
  cases e with
  | normal => obtain ⟨y, ⟨h1, h2⟩, h3, h4⟩ := hq; exact ⟨y, h1, h3, h4, h2⟩
  | _ => exact hq
theorem T_cut {α : Type} (W : Nat → Bool) (T : List Nat) (vs : α → List AV) (ss : α → St) (p : α → Prop) (hW : wrIn W a = true)
    (h1 : wpS E a (rndQ T vs ss p Q) fr S) (h2 : ∀ x g, p x → wpS E b Q (setL (hav W g fr) T (vs x)) (ss x)) : wpS E (.seq a b) Q fr S := by
  refine S_cut W T vs ss p hW (wpS_mono h1 fun e fr' S' hq => ?_) h2
  cases e with
  | normal => exact hq
  | _ => exact hq
/-- Ranges over functions. -/
def bodyQ (J : Nat → St → Prop) (k : Nat) (Q : Ex → Fr → St → Prop) (fr : Fr) : Ex → Fr → St → Prop := fun e _ S2 => match e with | .normal => J (k + 1) S2 | e' => Q e' fr S2
theorem body_n {J : Nat → St → Prop} {k : Nat} {fr' : Fr} (h : J (k + 1) S) : bodyQ J k Q fr .normal fr' S := h
theorem body_r {J : Nat → St → Prop} {k : Nat} {fr' : Fr} (h : Q .ret fr S) : bodyQ J k Q fr .ret fr' S := h
theorem body_e {J : Nat → St → Prop} {k i : Nat} {fr' : Fr} (h : Q (.exit i) fr S) : bodyQ J k Q fr (.exit i) fr' S := h
def asgQ (E : Env) (b : SC) (J : Nat → St → Prop) (k : Nat) (Q : Ex → Fr → St → Prop) (fr : Fr) : Ex → Fr → St → Prop := fun e fr1 S1 => match e with | .normal => wpS E b (bodyQ J k Q fr) fr1 S1 | _ => False
theorem asg_n {J : Nat → St → Prop} {k : Nat} {fr' : Fr} (h : wpS E b (bodyQ J k Q fr) fr' S) : asgQ E b J k Q fr .normal fr' S := h
theorem T_rng {x : Opd} {ps : List Nat} {g : Nat} {caps : List AV} (ids : List Nat) (caps0 : List AV) (S0 : St) (L : List (List D)) (J : Nat → St → Prop) (e : ld fr x = .fn g caps) (hi : E.iter g caps0 S0 L) (hl : ∀ xs ∈ L, xs.length = ps.length)
    (hc : caps = caps0.map (sh0 ids 0)) (hn : ids.Nodup) (hg : getAll S ids = some S0) (h0 : J 0 (kill ids S)) (hd : ∀ S, J L.length S → Q .normal fr S)
    (hr : ∀ k S, J k S → k < L.length → wpS E a (asgQ E b J k Q fr) (upd (updL fr ps (L.getD k [])) G .undef) S) :
    wpS E (.rng x ps a b) Q fr S := by
  refine S_rng ids caps0 S0 L J e hi hl hc hn hg h0 hd fun k S' h1 h2 => wpS_mono (hr k S' h1 h2) fun e fr1 S1 hq => ?_
  cases e with
  | normal =>
    refine wpS_mono hq fun e' fr2 S2 hq2 => ?_
    cases e' with
    | normal => exact hq2
    | _ => exact hq2
  | _ => exact hq
theorem G_1b {os : List SOp} {K : Fr → St → Prop} {d : Option Nat} {i : SI} {t : Nat} {p : Bool} (e : fr t = .d (.bool p)) (h1 : p = true → wpOps E (⟨none, d, i⟩ :: os) K fr S) (h2 : p = false → wpOps E os K (updO fr d .skip) S) : wpOps E (⟨some (t, true), d, i⟩ :: os) K fr S := G_bool e h1 h2
theorem G_0b {os : List SOp} {K : Fr → St → Prop} {d : Option Nat} {i : SI} {t : Nat} {p : Bool} (e : fr t = .d (.bool p)) (h1 : p = false → wpOps E (⟨none, d, i⟩ :: os) K fr S) (h2 : p = true → wpOps E os K (updO fr d .skip) S) : wpOps E (⟨some (t, false), d, i⟩ :: os) K fr S := G_bool e h1 h2
theorem G_skip' {os : List SOp} {K : Fr → St → Prop} {d : Option Nat} {i : SI} {t : Nat} {w : Bool} (e : fr t = .skip) (h : wpOps E os K (updO fr d .skip) S) : wpOps E (⟨some (t, w), d, i⟩ :: os) K fr S := G_skip e h
theorem DG_1b {np : Bool} {os : List SOp} {K : Fr → St → Prop} {d : Option Nat} {i : SI} {t : Nat} {p : Bool} (e : fr t = .d (.bool p)) (h1 : p = true → wpD E np (⟨none, d, i⟩ :: os) K fr S) (h2 : p = false → wpD E np os K (updO fr d .skip) S) : wpD E np (⟨some (t, true), d, i⟩ :: os) K fr S := DG_bool e h1 h2
theorem DG_0b {np : Bool} {os : List SOp} {K : Fr → St → Prop} {d : Option Nat} {i : SI} {t : Nat} {p : Bool} (e : fr t = .d (.bool p)) (h1 : p = false → wpD E np (⟨none, d, i⟩ :: os) K fr S) (h2 : p = true → wpD E np os K (updO fr d .skip) S) : wpD E np (⟨some (t, false), d, i⟩ :: os) K fr S := DG_bool e h1 h2
theorem D_step0 {os : List SOp} {K : Fr → St → Prop} {d : Option Nat} {i : SI} (h : stepK E fr S i fun v S' => wpD E false os K (updO fr d v) S') : wpD E false (⟨none, d, i⟩ :: os) K fr S := D_step (fun h => by cases h) h
end
end Go.Abs
/- Steps with their tests as propositions. -/
namespace Go.Abs

section
variable {E : Env} {a b : SC} {Q : Ex → Fr → St → Prop} {fr : Fr} {S : St} {K : AV → St → Prop} {x y z c : Opd} {os : List SOp} {L : Fr → St → Prop} {d : Option Nat} {i : SI} {t : Nat} {np : Bool}

theorem K_lss {k : IntKind} {p q : Int} (e : ld fr x = .d (.int k p)) (e2 : ld fr y = .d (.int k q)) (h : K (.d (.bool (decide (p < q)))) S) : stepK E fr S (.bin .lss x y) K := K_bin e e2 (by simp [bin, binI]) h
theorem K_leq {k : IntKind} {p q : Int} (e : ld fr x = .d (.int k p)) (e2 : ld fr y = .d (.int k q)) (h : K (.d (.bool (decide (p ≤ q)))) S) : stepK E fr S (.bin .leq x y) K := K_bin e e2 (by simp [bin, binI]) h
theorem K_gtr {k : IntKind} {p q : Int} (e : ld fr x = .d (.int k p)) (e2 : ld fr y = .d (.int k q)) (h : K (.d (.bool (decide (q < p)))) S) : stepK E fr S (.bin .gtr x y) K := K_bin e e2 (by simp [bin, binI]) h
theorem K_geq {k : IntKind} {p q : Int} (e : ld fr x = .d (.int k p)) (e2 : ld fr y = .d (.int k q)) (h : K (.d (.bool (decide (q ≤ p)))) S) : stepK E fr S (.bin .geq x y) K := K_bin e e2 (by simp [bin, binI]) h
theorem K_eql {k : IntKind} {p q : Int} (e : ld fr x = .d (.int k p)) (e2 : ld fr y = .d (.int k q)) (h : K (.d (.bool (decide (p = q)))) S) : stepK E fr S (.bin .eql x y) K := K_bin e e2 (by simp [bin, binI]; rfl) h
theorem K_neq {k : IntKind} {p q : Int} (e : ld fr x = .d (.int k p)) (e2 : ld fr y = .d (.int k q)) (h : K (.d (.bool (decide (p ≠ q)))) S) : stepK E fr S (.bin .neq x y) K := K_bin e e2 (by simp only [bin, binI, if_true, Option.some.injEq, D.bool.injEq]; rw [Bool.eq_iff_iff]; simp) h
theorem K_eqlS {p q : List UInt8} (e : ld fr x = .d (.str p)) (e2 : ld fr y = .d (.str q)) (h : K (.d (.bool (decide (p = q)))) S) : stepK E fr S (.bin .eql x y) K := K_bin e e2 (by simp only [bin, Option.some.injEq, D.bool.injEq]; rw [Bool.eq_iff_iff]; simp) h
theorem K_neqS {p q : List UInt8} (e : ld fr x = .d (.str p)) (e2 : ld fr y = .d (.str q)) (h : K (.d (.bool (decide (p ≠ q)))) S) : stepK E fr S (.bin .neq x y) K := K_bin e e2 (by simp only [bin, Option.some.injEq, D.bool.injEq]; rw [Bool.eq_iff_iff]; simp) h
theorem K_notP {p : Prop} {_ : Decidable p} (e : ld fr x = .d (.bool (decide p))) (h : K (.d (.bool (decide (¬ p)))) S) : stepK E fr S (.not x) K := K_not e (by rw [← decide_not]; exact h)
theorem K_addw {k : IntKind} {p q : Int} (e : ld fr x = .d (.int k p)) (e2 : ld fr y = .d (.int k q)) (h : K (.d (.int k (k.wrap (p + q)))) S) : stepK E fr S (.bin .add x y) K := K_bin e e2 (by simp [bin, binI]) h
theorem K_subw {k : IntKind} {p q : Int} (e : ld fr x = .d (.int k p)) (e2 : ld fr y = .d (.int k q)) (h : K (.d (.int k (k.wrap (p - q)))) S) : stepK E fr S (.bin .sub x y) K := K_bin e e2 (by simp [bin, binI]) h
theorem K_mulw {k : IntKind} {p q : Int} (e : ld fr x = .d (.int k p)) (e2 : ld fr y = .d (.int k q)) (h : K (.d (.int k (k.wrap (p * q)))) S) : stepK E fr S (.bin .mul x y) K := K_bin e e2 (by simp [bin, binI]) h
theorem K_and {k : IntKind} {p q : Int} (e : ld fr x = .d (.int k p)) (e2 : ld fr y = .d (.int k q)) (h : K (.d (.int k (ibit .and k p q))) S) : stepK E fr S (.bin .and x y) K := K_bin e e2 (by simp [bin, binI]) h
theorem K_or {k : IntKind} {p q : Int} (e : ld fr x = .d (.int k p)) (e2 : ld fr y = .d (.int k q)) (h : K (.d (.int k (ibit .or k p q))) S) : stepK E fr S (.bin .or x y) K := K_bin e e2 (by simp [bin, binI]) h
theorem K_xor {k : IntKind} {p q : Int} (e : ld fr x = .d (.int k p)) (e2 : ld fr y = .d (.int k q)) (h : K (.d (.int k (ibit .xor k p q))) S) : stepK E fr S (.bin .xor x y) K := K_bin e e2 (by simp [bin, binI]) h
theorem K_anot {k : IntKind} {p q : Int} (e : ld fr x = .d (.int k p)) (e2 : ld fr y = .d (.int k q)) (h : K (.d (.int k (ibit .andNot k p q))) S) : stepK E fr S (.bin .andNot x y) K := K_bin e e2 (by simp [bin, binI]) h

theorem T_iteP {p : Prop} {_ : Decidable p} (e : ld fr c = .d (.bool (decide p))) (h1 : p → wpS E a Q fr S) (h2 : ¬ p → wpS E b Q fr S) : wpS E (.ite c a b) Q fr S := S_ite e (fun h => h1 (of_decide_eq_true h)) fun h => h2 (of_decide_eq_false h)
theorem T_ite1 {p : Prop} {_ : Decidable p} (e : ld fr c = .d (.bool (decide p))) (hp : p) (h1 : wpS E a Q fr S) : wpS E (.ite c a b) Q fr S := T_iteP e (fun _ => h1) fun h => absurd hp h
theorem T_ite0 {p : Prop} {_ : Decidable p} (e : ld fr c = .d (.bool (decide p))) (hp : ¬ p) (h1 : wpS E b Q fr S) : wpS E (.ite c a b) Q fr S := T_iteP e (fun h => absurd h hp) fun _ => h1
theorem T_itet (e : ld fr c = .d (.bool true)) (h1 : wpS E a Q fr S) : wpS E (.ite c a b) Q fr S := S_ite e (fun _ => h1) fun h => by cases h
theorem T_itef (e : ld fr c = .d (.bool false)) (h1 : wpS E b Q fr S) : wpS E (.ite c a b) Q fr S := S_ite e (fun h => by cases h) fun _ => h1
theorem G_1P {p : Prop} {_ : Decidable p} (e : fr t = .d (.bool (decide p))) (h1 : p → wpOps E (⟨none, d, i⟩ :: os) L fr S) (h2 : ¬ p → wpOps E os L (updO fr d .skip) S) : wpOps E (⟨some (t, true), d, i⟩ :: os) L fr S := G_1b e (fun h => h1 (of_decide_eq_true h)) fun h => h2 (of_decide_eq_false h)
theorem G_0P {p : Prop} {_ : Decidable p} (e : fr t = .d (.bool (decide p))) (h1 : ¬ p → wpOps E (⟨none, d, i⟩ :: os) L fr S) (h2 : p → wpOps E os L (updO fr d .skip) S) : wpOps E (⟨some (t, false), d, i⟩ :: os) L fr S := G_0b e (fun h => h1 (of_decide_eq_false h)) fun h => h2 (of_decide_eq_true h)
theorem G_1y {p : Prop} {_ : Decidable p} (e : fr t = .d (.bool (decide p))) (hp : p) (h1 : wpOps E (⟨none, d, i⟩ :: os) L fr S) : wpOps E (⟨some (t, true), d, i⟩ :: os) L fr S := G_1P e (fun _ => h1) fun h => absurd hp h
theorem G_1n {p : Prop} {_ : Decidable p} (e : fr t = .d (.bool (decide p))) (hp : ¬ p) (h1 : wpOps E os L (updO fr d .skip) S) : wpOps E (⟨some (t, true), d, i⟩ :: os) L fr S := G_1P e (fun h => absurd h hp) fun _ => h1
theorem G_0y {p : Prop} {_ : Decidable p} (e : fr t = .d (.bool (decide p))) (hp : p) (h1 : wpOps E os L (updO fr d .skip) S) : wpOps E (⟨some (t, false), d, i⟩ :: os) L fr S := G_0P e (fun h => absurd hp h) fun _ => h1
theorem G_0n {p : Prop} {_ : Decidable p} (e : fr t = .d (.bool (decide p))) (hp : ¬ p) (h1 : wpOps E (⟨none, d, i⟩ :: os) L fr S) : wpOps E (⟨some (t, false), d, i⟩ :: os) L fr S := G_0P e (fun _ => h1) fun h => absurd h hp
theorem G_1tt (e : fr t = .d (.bool true)) (h1 : wpOps E (⟨none, d, i⟩ :: os) L fr S) : wpOps E (⟨some (t, true), d, i⟩ :: os) L fr S := G_1b e (fun _ => h1) fun h => by cases h
theorem G_1ff (e : fr t = .d (.bool false)) (h1 : wpOps E os L (updO fr d .skip) S) : wpOps E (⟨some (t, true), d, i⟩ :: os) L fr S := G_1b e (fun h => by cases h) fun _ => h1
theorem G_0tt (e : fr t = .d (.bool true)) (h1 : wpOps E os L (updO fr d .skip) S) : wpOps E (⟨some (t, false), d, i⟩ :: os) L fr S := G_0b e (fun h => by cases h) fun _ => h1
theorem G_0ff (e : fr t = .d (.bool false)) (h1 : wpOps E (⟨none, d, i⟩ :: os) L fr S) : wpOps E (⟨some (t, false), d, i⟩ :: os) L fr S := G_0b e (fun _ => h1) fun h => by cases h
theorem K_pickT {p : Prop} {_ : Decidable p} {v : D} (e : ld fr x = .d (.bool (decide p))) (hp : p) (ev : ld fr y = .d v) (h : K (.d v) S) : stepK E fr S (.pick x y z) K := K_pick1 e (decide_eq_true hp) ev h
theorem K_pickF {p : Prop} {_ : Decidable p} {v : D} (e : ld fr x = .d (.bool (decide p))) (hp : ¬ p) (ev : ld fr z = .d v) (h : K (.d v) S) : stepK E fr S (.pick x y z) K := K_pick0 e (decide_eq_false hp) ev h
theorem K_pickt {v : D} (e : ld fr x = .d (.bool true)) (ev : ld fr y = .d v) (h : K (.d v) S) : stepK E fr S (.pick x y z) K := K_pick1 e rfl ev h
theorem K_pickf {v : D} (e : ld fr x = .d (.bool false)) (ev : ld fr z = .d v) (h : K (.d v) S) : stepK E fr S (.pick x y z) K := K_pick0 e rfl ev h
end
end Go.Abs
/- Bits of numbers, as plain arithmetic. -/
namespace Go.Abs

theorem ofInt_toNat (w a : Nat) (h : a < 2 ^ w) : (BitVec.ofInt w (a : Int)).toNat = a := by
  rw [BitVec.toNat_ofInt]
  have e : ((a : Int) % ((2 ^ w : Nat) : Int)) = ((a % 2 ^ w : Nat) : Int) := by rfl
  rw [e, Int.toNat_natCast, Nat.mod_eq_of_lt h]

/-- Kinds without a sign, and the signed ones below their limits. -/
def fits (k : IntKind) (a : Nat) : Prop := a < 2 ^ k.bits ∧ k.wrap (a : Int) = a
theorem ibit_and {k : IntKind} {a b : Nat} (ha : a < 2 ^ k.bits) (hb : b < 2 ^ k.bits) (hr : k.wrap ((a &&& b : Nat) : Int) = ((a &&& b : Nat) : Int)) : ibit .and k (a : Int) (b : Int) = ((a &&& b : Nat) : Int) := by
  unfold ibit; simp only [BitVec.toNat_and, ofInt_toNat _ _ ha, ofInt_toNat _ _ hb]; exact hr
theorem ibit_or {k : IntKind} {a b : Nat} (ha : a < 2 ^ k.bits) (hb : b < 2 ^ k.bits) (hr : k.wrap ((a ||| b : Nat) : Int) = ((a ||| b : Nat) : Int)) : ibit .or k (a : Int) (b : Int) = ((a ||| b : Nat) : Int) := by
  unfold ibit; simp only [BitVec.toNat_or, ofInt_toNat _ _ ha, ofInt_toNat _ _ hb]; exact hr
theorem ibit_xor {k : IntKind} {a b : Nat} (ha : a < 2 ^ k.bits) (hb : b < 2 ^ k.bits) (hr : k.wrap ((a ^^^ b : Nat) : Int) = ((a ^^^ b : Nat) : Int)) : ibit .xor k (a : Int) (b : Int) = ((a ^^^ b : Nat) : Int) := by
  unfold ibit; simp only [BitVec.toNat_xor, ofInt_toNat _ _ ha, ofInt_toNat _ _ hb]; exact hr

theorem w8 {n : Nat} (h : n < 256) : IntKind.u8.wrap (n : Int) = n := IntWalk.u8_in _ (by omega)
theorem w32 {n : Nat} (h : n < 4294967296) : IntKind.u32.wrap (n : Int) = n := IntWalk.u32_in _ (by omega)
theorem w64 {n : Nat} (h : n < 9223372036854775808) : IntKind.i64.wrap (n : Int) = n := IntWalk.i64_in _ (by omega)
theorem wu64 {n : Nat} (h : n < 18446744073709551616) : IntKind.u64.wrap (n : Int) = n := IntWalk.u64_in _ (by omega)

theorem and_u8 {a b : Nat} (ha : a < 256) (hb : b < 256) : ibit .and .u8 (a : Int) (b : Int) = ((a &&& b : Nat) : Int) := ibit_and ha hb (w8 (Nat.lt_of_le_of_lt Nat.and_le_left ha))
theorem xor_u8 {a b : Nat} (ha : a < 256) (hb : b < 256) : ibit .xor .u8 (a : Int) (b : Int) = ((a ^^^ b : Nat) : Int) := ibit_xor ha hb (w8 (Nat.xor_lt_two_pow (n := 8) ha hb))
theorem or_u8 {a b : Nat} (ha : a < 256) (hb : b < 256) : ibit .or .u8 (a : Int) (b : Int) = ((a ||| b : Nat) : Int) := ibit_or ha hb (w8 (Nat.or_lt_two_pow (n := 8) ha hb))
theorem and_u32 {a b : Nat} (ha : a < 4294967296) (hb : b < 4294967296) : ibit .and .u32 (a : Int) (b : Int) = ((a &&& b : Nat) : Int) := ibit_and ha hb (w32 (Nat.lt_of_le_of_lt Nat.and_le_left ha))
theorem or_u32 {a b : Nat} (ha : a < 4294967296) (hb : b < 4294967296) : ibit .or .u32 (a : Int) (b : Int) = ((a ||| b : Nat) : Int) := ibit_or ha hb (w32 (Nat.or_lt_two_pow (n := 32) ha hb))
theorem and_i64 {a b : Nat} (ha : a < 9223372036854775808) (hb : b < 9223372036854775808) : ibit .and .i64 (a : Int) (b : Int) = ((a &&& b : Nat) : Int) :=
  ibit_and (k := .i64) (by show a < 18446744073709551616; omega) (by show b < 18446744073709551616; omega) (w64 (Nat.lt_of_le_of_lt Nat.and_le_left ha))
/-- n & (2^j - 1). -/
theorem and7 {n : Nat} (h : n < 9223372036854775808) : ibit .and .i64 (n : Int) 7 = ((n % 8 : Nat) : Int) := by
  have e := and_i64 (a := n) (b := 7) h (by omega)
  have e2 : n &&& 7 = n % 8 := Nat.and_two_pow_sub_one_eq_mod n 3
  rw [e2] at e; exact e
theorem and3 {n : Nat} (h : n < 9223372036854775808) : ibit .and .i64 (n : Int) 3 = ((n % 4 : Nat) : Int) := by
  have e := and_i64 (a := n) (b := 3) h (by omega)
  have e2 : n &&& 3 = n % 4 := Nat.and_two_pow_sub_one_eq_mod n 2
  rw [e2] at e; exact e
theorem and1_u8 {n : Nat} (h : n < 256) : ibit .and .u8 (n : Int) 1 = ((n % 2 : Nat) : Int) := by
  have e := and_u8 (a := n) (b := 1) h (by omega)
  have e2 : n &&& 1 = n % 2 := Nat.and_two_pow_sub_one_eq_mod n 1
  rw [e2] at e; exact e
theorem and1_u32 {n : Nat} (h : n < 4294967296) : ibit .and .u32 (n : Int) 1 = ((n % 2 : Nat) : Int) := by
  have e := and_u32 (a := n) (b := 1) h (by omega)
  have e2 : n &&& 1 = n % 2 := Nat.and_two_pow_sub_one_eq_mod n 1
  rw [e2] at e; exact e
/-- n >> j. -/
theorem shr_nat (n j : Nat) : (n : Int).fdiv (2 ^ j) = ((n / 2 ^ j : Nat) : Int) := by
  rw [Int.fdiv_eq_ediv_of_nonneg _ (by have : (0:Int) < 2 ^ j := Int.pow_pos (by decide); omega)]
  push_cast; rfl
theorem shr3 (n : Nat) : (n : Int).fdiv (2 ^ min (3 : Int).toNat IntKind.i64.bits) = ((n / 8 : Nat) : Int) := shr_nat n 3
/-- Bit i of a pattern. -/
theorem tb32 {p i : Nat} (hp : p < 4294967296) (hi : i < 32) : ibit .and .u32 ((p : Int).fdiv (2 ^ min ((i : Int).toNat) IntKind.u32.bits)) 1 = 1 ↔ p.testBit i = true := by
  have e : min ((i : Int).toNat) IntKind.u32.bits = i := by
    rw [Int.toNat_natCast]; exact Nat.min_eq_left (Nat.le_of_lt hi)
  rw [e, shr_nat, and1_u32 (Nat.lt_of_le_of_lt (Nat.div_le_self _ _) hp)]
  rw [Nat.testBit_eq_decide_div_mod_eq, decide_eq_true_eq]
  omega
theorem tb32_0 {p i : Nat} (hp : p < 4294967296) (hi : i < 32) : ibit .and .u32 ((p : Int).fdiv (2 ^ min ((i : Int).toNat) IntKind.u32.bits)) 1 = 0 ↔ ¬ p.testBit i = true := by
  have e : min ((i : Int).toNat) IntKind.u32.bits = i := by
    rw [Int.toNat_natCast]; exact Nat.min_eq_left (Nat.le_of_lt hi)
  rw [e, shr_nat, and1_u32 (Nat.lt_of_le_of_lt (Nat.div_le_self _ _) hp)]
  rw [Nat.testBit_eq_decide_div_mod_eq, decide_eq_true_eq]
  omega
theorem tb8 {p i : Nat} (hp : p < 256) (hi : i < 8) : ibit .and .u8 ((p : Int).fdiv (2 ^ min ((i : Int).toNat) IntKind.u8.bits)) 1 = 0 ↔ p.testBit i = false := by
  have e : min ((i : Int).toNat) IntKind.u8.bits = i := by
    rw [Int.toNat_natCast]; exact Nat.min_eq_left (Nat.le_of_lt hi)
  rw [e, shr_nat, and1_u8 (Nat.lt_of_le_of_lt (Nat.div_le_self _ _) hp)]
  rw [Nat.testBit_eq_decide_div_mod_eq, decide_eq_false_iff_not]
  omega
/-- One bit of a byte. -/
def mask (k : Nat) : UInt8 := UInt8.ofNat (2 ^ k)
theorem mask_toNat {k : Nat} (h : k < 8) : (mask k).toNat = 2 ^ k := by
  have : 2 ^ k < 256 := Nat.pow_lt_pow_right (a := 2) (by omega) h
  simp [mask, UInt8.toNat_ofNat', Nat.mod_eq_of_lt this]
theorem shl1 {k : Nat} (h : k < 8) : IntKind.u8.wrap (1 * 2 ^ min k IntKind.u8.bits) = ((mask k).toNat : Int) := by
  have e : min k IntKind.u8.bits = k := Nat.min_eq_left (Nat.le_of_lt h)
  have : 2 ^ k < 256 := Nat.pow_lt_pow_right (a := 2) (by omega) h
  rw [e, mask_toNat h, Int.one_mul]
  have := w8 this
  push_cast at this ⊢; exact this
theorem xorb (x y : UInt8) : ibit .xor .u8 (x.toNat : Int) (y.toNat : Int) = ((x ^^^ y).toNat : Int) := by
  rw [xor_u8 x.toNat_lt y.toNat_lt]; simp
end Go.Abs
/- More steps: shifts and masks by constants; arrays of bytes; drawn orders. -/
namespace Go.Abs

section
variable {E : Env} {a b : SC} {Q : Ex → Fr → St → Prop} {fr : Fr} {S : St} {K : AV → St → Prop} {x y z c : Opd} {os : List SOp} {L : Fr → St → Prop} {d : Option Nat} {i : SI} {t : Nat} {np : Bool}

theorem S_draw0 {l : List SOp} (h' : wpD E np l (Q .normal) fr S) : wpS E (.draw np [] l) Q fr S := ⟨trivial, h'⟩
theorem D_step1 (hp : noPtr fr i) (h : stepK E fr S i fun v S' => wpD E np os L (updO fr d v) S') : wpD E np (⟨none, d, i⟩ :: os) L fr S := D_step (fun _ => hp) h
theorem DG_1P {p : Prop} {_ : Decidable p} (e : fr t = .d (.bool (decide p))) (h1 : p → wpD E np (⟨none, d, i⟩ :: os) L fr S) (h2 : ¬ p → wpD E np os L (updO fr d .skip) S) : wpD E np (⟨some (t, true), d, i⟩ :: os) L fr S := DG_1b e (fun h => h1 (of_decide_eq_true h)) fun h => h2 (of_decide_eq_false h)
theorem DG_0P {p : Prop} {_ : Decidable p} (e : fr t = .d (.bool (decide p))) (h1 : ¬ p → wpD E np (⟨none, d, i⟩ :: os) L fr S) (h2 : p → wpD E np os L (updO fr d .skip) S) : wpD E np (⟨some (t, false), d, i⟩ :: os) L fr S := DG_0b e (fun h => h1 (of_decide_eq_false h)) fun h => h2 (of_decide_eq_true h)
theorem DG_1y {p : Prop} {_ : Decidable p} (e : fr t = .d (.bool (decide p))) (hp : p) (h1 : wpD E np (⟨none, d, i⟩ :: os) L fr S) : wpD E np (⟨some (t, true), d, i⟩ :: os) L fr S := DG_1P e (fun _ => h1) fun h => absurd hp h
theorem DG_1n {p : Prop} {_ : Decidable p} (e : fr t = .d (.bool (decide p))) (hp : ¬ p) (h1 : wpD E np os L (updO fr d .skip) S) : wpD E np (⟨some (t, true), d, i⟩ :: os) L fr S := DG_1P e (fun h => absurd h hp) fun _ => h1
theorem DG_0y {p : Prop} {_ : Decidable p} (e : fr t = .d (.bool (decide p))) (hp : p) (h1 : wpD E np os L (updO fr d .skip) S) : wpD E np (⟨some (t, false), d, i⟩ :: os) L fr S := DG_0P e (fun h => absurd hp h) fun _ => h1
theorem DG_0n {p : Prop} {_ : Decidable p} (e : fr t = .d (.bool (decide p))) (hp : ¬ p) (h1 : wpD E np (⟨none, d, i⟩ :: os) L fr S) : wpD E np (⟨some (t, false), d, i⟩ :: os) L fr S := DG_0P e (fun _ => h1) fun h => absurd h hp

/-- p >> j. -/
theorem K_shrc (m : Int) {k k' : IntKind} {p q : Int} (e : ld fr x = .d (.int k p)) (e2 : ld fr y = .d (.int k' q)) (hm : (decide (0 ≤ q) && decide ((2 : Int) ^ min q.toNat k.bits = m)) = true) (_hp : 0 ≤ p) (h : K (.d (.int k (p / m))) S) : stepK E fr S (.bin .shr x y) K := by
  simp only [Bool.and_eq_true, decide_eq_true_eq] at hm
  refine K_shr e e2 hm.1 ?_
  rw [hm.2, Int.fdiv_eq_ediv_of_nonneg _ (by rw [← hm.2]; exact Int.le_of_lt (Int.pow_pos (by decide)))]
  exact h
/-- p & (2^j - 1). -/
theorem andm {n j : Nat} {k : IntKind} (hk : n < 2 ^ k.bits) (hm : 2 ^ j - 1 < 2 ^ k.bits) (hw : k.wrap (n % 2 ^ j : Nat) = (n % 2 ^ j : Nat)) : ibit .and k (n : Int) ((2 ^ j - 1 : Nat) : Int) = ((n % 2 ^ j : Nat) : Int) := by
  have e2 : n &&& (2 ^ j - 1) = n % 2 ^ j := Nat.and_two_pow_sub_one_eq_mod n j
  rw [ibit_and hk hm (by rw [e2]; exact hw), e2]
theorem K_and64 (j : Nat) {p q : Int} (e : ld fr x = .d (.int .i64 p)) (e2 : ld fr y = .d (.int .i64 q)) (hq : (decide (q = ((2 ^ j - 1 : Nat) : Int)) && decide (j < 63)) = true) (hp : 0 ≤ p ∧ p < 9223372036854775808) (h : K (.d (.int .i64 (p % ((2 ^ j : Nat) : Int)))) S) : stepK E fr S (.bin .and x y) K := by
  simp only [Bool.and_eq_true, decide_eq_true_eq] at hq
  obtain ⟨n, rfl⟩ : ∃ n : Nat, p = n := ⟨p.toNat, by omega⟩
  have h2 : 2 ^ j < 2 ^ 63 := Nat.pow_lt_pow_right (by omega) hq.2
  have h3 : n % 2 ^ j < 2 ^ j := Nat.mod_lt _ (Nat.two_pow_pos j)
  have e3 : (2 : Nat) ^ 63 = 9223372036854775808 := rfl
  have e4 : (2 : Nat) ^ IntKind.i64.bits = 18446744073709551616 := rfl
  refine K_and e e2 ?_
  rw [hq.1, andm (k := .i64) (by omega) (by omega) (w64 (by omega))]
  exact h
theorem K_and3 {p : Int} (e : ld fr x = .d (.int .i64 p)) (e2 : ld fr y = .d (.int .i64 3)) (hp : 0 ≤ p ∧ p < 9223372036854775808) (h : K (.d (.int .i64 (p % 4))) S) : stepK E fr S (.bin .and x y) K := K_and64 2 e e2 rfl hp h
theorem K_and7 {p : Int} (e : ld fr x = .d (.int .i64 p)) (e2 : ld fr y = .d (.int .i64 7)) (hp : 0 ≤ p ∧ p < 9223372036854775808) (h : K (.d (.int .i64 (p % 8))) S) : stepK E fr S (.bin .and x y) K := K_and64 3 e e2 rfl hp h

theorem K_convu64 {k' : IntKind} {n : Int} (e : ld fr x = .d (.int k' n)) (hb : 0 ≤ n ∧ n < 18446744073709551616) (h : K (.d (.int .u64 n)) S) : stepK E fr S (.conv .u64 x) K := K_conv e (by rw [IntWalk.u64_in _ (by omega)]; exact h)
theorem K_convu32 {k' : IntKind} {n : Int} (e : ld fr x = .d (.int k' n)) (hb : 0 ≤ n ∧ n < 4294967296) (h : K (.d (.int .u32 n)) S) : stepK E fr S (.conv .u32 x) K := K_conv e (by rw [IntWalk.u32_in _ (by omega)]; exact h)
theorem K_convu8 {k' : IntKind} {n : Int} (e : ld fr x = .d (.int k' n)) (hb : 0 ≤ n ∧ n < 256) (h : K (.d (.int .u8 n)) S) : stepK E fr S (.conv .u8 x) K := K_conv e (by rw [IntWalk.u8_in _ (by omega)]; exact h)
/-- An array of bytes. -/
theorem byte_get {l : List UInt8} {k : Nat} (h : k < l.length) : (l.map byteD).getD k .nilp = byteD (l.getD k 0) := by
  simp [List.getD_eq_getElem?_getD, h]
theorem K_load1_byte {j g k : Nat} {l : List UInt8} (e : ld fr x = .ep j g k 0) (e2 : rd S j = some (g, 1, l.map byteD)) (hk : k < l.length) (h : K (.d (byteD (l.getD k 0))) S) : stepK E fr S (.load1 x) K :=
  K_load1_ep e e2 (by simpa using hk) (by rw [byte_get hk]; rfl) h
theorem K_store1_byte (c : UInt8) {j g k : Nat} {l : List UInt8} {n : Int} (e : ld fr x = .ep j g k 0) (e2 : S[j]? = some (.arr g 1 (l.map byteD))) (ev : ld fr y = .d (.int .u8 n)) (hk : k < l.length) (hn : n = (c.toNat : Int)) (h : K .undef (S.set j (.arr g 1 ((l.set k c).map byteD)))) : stepK E fr S (.store1 x y) K := by
  refine K_store1_ep e e2 ev (by simpa using hk) (by rw [byte_get hk]; exact Nat.one_pos) rfl ?_
  rw [byte_get hk]
  subst hn
  simpa [byteD, List.map_set] using h
theorem K_ofBytes_ref {i g n : Nat} {s : List UInt8} (e : ld fr x = .ref i g 0 n) (e2 : rd S i = some (g, 1, s.map byteD)) (hn : n = s.length) (h : K (.d (.str s)) S) : stepK E fr S (.ofBytes x) K := by
  refine K_ofBytes (es := 1) (l := s.map byteD) s ?_ rfl rfl h
  simp only [e, window, e2, hn]
  simp [List.take_of_length_le]
/-- A remainder that is known. -/
theorem K_remv (c : Int) {k : IntKind} {p q : Int} (e : ld fr x = .d (.int k p)) (e2 : ld fr y = .d (.int k q)) (hp : 0 ≤ p) (hq : 0 < q) (hc : p % q = c) (h : K (.d (.int k c)) S) : stepK E fr S (.bin .rem x y) K := K_rem0 e e2 hp hq (by rw [hc]; exact h)
theorem K_orv (c : Int) {k : IntKind} {p q : Int} (e : ld fr x = .d (.int k p)) (e2 : ld fr y = .d (.int k q)) (hc : ibit .or k p q = c) (h : K (.d (.int k c)) S) : stepK E fr S (.bin .or x y) K := K_or e e2 (by rw [hc]; exact h)
theorem K_build_d {zs ds : List D} {ps : List (Nat × Nat × Opd)} {l : List AV} (e : fillA (zs.map .d) (ps.map fun (o, n, x) => (o, n, ld fr x)) = some l) (e2 : mkAgg l = .d (.agg ds)) (h : K (.d (.agg ds)) S) : stepK E fr S (.build zs ps) K := K_build e (by rw [e2]; exact h)
theorem K_storeA_pd {j off n : Nat} {l : List AV} {ds : List D} (e : ld fr x = .ptr j off) (ev : ld fr y = .d (.agg ds)) (e2 : S[j]? = some (.box l)) (hn : ds.length = n) (ho : off + n ≤ l.length) (h : K .undef (S.set j (.box (splice l off (ds.map .d))))) : stepK E fr S (.storeA n x y) K :=
  K_storeA_ptr e ev e2 ho rfl (by simp [AV.cells, D.cells, hn]) (by simpa [AV.cells, D.cells] using h)
theorem K_store1_pd {j off : Nat} {l : List AV} {v : D} (e : ld fr x = .ptr j off) (ev : ld fr y = .d v) (e2 : S[j]? = some (.box l)) (ho : off < l.length) (hc : v.cells = [v]) (h : K .undef (S.set j (.box (l.set off (.d v))))) : stepK E fr S (.store1 x y) K :=
  K_store1_ptr e ev e2 ho rfl (by simp [AV.cells, hc]) h
theorem K_store1_pr {j off i g o n : Nat} {l : List AV} (e : ld fr x = .ptr j off) (ev : ld fr y = .ref i g o n) (e2 : S[j]? = some (.box l)) (ho : off < l.length) (h : K .undef (S.set j (.box (l.set off (.ref i g o n))))) : stepK E fr S (.store1 x y) K :=
  K_store1_ptr e ev e2 ho rfl rfl h
theorem K_box_d {n : Nat} {v : D} (ev : ld fr x = .d v) (h0 : v.cells.length = n) (h : K (.ptr S.length 0) (S ++ [.box (v.cells.map .d)])) : stepK E fr S (.box n x) K := K_box ev ⟨rfl, by simpa [AV.cells] using h0⟩ h
theorem K_loadA_pd {j off n : Nat} {l : List AV} {ds : List D} (e : ld fr x = .ptr j off) (e2 : S[j]? = some (.box l)) (hn : off + n ≤ l.length) (e3 : mkAgg ((l.drop off).take n) = .d (.agg ds)) (h : K (.d (.agg ds)) S) : stepK E fr S (.loadA n x) K := K_loadA_ptr e e2 hn (by rw [e3]; exact h)
theorem K_callV_0 {f : Nat} {args : List Opd} {ys : List D} {r : AV} (ef : ld fr x = .d (.fn f)) (e : args.map (ld fr) = ys.map .d) (hc : E.call f (ys.map .d) [] r []) (hok : r.okr = true) (h : K (sh2 [] S.length r) S) : stepK E fr S (.callV x args) K :=
  K_callV_d ef e hc ⟨hok, rfl⟩ (by simpa using h)
theorem K_xorb {p q : UInt8} (e : ld fr x = .d (byteD p)) (e2 : ld fr y = .d (byteD q)) (h : K (.d (byteD (p ^^^ q))) S) : stepK E fr S (.bin .xor x y) K := K_xor e e2 (by rw [xorb]; exact h)
theorem K_not_t (e : ld fr x = .d (.bool true)) (h : K (.d (.bool false)) S) : stepK E fr S (.not x) K := K_not e h
theorem K_not_f (e : ld fr x = .d (.bool false)) (h : K (.d (.bool true)) S) : stepK E fr S (.not x) K := K_not e h
theorem K_idxSn {s : List UInt8} {k : IntKind} {n : Nat} (e : ld fr x = .d (.str s)) (e2 : ld fr y = .d (.int k (n : Int))) (hb : n < s.length) (h : K (.d (byteD (s.getD n 0))) S) : stepK E fr S (.idxS x y) K := K_idxS e e2 (by omega) (by simpa using h)
/-- The same on both sides. -/
theorem K_neq_same {k : IntKind} {p : Int} (e : ld fr x = .d (.int k p)) (e2 : ld fr y = .d (.int k p)) (h : K (.d (.bool false)) S) : stepK E fr S (.bin .neq x y) K := K_neq e e2 (by simpa using h)
theorem K_eql_same {k : IntKind} {p : Int} (e : ld fr x = .d (.int k p)) (e2 : ld fr y = .d (.int k p)) (h : K (.d (.bool true)) S) : stepK E fr S (.bin .eql x y) K := K_eql e e2 (by simpa using h)
theorem K_neqS_same {p : List UInt8} (e : ld fr x = .d (.str p)) (e2 : ld fr y = .d (.str p)) (h : K (.d (.bool false)) S) : stepK E fr S (.bin .neq x y) K := K_neqS e e2 (by simpa using h)
theorem K_eqlS_same {p : List UInt8} (e : ld fr x = .d (.str p)) (e2 : ld fr y = .d (.str p)) (h : K (.d (.bool true)) S) : stepK E fr S (.bin .eql x y) K := K_eqlS e e2 (by simpa using h)
/-- Results. -/
theorem ends_dd {rvs : List RV} {u v : D} (h : resV fr S rvs = some (.d u)) (e : u = v) : Ends 0 rvs (.d v) [] .ret fr S := by subst e; exact ends_d h
theorem ends_i {rvs : List RV} {k : IntKind} {m n : Int} (h : resV fr S rvs = some (.d (.int k m))) (e : m = n) : Ends 0 rvs (.d (.int k n)) [] .ret fr S := by subst e; exact ends_d h
theorem ends_b {rvs : List RV} {p q : Bool} (h : resV fr S rvs = some (.d (.bool p))) (e : p = q) : Ends 0 rvs (.d (.bool q)) [] .ret fr S := by subst e; exact ends_d h
theorem ends_s {rvs : List RV} {p q : List UInt8} (h : resV fr S rvs = some (.d (.str p))) (e : p = q) : Ends 0 rvs (.d (.str q)) [] .ret fr S := by subst e; exact ends_d h
theorem ends_si {rvs : List RV} {k : IntKind} {p q : List UInt8} {m n : Int} (h : resV fr S rvs = some (.tup [.d (.str p), .d (.int k m)])) (e : (p, m) = (q, n)) : Ends 0 rvs (.tup [.d (.str q), .d (.int k n)]) [] .ret fr S := by
  injection e with e1 e2; subst e1; subst e2; exact ends_2 h
theorem ends_di {rvs : List RV} {k : IntKind} {p q : D} {m n : Int} (h : resV fr S rvs = some (.tup [.d p, .d (.int k m)])) (e : (p, m) = (q, n)) : Ends 0 rvs (.tup [.d q, .d (.int k n)]) [] .ret fr S := by
  injection e with e1 e2; subst e1; subst e2; exact ends_2 h
theorem ends_iii {rvs : List RV} {k1 k2 k3 : IntKind} {p q r p' q' r' : Int} (h : resV fr S rvs = some (.tup [.d (.int k1 p), .d (.int k2 q), .d (.int k3 r)])) (e : (p, q, r) = (p', q', r')) : Ends 0 rvs (.tup [.d (.int k1 p'), .d (.int k2 q'), .d (.int k3 r')]) [] .ret fr S := by
  injection e with e1 e2; injection e2 with e2 e3; subst e1; subst e2; subst e3; exact ends_3 h
end
end Go.Abs
/- From a contract to a law: nothing that was there before the call has turned. -/
namespace Go.Abs
open Go.RowKit Go.WideShapes Go.ChangeShapes

/-- What was there is as it was. -/
structure Kept (W W' : World) : Prop where
  size : W.heap.size ≤ W'.heap.size
  block : ∀ b, b < W.heap.size → W'.heap[b]? = W.heap[b]?
  io : IOs W W'
theorem Kept.frame {W W' : World} (h : Kept W W') (may : MemPlace → Prop) : W.keptBut W' may := by
  refine ⟨h.io.os, h.io.output, fun i hi => ?_⟩
  rw [h.block i hi]
  split <;> simp_all

section
variable {H : Type} {enc : TypeId × Value → H} {P : Program}
theorem post_of_kept {f : Func} {s : ChangeSpec} {apart fresh handsOn again : Bool} {W W' : World} {args : Array Value} {v : Value} {ds gs : List (DataW H)} {before pa pv : List MemPlace}
    (hW : DataW.Whole enc P f.params.toList s.vars apart W args.toList ds gs before)
    (hres : ∀ (b : Nat) (sp : Nat → Bool) (hd : Bool), DataW.TrodAll enc P W' b sp hd f.resultTypes.toList (v.resultList f.resultTypes.size) (s.fn H (ds ++ gs)).results [])
    (hargs : ∀ sp : Nat → Bool, (∀ p ∈ before, sp p.block = true) → DataW.TrodAll enc P W' 0 sp true f.params.toList args.toList (s.fn H (ds ++ gs)).args pa)
    (hvars : ∀ sp : Nat → Bool, (∀ p ∈ before, sp p.block = true) → DataW.TrodVars enc P W' sp s.vars (s.fn H (ds ++ gs)).vars pv)
    (hps : before = pa ++ pv) (hb : Kept W W')
    (hok : ∀ (j : Nat) (t : TypeId) (r : Value), f.resultTypes[j]? = some t → (v.resultList f.resultTypes.size)[j]? = some r → Value.okWide P W' .any 0 t r) :
    s.post enc P f apart fresh handsOn again W args v W' := by
  have hlt : ∀ p ∈ before, p.block < W.heap.size := fun p hp => hW.lt p hp
  have hold : ∀ p ∈ before, (fun b => decide (b < W.heap.size)) p.block = true := fun p hp => by simpa using hlt p hp
  refine ⟨ds, gs, before, [], pa, pv, hW, hres _ _ _, hargs _ hold, hvars _ hold, World.keptBut_mono (fun p hp => ⟨hp, ?_⟩) (hb.frame (· ∈ before)), fun _ => ?_⟩
  · rw [hps, List.mem_append] at hp
    exact Or.inr hp
  · obtain ⟨_, _, _, _, _, hz, hn⟩ := hW
    refine ⟨hok, _, _, ([] ++ pa) ++ pv, ⟨[] ++ pa, pv, trodAll_append (hargs _ (fun _ _ => rfl)) (hres _ _ _), hvars _ (fun _ _ => rfl), rfl, ?_, ?_⟩, ?_⟩
    · intro b off hp
      have hin : MemPlace.cell b off ∈ before := by rw [hps]; simpa using hp
      rw [World.frozen?_of_block (w := W) (hb.block _ (hlt _ hin))]
      exact hz b off hin
    · intro ha
      have := hn ha
      rw [hps] at this
      simpa using this
    · intro p hp _
      rw [hps]
      simpa using hp
end

def γ00 : Nat → Gh := fun _ => ⟨0, 0, 0, 0, false⟩
theorem hr00 (w : World) : HR w γ00 (fun _ => False) [] := ⟨fun i o h => by simp at h, fun i j oi oj h => by simp at h, fun _ h => h.elim, fun _ h => h.elim⟩
/-- No argument's memory is written by others. -/
abbrev O00 (w : World) : Nat → Prop := (cx w γ00 (fun _ => False) []).O
theorem not_O00 {w : World} {b : Nat} : ¬ O00 w b := by
  rintro (⟨i, o, h, _⟩ | h)
  · simp at h
  · exact h
/-- A law's walk, from its contract. -/
theorem law_walk {P : Program} {f : Nat} {ys : List AV} {cargs : List Value} (hc : CR P f ys [] (.d (.bool true)) []) (w : World) (hargs : All2 (AR (cx w γ00 (fun _ => False) [])) ys cargs) :
    Calls P f cargs.toArray w fun e w' => e = .returned (.bool true) ∧ Kept w w' := by
  refine (hc.1 w γ00 _ cargs (hr00 w) hargs).mono fun e w' => ?_
  rintro ⟨cv, γ1, rfl, _, h1, _, _, h2, h3, _, h4⟩
  refine ⟨?_, h2, fun b hb => h3 b hb fun h => ?_, h4⟩
  · have : DR w' (cx w' γ1 (fun _ => False) []).O (.val (.bool true) cv) := h1
    cases this; rfl
  · obtain ⟨i, o, h, _⟩ := h; simp at h
theorem ar_str (w : World) (a : ByteArray) (h : a.size ≤ maxLen) : AR (cx w γ00 (fun _ => False) []) (.d (.str a.data.toList)) (.string a) := by
  have h1 : a.data.toList.length < 2 ^ 63 := by
    have e : a.data.toList.length = a.size := Array.length_toList
    have : maxLen = 9223372036854775807 := rfl
    rw [e]; omega
  exact DR.str (w := w) (O := O00 w) a.data.toList h1
theorem ar_int (w : World) (k : IntKind) (n : Int) : AR (cx w γ00 (fun _ => False) []) (.d (.int k n)) (.int k n) := DR.int k n
theorem ar_bool (w : World) (b : Bool) : AR (cx w γ00 (fun _ => False) []) (.d (.bool b)) (.bool b) := DR.bool b
/-- What the bounds of a number's kind say. -/
theorem u32_nat {n : Int} (h : (Lit.int .u32 n).wf = true) : ∃ p : Nat, n = p ∧ p < 4294967296 := by
  have h1 : (decide (IntKind.u32.min ≤ n) && decide (n ≤ IntKind.u32.max)) = true := h
  simp only [Bool.and_eq_true, decide_eq_true_eq] at h1
  have e1 : IntKind.u32.min = 0 := rfl
  have e2 : IntKind.u32.max = 4294967295 := rfl
  exact ⟨n.toNat, by omega, by omega⟩
theorem i64_rng {n : Int} (h : (Lit.int .i64 n).wf = true) : -9223372036854775808 ≤ n ∧ n < 9223372036854775808 := by
  have h1 : (decide (IntKind.i64.min ≤ n) && decide (n ≤ IntKind.i64.max)) = true := h
  simp only [Bool.and_eq_true, decide_eq_true_eq] at h1
  have e1 : IntKind.i64.min = -9223372036854775808 := rfl
  have e2 : IntKind.i64.max = 9223372036854775807 := rfl
  omega
end Go.Abs
