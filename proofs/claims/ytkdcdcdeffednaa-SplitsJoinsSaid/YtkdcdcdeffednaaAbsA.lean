/- An abstract semantics of the model's code, first part: data as trees, and what instructions do; a library for the laws, it claims nothing by itself. -/
import Derived.ProofKit
import Derived.WalkKit
import Derived.Wp
import Derived.Laws.AppendOwn
import Derived.RangeFuncLeaves
import Derived.RangeFuncNested
import Derived.Laws.IdiomCopy
import Derived.Laws.IdiomStrings
set_option linter.unusedVariables false
set_option linter.unusedSimpArgs false
/- The abstract domain: data as trees, the store of an activation, and what code computes in it. Pure definitions; nothing of a program. -/
namespace Go.Abs

/-- Frozen data: what is read in memory that nobody writes any more. -/
inductive D where
  | bool (b : Bool) | int (k : IntKind) (n : Int) | str (s : List UInt8)
  | nilsl | sl (es : Nat) (l : List D) | agg (l : List D)
  | nilp | nilf | nili | nilm
  | fn (f : Nat) | iface (t : Nat) (v : D)

def D.cells : D → List D
  | .agg l => l
  | x => [x]

/-- Values of an activation: data; places in its own objects; closures. -/
inductive AV where
  | d (x : D) | agg (l : List AV) | tup (l : List AV)
  | ptr (i off : Nat) | ep (i g k off : Nat) | fp (l : List D)
  | ref (i g off len : Nat) | fn (f : Nat) (caps : List AV) | yld (l : Nat) | gh (l : Nat) (r : List (List D)) | skip | undef

/-- Objects that an activation owns: a variable's cells; an array with its elements, as far as it has been filled. -/
inductive AO where
  | box (l : List AV) | arr (g es : Nat) (l : List D) | frz (g es : Nat) (l : List D) | dead

abbrev Fr := Nat → AV
abbrev St := List AO
def upd (fr : Fr) (t : Nat) (v : AV) : Fr := fun u => if u = t then v else fr u
def updO (fr : Fr) : Option Nat → AV → Fr
  | some t, v => upd fr t v
  | none, _ => fr

inductive Opd where
  | t (n : Nat) | c (v : D) | f (n : Nat)
def ld (fr : Fr) : Opd → AV
  | .t n => fr n
  | .c v => .d v
  | .f n => .d (.fn n)

/-- Instructions. -/
inductive SI where
  | mov (x : Opd)
  | pick (c a b : Opd)
  | bin (op : BinOp) (x y : Opd)
  | eqA (neg : Bool) (ks : List Nat) (x y : Opd)
  | eqB (neg : Bool) (x y : Opd)
  | not (x : Opd)
  | cpl (x : Opd)
  | idxP (n es : Nat) (x i : Opd)
  | neg (x : Opd)
  | lenS (x : Opd)
  | len (x : Opd)
  | conv (k : IntKind) (x : Opd)
  | bytes (x : Opd)
  | ofBytes (x : Opd)
  | idxA (es : Nat) (x i : Opd)
  | idxS (x i : Opd)
  | idxG (n : Nat) (x i : Opd)
  | load1 (x : Opd)
  | loadA (n : Nat) (x : Opd)
  | store1 (a x : Opd)
  | storeA (n : Nat) (a x : Opd)
  | alloc (zero : List D)
  | box (n : Nat) (x : Opd)
  | build (zero : List D) (parts : List (Nat × Nat × Opd))
  | bslice (es len : Nat) (zero : List D) (parts : List (Nat × Opd))
  | fldA (off : Nat) (x : Opd)
  | slS (x : Opd) (lo hi : Option Opd)
  | slL (es : Nat) (x : Opd) (lo hi : Option Opd)
  | slArr (n : Nat) (x : Opd) (lo hi : Option Opd)
  | app (es bytes : Nat) (x y : Opd)
  | mn (x y : Opd)
  | ext (i : Nat) (x : Opd)
  | mkfn (f : Nat) (caps : List Opd)
  | mks (es bytes : Nat) (zero : List D) (n c : Opd)
  | call (f : Nat) (args : List Opd)
  | callV (x : Opd) (args : List Opd)
structure SOp where
  g : Option (Nat × Bool)
  d : Option Nat
  i : SI
inductive SC where
  | skip | ops (l : List SOp) | draw (np : Bool) (dj : List (Nat × Nat)) (l : List SOp) | seq (a b : SC) | ite (c : Opd) (a b : SC) | block (i : Nat) (b : SC) | loop (b : SC) | exit (i : Nat) | ret
  | rng (x : Opd) (ps : List Nat) (a b : SC)
inductive Ex where
  | normal | ret | exit (i : Nat)

/-! ### operations on data -/
def ibit (op : BinOp) (k : IntKind) (x y : Int) : Int :=
  match op with
  | .and => k.wrap (BitVec.ofInt k.bits x &&& BitVec.ofInt k.bits y).toNat
  | .or => k.wrap (BitVec.ofInt k.bits x ||| BitVec.ofInt k.bits y).toNat
  | .xor => k.wrap (BitVec.ofInt k.bits x ^^^ BitVec.ofInt k.bits y).toNat
  | _ => k.wrap (BitVec.ofInt k.bits x &&& ~~~BitVec.ofInt k.bits y).toNat
def binI (op : BinOp) (k : IntKind) (a b : Int) : Option D :=
  match op with
  | .add => some (.int k (k.wrap (a + b)))
  | .sub => some (.int k (k.wrap (a - b)))
  | .mul => some (.int k (k.wrap (a * b)))
  | .quo => if b = 0 then none else some (.int k (k.wrap (a.tdiv b)))
  | .rem => if b = 0 then none else some (.int k (a.tmod b))
  | .and => some (.int k (ibit .and k a b))
  | .or => some (.int k (ibit .or k a b))
  | .xor => some (.int k (ibit .xor k a b))
  | .andNot => some (.int k (ibit .andNot k a b))
  | .eql => some (.bool (a == b))
  | .neq => some (.bool (a != b))
  | .lss => some (.bool (decide (a < b)))
  | .leq => some (.bool (decide (a ≤ b)))
  | .gtr => some (.bool (decide (b < a)))
  | .geq => some (.bool (decide (b ≤ a)))
  | _ => none
def ishift (op : BinOp) (k : IntKind) (a b : Int) : Option D :=
  if b < 0 then none else
  match op with
  | .shl => some (.int k (k.wrap (a * 2 ^ min b.toNat k.bits)))
  | .shr => some (.int k (a.fdiv (2 ^ min b.toNat k.bits)))
  | _ => none
/-- Equality of plain data: numbers (0), strings (1), bools (2). -/
def deq1 : Nat → D → D → Option Bool
  | 0, .int k a, .int k' b => if k = k' then some (a == b) else none
  | 1, .str a, .str b => some (a == b)
  | 2, .bool a, .bool b => some (a == b)
  | _, _, _ => none
def deqL : List Nat → List D → List D → Option Bool
  | [], [], [] => some true
  | k :: ks, x :: xs, y :: ys => match deq1 k x y, deqL ks xs ys with
    | some a, some b => some (a && b)
    | _, _ => none
  | _, _, _ => none
def bin (op : BinOp) (x y : D) : Option D :=
  match x, y with
  | .int k a, .int k' b => match op with
    | .shl => ishift .shl k a b
    | .shr => ishift .shr k a b
    | _ => if k = k' then binI op k a b else none
  | .str a, .str b => match op with
    | .add => if a.length + b.length ≤ 9223372036854775807 then some (.str (a ++ b)) else none
    | .eql => some (.bool (a == b))
    | .neq => some (.bool (!(a == b)))
    | _ => none
  | _, _ => none

def allD : List AV → Option (List D)
  | [] => some []
  | .d x :: r => (allD r).map (x :: ·)
  | _ :: _ => none
def mkAgg (l : List AV) : AV := match allD l with | some ds => .d (.agg ds) | none => .agg l
def AV.cells : AV → List AV
  | .agg l => l
  | .d x => x.cells.map .d
  | v => [v]
/-- Values that may lie in variables. -/
def AV.okc : AV → Bool
  | .tup _ | .yld _ | .gh _ _ | .skip | .undef => false
  | _ => true
def one (l : List AV) : AV := match l with | [v] => v | _ => .undef
def byteD (b : UInt8) : D := .int .u8 b.toNat
def splice {α : Type} (l : List α) (off : Nat) (xs : List α) : List α := l.take off ++ xs ++ l.drop (off + xs.length)
/-- An array of the store as it is read. -/
def rd (S : St) (i : Nat) : Option (Nat × Nat × List D) :=
  match S[i]? with
  | some (.arr g es l) => some (g, es, l)
  | some (.frz g es l) => some (g, es, l)
  | _ => none
/-- The window that a slice value shows, as data: of frozen slices, and of arrays of the activation's own. -/
def window (S : St) : AV → Option (Nat × List D)
  | .d (.sl es l) => some (es, l)
  | .ref i g off n => match rd S i with
    | some (g', es, l) => if g = g' ∧ off + n ≤ l.length then some (es, (l.drop off).take n) else none
    | none => none
  | _ => none

/-- What a closure may capture: addresses of variables; data of one cell. -/
def isCap : AV → Bool
  | .d (.agg _) => false
  | .d _ => true
  | .ptr _ _ => true
  | _ => false
def addNew (l : List Nat) (i : Nat) : List Nat := if l.contains i then l else l ++ [i]
/-- The variables that are handed over by their addresses. -/
def ptrIds : List Nat → List AV → List Nat
  | acc, [] => acc
  | acc, .ptr i _ :: r => ptrIds (addNew acc i) r
  | acc, _ :: r => ptrIds acc r
/-- A function's argument as the callee sees it: arrays of the caller's own are seen as frozen data; addresses by the callee's numbers. -/
def lend (ids : List Nat) (S : St) : AV → Option AV
  | .d x => some (.d x)
  | .ptr i off => some (.ptr (ids.idxOf i) off)
  | v => (window S v).map fun (es, l) => .d (.sl es l)
def lendAll (ids : List Nat) (S : St) : List AV → Option (List AV)
  | [] => some []
  | v :: r => match lend ids S v, lendAll ids S r with
    | some x, some xs => some (x :: xs)
    | _, _ => none
/-- The variables handed over: they hold data alone. -/
def getAll (S : St) : List Nat → Option St
  | [] => some []
  | i :: r => match S[i]?, getAll S r with
    | some (.box l), some S0 => if (allD l).isSome then some (.box l :: S0) else none
    | _, _ => none
def putAll : List Nat → St → St → St
  | i :: r, o :: os, S => putAll r os (S.set i o)
  | _, _, S => S

/-- Data that holds no place in memory. -/
def D.flat : D → Bool
  | .sl _ _ | .agg _ | .iface _ _ => false
  | _ => true
def D.flat1 : D → Bool
  | .agg l => l.all D.flat
  | x => x.flat
def AV.flat : AV → Bool
  | .d x => x.flat1
  | .tup l => l.all fun | .d x => x.flat1 | _ => false
  | _ => false
def isRef : AV → Bool
  | .ref .. => true
  | _ => false

/-- A callee's result in the caller's store: the variables that were handed over under their own numbers; new objects behind the caller's. -/
def rn (ids : List Nat) (n j : Nat) : Nat := match ids[j]? with | some i => i | none => n + (j - ids.length)
def sh0 (ids : List Nat) (n : Nat) : AV → AV
  | .ref i g off len => .ref (rn ids n i) g off len
  | .ptr i off => .ptr (rn ids n i) off
  | v => v
def shC (ids : List Nat) (n : Nat) : AV → AV
  | .fn f caps => .fn f (caps.map (sh0 ids n))
  | v => sh0 ids n v
def sh1 (ids : List Nat) (n : Nat) : AV → AV
  | .agg l => .agg (l.map (shC ids n))
  | v => shC ids n v
def sh2 (ids : List Nat) (n : Nat) : AV → AV
  | .tup l => .tup (l.map (sh1 ids n))
  | v => sh1 ids n v
def shO (ids : List Nat) (n : Nat) : AO → AO
  | .box l => .box (l.map (shC ids n))
  | o => o
def AO.flat : AO → Bool
  | .box l => l.all AV.flat
  | _ => false

/-- What is known of the functions of a program: their results, and what iterators yield. -/
structure Env where
  call : Nat → List AV → St → AV → St → Prop
  iter : Nat → List AV → St → List (List D) → Prop

/-- What a function may hand back: no address of an element. -/
def AV.okr0 : AV → Bool
  | .d _ | .ptr _ _ | .ref _ _ _ _ | .fn _ _ => true
  | _ => false
def AV.okr1 : AV → Bool
  | .agg l => l.all AV.okr0
  | v => v.okr0
def AV.okr : AV → Bool
  | .tup l => l.all AV.okr1
  | v => v.okr1
def AO.okr : AO → Bool
  | .box l => l.all AV.okr0
  | _ => true
def kill : List Nat → St → St
  | [], S => S
  | i :: r, S => kill r (S.set i .dead)
def freeze1 (S : St) (i : Nat) : St := match S[i]? with | some (.arr g es l) => S.set i (.frz g es l) | _ => S
/-- Arrays that were lent and may be seen in the result are written no more. -/
def freezeL : List AV → St → St
  | [], S => S
  | .ref i _ _ _ :: r, S => freezeL r (freeze1 S i)
  | _ :: r, S => freezeL r S

/-- A call. -/
def callK (E : Env) (f : Nat) (vs : List AV) (S : St) (K : AV → St → Prop) : Prop :=
  match getAll S (ptrIds [] vs), lendAll (ptrIds [] vs) S vs with
  | some S0, some as => ∃ r S1, E.call f as S0 r S1 ∧ (r.okr = true ∧ S1.all AO.okr = true) ∧
      K (sh2 (ptrIds [] vs) S.length r)
        (putAll (ptrIds [] vs) (S1.map (shO (ptrIds [] vs) S.length)) (if r.flat && S1.all AO.flat then S else freezeL vs S) ++ (S1.drop (ptrIds [] vs).length).map (shO (ptrIds [] vs) S.length))
  | _, _ => False

def boundsOK (lo hi : Option AV) (len cap : Nat) (K : Nat → Nat → Prop) : Prop :=
  match lo, hi with
  | none, none => K 0 len
  | some (.d (.int _ a)), none => (0 ≤ a ∧ a ≤ (len : Int)) ∧ K a.toNat len
  | none, some (.d (.int _ b)) => (0 ≤ b ∧ b ≤ (cap : Int)) ∧ K 0 b.toNat
  | some (.d (.int _ a)), some (.d (.int _ b)) => (0 ≤ b ∧ b ≤ (cap : Int)) ∧ (0 ≤ a ∧ a ≤ b) ∧ K a.toNat b.toNat
  | _, _ => False

def fillA (cells : List AV) : List (Nat × Nat × AV) → Option (List AV)
  | [] => some cells
  | (off, n, v) :: r => if v.okc = true ∧ v.cells.length = n ∧ off + n ≤ cells.length then fillA (splice cells off v.cells) r else none
def fillE (es : Nat) (l : List D) : List (Nat × AV) → Option (List D)
  | [] => some l
  | (i, .d x) :: r => if x.cells.length = es ∧ i < l.length then fillE es (l.set i x) r else none
  | _ :: _ => none

def stepK (E : Env) (fr : Fr) (S : St) (i : SI) (K : AV → St → Prop) : Prop :=
  match i with
  | .mov x => K (ld fr x) S
  | .pick c a b => match ld fr c with
    | .d (.bool t) => (t = true → K (ld fr a) S) ∧ (t = false → K (ld fr b) S)
    | _ => False
  | .bin op x y => match ld fr x, ld fr y with
    | .d a, .d b => match bin op a b with | some v => K (.d v) S | none => False
    | _, _ => False
  | .eqA ng ks x y => match ld fr x, ld fr y with
    | .d (.agg a), .d (.agg b) => match deqL ks a b with | some v => K (.d (.bool (if ng then !v else v))) S | none => False
    | _, _ => False
  | .eqB ng x y => match ld fr x, ld fr y with
    | .d (.bool a), .d (.bool b) => K (.d (.bool (if ng then !(a == b) else a == b))) S
    | _, _ => False
  | .not x => match ld fr x with | .d (.bool b) => K (.d (.bool (!b))) S | _ => False
  | .neg x => match ld fr x with | .d (.int k n) => K (.d (.int k (k.wrap (0 - n)))) S | _ => False
  | .cpl x => match ld fr x with | .d (.int k n) => K (.d (.int k (ibit .xor k (if k.signed then -1 else k.max) n))) S | _ => False
  | .idxP n es x i => match ld fr x, ld fr i with
    | .ptr j off, .d (.int _ k) => (0 ≤ k ∧ k < (n : Int)) ∧ K (.ptr j (off + k.toNat * es)) S
    | _, _ => False
  | .lenS x => match ld fr x with
    | .d (.str s) => K (.d (.int .i64 s.length)) S
    | _ => False
  | .len x => match ld fr x with
    | .d .nilsl => K (.d (.int .i64 0)) S
    | .d (.sl _ l) => K (.d (.int .i64 l.length)) S
    | .ref i g _ n => match rd S i with | some (g', _, _) => g = g' ∧ K (.d (.int .i64 n)) S | none => False
    | _ => False
  | .conv k x => match ld fr x with | .d (.int _ n) => K (.d (.int k (k.wrap n))) S | _ => False
  | .bytes x => match ld fr x with
    | .d (.str s) => K (.ref S.length 0 0 s.length) (S ++ [.arr 0 1 (s.map byteD)])
    | _ => False
  | .ofBytes x => match window S (ld fr x) with
    | some (es, l) => es = 1 ∧ ∃ s, l = List.map byteD s ∧ K (.d (.str s)) S
    | none => ld fr x = .d .nilsl ∧ K (.d (.str [])) S
  | .idxA es x i => match ld fr x, ld fr i with
    | .ref j g off n, .d (.int _ k) => match rd S j with
      | some (g', es', _) => (g = g' ∧ es = es') ∧ (0 ≤ k ∧ k < (n : Int)) ∧ K (.ep j g (off + k.toNat) 0) S
      | none => False
    | .d (.sl es' l), .d (.int _ k) => es = es' ∧ (0 ≤ k ∧ k < (l.length : Int)) ∧ K (.fp (l.getD k.toNat .nilp).cells) S
    | _, _ => False
  | .idxS x i => match ld fr x, ld fr i with
    | .d (.str s), .d (.int _ k) => (0 ≤ k ∧ k < (s.length : Int)) ∧ K (.d (byteD (s.getD k.toNat 0))) S
    | _, _ => False
  | .idxG n x i => match ld fr x, ld fr i with
    | .d (.agg l), .d (.int _ k) => l.length = n ∧ (0 ≤ k ∧ k < (n : Int)) ∧ K (.d (l.getD k.toNat .nilp)) S
    | .agg l, .d (.int _ k) => l.length = n ∧ (0 ≤ k ∧ k < (n : Int)) ∧ K (l.getD k.toNat .undef) S
    | _, _ => False
  | .load1 x => match ld fr x with
    | .fp [v] => K (.d v) S
    | .fp (v :: _ :: _) => K (.d v) S
    | .ep i g k off => match rd S i with
      | some (g', _, l) => (g = g' ∧ k < l.length) ∧ match (l.getD k .nilp).cells[off]? with | some v => K (.d v) S | none => False
      | none => False
    | .ptr i off => match S[i]? with
      | some (.box l) => match l[off]? with | some v => K v S | none => False
      | _ => False
    | _ => False
  | .loadA n x => match ld fr x with
    | .fp l => n ≤ l.length ∧ K (.d (.agg (l.take n))) S
    | .ep i g k off => match rd S i with
      | some (g', _, l) => (g = g' ∧ k < l.length ∧ off + n ≤ (l.getD k .nilp).cells.length) ∧ K (.d (.agg (((l.getD k .nilp).cells.drop off).take n))) S
      | none => False
    | .ptr i off => match S[i]? with
      | some (.box l) => off + n ≤ l.length ∧ K (mkAgg ((l.drop off).take n)) S
      | _ => False
    | _ => False
  | .store1 a x => match ld fr a with
    | .ptr i off => match S[i]? with
      | some (.box l) => off < l.length ∧ (ld fr x).okc = true ∧ (ld fr x).cells = [ld fr x] ∧ K .undef (S.set i (.box (l.set off (ld fr x))))
      | _ => False
    | .ep i g k off => match S[i]?, ld fr x with
      | some (.arr g' es l), .d v => (g = g' ∧ k < l.length ∧ off < (l.getD k .nilp).cells.length ∧ v.cells = [v]) ∧
          K .undef (S.set i (.arr g es (l.set k (match l.getD k .nilp with | .agg cs => .agg (cs.set off v) | _ => v))))
      | _, _ => False
    | _ => False
  | .storeA n a x => match ld fr a with
    | .ptr i off => match S[i]? with
      | some (.box l) => (off + n ≤ l.length ∧ (ld fr x).okc = true ∧ (ld fr x).cells.length = n) ∧ K .undef (S.set i (.box (splice l off (ld fr x).cells)))
      | _ => False
    | .ep i g k off => match S[i]?, ld fr x with
      | some (.arr g' es l), .d (.agg v) => (g = g' ∧ k < l.length ∧ off + n ≤ (l.getD k .nilp).cells.length ∧ v.length = n) ∧
          K .undef (S.set i (.arr g es (l.set k (.agg (splice (l.getD k .nilp).cells off v)))))
      | _, _ => False
    | _ => False
  | .alloc z => K (.ptr S.length 0) (S ++ [.box (z.map .d)])
  | .box n x => ((ld fr x).okc = true ∧ (ld fr x).cells.length = n) ∧ K (.ptr S.length 0) (S ++ [.box (ld fr x).cells])
  | .build z parts => match fillA (z.map .d) (parts.map fun (o, n, x) => (o, n, ld fr x)) with
    | some l => K (mkAgg l) S
    | none => False
  | .bslice es n z parts => match fillE es (List.replicate n (if es = 1 then z.getD 0 .nilp else .agg z)) (parts.map fun (o, x) => (o, ld fr x)) with
    | some l => K (.ref S.length 0 0 n) (S ++ [.arr 0 es l])
    | none => False
  | .fldA off x => match ld fr x with
    | .ptr i o => K (.ptr i (o + off)) S
    | .ep i g k o => match rd S i with | some (g', _, _) => g = g' ∧ K (.ep i g k (o + off)) S | none => False
    | .fp l => K (.fp (l.drop off)) S
    | _ => False
  | .slS x lo hi => match ld fr x with
    | .d (.str s) => boundsOK (lo.map (ld fr)) (hi.map (ld fr)) s.length s.length fun a b => K (.d (.str ((s.drop a).take (b - a)))) S
    | _ => False
  | .slL es x lo hi => match ld fr x with
    | .d .nilsl => boundsOK (lo.map (ld fr)) (hi.map (ld fr)) 0 0 fun _ _ => K (.d .nilsl) S
    | .d (.sl es' l) => es = es' ∧ boundsOK (lo.map (ld fr)) (hi.map (ld fr)) l.length l.length fun a b => K (.d (.sl es ((l.drop a).take (b - a)))) S
    | .ref i g off n => match rd S i with
      | some (g', es', _) => (g = g' ∧ es = es') ∧ boundsOK (lo.map (ld fr)) (hi.map (ld fr)) n n fun a b => K (.ref i g (off + a) (b - a)) S
      | none => False
    | _ => False
  | .slArr n x lo hi => match ld fr x with
    | .ptr i 0 => match S[i]? with
      | some (.box l) => match allD l with
        | some ds => l.length = n ∧ boundsOK (lo.map (ld fr)) (hi.map (ld fr)) n n fun a b => K (.d (.sl 1 ((ds.drop a).take (b - a)))) (S.set i .dead)
        | none => False
      | _ => False
    | _ => False
  | .app es by_ x y =>
    match (match ld fr y with | .d .nilsl => some (es, []) | .d (.str s) => some (1, s.map byteD) | v => window S v) with
    | some (es', new) => es' = es ∧
      (match ld fr x with
       | .d .nilsl => (new.length * by_ ≤ 140737488355328 ∧ 0 < new.length) ∧ K (.ref S.length 0 0 new.length) (S ++ [.arr 0 es new])
       | .ref i g off n => match S[i]? with
         | some (.arr g' es' l) => (g = g' ∧ es = es' ∧ off + n = l.length ∧ (n + new.length) * by_ ≤ 140737488355328) ∧
             ((new = [] → K (.ref i g off n) S) ∧ (new ≠ [] → off = 0 ∧ K (.ref i (g + 1) 0 (n + new.length)) (S.set i (.arr (g + 1) es (l ++ new)))))
         | _ => False
       | _ => False)
    | none => False
  | .mn x y => match ld fr x, ld fr y with
    | .d (.int k a), .d (.int k' b) => k = k' ∧ K (.d (.int k (if b < a then b else a))) S
    | _, _ => False
  | .ext i x => match ld fr x with | .tup l => i < l.length ∧ K (l.getD i .undef) S | _ => False
  | .mkfn f caps => if caps.isEmpty then K (.d (.fn f)) S else (∀ v ∈ caps.map (ld fr), isCap v = true) ∧ K (.fn f (caps.map (ld fr))) S
  | .mks es by_ z n c => match ld fr n, ld fr c with
    | .d (.int .i64 a), .d (.int .i64 b) => (0 ≤ a ∧ a ≤ b ∧ b ≤ 140737488355328 ∧ b * (by_ : Int) ≤ 140737488355328) ∧
        K (.ref S.length 0 0 a.toNat) (S ++ [.arr 0 es (List.replicate a.toNat (if es = 1 then z.getD 0 .nilp else .agg z))])
    | _, _ => False
  | .call f args => callK E f (args.map (ld fr)) S K
  | .callV x args => match ld fr x with
    | .d (.fn f) => callK E f (args.map (ld fr)) S K
    | .fn f caps => callK E f (args.map (ld fr) ++ caps) S K
    | _ => False

/-- The slot, behind all slots, of what is still to be yielded. -/
abbrev G : Nat := 1000000
/-- An instruction, or a call of 'yield': what is to be yielded next; the loop's body goes on or stops. -/
def stepE (E : Env) (fr : Fr) (S : St) (i : SI) (K : AV → Fr → St → Prop) : Prop :=
  match i with
  | .callV x args => match ld fr x with
    | .yld l => match fr G with
      | .gh l' (xs :: rest) => (l = l' ∧ args.map (ld fr) = xs.map .d) ∧ K (.d (.bool true)) (upd fr G (.gh l rest)) S ∧ K (.d (.bool false)) (upd fr G (.gh l [])) S
      | _ => False
    | _ => stepK E fr S (.callV x args) fun v S' => K v fr S'
  | i => stepK E fr S i fun v S' => K v fr S'
/-- No variable is handed over by its address. -/
def noPtr (fr : Fr) : SI → Prop
  | .call _ args => ptrIds [] (args.map (ld fr)) = []
  | .callV x args => match ld fr x with
    | .fn _ caps => ptrIds [] (args.map (ld fr) ++ caps) = []
    | .yld _ => False
    | _ => ptrIds [] (args.map (ld fr)) = []
  | _ => True

/-- One operation with its guard. -/
def stepOp (E : Env) (so : SOp) (K : Fr → St → Prop) (fr : Fr) (S : St) : Prop :=
  match so.g with
  | none => stepE E fr S so.i fun v fr' S' => K (updO fr' so.d v) S'
  | some (t, want) => match fr t with
    | .d (.bool b) => (b = want → stepE E fr S so.i fun v fr' S' => K (updO fr' so.d v) S') ∧ (b = !want → K (updO fr so.d .skip) S)
    | .skip => K (updO fr so.d .skip) S
    | _ => False
def wpOps (E : Env) : List SOp → (Fr → St → Prop) → Fr → St → Prop
  | [], K, fr, S => K fr S
  | o :: os, K, fr, S => stepOp E o (wpOps E os K) fr S
/-- The same, where the order is drawn: nothing is yielded; calls that may come earlier or later are handed no variables. -/
def stepD (E : Env) (np : Bool) (so : SOp) (K : Fr → St → Prop) (fr : Fr) (S : St) : Prop :=
  match so.g with
  | none => (np = true → noPtr fr so.i) ∧ stepK E fr S so.i fun v S' => K (updO fr so.d v) S'
  | some (t, want) => match fr t with
    | .d (.bool b) => (b = want → (np = true → noPtr fr so.i) ∧ stepK E fr S so.i fun v S' => K (updO fr so.d v) S') ∧ (b = !want → K (updO fr so.d .skip) S)
    | .skip => K (updO fr so.d .skip) S
    | _ => False
def wpD (E : Env) (np : Bool) : List SOp → (Fr → St → Prop) → Fr → St → Prop
  | [], K, fr, S => K fr S
  | o :: os, K, fr, S => stepD E np o (wpD E np os K) fr S

def objA : AV → List Nat
  | .ref j _ _ _ => [j]
  | .ep j _ _ _ => [j]
  | .ptr j _ => [j]
  | _ => []
/-- These slots hold places in different objects. -/
def disj (fr : Fr) : List (Nat × Nat) → Prop
  | [] => True
  | (x, y) :: r => (∀ j ∈ objA (fr x), j ∉ objA (fr y)) ∧ disj fr r

def updL (fr : Fr) : List Nat → List D → Fr
  | t :: ts, x :: xs => updL (upd fr t (.d x)) ts xs
  | _, _ => fr

def wpS (E : Env) : SC → (Ex → Fr → St → Prop) → Fr → St → Prop
  | .skip, Q, fr, S => Q .normal fr S
  | .ops l, Q, fr, S => wpOps E l (Q .normal) fr S
  | .draw np dj l, Q, fr, S => disj fr dj ∧ wpD E np l (Q .normal) fr S
  | .seq a b, Q, fr, S => wpS E a (fun e fr S => match e with | .normal => wpS E b Q fr S | e => Q e fr S) fr S
  | .ite c a b, Q, fr, S => match ld fr c with
    | .d (.bool t) => (t = true → wpS E a Q fr S) ∧ (t = false → wpS E b Q fr S)
    | _ => False
  | .block i b, Q, fr, S => wpS E b (fun e fr S => match e with | .exit j => if j = i then Q .normal fr S else Q (.exit j) fr S | e => Q e fr S) fr S
  | .exit i, Q, fr, S => Q (.exit i) fr S
  | .ret, Q, fr, S => Q .ret fr S
  | .loop b, Q, fr, S => ∃ (I : Fr → St → Prop) (m : Fr → St → Nat), I fr S ∧
      ∀ fr S, I fr S → wpS E b (fun e fr' S' => match e with | .normal => I fr' S' ∧ m fr' S' < m fr S | e => Q e fr' S') fr S
  | .rng x ps a b, Q, fr, S => match ld fr x with
    | .fn g caps => ∃ (ids : List Nat) (caps0 : List AV) (S0 : St) (L : List (List D)) (J : Nat → St → Prop), E.iter g caps0 S0 L ∧ (∀ xs ∈ L, xs.length = ps.length) ∧
        caps = caps0.map (sh0 ids 0) ∧ ids.Nodup ∧ getAll S ids = some S0 ∧ J 0 (kill ids S) ∧ (∀ S, J L.length S → Q .normal fr S) ∧
        ∀ k S, J k S → k < L.length →
          wpS E a (fun e fr1 S1 => match e with
            | .normal => wpS E b (fun e' _ S2 => match e' with | .normal => J (k + 1) S2 | e' => Q e' fr S2) fr1 S1
            | _ => False) (upd (updL fr ps (L.getD k [])) G .undef) S
    | _ => False

end Go.Abs
/- How the abstract domain stands for a heap: what is frozen is read outside of all that is written; an activation owns the blocks of its objects. -/
namespace Go.Abs

inductive All2 {α β : Type} (R : α → β → Prop) : List α → List β → Prop
  | nil : All2 R [] []
  | cons {a : α} {b : β} {as : List α} {bs : List β} : R a b → All2 R as bs → All2 R (a :: as) (b :: bs)

namespace All2
variable {α β : Type} {R R' : α → β → Prop}
theorem mono {as : List α} {bs : List β} (h : All2 R as bs) (hr : ∀ a b, a ∈ as → R a b → R' a b) : All2 R' as bs := by
  induction h with
  | nil => exact .nil
  | cons h1 _ ih => exact .cons (hr _ _ (by simp) h1) (ih fun a b ha => hr a b (by simp [ha]))
theorem len {as : List α} {bs : List β} (h : All2 R as bs) : as.length = bs.length := by
  induction h with
  | nil => rfl
  | cons _ _ ih => simp [ih]
theorem get {as : List α} {bs : List β} (h : All2 R as bs) {i : Nat} {a : α} (ha : as[i]? = some a) : ∃ b, bs[i]? = some b ∧ R a b := by
  induction h generalizing i with
  | nil => simp at ha
  | cons h1 _ ih =>
    cases i with
    | zero => simp at ha; subst ha; exact ⟨_, by simp, h1⟩
    | succ i => simp at ha; obtain ⟨b, hb, hr⟩ := ih ha; exact ⟨b, by simpa using hb, hr⟩
theorem of_get {as : List α} {bs : List β} (hl : as.length = bs.length) (h : ∀ (i : Nat) (a : α) (b : β), as[i]? = some a → bs[i]? = some b → R a b) : All2 R as bs := by
  induction as generalizing bs with
  | nil => cases bs with
    | nil => exact .nil
    | cons b bs => simp at hl
  | cons a as ih => cases bs with
    | nil => simp at hl
    | cons b bs => exact .cons (h 0 a b (by simp) (by simp)) (ih (by simpa using hl) fun i a b ha hb => h (i + 1) a b (by simpa using ha) (by simpa using hb))
theorem append {as as' : List α} {bs bs' : List β} (h : All2 R as bs) (h' : All2 R as' bs') : All2 R (as ++ as') (bs ++ bs') := by
  induction h with
  | nil => exact h'
  | cons h1 _ ih => exact .cons h1 ih
theorem take {as : List α} {bs : List β} (h : All2 R as bs) (n : Nat) : All2 R (as.take n) (bs.take n) := by
  induction h generalizing n with
  | nil => simp; exact .nil
  | cons h1 _ ih => cases n with
    | zero => simp; exact .nil
    | succ n => exact .cons h1 (ih n)
theorem drop {as : List α} {bs : List β} (h : All2 R as bs) (n : Nat) : All2 R (as.drop n) (bs.drop n) := by
  induction h generalizing n with
  | nil => simp; exact .nil
  | cons h1 h2 ih => cases n with
    | zero => exact .cons h1 h2
    | succ n => exact ih n
theorem set {as : List α} {bs : List β} (h : All2 R as bs) (i : Nat) {a : α} {b : β} (hab : R a b) : All2 R (as.set i a) (bs.set i b) := by
  induction h generalizing i with
  | nil => simp; exact .nil
  | cons h1 h2 ih => cases i with
    | zero => exact .cons hab h2
    | succ i => exact .cons h1 (ih i)
theorem splice {as as' : List α} {bs bs' : List β} (h : All2 R as bs) (off : Nat) (h' : All2 R as' bs') : All2 R (splice as off as') (splice bs off bs') := by
  unfold Abs.splice
  rw [h'.len]
  exact ((h.take off).append h').append (h.drop _)
theorem map {γ : Type} {as : List γ} {bs : List β} {f : γ → α} (h : All2 (fun a b => R (f a) b) as bs) : All2 R (as.map f) bs := by
  induction h with
  | nil => exact .nil
  | cons h1 _ ih => exact .cons h1 ih
theorem unmap {γ : Type} {as : List γ} {bs : List β} {f : γ → α} (h : All2 R (as.map f) bs) : All2 (fun a b => R (f a) b) as bs := by
  induction as generalizing bs with
  | nil => cases h; exact .nil
  | cons a as ih => cases h with | cons h1 h2 => exact .cons h1 (ih h2)
end All2

inductive Job where
  | val (x : D) (v : Value)
  | cells (l : List D) (vs : List Value)

/-- Data as it lies: O: the blocks that may still be written. -/
inductive DR (w : World) (O : Nat → Prop) : Job → Prop
  | bool (b : Bool) : DR w O (.val (.bool b) (.bool b))
  | int (k : IntKind) (n : Int) : DR w O (.val (.int k n) (.int k n))
  | str (s : List UInt8) : s.length < 2 ^ 63 → DR w O (.val (.str s) (.string ⟨s.toArray⟩))
  | nilsl : DR w O (.val .nilsl (.slice none 0 0))
  | sl (es b off cap : Nat) (l : List D) (vs : Nat → List Value) : ¬ O b → b < w.heap.size → l.length ≤ cap → cap < 2 ^ 63 →
      (∀ i x, l[i]? = some x → DR w O (.cells x.cells (vs i))) →
      (∀ i, i < l.length → (vs i).length = es ∧ ∀ j, j < es → w.cell? ⟨b, off + i * es + j, none⟩ = (vs i)[j]?) →
      DR w O (.val (.sl es l) (.slice (some ⟨b, off, none⟩) l.length cap))
  | agg (l : List D) (vs : List Value) : DR w O (.cells l vs) → DR w O (.val (.agg l) (.agg vs.toArray))
  | nilp : DR w O (.val .nilp (.pointer none))
  | nilf : DR w O (.val .nilf .nilFunc)
  | nili : DR w O (.val .nili .nilIface)
  | nilm : DR w O (.val .nilm (.map none))
  | fn (f : Nat) : DR w O (.val (.fn f) (.func (.func f) #[] #[]))
  | iface (t : Nat) (x : D) (v : Value) : DR w O (.val x v) → DR w O (.val (.iface t x) (.iface t v))
  | cnil : DR w O (.cells [] [])
  | ccons (x : D) (v : Value) (l : List D) (vs : List Value) : DR w O (.val x v) → v.oneCell = true → DR w O (.cells l vs) → DR w O (.cells (x :: l) (v :: vs))

theorem DR.mono {w w' : World} {O O' : Nat → Prop} (hs : w.heap.size ≤ w'.heap.size) (hsame : ∀ b, b < w.heap.size → ¬ O b → w'.heap[b]? = w.heap[b]?)
    (ho : ∀ b, b < w.heap.size → O' b → O b) {j : Job} (h : DR w O j) : DR w' O' j := by
  induction h with
  | bool b => exact .bool b
  | int k n => exact .int k n
  | str s h => exact .str s h
  | nilsl => exact .nilsl
  | sl es b off cap l vs h1 h2 h3 h3' h4 h5 ih =>
    refine .sl es b off cap l vs (fun h => h1 (ho b h2 h)) (Nat.lt_of_lt_of_le h2 hs) h3 h3' ih fun i hi => ⟨(h5 i hi).1, fun j hj => ?_⟩
    rw [← (h5 i hi).2 j hj]
    exact World.cell?_of_block (hsame b h2 h1)
  | agg l vs _ ih => exact .agg l vs ih
  | nilp => exact .nilp
  | nilf => exact .nilf
  | nili => exact .nili
  | nilm => exact .nilm
  | fn f => exact .fn f
  | iface t x v _ ih => exact .iface t x v ih
  | cnil => exact .cnil
  | ccons x v l vs _ h2 _ ih1 ih2 => exact .ccons x v l vs ih1 h2 ih2

theorem DR.all2 {w : World} {O : Nat → Prop} {l : List D} {vs : List Value} (h : DR w O (.cells l vs)) : All2 (fun x v => DR w O (.val x v) ∧ v.oneCell = true) l vs := by
  induction l generalizing vs with
  | nil => cases h; exact .nil
  | cons x l ih => cases h with | ccons _ v _ vs h1 h2 h3 => exact .cons ⟨h1, h2⟩ (ih h3)
theorem DR.of_all2 {w : World} {O : Nat → Prop} {l : List D} {vs : List Value} (h : All2 (fun x v => DR w O (.val x v) ∧ v.oneCell = true) l vs) : DR w O (.cells l vs) := by
  induction h with
  | nil => exact .cnil
  | cons h1 _ ih => exact .ccons _ _ _ _ h1.1 h1.2 ih
/-- The cells of a value. -/
theorem DR.cells_of {w : World} {O : Nat → Prop} {x : D} {v : Value} (h : DR w O (.val x v)) : DR w O (.cells x.cells v.cells.toList) := by
  cases h with
  | agg l vs h => simpa [D.cells, Value.cells] using h
  | bool b => exact .ccons _ _ _ _ (.bool b) rfl .cnil
  | int k n => exact .ccons _ _ _ _ (.int k n) rfl .cnil
  | str s h => exact .ccons _ _ _ _ (.str s h) rfl .cnil
  | nilsl => exact .ccons _ _ _ _ .nilsl rfl .cnil
  | sl es b off cap l vs h1 h2 h3 h3' h4 h5 => exact .ccons _ _ _ _ (.sl es b off cap l vs h1 h2 h3 h3' h4 h5) rfl .cnil
  | nilp => exact .ccons _ _ _ _ .nilp rfl .cnil
  | nilf => exact .ccons _ _ _ _ .nilf rfl .cnil
  | nili => exact .ccons _ _ _ _ .nili rfl .cnil
  | nilm => exact .ccons _ _ _ _ .nilm rfl .cnil
  | fn f => exact .ccons _ _ _ _ (.fn f) rfl .cnil
  | iface t x v h => exact .ccons _ _ _ _ (.iface t x v h) rfl .cnil

/-- What is known of an object: its block, the cells of an element, how many elements there is room for, how often it has been moved, whether it is a variable. -/
structure Gh where
  blk : Nat
  es : Nat
  cap : Nat
  gen : Nat
  box : Bool
structure Cx where
  w : World
  O : Nat → Prop
  γ : Nat → Gh
  n : Nat

def C0 (x : Cx) : AV → Value → Prop
  | .d a, v => DR x.w x.O (.val a v) ∧ v.oneCell = true
  | .ptr i off, v => i < x.n ∧ (x.γ i).box = true ∧ v = .pointer (some ⟨(x.γ i).blk, off, none⟩)
  | _, _ => False
def VR (x : Cx) : AV → Value → Prop
  | .d a, v => DR x.w x.O (.val a v)
  | .ptr i off, v => i < x.n ∧ (x.γ i).box = true ∧ v = .pointer (some ⟨(x.γ i).blk, off, none⟩)
  | .ep i g k off, v => i < x.n ∧ (x.γ i).box = false ∧ g ≤ (x.γ i).gen ∧ v.oneCell = true ∧ ((x.γ i).gen = g → v = .pointer (some ⟨(x.γ i).blk, k * (x.γ i).es + off, none⟩))
  | .fp l, v => ∃ b off vs, v = .pointer (some ⟨b, off, none⟩) ∧ ¬ x.O b ∧ b < x.w.heap.size ∧ DR x.w x.O (.cells l vs) ∧ ∀ j, j < vs.length → x.w.cell? ⟨b, off + j, none⟩ = vs[j]?
  | .ref i g off len, v => i < x.n ∧ (x.γ i).box = false ∧ g ≤ (x.γ i).gen ∧ v.oneCell = true ∧ ((x.γ i).gen = g → off + len ≤ (x.γ i).cap ∧ ∃ o', (off < (x.γ i).cap → o' = off * (x.γ i).es) ∧ v = .slice (some ⟨(x.γ i).blk, o', none⟩) len ((x.γ i).cap - off))
  | .fn f caps, v => ∃ vs : List Value, v = .func (.func f) #[] vs.toArray ∧ All2 (C0 x) caps vs
  | .skip, v => v = undef
  | .yld l, v => v = .func (.yield l) #[] #[]
  | .gh _ _, v => v = undef
  | .undef, _ => True
  | _, _ => False
def AR (x : Cx) : AV → Value → Prop
  | .agg l, v => ∃ vs : List Value, v = .agg vs.toArray ∧ All2 (fun a v => VR x a v ∧ v.oneCell = true) l vs
  | a, v => VR x a v
def TR (x : Cx) : AV → Value → Prop
  | .tup l, v => ∃ vs : List Value, v = .tuple vs.toArray ∧ All2 (AR x) l vs
  | a, v => AR x a v

structure GX (a b : Gh) : Prop where
  box : b.box = a.box
  blk : a.box = true → b = a
  gen : a.gen ≤ b.gen
  same : b.gen = a.gen → b = a
structure Cx.Le (x x' : Cx) : Prop where
  size : x.w.heap.size ≤ x'.w.heap.size
  same : ∀ b, b < x.w.heap.size → ¬ x.O b → x'.w.heap[b]? = x.w.heap[b]?
  own : ∀ b, b < x.w.heap.size → x'.O b → x.O b
  n : x.n ≤ x'.n
  gh : ∀ i, i < x.n → GX (x.γ i) (x'.γ i)

theorem GX.refl (a : Gh) : GX a a := ⟨rfl, fun _ => rfl, Nat.le_refl _, fun _ => rfl⟩
theorem GX.trans {a b c : Gh} (h : GX a b) (k : GX b c) : GX a c :=
  ⟨k.box.trans h.box, fun e => (k.blk (h.box.trans e)).trans (h.blk e), Nat.le_trans h.gen k.gen, fun e => by
    have h1 := h.gen; have h2 := k.gen
    have e1 : b.gen = a.gen := by omega
    have e2 : c.gen = b.gen := by omega
    exact (k.same e2).trans (h.same e1)⟩
theorem Cx.Le.refl (x : Cx) : x.Le x := ⟨Nat.le_refl _, fun _ _ _ => rfl, fun _ _ h => h, Nat.le_refl _, fun _ _ => GX.refl _⟩
theorem Cx.Le.trans {x y z : Cx} (h : x.Le y) (k : y.Le z) : x.Le z :=
  ⟨Nat.le_trans h.size k.size,
   fun b hb hO => (k.same b (Nat.lt_of_lt_of_le hb h.size) (fun h' => hO (h.own b hb h'))).trans (h.same b hb hO),
   fun b hb hO => h.own b hb (k.own b (Nat.lt_of_lt_of_le hb h.size) hO),
   Nat.le_trans h.n k.n, fun i hi => (h.gh i hi).trans (k.gh i (Nat.lt_of_lt_of_le hi h.n))⟩
theorem Cx.Le.dr {x x' : Cx} (h : x.Le x') {j : Job} (hd : DR x.w x.O j) : DR x'.w x'.O j := hd.mono h.size h.same h.own
theorem Cx.Le.cell {x x' : Cx} (h : x.Le x') {b off : Nat} (hb : b < x.w.heap.size) (hO : ¬ x.O b) : x'.w.cell? ⟨b, off, none⟩ = x.w.cell? ⟨b, off, none⟩ :=
  World.cell?_of_block (h.same b hb hO)
theorem Cx.Le.c0 {x x' : Cx} (h : x.Le x') {a : AV} {v : Value} (hv : C0 x a v) : C0 x' a v := by
  cases a <;> simp only [C0] at hv ⊢
  · exact ⟨h.dr hv.1, hv.2⟩
  · obtain ⟨h1, h2, h3⟩ := hv
    have g := (h.gh _ h1).blk h2
    exact ⟨Nat.lt_of_lt_of_le h1 h.n, by rw [g]; exact h2, by rw [g]; exact h3⟩
theorem Cx.Le.vr {x x' : Cx} (h : x.Le x') {a : AV} {v : Value} (hv : VR x a v) : VR x' a v := by
  cases a <;> simp only [VR] at hv ⊢
  · exact h.dr hv
  · obtain ⟨h1, h2, h3⟩ := hv
    have g := (h.gh _ h1).blk h2
    exact ⟨Nat.lt_of_lt_of_le h1 h.n, by rw [g]; exact h2, by rw [g]; exact h3⟩
  · obtain ⟨h1, h2, h3, h3', h4⟩ := hv
    have g := h.gh _ h1
    refine ⟨Nat.lt_of_lt_of_le h1 h.n, g.box.trans h2, Nat.le_trans h3 g.gen, h3', fun e => ?_⟩
    have := g.gen
    have e2 := g.same (by omega)
    rw [e2] at e ⊢
    exact h4 e
  · obtain ⟨b, off, vs, h1, h2, h3, h4, h5⟩ := hv
    exact ⟨b, off, vs, h1, fun h' => h2 (h.own b h3 h'), Nat.lt_of_lt_of_le h3 h.size, h.dr h4, fun j hj => (h.cell h3 h2).trans (h5 j hj)⟩
  · obtain ⟨h1, h2, h3, h3', h4⟩ := hv
    have g := h.gh _ h1
    refine ⟨Nat.lt_of_lt_of_le h1 h.n, g.box.trans h2, Nat.le_trans h3 g.gen, h3', fun e => ?_⟩
    have := g.gen
    have e2 := g.same (by omega)
    rw [e2] at e ⊢
    exact h4 e
  · obtain ⟨vs, h1, h2⟩ := hv
    exact ⟨vs, h1, h2.mono fun _ _ _ h3 => h.c0 h3⟩
  all_goals exact hv
theorem Cx.Le.ar {x x' : Cx} (h : x.Le x') {a : AV} {v : Value} (hv : AR x a v) : AR x' a v := by
  cases a <;> simp only [AR] at hv ⊢ <;> first
    | exact h.vr hv
    | (obtain ⟨vs, h1, h2⟩ := hv; exact ⟨vs, h1, h2.mono fun _ _ _ h3 => ⟨h.vr h3.1, h3.2⟩⟩)
theorem Cx.Le.tr {x x' : Cx} (h : x.Le x') {a : AV} {v : Value} (hv : TR x a v) : TR x' a v := by
  cases a <;> simp only [TR] at hv ⊢ <;> first
    | exact h.ar hv
    | (obtain ⟨vs, h1, h2⟩ := hv; exact ⟨vs, h1, h2.mono fun _ _ _ h3 => h.ar h3⟩)

end Go.Abs
/- The store of an activation over a heap, and how it turns: new objects, stores, arrays that move, arrays that are frozen. -/
namespace Go.Abs

def AO.live : AO → Bool
  | .box _ => true
  | .arr _ _ _ => true
  | _ => false
def Own (S : St) (γ : Nat → Gh) (b : Nat) : Prop := ∃ i o, S[i]? = some o ∧ o.live = true ∧ (γ i).blk = b
def cx (w : World) (γ : Nat → Gh) (env : Nat → Prop) (S : St) : Cx := ⟨w, fun b => Own S γ b ∨ env b, γ, S.length⟩

def Blk (w : World) (b : Nat) (cs : Array Value) : Prop := ∃ T fz, w.heap[b]? = some (.cells cs T fz) ∧ ∀ k, k < cs.size → w.frozen? ⟨b, k, none⟩ = false
def Elems (x : Cx) (cs : Array Value) (es : Nat) (l : List D) : Prop :=
  ∃ vs : Nat → List Value, (∀ i d, l[i]? = some d → DR x.w x.O (.cells d.cells (vs i))) ∧ ∀ i, i < l.length → (vs i).length = es ∧ ∀ j, j < es → cs[i * es + j]? = (vs i)[j]?
def OR (x : Cx) (i : Nat) : AO → Prop
  | .box l => (x.γ i).box = true ∧ ∃ cs, Blk x.w (x.γ i).blk cs ∧ All2 (fun a v => VR x a v ∧ v.oneCell = true) l cs.toList
  | .arr g es l => (x.γ i).box = false ∧ (x.γ i).gen = g ∧ (x.γ i).es = es ∧ ∃ cs, Blk x.w (x.γ i).blk cs ∧ cs.size = (x.γ i).cap * es ∧ l.length ≤ (x.γ i).cap ∧ (x.γ i).cap < 2 ^ 63 ∧ Elems x cs es l
  | .frz g es l => (x.γ i).box = false ∧ (x.γ i).gen = g ∧ (x.γ i).es = es ∧ ¬ x.O (x.γ i).blk ∧ (x.γ i).blk < x.w.heap.size ∧
      ∃ cs T fz, x.w.heap[(x.γ i).blk]? = some (.cells cs T fz) ∧ cs.size = (x.γ i).cap * es ∧ l.length ≤ (x.γ i).cap ∧ (x.γ i).cap < 2 ^ 63 ∧ Elems x cs es l
  | .dead => True

structure HR (w : World) (γ : Nat → Gh) (env : Nat → Prop) (S : St) : Prop where
  objs : ∀ i o, S[i]? = some o → OR (cx w γ env S) i o
  inj : ∀ i j oi oj, S[i]? = some oi → S[j]? = some oj → oi.live = true → oj.live = true → (γ i).blk = (γ j).blk → i = j
  elt : ∀ b, env b → b < w.heap.size
  apart : ∀ b, env b → ¬ Own S γ b

theorem heap_lt {w : World} {b : Nat} {o : Obj} (h : w.heap[b]? = some o) : b < w.heap.size := (Array.getElem?_eq_some_iff.1 h).1
theorem Blk.lt {w : World} {b : Nat} {cs : Array Value} (h : Blk w b cs) : b < w.heap.size := by
  obtain ⟨T, fz, h1, _⟩ := h; exact heap_lt h1
theorem Blk.of {w w' : World} {b : Nat} {cs : Array Value} (h : Blk w b cs) (he : w'.heap[b]? = w.heap[b]?) : Blk w' b cs := by
  obtain ⟨T, fz, h1, h2⟩ := h
  exact ⟨T, fz, he.trans h1, fun k hk => (World.frozen?_of_block (a := ⟨b, k, none⟩) he).trans (h2 k hk)⟩
theorem Blk.cell {w : World} {b : Nat} {cs : Array Value} (h : Blk w b cs) (k : Nat) : w.cell? ⟨b, k, none⟩ = cs[k]? := by
  obtain ⟨T, fz, h1, _⟩ := h
  simp [World.cell?, h1]
theorem OR.live_lt {x : Cx} {i : Nat} {o : AO} (h : OR x i o) (hl : o.live = true) : (x.γ i).blk < x.w.heap.size := by
  cases o with
  | box l => obtain ⟨_, cs, h1, _⟩ := h; exact h1.lt
  | arr g es l => obtain ⟨_, _, _, cs, h1, _⟩ := h; exact h1.lt
  | frz g es l => cases hl
  | dead => cases hl
theorem HR.own_lt {w : World} {γ : Nat → Gh} {env : Nat → Prop} {S : St} (h : HR w γ env S) {b : Nat} (hb : Own S γ b) : b < w.heap.size := by
  obtain ⟨i, o, h1, h2, rfl⟩ := hb
  exact (h.objs i o h1).live_lt h2
theorem HR.O_lt {w : World} {γ : Nat → Gh} {env : Nat → Prop} {S : St} (h : HR w γ env S) {b : Nat} (hb : (cx w γ env S).O b) : b < w.heap.size :=
  hb.elim h.own_lt (h.elt b)

theorem Elems.mono {x x' : Cx} (h : x.Le x') {cs : Array Value} {es : Nat} {l : List D} (he : Elems x cs es l) : Elems x' cs es l := by
  obtain ⟨vs, h1, h2⟩ := he
  exact ⟨vs, fun i d hd => h.dr (h1 i d hd), h2⟩
theorem OR.mono {x x' : Cx} (h : x.Le x') {i : Nat} {o : AO} (hg : x'.γ i = x.γ i) (hb : o.live = true → x'.w.heap[(x.γ i).blk]? = x.w.heap[(x.γ i).blk]?) (ho : OR x i o) : OR x' i o := by
  cases o with
  | box l =>
    obtain ⟨h1, cs, h2, h3⟩ := ho
    exact ⟨by rw [hg]; exact h1, cs, by rw [hg]; exact h2.of (hb rfl), h3.mono fun _ _ _ h4 => ⟨h.vr h4.1, h4.2⟩⟩
  | arr g es l =>
    obtain ⟨h0, h1, h2, cs, h3, h4, h5, h6, h7⟩ := ho
    exact ⟨by rw [hg]; exact h0, by rw [hg]; exact h1, by rw [hg]; exact h2, cs, by rw [hg]; exact h3.of (hb rfl), by rw [hg]; exact h4, by rw [hg]; exact h5, by rw [hg]; exact h6, h7.mono h⟩
  | frz g es l =>
    obtain ⟨h0, h1, h2, h3, h4, cs, T, fz, h5, h6, h7, h8, h9⟩ := ho
    refine ⟨by rw [hg]; exact h0, by rw [hg]; exact h1, by rw [hg]; exact h2, by rw [hg]; exact fun h' => h3 (h.own _ h4 h'), by rw [hg]; exact Nat.lt_of_lt_of_le h4 h.size, cs, T, fz, ?_, by rw [hg]; exact h6, by rw [hg]; exact h7, by rw [hg]; exact h8, h9.mono h⟩
    rw [hg, h.same _ h4 h3]; exact h5
  | dead => trivial

/-- A new object at the end. -/
theorem HR.new {w w' : World} {γ : Nat → Gh} {env : Nat → Prop} {S : St} (h : HR w γ env S) (o : AO) (gh : Gh) (ob : Obj)
    (hw : w'.heap = w.heap.push ob) (hb : gh.blk = w.heap.size) :
    (cx w γ env S).Le (cx w' (fun i => if i = S.length then gh else γ i) env (S ++ [o])) ∧
      (OR (cx w' (fun i => if i = S.length then gh else γ i) env (S ++ [o])) S.length o → HR w' (fun i => if i = S.length then gh else γ i) env (S ++ [o])) := by
  have hsz : w'.heap.size = w.heap.size + 1 := by rw [hw]; simp
  have hold : ∀ b, b < w.heap.size → w'.heap[b]? = w.heap[b]? := fun b hb => by
    rw [hw, Array.getElem?_push]; simp [show b ≠ w.heap.size by omega]
  have hS : ∀ i o', (S ++ [o])[i]? = some o' → (i < S.length ∧ S[i]? = some o') ∨ (i = S.length ∧ o' = o) := fun i o' hi => by
    rcases Nat.lt_trichotomy i S.length with h1 | h1 | h1
    · exact .inl ⟨h1, by rwa [List.getElem?_append_left h1] at hi⟩
    · subst h1; simp at hi; exact .inr ⟨rfl, hi.symm⟩
    · rw [List.getElem?_eq_none (by simp; omega)] at hi; cases hi
  have hown : ∀ b, b < w.heap.size → Own (S ++ [o]) (fun i => if i = S.length then gh else γ i) b → Own S γ b := by
    rintro b hlt ⟨i, o', h1, h2, h3⟩
    rcases hS i o' h1 with ⟨h4, h5⟩ | ⟨rfl, rfl⟩
    · exact ⟨i, o', h5, h2, by simpa [show i ≠ S.length by omega] using h3⟩
    · simp at h3; omega
  have hle : (cx w γ env S).Le (cx w' (fun i => if i = S.length then gh else γ i) env (S ++ [o])) :=
    ⟨by simp [cx, hsz], fun b hb _ => hold b hb, fun b hb hO => hO.elim (fun h1 => .inl (hown b hb h1)) .inr, by simp [cx], fun i hi => by
      have : i ≠ S.length := by simp [cx] at hi; omega
      simp [cx, this]; exact GX.refl _⟩
  refine ⟨hle, fun ho => ⟨fun i o' hi => ?_, fun i j oi oj hi hj hli hlj he => ?_, fun b hb => by have := h.elt b hb; omega, fun b hb hO => ?_⟩⟩
  · rcases hS i o' hi with ⟨h4, h5⟩ | ⟨rfl, rfl⟩
    · exact (h.objs i o' h5).mono hle (by simp [cx, show i ≠ S.length by omega]) fun hl => hold _ ((h.objs i o' h5).live_lt hl)
    · exact ho
  · rcases hS i oi hi with ⟨h4, h5⟩ | ⟨h4, h5⟩ <;> rcases hS j oj hj with ⟨h6, h7⟩ | ⟨h6, h7⟩
    · simp only [show i ≠ S.length by omega, show j ≠ S.length by omega, if_false] at he
      exact h.inj i j oi oj h5 h7 hli hlj he
    · have := (h.objs i oi h5).live_lt hli
      simp only [show i ≠ S.length by omega, if_false, h6, if_true] at he
      simp [cx] at this
      omega
    · have := (h.objs j oj h7).live_lt hlj
      simp only [show j ≠ S.length by omega, if_false, h4, if_true] at he
      simp [cx] at this
      omega
    · omega
  · exact h.apart b hb (hown b (h.elt b hb) hO)

/-- Object i is replaced: its block's contents turn, or it moves to another block, or it is given up. -/
theorem HR.repl {w w' : World} {γ γ' : Nat → Gh} {env : Nat → Prop} {S : St} (h : HR w γ env S) {i : Nat} {o : AO} (o' : AO) (hi : S[i]? = some o) (hl : o.live = true)
    (hsz : w.heap.size ≤ w'.heap.size) (hg : ∀ j, j ≠ i → γ' j = γ j) (hgi : GX (γ i) (γ' i))
    (hw : ∀ b, b < w.heap.size → b ≠ (γ i).blk → w'.heap[b]? = w.heap[b]?)
    (hb : o'.live = true → (γ' i).blk = (γ i).blk ∨ w.heap.size ≤ (γ' i).blk) :
    (cx w γ env S).Le (cx w' γ' env (S.set i o')) ∧ (OR (cx w' γ' env (S.set i o')) i o' → HR w' γ' env (S.set i o')) := by
  have hilt : i < S.length := (List.getElem?_eq_some_iff.1 hi).1
  have hS : ∀ j oj, (S.set i o')[j]? = some oj → (j ≠ i ∧ S[j]? = some oj) ∨ (j = i ∧ oj = o') := fun j oj hj => by
    by_cases hij : j = i
    · subst hij; rw [List.getElem?_set_self hilt] at hj; exact .inr ⟨rfl, (Option.some.inj hj).symm⟩
    · rw [List.getElem?_set_ne (fun e => hij e.symm)] at hj; exact .inl ⟨hij, hj⟩
  have hown : ∀ b, b < w.heap.size → Own (S.set i o') γ' b → Own S γ b := by
    rintro b hlt ⟨j, oj, h1, h2, h3⟩
    rcases hS j oj h1 with ⟨h4, h5⟩ | ⟨h4, h5⟩
    · exact ⟨j, oj, h5, h2, by rw [← hg j h4]; exact h3⟩
    · subst h4; subst h5
      rcases hb h2 with h6 | h6
      · exact ⟨j, o, hi, hl, by rw [← h6]; exact h3⟩
      · omega
  have hle : (cx w γ env S).Le (cx w' γ' env (S.set i o')) :=
    ⟨hsz, fun b hb' hO => hw b hb' (fun e => hO (.inl ⟨i, o, hi, hl, e.symm⟩)), fun b hb' hO => hO.elim (fun h1 => .inl (hown b hb' h1)) .inr, by simp [cx], fun j hj => by
      by_cases hij : j = i
      · subst hij; exact hgi
      · simp only [cx]; rw [hg j hij]; exact GX.refl _⟩
  have hne : ∀ j oj, j ≠ i → S[j]? = some oj → oj.live = true → (γ j).blk ≠ (γ i).blk := fun j oj hj h1 h2 e => hj (h.inj j i oj o h1 hi h2 hl e)
  refine ⟨hle, fun ho => ⟨fun j oj hj => ?_, fun j k oj ok hj hk hlj hlk he => ?_, fun b hb' => Nat.lt_of_lt_of_le (h.elt b hb') hsz, fun b hb' hO => h.apart b hb' (hown b (h.elt b hb') hO)⟩⟩
  · rcases hS j oj hj with ⟨h4, h5⟩ | ⟨h4, h5⟩
    · exact (h.objs j oj h5).mono hle (by simp [cx, hg j h4]) fun hl' => hw _ ((h.objs j oj h5).live_lt hl') (hne j oj h4 h5 hl')
    · subst h4; subst h5; exact ho
  · rcases hS j oj hj with ⟨h4, h5⟩ | ⟨h4, h5⟩ <;> rcases hS k ok hk with ⟨h6, h7⟩ | ⟨h6, h7⟩
    · rw [hg j h4, hg k h6] at he
      exact h.inj j k oj ok h5 h7 hlj hlk he
    · subst h6; subst h7
      rw [hg j h4] at he
      have h8 := (h.objs j oj h5).live_lt hlj
      have h9 := hne j oj h4 h5 hlj
      simp [cx] at h8
      rcases hb hlk with h10 | h10
      · exact absurd (he.trans h10) h9
      · omega
    · subst h4; subst h5
      rw [hg k h6] at he
      have h8 := (h.objs k ok h7).live_lt hlk
      have h9 := hne k ok h6 h7 hlk
      simp [cx] at h8
      rcases hb hlj with h10 | h10
      · exact absurd (he.symm.trans h10) h9
      · omega
    · omega

end Go.Abs
/- From the program's operations to instructions; the frame of an activation; when an instruction is right. -/
namespace Go.Abs

/-! ### translation -/
def trV1 : Value → Option D
  | .bool b => some (.bool b)
  | .int k n => some (.int k n)
  | .string s => if s.data.toList.length < 9223372036854775808 then some (.str s.data.toList) else none
  | .slice none 0 0 => some .nilsl
  | .pointer none => some .nilp
  | .nilFunc => some .nilf
  | .nilIface => some .nili
  | .map none => some .nilm
  | _ => none
def trVs : List Value → Option (List D)
  | [] => some []
  | v :: r => match trV1 v, trVs r with
    | some x, some xs => some (x :: xs)
    | _, _ => none
def trV : Value → Option D
  | .agg cs => (trVs cs.toList).map .agg
  | v => trV1 v
def trO : Operand → Option Opd
  | .tmp t => some (.t t)
  | .const v => (trV v).map .c
  | .func f => some (.f f)
  | .global _ => none
def trOs : List Operand → Option (List Opd)
  | [] => some []
  | x :: r => match trO x, trOs r with
    | some y, some ys => some (y :: ys)
    | _, _ => none
def isFlatT (P : Program) (t : TypeId) : Bool :=
  match P.underlying t with
  | some (.int _) => true
  | some .string => true
  | some .bool => true
  | _ => false
def isNumT (P : Program) (t : TypeId) : Bool :=
  match P.underlying t with
  | some (.int _) => true
  | some .string => true
  | _ => false
def isBoolT (P : Program) (t : TypeId) : Bool :=
  match P.underlying t with
  | some .bool => true
  | _ => false
/-- The cells of a variable of a type, and whether its values are aggregates. -/
def szA (P : Program) (t : TypeId) : Option (Nat × Bool) :=
  match P.info? t, P.underlying t with
  | some i, some (.struct _) => some (i.size, true)
  | some i, some (.array _ _) => some (i.size, true)
  | some i, some _ => some (i.size, false)
  | _, _ => none
def zeroD (P : Program) (t : TypeId) : Option (List D) :=
  match P.info? t with
  | some i => match i.zero with
    | some v => trVs v.cells.toList
    | none => none
  | none => none

def slE (P : Program) (t : TypeId) : Option TypeId :=
  match P.underlying t with
  | some (.slice e) => some e
  | _ => none
def arE (P : Program) (t : TypeId) : Option (Nat × TypeId) :=
  match P.underlying t with
  | some (.array n e) => some (n, e)
  | _ => none
def isU8 (P : Program) (t : TypeId) : Bool :=
  match P.underlying t with
  | some (.int .u8) => true
  | _ => false
/-- A struct whose fields are numbers, strings, bools, one cell each, in their order. -/
def kindOf (P : Program) (t : TypeId) : Option Nat :=
  match P.underlying t with
  | some (.int _) => some 0
  | some .string => some 1
  | some .bool => some 2
  | _ => none
def flatFields (P : Program) : Nat → List Field → Option (List Nat)
  | _, [] => some []
  | i, f :: r => if f.offset = i ∧ f.name ≠ "_" then match kindOf P f.type, flatFields P (i + 1) r with
    | some k, some ks => some (k :: ks)
    | _, _ => none
    else none
def flatStruct (P : Program) (t : TypeId) : Option (List Nat) :=
  match P.underlying t with
  | some (.struct fs) => if P.stoodInHeld t = false ∧ P.eqGuardType P.depth t = false then flatFields P 0 fs.toList else none
  | _ => none
def structFields (P : Program) (t : TypeId) : List Field :=
  match P.underlying t with
  | some (.struct fs) => fs.toList
  | _ => []
def trParts (P : Program) (place : Nat → Option (Nat × Nat)) : List (Nat × Operand) → Option (List (Nat × Nat × Opd))
  | [] => some []
  | (i, x) :: r => match place i, trO x, trParts P place r with
    | some (o, n), some y, some ys => some ((o, n, y) :: ys)
    | _, _, _ => none
def trIdx : List (Nat × Operand) → Option (List (Nat × Opd))
  | [] => some []
  | (i, x) :: r => match trO x, trIdx r with
    | some y, some ys => some ((i, y) :: ys)
    | _, _ => none
def trOpt : Option Operand → Option (Option Opd)
  | none => some none
  | some x => (trO x).map some
def trConv (P : Program) (src dst : TypeId) (x : Opd) : Option SI :=
  match P.underlying src, P.underlying dst with
  | some (.int _), some (.int k) => some (.conv k x)
  | some .string, some (.slice e) => if isU8 P e && (P.info? e).any (fun i => i.size == 1) then some (.bytes x) else none
  | some (.slice e), some .string => if isU8 P e then some (.ofBytes x) else none
  | _, _ => none
def trBin (P : Program) (op : BinOp) (t : TypeId) (x y : Opd) : Option SI :=
  if isNumT P t then some (.bin op x y)
  else if isBoolT P t then match op with
    | .eql => some (.eqB false x y)
    | .neq => some (.eqB true x y)
    | _ => none
  else match flatStruct P t with
    | some ks => match op with
      | .eql => some (.eqA false ks x y)
      | .neq => some (.eqA true ks x y)
      | _ => none
    | none => none
def fieldPlaces (P : Program) (fs : List Field) (i : Nat) : Option (Nat × Nat) :=
  match fs[i]? with
  | some f => match P.info? f.type with
    | some j => some (f.offset, j.size)
    | none => none
  | none => none
def trBuild (P : Program) (t : TypeId) (parts : List (Nat × Operand)) : Option SI :=
  match zeroD P t, P.underlying t with
  | some z, some (.struct fs) => if fs.toList.all (fun f => (P.info? f.type).isSome) then (trParts P (fieldPlaces P fs.toList) parts).map (.build z) else none
  | some z, some (.array _ e) => match P.info? e with
    | some j => (trParts P (fun i => some (i * j.size, j.size)) parts).map (.build z)
    | none => none
  | _, _ => none
def trCall (P : Program) (c : Call) : Option SI :=
  match c.callee, c.args.toList, c.argTypes.toList with
  | .builtin .len, [x], [t] => match P.underlying t, trO x with
    | some .string, some y => some (.lenS y)
    | some (.slice _), some y => some (.len y)
    | _, _ => none
  | .builtin .min, [x, y], _ => match trO x, trO y with
    | some a, some b => some (.mn a b)
    | _, _ => none
  | .builtin .append, [x, y], [t, u] => match slE P t, trO x, trO y with
    | some e, some a, some b => match P.info? e, P.underlying u with
      | some i, some (.slice _) => if i.zero.any (fun v => v.cells.size == i.size) ∧ 0 < i.size ∧ 0 < i.bytes then some (.app i.size i.bytes a b) else none
      | some i, some .string => if i.size = 1 ∧ i.zero.any (fun v => v.cells.size == i.size) ∧ 0 < i.bytes then some (.app i.size i.bytes a b) else none
      | _, _ => none
    | _, _, _ => none
  | .value (.func f), args, _ => match P.funcs[f]? with
    | some fn => if fn.body.isSome then (trOs args).map (.call f) else none
    | none => none
  | .value (.tmp t), args, _ => (trOs args).map (.callV (.t t))
  | _, _, _ => none
def trI (P : Program) (op : Op) : Option SI :=
  match op with
  | .move x | .assign x => (trO x).map .mov
  | .pick c a b => match trO c, trO a, trO b with
    | some c, some a, some b => some (.pick c a b)
    | _, _, _ => none
  | .binOp op t x y _ => match trO x, trO y with
    | some x, some y => trBin P op t x y
    | _, _ => none
  | .unOp .not _ x => (trO x).map .not
  | .unOp .neg _ x => (trO x).map .neg
  | .unOp .xor _ x => (trO x).map .cpl
  | .convert src dst x => match trO x with
    | some x => trConv P src dst x
    | none => none
  | .load t x => match szA P t, trO x with
    | some (n, true), some x => some (.loadA n x)
    | some (_, false), some x => some (.load1 x)
    | _, _ => none
  | .store t a x => match szA P t, trO a, trO x with
    | some (n, true), some a, some x => some (.storeA n a x)
    | some (1, false), some a, some x => some (.store1 a x)
    | _, _, _ => none
  | .alloc t => (zeroD P t).map .alloc
  | .box t x => match szA P t, trO x with
    | some (n, _), some x => some (.box n x)
    | _, _ => none
  | .build t parts => trBuild P t parts.toList
  | .buildSlice t n parts => match slE P t with
    | some e => match P.info? e, zeroD P e, trIdx parts.toList with
      | some i, some z, some ps => if n * i.size ≤ 16777216 && z.length == i.size && 0 < i.size then some (.bslice i.size n z ps) else none
      | _, _, _ => none
    | none => none
  | .fieldAddr t x f => match (structFields P t)[f]?, trO x with
    | some fd, some y => match P.info? fd.type with
      | some j => if 0 < j.size then some (.fldA fd.offset y) else none
      | none => none
    | _, _ => none
  | .indexAddr t x i => match slE P t, trO x, trO i with
    | some e, some x, some i => match P.info? e with
      | some j => some (.idxA j.size x i)
      | none => none
    | none, some x, some i => match arE P t with
      | some (n, e) => match P.info? e with
        | some j => some (.idxP n j.size x i)
        | none => none
      | none => none
    | _, _, _ => none
  | .index t x i => match P.underlying t, trO x, trO i with
    | some .string, some x, some i => some (.idxS x i)
    | some (.array n e), some x, some i => match szA P e with
      | some (1, false) => some (.idxG n x i)
      | _ => none
    | _, _, _ => none
  | .slice t x lo hi none => match P.underlying t, trO x, trOpt lo, trOpt hi with
    | some .string, some x, some lo, some hi => some (.slS x lo hi)
    | some (.slice e), some x, some lo, some hi => match P.info? e with
      | some j => some (.slL j.size x lo hi)
      | none => none
    | some (.array n e), some x, some lo, some hi => match szA P e with
      | some (1, false) => if n < 4294967296 then some (.slArr n x lo hi) else none
      | _ => none
    | _, _, _, _ => none
  | .makeFunc (.func f) first caps => if first.isEmpty then (trOs caps.toList).map (.mkfn f) else none
  | .makeSlice t n c => match slE P t, trO n, trO c with
    | some e, some n, some c => match P.info? e, zeroD P e with
      | some i, some z => if z.length == i.size && 0 < i.size then some (.mks i.size i.bytes z n c) else none
      | _, _ => none
    | _, _, _ => none
  | .extract x i => (trO x).map (.ext i)
  | .call c => trCall P c
  | _ => none
def trD (N : Nat) : Option Tmp → Option (Option Nat)
  | none => some none
  | some t => if t < N then some (some t) else none
def trG (ops : Array Oper) : Option (Nat × Bool) → Option (Option (Nat × Bool))
  | none => some none
  | some (j, b) => match (ops[j]?).bind (·.dst) with
    | some t => some (some (t, b))
    | none => none
def trOp (P : Program) (N : Nat) (ops : Array Oper) (o : Oper) : Option SOp :=
  match trD N o.dst, trG ops o.guard, trI P o.op with
  | some d, some g, some i => some ⟨g, d, i⟩
  | _, _, _ => none
def trOps (P : Program) (N : Nat) (ops : Array Oper) : List Oper → Option (List SOp)
  | [] => some []
  | o :: r => match trOp P N ops o, trOps P N ops r with
    | some x, some xs => some (x :: xs)
    | _, _ => none

/-! ### instructions that may change places -/
def Opd.rd : Opd → List Nat
  | .t n => [n]
  | _ => []
def SI.rds : SI → List Nat
  | .mov x | .not x | .cpl x | .neg x | .lenS x | .len x | .conv _ x | .bytes x | .ofBytes x | .load1 x | .loadA _ x | .box _ x | .fldA _ x | .ext _ x => x.rd
  | .pick c a b => c.rd ++ a.rd ++ b.rd
  | .bin _ x y | .eqA _ _ x y | .eqB _ x y | .idxA _ x y | .idxP _ _ x y | .idxS x y | .idxG _ x y | .store1 x y | .storeA _ x y | .app _ _ x y | .mn x y | .mks _ _ _ x y => x.rd ++ y.rd
  | .alloc _ => []
  | .build _ ps => ps.flatMap fun p => p.2.2.rd
  | .bslice _ _ _ ps => ps.flatMap fun p => p.2.rd
  | .slS x lo hi | .slL _ x lo hi | .slArr _ x lo hi => x.rd ++ (lo.map Opd.rd).getD [] ++ (hi.map Opd.rd).getD []
  | .mkfn _ xs | .call _ xs => xs.flatMap Opd.rd
  | .callV x xs => x.rd ++ xs.flatMap Opd.rd

end Go.Abs
/- Instructions are right: those that only compute, and those that read. -/
namespace Go.Abs

/-- What is outside of the heap. -/
structure IOs (w w' : World) : Prop where
  os : w'.os = w.os
  output : w'.output = w.output
theorem IOs.refl (w : World) : IOs w w := ⟨rfl, rfl⟩
theorem IOs.trans {a b c : World} (h : IOs a b) (k : IOs b c) : IOs a c := ⟨k.os.trans h.os, k.output.trans h.output⟩
structure Stp (w : World) (γ : Nat → Gh) (env : Nat → Prop) (S : St) (w' : World) (γ' : Nat → Gh) (S' : St) : Prop where
  le : (cx w γ env S).Le (cx w' γ' env S')
  hr : HR w' γ' env S'
  chg : ∀ b, b < w.heap.size → ¬ Own S γ b → w'.heap[b]? = w.heap[b]?
  own : ∀ b, Own S' γ' b → Own S γ b ∨ w.heap.size ≤ b
  io : IOs w w'
theorem Stp.refl {w : World} {γ : Nat → Gh} {env : Nat → Prop} {S : St} (h : HR w γ env S) : Stp w γ env S w γ S :=
  ⟨.refl _, h, fun _ _ _ => rfl, fun _ h => .inl h, .refl w⟩

/-- What an operation does that runs by itself. -/
def Does (P : Program) (o : Oper) (a : Act) (w : World) (γ : Nat → Gh) (env : Nat → Prop) (S : St) (K : AV → St → Prop) : Prop :=
  ∃ v cv w' γ' S', ((execOp a.eval o).run P w = .ok (.value cv) w' ∨ ((execOp a.eval o).run P w = .ok .skip w' ∧ cv = undef)) ∧
    Stp w γ env S w' γ' S' ∧ TR (cx w' γ' env S') v cv ∧ K v S'

section
variable {P : Program} {o : Oper} {a : Act} {w : World} {γ : Nat → Gh} {env : Nat → Prop} {S : St} {K : AV → St → Prop} {fr : Fr}

theorem Does.pure {v : AV} {cv : Value} (h : HR w γ env S) (hr : (execOp a.eval o).run P w = .ok (.value cv) w) (hv : TR (cx w γ env S) v cv) (hk : K v S) : Does P o a w γ env S K :=
  ⟨v, cv, w, γ, S, .inl hr, .refl h, hv, hk⟩

theorem trV1_ok {v : Value} {x : D} (h : trV1 v = some x) (w : World) (O : Nat → Prop) : DR w O (.val x v) ∧ v.oneCell = true := by
  unfold trV1 at h
  split at h <;> first
    | (cases h; done)
    | (injection h with h; subst h; exact ⟨by constructor, rfl⟩)
    | (split at h
       · rename_i s hlt; injection h with h; subst h; exact ⟨.str s.data.toList hlt, rfl⟩
       · cases h)
theorem trVs_ok {vs : List Value} {l : List D} (h : trVs vs = some l) (w : World) (O : Nat → Prop) : DR w O (.cells l vs) := by
  induction vs generalizing l with
  | nil => simp [trVs] at h; subst h; exact .cnil
  | cons v vs ih =>
    unfold trVs at h
    split at h
    · rename_i x xs h1 h2
      injection h with h; subst h
      exact .ccons _ _ _ _ (trV1_ok h1 w O).1 (trV1_ok h1 w O).2 (ih h2)
    · cases h
theorem trV_ok {v : Value} {x : D} (h : trV v = some x) (w : World) (O : Nat → Prop) : DR w O (.val x v) := by
  unfold trV at h
  split at h
  · rename_i cs
    cases h1 : trVs cs.toList with
    | none => simp [h1] at h
    | some l => simp [h1] at h; subst h; have := DR.agg l cs.toList (trVs_ok h1 w O); simpa using this
  · exact (trV1_ok h w O).1
theorem trO_ok {x : Operand} {y : Opd} (h : trO x = some y) (hF : ∀ t, TR (cx w γ env S) (fr t) (a.tmps.getD t undef)) : TR (cx w γ env S) (ld fr y) (a.eval x) := by
  unfold trO at h
  split at h
  · injection h with h; subst h; exact hF _
  · rename_i v
    cases h1 : trV v with
    | none => simp [h1] at h
    | some d => simp [h1] at h; subst h; exact trV_ok h1 _ _
  · injection h with h; subst h; exact DR.fn _
  · cases h

theorem tr_d {x : Cx} {d : D} {v : Value} (h : TR x (.d d) v) : DR x.w x.O (.val d v) := h

theorem does_mov {x : Operand} {y : Opd} (hr : HR w γ env S) (hF : ∀ t, TR (cx w γ env S) (fr t) (a.tmps.getD t undef)) (ho : o.op = .move x ∨ o.op = .assign x) (hx : trO x = some y)
    (hk : K (ld fr y) S) : Does P o a w γ env S K := by
  refine .pure hr (cv := a.eval x) ?_ (trO_ok hx hF) hk
  rcases ho with ho | ho <;> simp [execOp, ho]

theorem Does.data {x : D} {cv : Value} (h : HR w γ env S) (hr : (execOp a.eval o).run P w = .ok (.value cv) w) (hv : DR w (fun b => Own S γ b ∨ env b) (.val x cv)) (hk : K (.d x) S) : Does P o a w γ env S K :=
  .pure (v := .d x) h hr hv hk

/-- The frame's values stand for what is in the slots. -/
abbrev FrOK (w : World) (γ : Nat → Gh) (env : Nat → Prop) (S : St) (fr : Fr) (a : Act) : Prop := ∀ t, TR (cx w γ env S) (fr t) (a.tmps.getD t undef)

theorem evI {x : Operand} {y : Opd} {k : IntKind} {n : Int} (hF : FrOK w γ env S fr a) (h : trO x = some y) (e : ld fr y = .d (.int k n)) : a.eval x = .int k n := by
  have h1 := trO_ok h hF
  rw [e] at h1
  have h2 := tr_d h1
  generalize a.eval x = cv at h2
  cases h2; rfl
theorem evSlen {x : Operand} {y : Opd} {s : List UInt8} (hF : FrOK w γ env S fr a) (h : trO x = some y) (e : ld fr y = .d (.str s)) : s.length < 2 ^ 63 := by
  have h1 := trO_ok h hF
  rw [e] at h1
  have h2 := tr_d h1
  generalize a.eval x = cv at h2
  cases h2; assumption
theorem evB {x : Operand} {y : Opd} {b : Bool} (hF : FrOK w γ env S fr a) (h : trO x = some y) (e : ld fr y = .d (.bool b)) : a.eval x = .bool b := by
  have h1 := trO_ok h hF
  rw [e] at h1
  have h2 := tr_d h1
  generalize a.eval x = cv at h2
  cases h2; rfl
theorem evS {x : Operand} {y : Opd} {s : List UInt8} (hF : FrOK w γ env S fr a) (h : trO x = some y) (e : ld fr y = .d (.str s)) : a.eval x = .string ⟨s.toArray⟩ := by
  have h1 := trO_ok h hF
  rw [e] at h1
  have h2 := tr_d h1
  generalize a.eval x = cv at h2
  cases h2; rfl
theorem evD {x : Operand} {y : Opd} {d : D} (hF : FrOK w γ env S fr a) (h : trO x = some y) (e : ld fr y = .d d) : DR w (fun b => Own S γ b ∨ env b) (.val d (a.eval x)) := by
  have h1 := trO_ok h hF
  rw [e] at h1
  exact h1
theorem evV {x : Operand} {y : Opd} {v : AV} (hF : FrOK w γ env S fr a) (h : trO x = some y) (e : ld fr y = v) : TR (cx w γ env S) v (a.eval x) := e ▸ trO_ok h hF

theorem does_pick {c x y : Operand} {c' x' y' : Opd} (hr : HR w γ env S) (hF : FrOK w γ env S fr a) (ho : o.op = .pick c x y) (hc : trO c = some c') (hx : trO x = some x') (hy : trO y = some y')
    (E : Env) (hk : stepK E fr S (.pick c' x' y') K) : Does P o a w γ env S K := by
  simp only [stepK] at hk
  split at hk
  · rename_i t ht
    have e := evB hF hc ht
    cases t
    · exact .pure hr (cv := a.eval y) (by simp [execOp, ho, e, asBool]) (trO_ok hy hF) (hk.2 rfl)
    · exact .pure hr (cv := a.eval x) (by simp [execOp, ho, e, asBool]) (trO_ok hx hF) (hk.1 rfl)
  · exact hk.elim

theorem does_not {t : TypeId} {x : Operand} {x' : Opd} (hr : HR w γ env S) (hF : FrOK w γ env S fr a) (ho : o.op = .unOp .not t x) (hx : trO x = some x')
    (E : Env) (hk : stepK E fr S (.not x') K) : Does P o a w γ env S K := by
  simp only [stepK] at hk
  split at hk
  · rename_i b hb
    exact .data hr (cv := .bool (!b)) (by simp [execOp, ho, evB hF hx hb, Op.unary]) (.bool _) hk
  · exact hk.elim

theorem does_neg {t : TypeId} {x : Operand} {x' : Opd} (hr : HR w γ env S) (hF : FrOK w γ env S fr a) (ho : o.op = .unOp .neg t x) (hx : trO x = some x')
    (E : Env) (hk : stepK E fr S (.neg x') K) : Does P o a w γ env S K := by
  simp only [stepK] at hk
  split at hk
  · rename_i k n hb
    exact .data hr (cv := .int k (k.wrap (0 - n))) (by simp [execOp, ho, evI hF hx hb, Op.unary, Op.intArith]) (.int _ _) hk
  · exact hk.elim

theorem does_conv {s t : TypeId} {x : Operand} {x' : Opd} {k k0 : IntKind} (hr : HR w γ env S) (hF : FrOK w γ env S fr a) (ho : o.op = .convert s t x) (hx : trO x = some x')
    (hs : P.underlying s = some (.int k0)) (ht : P.underlying t = some (.int k))
    (E : Env) (hk : stepK E fr S (.conv k x') K) : Does P o a w γ env S K := by
  simp only [stepK] at hk
  split at hk
  · rename_i k1 n hb
    exact .data hr (cv := .int k (k.wrap n)) (by simp [execOp, ho, evI hF hx hb, convert, run_underlying hs, run_underlying ht, Conv.intToInt]) (.int _ _) hk
  · exact hk.elim

theorem run_binI (op : BinOp) (t : TypeId) (k : IntKind) (x y : Int) {d : D} (h1 : op ≠ .shl) (h2 : op ≠ .shr) (h : binI op k x y = some d) :
    ∃ v, (binOp op t (.int k x) (.int k y)).run P w = .ok v w ∧ ∀ O, DR w O (.val d v) := by
  cases op <;> simp [binI, ibit] at h <;> first
    | exact absurd rfl h1
    | exact absurd rfl h2
    | (obtain ⟨h3, h⟩ := h; subst h; exact ⟨_, by simp only [binOp]; simp [Op.intArith, Op.intDiv, Op.intBits, Op.intCmp, h3]; rfl, fun O => by constructor⟩)
    | (subst h; exact ⟨_, by simp only [binOp]; simp [Op.intArith, Op.intDiv, Op.intBits, Op.intCmp]; rfl, fun O => by constructor⟩)

theorem run_eqGuard_other (op : BinOp) (t : TypeId) (x y : Operand) (v v' : Value) (h1 : v ≠ .nilIface) (h2 : ∀ c, v ≠ .agg c) : (eqGuard op t x y v v').run P w = .ok () w := by
  unfold eqGuard
  cases op <;> simp <;> (cases v <;> first | exact absurd rfl h1 | exact absurd rfl (h2 _) | rfl)
theorem toList_mk (l : List UInt8) : (ByteArray.mk l.toArray).toList = l := by rw [ByteArray.toList_eq]
theorem run_bin (op : BinOp) (t : TypeId) (x y : D) (v v' : Value) {O : Nat → Prop} (hx : DR w O (.val x v)) (hy : DR w O (.val y v')) {d : D} (h : bin op x y = some d) :
    ∃ r, (binOp op t v v').run P w = .ok r w ∧ DR w O (.val d r) ∧ v ≠ .nilIface ∧ ∀ c, v ≠ .agg c := by
  unfold bin at h
  split at h
  · cases hx; cases hy
    split at h
    · simp only [ishift] at h
      split at h
      · cases h
      · rename_i k a k' b hb
        injection h with h; subst h
        exact ⟨_, by simp [binOp, Op.shift, hb], .int _ _, by simp, by simp⟩
    · simp only [ishift] at h
      split at h
      · cases h
      · rename_i k a k' b hb
        injection h with h; subst h
        exact ⟨_, by simp [binOp, Op.shift, hb], .int _ _, by simp, by simp⟩
    · rename_i h1 h2
      split at h
      · rename_i hk; subst hk
        obtain ⟨r, h3, h4⟩ := run_binI (P := P) (w := w) op t _ _ _ (fun e => h1 e) (fun e => h2 e) h
        exact ⟨r, h3, h4 O, by simp, by simp⟩
      · cases h
  · rename_i a b
    cases hx; cases hy
    split at h
    · split at h
      · rename_i hl
        injection h with h; subst h
        refine ⟨_, ?_, .str (a ++ b) (by simp; omega), by simp, by simp⟩
        have h3 : ¬ ((((ByteArray.mk a.toArray).size + (ByteArray.mk b.toArray).size : Nat) : Int) > IntKind.i64.max) := by
          show ¬ (((a.toArray.size + b.toArray.size : Nat) : Int) > IntKind.i64.max)
          simp [IntKind.max, IntKind.signed, IntKind.bits]; omega
        have h4 : ByteArray.mk a.toArray ++ ByteArray.mk b.toArray = ByteArray.mk (a ++ b).toArray := by
          apply ByteArray.ext; simp
        simp only [binOp, Op.stringOp, h3, if_false, Sem.run_pure, h4]
      · cases h
    · injection h with h; subst h
      exact ⟨_, by simp only [binOp, Op.stringOp, toList_mk, Sem.run_pure], .bool _, by simp, by simp⟩
    · injection h with h; subst h
      exact ⟨_, by simp only [binOp, Op.stringOp, toList_mk, Sem.run_pure], .bool _, by simp, by simp⟩
    · cases h
  · cases h

theorem does_bin {op : BinOp} {t u : TypeId} {x y : Operand} {x' y' : Opd} (hr : HR w γ env S) (hF : FrOK w γ env S fr a) (ho : o.op = .binOp op t x y u) (hx : trO x = some x') (hy : trO y = some y')
    (E : Env) (hk : stepK E fr S (.bin op x' y') K) : Does P o a w γ env S K := by
  simp only [stepK] at hk
  split at hk
  · rename_i p q hp hq
    split at hk
    · rename_i d hd
      obtain ⟨r, h1, h2, h3, h4⟩ := run_bin (P := P) (w := w) op t p q _ _ (evD hF hx hp) (evD hF hy hq) hd
      exact .data hr (cv := r) (by simp [execOp, ho, run_eqGuard_other op t x y _ _ h3 h4, h1]) h2 hk
    · exact hk.elim
  · exact hk.elim

theorem does_eqB {op : BinOp} {t u : TypeId} {x y : Operand} {x' y' : Opd} (hr : HR w γ env S) (hF : FrOK w γ env S fr a) (ho : o.op = .binOp op t x y u) (hx : trO x = some x') (hy : trO y = some y')
    (ht : P.underlying t = some .bool) (ng : Bool) (hop : op = if ng then .neq else .eql)
    (E : Env) (hk : stepK E fr S (.eqB ng x' y') K) : Does P o a w γ env S K := by
  simp only [stepK] at hk
  split at hk
  · rename_i p q hp hq
    have e1 := evB hF hx hp
    have e2 := evB hF hy hq
    subst hop
    refine .data hr (cv := .bool (if ng then !(p == q) else p == q)) ?_ (.bool _) hk
    cases ng <;> simp [execOp, ho, e1, e2, run_eqGuard_other, binOp, Op.equal, Op.maxDepth, run_equalIn_bool (P := P) w 9999 t p q ht]
  · exact hk.elim

theorem kind_part {cs : List Value} {i k : Nat} {v : Value} {t : TypeId} (ht : kindOf P t = some k) (h : cs[i]? = some v) : (part t cs.toArray i).run P w = .ok v w := by
  unfold kindOf at ht
  split at ht <;> first
    | (rename_i h1; simp [part, isAgg, run_underlying h1, h])
    | cases ht
theorem deq1_run {t : TypeId} {d k : Nat} {O : Nat → Prop} {x y : D} {v v' : Value} {b : Bool} (ht : kindOf P t = some k) (hx : DR w O (.val x v)) (hy : DR w O (.val y v')) (h : deq1 k x y = some b) : (Op.equalIn (d + 1) t v v').run P w = .ok b w := by
  unfold deq1 at h
  split at h
  · split at h
    · rename_i e; subst e; injection h with h; subst h; cases hx; cases hy
      unfold kindOf at ht
      split at ht <;> first
        | (rename_i h1; exact run_equalIn_int w d t _ _ _ _ h1)
        | (injection ht with ht; omega)
        | cases ht
    · cases h
  · injection h with h; subst h; cases hx; cases hy
    unfold kindOf at ht
    split at ht <;> first
      | (rename_i h1; rw [run_equalIn_string w d t _ _ h1]; simp [toList_mk]; done)
      | (injection ht with ht; omega)
      | cases ht
  · injection h with h; subst h; cases hx; cases hy
    unfold kindOf at ht
    split at ht <;> first
      | (rename_i h1; exact run_equalIn_bool' w d t _ _ h1)
      | (injection ht with ht; omega)
      | cases ht
  · cases h
theorem deqL_run {O : Nat → Prop} {d : Nat} : ∀ (fs : List Field) (ks : List Nat) (i : Nat) (xs ys : List D) (vs ws cs ds : List Value) (b : Bool), flatFields P i fs = some ks → DR w O (.cells xs vs) → DR w O (.cells ys ws) →
    (∀ j, cs[i + j]? = vs[j]?) → (∀ j, ds[i + j]? = ws[j]?) → deqL ks xs ys = some b → (Op.eqFields (d + 1) cs.toArray ds.toArray fs).run P w = .ok b w
  | [], ks, i, xs, ys, vs, ws, cs, ds, b, hf, hx, hy, hc, hd, h => by
    simp [flatFields] at hf; subst hf
    cases xs <;> cases ys <;> simp [deqL] at h
    subst h; simp [Op.eqFields]
  | f :: fs, ks, i, xs, ys, vs, ws, cs, ds, b, hf, hx, hy, hc, hd, h => by
    unfold flatFields at hf
    split at hf
    · rename_i h0
      split at hf
      · rename_i k ks' h1 h2
        injection hf with hf; subst hf
        cases xs with
        | nil => simp [deqL] at h
        | cons x xs => cases ys with
          | nil => simp [deqL] at h
          | cons y ys =>
            cases hx with | ccons _ v _ vs hx1 _ hx2 =>
            cases hy with | ccons _ u _ us hy1 _ hy2 =>
            simp only [deqL] at h
            split at h
            · rename_i p q hp hq
              injection h with h; subst h
              have e1 := hc 0; have e2 := hd 0
              simp at e1 e2
              have ih := deqL_run (O := O) (d := d) fs ks' (i + 1) xs ys vs us cs ds q h2 hx2 hy2 (fun j => by have := hc (j + 1); rw [show i + 1 + j = i + (j + 1) by omega]; simpa using this) (fun j => by have := hd (j + 1); rw [show i + 1 + j = i + (j + 1) by omega]; simpa using this) hq
              have p1 := kind_part (P := P) (w := w) h1 e1
              have p2 := kind_part (P := P) (w := w) h1 e2
              have p3 := deq1_run (P := P) (w := w) (d := d) h1 hx1 hy1 hp
              simp only [Op.eqFields, h0.2, ne_eq, not_false_eq_true, if_true, Sem.run_bind, h0.1, p1, p2, p3, Result.andThen_ok]
              cases p
              · simp
              · simpa using ih
            · cases h
      · cases hf
    · cases hf

theorem does_eqA {op : BinOp} {t u : TypeId} {x y : Operand} {x' y' : Opd} {ks : List Nat} (hr : HR w γ env S) (hF : FrOK w γ env S fr a) (ho : o.op = .binOp op t x y u) (hx : trO x = some x') (hy : trO y = some y')
    (ht : flatStruct P t = some ks) (ng : Bool) (hop : op = if ng then .neq else .eql)
    (E : Env) (hk : stepK E fr S (.eqA ng ks x' y') K) : Does P o a w γ env S K := by
  simp only [stepK] at hk
  split at hk
  · rename_i p q hp hq
    split at hk
    · rename_i b hb
      have e1 := evD hF hx hp
      have e2 := evD hF hy hq
      generalize a1 : a.eval x = v1 at e1
      generalize a2 : a.eval y = v2 at e2
      cases e1 with | agg _ vs h1 =>
      cases e2 with | agg _ us h2 =>
      unfold flatStruct at ht
      split at ht
      · rename_i fs hfs
        split at ht
        · rename_i hst
          have hff : P.underlying t = some (.struct (P.fieldsOf t)) := by simp [Program.fieldsOf, hfs]
          have hfl : (P.fieldsOf t).toList = fs.toList := by simp [Program.fieldsOf, hfs]
          have hrun := deqL_run (P := P) (w := w) (d := 9998) fs.toList ks 0 p q vs us vs us b ht h1 h2 (by simp) (by simp) hb
          subst hop
          refine .data hr (cv := .bool (if ng then !b else b)) ?_ (.bool _) hk
          have h3 := run_equalIn_struct (P := P) w 9999 t vs.toArray us.toArray hff hst.1
          rw [hfl, hrun] at h3
          cases ng <;> simp [execOp, ho, a1, a2, run_eqGuard_agg w _ t x y _ _ hst.2, run_eql_struct, run_neq_struct, h3]
        · cases ht
      · cases ht
    · exact hk.elim
  · exact hk.elim

end
end Go.Abs
/- Instructions that read the store are right. -/
namespace Go.Abs

/-- From a place on lie elements that read as the list's. -/
def SlR (x : Cx) (b off es : Nat) (l : List D) : Prop :=
  ∃ vs : Nat → List Value, (∀ i d, l[i]? = some d → DR x.w x.O (.cells d.cells (vs i))) ∧ ∀ i, i < l.length → (vs i).length = es ∧ ∀ j, j < es → x.w.cell? ⟨b, off + i * es + j, none⟩ = (vs i)[j]?

theorem SlR.window {x : Cx} {b off es : Nat} {l : List D} (h : SlR x b off es l) (p q : Nat) : SlR x b (off + p * es) es ((l.drop p).take q) := by
  obtain ⟨vs, h1, h2⟩ := h
  refine ⟨fun i => vs (p + i), fun i d hd => ?_, fun i hi => ?_⟩
  · have : l[p + i]? = some d := by
      rw [List.getElem?_take] at hd
      split at hd
      · rwa [List.getElem?_drop] at hd
      · cases hd
    exact h1 _ _ this
  · have hl : p + i < l.length := by simp at hi; omega
    refine ⟨(h2 _ hl).1, fun j hj => ?_⟩
    rw [← (h2 _ hl).2 j hj, Nat.add_mul]
    congr 2
    omega

section
variable {P : Program} {o : Oper} {a : Act} {w : World} {γ : Nat → Gh} {env : Nat → Prop} {S : St} {K : AV → St → Prop} {fr : Fr}

theorem rd_ok (h : HR w γ env S) {i g es : Nat} {l : List D} (hr : rd S i = some (g, es, l)) :
    i < S.length ∧ (γ i).box = false ∧ (γ i).gen = g ∧ (γ i).es = es ∧ (γ i).blk < w.heap.size ∧ l.length ≤ (γ i).cap ∧ (γ i).cap < 2 ^ 63 ∧ SlR (cx w γ env S) (γ i).blk 0 es l := by
  unfold rd at hr
  split at hr
  · rename_i g' es' l' hi
    injection hr with hr; injection hr with h1 h2; injection h2 with h2 h3; subst h1; subst h2; subst h3
    have hlt : i < S.length := (List.getElem?_eq_some_iff.1 hi).1
    obtain ⟨h0, h1, h2, cs, h3, h4, h5, h6, vs, h7, h8⟩ := h.objs i _ hi
    refine ⟨hlt, h0, h1, h2, h3.lt, h5, h6, vs, h7, fun k hk => ⟨(h8 k hk).1, fun j hj => ?_⟩⟩
    rw [Nat.zero_add]; exact (h3.cell _).trans ((h8 k hk).2 j hj)
  · rename_i g' es' l' hi
    injection hr with hr; injection hr with h1 h2; injection h2 with h2 h3; subst h1; subst h2; subst h3
    have hlt : i < S.length := (List.getElem?_eq_some_iff.1 hi).1
    obtain ⟨h0, h1, h2, _, h3, cs, T, fz, h4, _, h5, h6, vs, h7, h8⟩ := h.objs i _ hi
    refine ⟨hlt, h0, h1, h2, h3, h5, h6, vs, h7, fun k hk => ⟨(h8 k hk).1, fun j hj => ?_⟩⟩
    rw [Nat.zero_add]
    have : (cx w γ env S).w.cell? ⟨(γ i).blk, k * es' + j, none⟩ = cs[k * es' + j]? := by
      have h4' : w.heap[(γ i).blk]? = some (.cells cs T fz) := h4
      simp [cx, World.cell?, h4']
    exact this.trans ((h8 k hk).2 j hj)
  · cases hr

theorem ref_ok (h : HR w γ env S) {i g off n es : Nat} {l : List D} {v : Value} (hv : TR (cx w γ env S) (.ref i g off n) v) (hr : rd S i = some (g, es, l)) :
    ∃ o', v = .slice (some ⟨(γ i).blk, o', none⟩) n ((γ i).cap - off) ∧ off + n ≤ (γ i).cap ∧ (off < (γ i).cap → o' = off * es) := by
  obtain ⟨_, _, h3, h4, _⟩ := rd_ok h hr
  obtain ⟨_, _, _, _, h5⟩ := hv
  obtain ⟨h6, o', h7, h8⟩ := h5 h3
  simp only [cx] at h6 h7 h8
  rw [h4] at h7
  exact ⟨o', h8, h6, h7⟩

theorem window_ok (h : HR w γ env S) {x : AV} {v : Value} {es : Nat} {l : List D} (hv : TR (cx w γ env S) x v) (hw : window S x = some (es, l)) :
    ∃ b off cap, v = .slice (some ⟨b, off, none⟩) l.length cap ∧ l.length ≤ cap ∧ cap < 2 ^ 63 ∧ b < w.heap.size ∧ SlR (cx w γ env S) b off es l := by
  cases x with
  | d x =>
    cases x <;> simp only [window] at hw <;> first | cases hw | skip
    have h1 := tr_d hv
    cases h1 with
    | sl es b off cap l vs h2 h3 h4 h4' h5 h6 => exact ⟨b, off, cap, rfl, h4, h4', h3, vs, h5, h6⟩
  | ref i g off n =>
    simp only [window] at hw
    split at hw
    · rename_i g' es' l' hr
      split at hw
      · rename_i hc
        injection hw with hw; injection hw with h1 h2; subst h1; subst h2
        obtain ⟨rfl, hle⟩ := hc
        obtain ⟨o', e, h2, h2'⟩ := ref_ok h hv hr
        obtain ⟨h3, _, _, _, h4, h5, h5', h6⟩ := rd_ok h hr
        have hl : ((l'.drop off).take n).length = n := by simp; omega
        refine ⟨(γ i).blk, o', (γ i).cap - off, by rw [hl]; exact e, by rw [hl]; omega, by omega, h4, ?_⟩
        have := h6.window off n
        rw [Nat.zero_add] at this
        by_cases hc : off < (γ i).cap
        · rw [h2' hc]; exact this
        · obtain ⟨vs, h7, h8⟩ := this
          exact ⟨vs, h7, fun k hk => by rw [hl] at hk; omega⟩
      · cases hw
    · cases hw
  | _ => simp [window] at hw

theorem run_builtin_call {b : Builtin} {c : Call} (ho : o.op = .call c) (hc : c.callee = .builtin b) :
    (execOp a.eval o).run P w = (builtin b c.argTypes o.type (c.args.map fun | .const _ => true | _ => false) (c.args.map a.eval)).run P w := by
  simp [execOp, ho, resolve, hc, invoke]
  rfl

theorem arr1 {α : Type} {a : Array α} {x : α} (h : a.toList = [x]) : a = #[x] := by rw [← Array.toArray_toList (xs := a), h]
theorem arr2 {α : Type} {a : Array α} {x y : α} (h : a.toList = [x, y]) : a = #[x, y] := by rw [← Array.toArray_toList (xs := a), h]

theorem does_lenS {c : Call} {x : Operand} {t : TypeId} {x' : Opd} (hr : HR w γ env S) (hF : FrOK w γ env S fr a) (ho : o.op = .call c) (hc : c.callee = .builtin .len) (hargs : c.args.toList = [x]) (hts : c.argTypes.toList = [t])
    (hx : trO x = some x') (ht : P.underlying t = some .string)
    (E : Env) (hk : stepK E fr S (.lenS x') K) : Does P o a w γ env S K := by
  have hrun := run_builtin_call (P := P) (w := w) (a := a) ho hc
  rw [arr1 hargs, arr1 hts] at hrun
  simp only [stepK] at hk
  split at hk
  · rename_i s hs
    refine .data hr (cv := .int .i64 s.length) ?_ (.int _ _) hk
    rw [hrun]
    have hsz : (ByteArray.mk s.toArray).size = s.length := by show s.toArray.size = s.length; simp
    simp [builtin, Builtin.len_, evS hF hx hs, run_underlying ht, goInt, hsz]
  · exact hk.elim

theorem does_len {c : Call} {x : Operand} {t e : TypeId} {x' : Opd} (hr : HR w γ env S) (hF : FrOK w γ env S fr a) (ho : o.op = .call c) (hc : c.callee = .builtin .len) (hargs : c.args.toList = [x]) (hts : c.argTypes.toList = [t])
    (hx : trO x = some x') (ht : P.underlying t = some (.slice e))
    (E : Env) (hk : stepK E fr S (.len x') K) : Does P o a w γ env S K := by
  have hrun := run_builtin_call (P := P) (w := w) (a := a) ho hc
  rw [arr1 hargs, arr1 hts] at hrun
  simp only [stepK] at hk
  have key : ∀ (p : Option Addr) (n cap : Nat), a.eval x = .slice p n cap → K (.d (.int .i64 n)) S → Does P o a w γ env S K := fun p n cap hv hK => by
    refine .data hr (cv := .int .i64 n) ?_ (.int _ _) hK
    rw [hrun]
    simp [builtin, Builtin.len_, hv, run_underlying ht, goInt]
  split at hk
  · rename_i hs
    have h1 := evD hF hx hs
    generalize hv : a.eval x = v at h1
    cases h1
    exact key none 0 0 hv hk
  · rename_i es l hs
    have h1 := evD hF hx hs
    generalize hv : a.eval x = v at h1
    cases h1
    exact key _ _ _ hv hk
  · rename_i i g off n hs
    split at hk
    · rename_i g' es l hrd
      obtain ⟨rfl, hk⟩ := hk
      obtain ⟨o', h1, _⟩ := ref_ok hr (evV hF hx hs) hrd
      exact key _ n _ h1 hk
    · exact hk.elim
  · exact hk.elim

theorem does_mn {c : Call} {x y : Operand} {x' y' : Opd} (hr : HR w γ env S) (hF : FrOK w γ env S fr a) (ho : o.op = .call c) (hc : c.callee = .builtin .min) (hargs : c.args.toList = [x, y])
    (hx : trO x = some x') (hy : trO y = some y')
    (E : Env) (hk : stepK E fr S (.mn x' y') K) : Does P o a w γ env S K := by
  have hrun := run_builtin_call (P := P) (w := w) (a := a) ho hc
  rw [arr2 hargs] at hrun
  simp only [stepK] at hk
  split at hk
  · rename_i k p k' q hp hq
    obtain ⟨rfl, hk⟩ := hk
    refine .data hr (cv := .int k (if q < p then q else p)) ?_ (.int _ _) hk
    rw [hrun]
    simp [builtin, Builtin.min_, Builtin.min2, evI hF hx hp, evI hF hy hq]
  · exact hk.elim

theorem does_ext {i : Nat} {x : Operand} {x' : Opd} (hr : HR w γ env S) (hF : FrOK w γ env S fr a) (ho : o.op = .extract x i) (hx : trO x = some x')
    (E : Env) (hk : stepK E fr S (.ext i x') K) : Does P o a w γ env S K := by
  simp only [stepK] at hk
  split at hk
  · rename_i l hs
    obtain ⟨vs, h1, h2⟩ := evV hF hx hs
    obtain ⟨hi, hk⟩ := hk
    obtain ⟨v, hv, h3⟩ := h2.get (i := i) (a := l.getD i .undef) (by simp [List.getD, List.getElem?_eq_getElem hi])
    refine .pure hr (cv := v) ?_ ?_ hk
    · simp [execOp, ho, Instr.extract, h1, hv]
    · have h4 : AR (cx w γ env S) (l.getD i .undef) v := h3
      revert h4
      generalize l.getD i .undef = u
      intro h4
      cases u <;> first | exact h4 | (simp [AR, VR] at h4)
  · exact hk.elim

end
end Go.Abs
/- Instructions that read memory, and that cut, are right. -/
namespace Go.Abs

theorem add_addr (b off n : Nat) : (⟨b, off, none⟩ : Addr).add n = ⟨b, off + n, none⟩ := by unfold Addr.add; split <;> simp_all

section
variable {P : Program} {o : Oper} {a : Act} {w : World} {γ : Nat → Gh} {env : Nat → Prop} {S : St} {K : AV → St → Prop} {fr : Fr}

theorem slE_ok {t e : TypeId} (h : slE P t = some e) : P.underlying t = some (.slice e) := by
  unfold slE at h
  split at h
  · rename_i h1; injection h with h; subst h; exact h1
  · cases h

theorem does_idxA {t e : TypeId} {x i : Operand} {x' i' : Opd} {j : TypeInfo} (hr : HR w γ env S) (hF : FrOK w γ env S fr a) (ho : o.op = .indexAddr t x i) (ht : slE P t = some e) (hj : P.info? e = some j)
    (hx : trO x = some x') (hi : trO i = some i')
    (E : Env) (hk : stepK E fr S (.idxA j.size x' i') K) : Does P o a w γ env S K := by
  have ht := slE_ok ht
  have hsz := run_sizeOf (P := P) (w := w) hj
  have hcs : P.cellsOf e = j.size := by simp [Program.cellsOf, hj]
  simp only [stepK] at hk
  have key : ∀ (b off n cap : Nat) (k : Int) (kd : IntKind), a.eval x = .slice (some ⟨b, off, none⟩) n cap → a.eval i = .int kd k → 0 ≤ k → k < (n : Int) →
      (execOp a.eval o).run P w = .ok (.value (.pointer (some ⟨b, off + k.toNat * j.size, none⟩))) w := fun b off n cap k kd h1 h2 h3 h4 => by
    simp [execOp, ho, h1, h2, Instr.indexAt, asIntOf, run_underlying ht, h3, h4, hsz, hcs, add_addr]
  split at hk
  · rename_i q g off n kd k hq hki
    split at hk
    · rename_i g' es' l hrd
      obtain ⟨⟨rfl, rfl⟩, ⟨h3, h4⟩, hk⟩ := hk
      obtain ⟨o', h5, h6, h6'⟩ := ref_ok hr (evV hF hx hq) hrd
      rw [h6' (by omega)] at h5
      obtain ⟨h7, h8, h9, h10, h11, h12, _⟩ := rd_ok hr hrd
      refine .pure hr (key _ _ _ _ k kd h5 (evI hF hi hki) h3 h4) ?_ hk
      refine ⟨h7, h8, by simp [cx, h9], rfl, fun _ => ?_⟩
      simp only [cx, h10, Nat.add_mul, Nat.add_zero]
    · exact hk.elim
  · rename_i es' l kd k hq hki
    obtain ⟨rfl, ⟨h3, h4⟩, hk⟩ := hk
    have h1 := evD hF hx hq
    generalize hv : a.eval x = v at h1
    cases h1 with
    | sl _ b off cap _ vs g1 g2 g3 g3' g4 g5 =>
      have hlt : k.toNat < l.length := by omega
      refine .pure hr (key b off _ cap k kd hv (evI hF hi hki) h3 h4) ?_ hk
      refine ⟨b, off + k.toNat * j.size, vs k.toNat, rfl, g1, g2, ?_, fun q hq => ?_⟩
      · have := g4 k.toNat (l.getD k.toNat .nilp) (by simp [List.getD, List.getElem?_eq_getElem hlt])
        exact this
      · exact (g5 k.toNat hlt).2 q (by rw [← (g5 k.toNat hlt).1]; exact hq)
  · exact hk.elim

theorem does_idxS {t : TypeId} {x i : Operand} {x' i' : Opd} (hr : HR w γ env S) (hF : FrOK w γ env S fr a) (ho : o.op = .index t x i) (ht : P.underlying t = some .string)
    (hx : trO x = some x') (hi : trO i = some i')
    (E : Env) (hk : stepK E fr S (.idxS x' i') K) : Does P o a w γ env S K := by
  simp only [stepK] at hk
  split at hk
  · rename_i s kd k hs hki
    obtain ⟨⟨h3, h4⟩, hk⟩ := hk
    have hlt : k.toNat < s.length := by omega
    refine .data hr (cv := .int .u8 (s.getD k.toNat 0).toNat) ?_ (.int _ _) hk
    have hg : (ByteArray.mk s.toArray)[k.toNat]? = some (s.getD k.toNat 0) := by
      have : (ByteArray.mk s.toArray).size = s.length := by show s.toArray.size = s.length; simp
      rw [getElem?_pos _ _ (by rw [this]; exact hlt)]
      show some (s.toArray[k.toNat]) = _
      simp [List.getD, List.getElem?_eq_getElem hlt]
    simp [execOp, ho, evS hF hx hs, evI hF hi hki, Instr.index, asIntOf, run_underlying ht, h3, hg]
  · exact hk.elim

theorem run_isAgg_no {t : TypeId} {d : TypeDesc} (h : P.underlying t = some d) (hd : (match d with | .struct _ | .array _ _ => true | _ => false) = false) (w : World) : (isAgg t).run P w = .ok false w := by
  cases d <;> first | (simp at hd; done) | simp [isAgg, run_underlying h]
theorem szA_ok {t : TypeId} {n : Nat} {g : Bool} (h : szA P t = some (n, g)) : ∃ i, P.info? t = some i ∧ i.size = n ∧ ∀ w, (isAgg t).run P w = .ok g w := by
  unfold szA at h
  split at h
  · rename_i i fs h1 h2
    injection h with h; injection h with h3 h4; subst h3; subst h4
    exact ⟨i, h1, rfl, fun w => by simp [isAgg, run_underlying h2]⟩
  · rename_i i k e h1 h2
    injection h with h; injection h with h3 h4; subst h3; subst h4
    exact ⟨i, h1, rfl, fun w => by simp [isAgg, run_underlying h2]⟩
  · rename_i i hd0 hdS hdA h1 h2
    injection h with h; injection h with h3 h4; subst h3; subst h4
    exact ⟨i, h1, rfl, fun w => run_isAgg_no h2 (by cases hd0 <;> first | rfl | exact (hdS _ rfl).elim | exact (hdA _ _ rfl).elim) w⟩
  · cases h

theorem does_idxG {t e : TypeId} {n : Nat} {x i : Operand} {x' i' : Opd} (hr : HR w γ env S) (hF : FrOK w γ env S fr a) (ho : o.op = .index t x i) (ht : P.underlying t = some (.array n e)) (he : szA P e = some (1, false))
    (hx : trO x = some x') (hi : trO i = some i')
    (E : Env) (hk : stepK E fr S (.idxG n x' i') K) : Does P o a w γ env S K := by
  obtain ⟨j, hj, hj1, hag⟩ := szA_ok he
  have hsz := run_sizeOf (P := P) (w := w) hj
  have hcs : P.cellsOf e = 1 := by simp [Program.cellsOf, hj, hj1]
  have key : ∀ (vs : List Value) (k : Int) (kd : IntKind) (v : Value), a.eval x = .agg vs.toArray → a.eval i = .int kd k → 0 ≤ k → k < (n : Int) → vs[k.toNat]? = some v →
      (execOp a.eval o).run P w = .ok (.value v) w := fun vs k kd v h1 h2 h3 h4 h5 => by
    simp [execOp, ho, h1, h2, Instr.index, asIntOf, run_underlying ht, h3, h4, hsz, hcs, part, hag, h5]
  simp only [stepK] at hk
  split at hk
  · rename_i l kd k hq hki
    obtain ⟨hn, ⟨h3, h4⟩, hk⟩ := hk
    have h1 := evD hF hx hq
    generalize hv : a.eval x = v at h1
    cases h1 with
    | agg _ vs h6 =>
      obtain ⟨u, h7, h8⟩ := h6.all2.get (i := k.toNat) (a := l.getD k.toNat .nilp) (by simp [List.getD, List.getElem?_eq_getElem (show k.toNat < l.length by omega)])
      exact .data hr (key vs k kd u hv (evI hF hi hki) h3 h4 h7) h8.1 hk
  · rename_i l kd k hq hki
    obtain ⟨hn, ⟨h3, h4⟩, hk⟩ := hk
    obtain ⟨vs, h5, h6⟩ := evV hF hx hq
    obtain ⟨u, h7, h8⟩ := h6.get (i := k.toNat) (a := l.getD k.toNat .undef) (by simp [List.getD, List.getElem?_eq_getElem (show k.toNat < l.length by omega)])
    refine .pure hr (key vs k kd u h5 (evI hF hi hki) h3 h4 h7) ?_ hk
    have h9 := h8.1
    revert h9
    generalize l.getD k.toNat .undef = z
    intro h9
    cases z <;> first | exact h9 | (simp [VR] at h9)
  · exact hk.elim

theorem vr_tr {x : Cx} {v : AV} {cv : Value} (h : VR x v cv) : TR x v cv := by
  cases v <;> first | exact h | (simp [VR] at h)

theorem run_loadAt1 {t : TypeId} {n b off : Nat} {x : Operand} {v : Value} (ho : o.op = .load t x) (ht : szA P t = some (n, false)) (hx : a.eval x = .pointer (some ⟨b, off, none⟩)) (hc : w.cell? ⟨b, off, none⟩ = some v) :
    (execOp a.eval o).run P w = .ok (.value v) w := by
  obtain ⟨j, hj, hj1, hag⟩ := szA_ok ht
  simp [execOp, ho, hx, Instr.loadAt, Instr.sureAddr, loadVar, hag, hc]
theorem run_loadAtA {t : TypeId} {b off : Nat} {x : Operand} {vs : List Value} (ho : o.op = .load t x) (ht : szA P t = some (vs.length, true)) (hx : a.eval x = .pointer (some ⟨b, off, none⟩)) (hc : ∀ j v, vs[j]? = some v → w.cell? ⟨b, off + j, none⟩ = some v) :
    (execOp a.eval o).run P w = .ok (.value (.agg vs.toArray)) w := by
  obtain ⟨j, hj, hj1, hag⟩ := szA_ok ht
  have hsz := run_sizeOf (P := P) (w := w) hj
  have hcs : P.cellsOf t = vs.length := by simp [Program.cellsOf, hj, hj1]
  have hl := run_loadCells_list (P := P) w ⟨b, off, none⟩ vs (fun j v hv => by rw [add_addr]; exact hc j v hv)
  simp [execOp, ho, hx, Instr.loadAt, Instr.sureAddr, loadVar, hag, hsz, hcs, hl]

theorem boxed (hr : HR w γ env S) {i : Nat} {l : List AV} (hi : S[i]? = some (.box l)) :
    i < S.length ∧ (γ i).box = true ∧ ∃ cs, Blk w (γ i).blk cs ∧ All2 (fun a v => VR (cx w γ env S) a v ∧ v.oneCell = true) l cs.toList :=
  ⟨(List.getElem?_eq_some_iff.1 hi).1, hr.objs i _ hi⟩

/-- The cells of an element of an array. -/
theorem SlR.at {x : Cx} {b off es : Nat} {l : List D} (h : SlR x b off es l) {k : Nat} (hk : k < l.length) :
    ∃ vs : List Value, vs.length = es ∧ DR x.w x.O (.cells (l.getD k .nilp).cells vs) ∧ ∀ j v, vs[j]? = some v → x.w.cell? ⟨b, off + k * es + j, none⟩ = some v := by
  obtain ⟨vs, h1, h2⟩ := h
  refine ⟨vs k, (h2 k hk).1, h1 k _ (by simp [List.getD, List.getElem?_eq_getElem hk]), fun j v hv => ?_⟩
  have : j < es := by rw [← (h2 k hk).1]; exact (List.getElem?_eq_some_iff.1 hv).1
  rw [(h2 k hk).2 j this, hv]

theorem does_load1 {t : TypeId} {n : Nat} {x : Operand} {x' : Opd} (hr : HR w γ env S) (hF : FrOK w γ env S fr a) (ho : o.op = .load t x) (ht : szA P t = some (n, false)) (hx : trO x = some x')
    (E : Env) (hk : stepK E fr S (.load1 x') K) : Does P o a w γ env S K := by
  simp only [stepK] at hk
  have keyF : ∀ (v : D) (r : List D), ld fr x' = .fp (v :: r) → K (.d v) S → Does P o a w γ env S K := fun v r hv hK => by
    obtain ⟨b, off, vs, h1, h2, h3, h4, h5⟩ := evV hF hx hv
    obtain ⟨u, h6, h7⟩ := h4.all2.get (i := 0) (a := v) (by simp)
    have h8 := h5 0 (List.getElem?_eq_some_iff.1 h6).1
    rw [h6] at h8
    exact .data hr (run_loadAt1 ho ht h1 h8) h7.1 hK
  split at hk
  · rename_i v hv; exact keyF v [] hv hk
  · rename_i v u r hv; exact keyF v (u :: r) hv hk
  · rename_i i g k off hv
    split at hk
    · rename_i g' es l hrd
      obtain ⟨⟨rfl, hkl⟩, hk⟩ := hk
      split at hk
      · rename_i d hd
        obtain ⟨h1, h2, h3, h4, h5, h6, _, h7⟩ := rd_ok hr hrd
        obtain ⟨vs, h8, h9, h10⟩ := h7.at hkl
        obtain ⟨u, h11, h12⟩ := h9.all2.get hd
        obtain ⟨_, _, _, _, h13⟩ := evV hF hx hv
        have h14 := h13 h3
        simp only [cx, h4] at h14
        refine .data hr (run_loadAt1 ho ht h14 ?_) h12.1 hk
        have := h10 off u h11
        rwa [Nat.zero_add] at this
      · exact hk.elim
    · exact hk.elim
  · rename_i i off hv
    split at hk
    · rename_i l hi
      split at hk
      · rename_i v hl
        obtain ⟨h1, h2, cs, h3, h4⟩ := boxed hr hi
        obtain ⟨u, h5, h6⟩ := h4.get hl
        obtain ⟨_, _, h7⟩ := evV hF hx hv
        refine .pure hr (run_loadAt1 ho ht h7 ?_) (vr_tr h6.1) hk
        exact (h3.cell off).trans (by simpa using h5)
      · exact hk.elim
    · exact hk.elim
  · exact hk.elim

theorem take_all2 {x : Cx} {l : List D} {vs : List Value} (h : DR x.w x.O (.cells l vs)) (off n : Nat) : DR x.w x.O (.cells ((l.drop off).take n) ((vs.drop off).take n)) :=
  DR.of_all2 ((h.all2.drop off).take n)
theorem get_window {α : Type} {vs : List α} {off n j : Nat} {v : α} (h : ((vs.drop off).take n)[j]? = some v) : vs[off + j]? = some v := by
  rw [List.getElem?_take] at h
  split at h
  · rwa [List.getElem?_drop] at h
  · cases h

theorem allD_ok {x : Cx} {l : List AV} {ds : List D} {vs : List Value} (h : allD l = some ds) (hv : All2 (fun a v => VR x a v ∧ v.oneCell = true) l vs) : DR x.w x.O (.cells ds vs) := by
  induction l generalizing ds vs with
  | nil => simp [allD] at h; subst h; cases hv; exact .cnil
  | cons a l ih =>
    cases hv with
    | cons h1 h2 =>
      cases a <;> simp only [allD] at h <;> first | cases h | skip
      cases h3 : allD l with
      | none => simp [h3] at h
      | some xs => simp [h3] at h; subst h; exact .ccons _ _ _ _ h1.1 h1.2 (ih h3 h2)
theorem mkAgg_ok {x : Cx} {l : List AV} {vs : List Value} (hv : All2 (fun a v => VR x a v ∧ v.oneCell = true) l vs) : TR x (mkAgg l) (.agg vs.toArray) := by
  unfold mkAgg
  split
  · rename_i ds h; exact DR.agg _ _ (allD_ok h hv)
  · exact ⟨vs, rfl, hv⟩

theorem does_loadA {t : TypeId} {n : Nat} {x : Operand} {x' : Opd} (hr : HR w γ env S) (hF : FrOK w γ env S fr a) (ho : o.op = .load t x) (ht : szA P t = some (n, true)) (hx : trO x = some x')
    (E : Env) (hk : stepK E fr S (.loadA n x') K) : Does P o a w γ env S K := by
  simp only [stepK] at hk
  split at hk
  · rename_i l hv
    obtain ⟨hn, hk⟩ := hk
    obtain ⟨b, off, vs, h1, h2, h3, h4, h5⟩ := evV hF hx hv
    have hlen := h4.all2.len
    have h6 := take_all2 h4 0 n
    simp only [List.drop_zero] at h6
    refine .data hr (cv := .agg (vs.take n).toArray) (run_loadAtA ho ?_ h1 fun j v hj => ?_) (.agg _ _ h6) hk
    · rw [ht]; congr 2; simp; omega
    · have h7 := get_window (off := 0) (n := n) (j := j) (v := v) (vs := vs) (by simpa using hj)
      rw [Nat.zero_add] at h7
      rw [← h7]; exact h5 j (List.getElem?_eq_some_iff.1 h7).1
  · rename_i i g k off hv
    split at hk
    · rename_i g' es l hrd
      obtain ⟨⟨rfl, hkl, hle⟩, hk⟩ := hk
      obtain ⟨h1, h2, h3, h4, h5, h6, _, h7⟩ := rd_ok hr hrd
      obtain ⟨vs, h8, h9, h10⟩ := h7.at hkl
      have hlen := h9.all2.len
      obtain ⟨_, _, _, _, h13⟩ := evV hF hx hv
      have h14 := h13 h3
      simp only [cx, h4] at h14
      refine .data hr (cv := .agg ((vs.drop off).take n).toArray) (run_loadAtA ho ?_ h14 fun j v hj => ?_) (.agg _ _ (take_all2 (x := cx w γ env S) h9 off n)) hk
      · rw [ht]; congr 2; simp; omega
      · have := h10 (off + j) v (get_window hj)
        rwa [Nat.zero_add, ← Nat.add_assoc] at this
    · exact hk.elim
  · rename_i i off hv
    split at hk
    · rename_i l hi
      obtain ⟨hle, hk⟩ := hk
      obtain ⟨h1, h2, cs, h3, h4⟩ := boxed hr hi
      obtain ⟨_, _, h7⟩ := evV hF hx hv
      have hlen := h4.len
      refine .pure hr (cv := .agg ((cs.toList.drop off).take n).toArray) (run_loadAtA ho ?_ h7 fun j v hj => ?_) (mkAgg_ok ((h4.drop off).take n)) hk
      · rw [ht]; congr 2; simp at hlen ⊢; omega
      · exact (h3.cell _).trans (by simpa using get_window hj)
    · exact hk.elim
  · exact hk.elim

end
end Go.Abs
/- Cutting, building, closures: right. -/
namespace Go.Abs
section
variable {P : Program} {o : Oper} {a : Act} {w : World} {γ : Nat → Gh} {env : Nat → Prop} {S : St} {K : AV → St → Prop} {fr : Fr}

theorem does_fldA {t : TypeId} {f : Nat} {fd : Field} {j : TypeInfo} {x : Operand} {x' : Opd} (hr : HR w γ env S) (hF : FrOK w γ env S fr a) (ho : o.op = .fieldAddr t x f) (hf : (structFields P t)[f]? = some fd)
    (hj : P.info? fd.type = some j) (hj0 : 0 < j.size) (hx : trO x = some x')
    (E : Env) (hk : stepK E fr S (.fldA fd.offset x') K) : Does P o a w γ env S K := by
  obtain ⟨fs, ht, hf'⟩ : ∃ fs : Array Field, P.underlying t = some (.struct fs) ∧ fs[f]? = some fd := by
    unfold structFields at hf
    split at hf
    · rename_i fs h1; exact ⟨fs, h1, by simpa using hf⟩
    · simp at hf
  have hsz := run_sizeOf (P := P) (w := w) hj
  have hcs : P.cellsOf fd.type = j.size := by simp [Program.cellsOf, hj]
  have key : ∀ b off, a.eval x = .pointer (some ⟨b, off, none⟩) → (execOp a.eval o).run P w = .ok (.value (.pointer (some ⟨b, off + fd.offset, none⟩))) w := fun b off h => by
    simp [execOp, ho, h, Instr.fieldAt, Instr.sureAddr, run_underlying ht, hf', fieldPlace, hsz, hcs, show ¬ j.size = 0 by omega, add_addr]
  simp only [stepK] at hk
  split at hk
  · rename_i i off hv
    obtain ⟨h1, h2, h3⟩ := evV hF hx hv
    exact .pure (v := .ptr i (off + fd.offset)) hr (key _ _ h3) ⟨h1, h2, rfl⟩ hk
  · rename_i i g k off hv
    obtain ⟨h1, h2, h3, h3', h4⟩ := evV hF hx hv
    split at hk
    · rename_i g' es l hrd
      obtain ⟨rfl, hk⟩ := hk
      have hg := (rd_ok hr hrd).2.2.1
      refine .pure (v := .ep i g k (off + fd.offset)) hr (key _ _ (h4 hg)) ⟨h1, h2, h3, rfl, fun _ => ?_⟩ hk
      rw [Nat.add_assoc]
    · exact hk.elim
  · rename_i l hv
    obtain ⟨b, off, vs, h1, h2, h3, h4, h5⟩ := evV hF hx hv
    refine .pure (v := .fp (l.drop fd.offset)) hr (key _ _ h1) ⟨b, off + fd.offset, vs.drop fd.offset, rfl, h2, h3, DR.of_all2 (h4.all2.drop _), fun j hj => ?_⟩ hk
    simp only [List.length_drop] at hj
    rw [Nat.add_assoc, h5 _ (by omega), List.getElem?_drop]
  · exact hk.elim

theorem trOpt_ev {x : Option Operand} {y : Option Opd} (h : trOpt x = some y) : (x = none ∧ y = none) ∨ ∃ p q, x = some p ∧ y = some q ∧ trO p = some q := by
  cases x with
  | none => simp [trOpt] at h; exact .inl ⟨rfl, h.symm⟩
  | some p =>
    cases hp : trO p with
    | none => simp [trOpt, hp] at h
    | some q => simp [trOpt, hp] at h; exact .inr ⟨p, q, rfl, h.symm, hp⟩

theorem bounds_ok {lo hi : Option Operand} {lo' hi' : Option Opd} {n c c' : Nat} {sl : Bool} {KK : Nat → Nat → Prop} (hF : FrOK w γ env S fr a) (hlo : trOpt lo = some lo') (hhi : trOpt hi = some hi') (hnc : n ≤ c) (hcc : c ≤ c')
    (h : boundsOK (lo'.map (ld fr)) (hi'.map (ld fr)) n c KK) :
    ∃ p q, KK p q ∧ p ≤ q ∧ q ≤ c ∧ (Instr.sliceBounds sl n c' (lo.map a.eval) (hi.map a.eval) none).run P w = .ok (p, q, c') w := by
  unfold boundsOK at h
  rcases trOpt_ev hlo with ⟨rfl, rfl⟩ | ⟨x, x', rfl, rfl, hx⟩ <;> rcases trOpt_ev hhi with ⟨rfl, rfl⟩ | ⟨y, y', rfl, rfl, hy⟩
  · exact ⟨0, n, h, Nat.zero_le _, hnc, by simp [Instr.sliceBounds]⟩
  · simp only [Option.map_none, Option.map_some] at h
    cases hv : ld fr y' with
    | d dd => cases dd with
      | int kd b =>
        rw [hv] at h
        obtain ⟨⟨h1, h2⟩, h⟩ := h
        have e := evI hF hy hv
        refine ⟨0, b.toNat, h, Nat.zero_le _, by omega, ?_⟩
        have : b ≤ (c' : Int) := by omega
        simp [Instr.sliceBounds, Instr.sliceBound, e, asIntOf, h1, this]
      | _ => rw [hv] at h; exact h.elim
    | _ => rw [hv] at h; exact h.elim
  · simp only [Option.map_none, Option.map_some] at h
    cases hv : ld fr x' with
    | d dd => cases dd with
      | int kd b =>
        rw [hv] at h
        obtain ⟨⟨h1, h2⟩, h⟩ := h
        have e := evI hF hx hv
        refine ⟨b.toNat, n, h, by omega, hnc, ?_⟩
        simp [Instr.sliceBounds, Instr.sliceBound, e, asIntOf, h1, h2]
      | _ => rw [hv] at h; exact h.elim
    | _ => rw [hv] at h; exact h.elim
  · simp only [Option.map_some] at h
    cases hv : ld fr x' with
    | d dd => cases dd with
      | int kd b =>
        rw [hv] at h
        cases hv' : ld fr y' with
        | d dd' => cases dd' with
          | int kd' b' =>
            rw [hv'] at h
            obtain ⟨⟨h1, h2⟩, ⟨h3, h4⟩, h⟩ := h
            have e := evI hF hx hv
            have e' := evI hF hy hv'
            refine ⟨b.toNat, b'.toNat, h, by omega, by omega, ?_⟩
            have h5 : b' ≤ (c' : Int) := by omega
            have h6 : b ≤ max b' 0 := by omega
            simp [Instr.sliceBounds, Instr.sliceBound, e, e', asIntOf, h1, h5, h3, h6]
          | _ => rw [hv'] at h; exact h.elim
        | _ => rw [hv'] at h; exact h.elim
      | _ => rw [hv] at h; exact h.elim
    | _ => rw [hv] at h; exact h.elim

theorem does_slS {t : TypeId} {x : Operand} {x' : Opd} {lo hi : Option Operand} {lo' hi' : Option Opd} (hr : HR w γ env S) (hF : FrOK w γ env S fr a) (ho : o.op = .slice t x lo hi none) (ht : P.underlying t = some .string) (hx : trO x = some x')
    (hlo : trOpt lo = some lo') (hhi : trOpt hi = some hi')
    (E : Env) (hk : stepK E fr S (.slS x' lo' hi') K) : Does P o a w γ env S K := by
  simp only [stepK] at hk
  split at hk
  · rename_i s hs
    obtain ⟨p, q, hk, hpq, hq, hrun⟩ := bounds_ok (P := P) (w := w) (sl := false) (c' := s.length) hF hlo hhi (Nat.le_refl _) (Nat.le_refl _) hk
    have hsz : (ByteArray.mk s.toArray).size = s.length := by show s.toArray.size = s.length; simp
    refine .data hr (cv := .string ((ByteArray.mk s.toArray).extract p q)) ?_ ?_ hk
    · simp [execOp, ho, evS hF hx hs, Instr.sliceAt, run_underlying ht, Instr.slice, hsz, hrun]
    · have : (ByteArray.mk s.toArray).extract p q = ByteArray.mk ((s.drop p).take (q - p)).toArray := by
        apply ByteArray.ext
        simp [List.extract_eq_take_drop]
      rw [this]; exact .str _ (by have := evSlen hF hx hs; simp; omega)
  · exact hk.elim

end
end Go.Abs
/- Slices of slices, strings out of bytes, aggregates, closures: right. -/
namespace Go.Abs
section
variable {P : Program} {o : Oper} {a : Act} {w : World} {γ : Nat → Gh} {env : Nat → Prop} {S : St} {K : AV → St → Prop} {fr : Fr}

theorem does_slL {t e : TypeId} {j : TypeInfo} {x : Operand} {x' : Opd} {lo hi : Option Operand} {lo' hi' : Option Opd} (hr : HR w γ env S) (hF : FrOK w γ env S fr a) (ho : o.op = .slice t x lo hi none) (ht : P.underlying t = some (.slice e)) (hj : P.info? e = some j) (hx : trO x = some x')
    (hlo : trOpt lo = some lo') (hhi : trOpt hi = some hi')
    (E : Env) (hk : stepK E fr S (.slL j.size x' lo' hi') K) : Does P o a w γ env S K := by
  have hsz := run_sizeOf (P := P) (w := w) hj
  have hcs : P.cellsOf e = j.size := by simp [Program.cellsOf, hj]
  have key : ∀ (ad : Option Addr) (n c p q : Nat), a.eval x = .slice ad n c → (Instr.sliceBounds true n c (lo.map a.eval) (hi.map a.eval) none).run P w = .ok (p, q, c) w →
      (execOp a.eval o).run P w = .ok (.value (.slice (if c = p then ad else ad.map (·.add (p * j.size))) (q - p) (c - p))) w := fun ad n c p q h1 h2 => by
    simp [execOp, ho, h1, Instr.sliceAt, run_underlying ht, Instr.slice, h2, hsz, hcs]
  simp only [stepK] at hk
  split at hk
  · rename_i hs
    obtain ⟨p, q, hk, hpq, hq, hrun⟩ := bounds_ok (P := P) (w := w) (sl := true) (c' := 0) hF hlo hhi (Nat.le_refl _) (Nat.le_refl _) hk
    have h1 := evD hF hx hs
    generalize hv : a.eval x = v at h1
    cases h1
    refine .data hr (key _ _ _ p q hv hrun) ?_ hk
    have : p = 0 := by omega
    have : q = 0 := by omega
    subst p; subst q
    exact .nilsl
  · rename_i es l hs
    obtain ⟨rfl, hk⟩ := hk
    have h1 := evD hF hx hs
    generalize hv : a.eval x = v at h1
    cases h1 with
    | sl _ b off cap _ vs g1 g2 g3 g3' g4 g5 =>
      obtain ⟨p, q, hk, hpq, hq, hrun⟩ := bounds_ok (P := P) (w := w) (sl := true) (c' := cap) hF hlo hhi (Nat.le_refl _) g3 hk
      have hl : ((l.drop p).take (q - p)).length = q - p := by simp; omega
      have hw : SlR (cx w γ env S) b (off + p * j.size) j.size ((l.drop p).take (q - p)) := SlR.window ⟨vs, g4, g5⟩ p (q - p)
      refine .data hr (key _ _ _ p q hv hrun) ?_ hk
      obtain ⟨us, u1, u2⟩ := hw
      by_cases hc : cap = p
      · rw [if_pos hc]
        have h0 : q - p = 0 := by omega
        have := DR.sl (w := w) (O := fun b => Own S γ b ∨ env b) j.size b off (cap - p) ((l.drop p).take (q - p)) us g1 g2 (by omega) (by omega) u1 (fun i hi => by rw [hl] at hi; omega)
        rwa [hl] at this
      · rw [if_neg hc]
        have := DR.sl (w := w) (O := fun b => Own S γ b ∨ env b) j.size b (off + p * j.size) (cap - p) ((l.drop p).take (q - p)) us g1 g2 (by omega) (by omega) u1 u2
        rw [hl] at this
        simpa [add_addr] using this
  · rename_i i g off n hs
    split at hk
    · rename_i g' es l hrd
      obtain ⟨⟨rfl, rfl⟩, hk⟩ := hk
      obtain ⟨o', h1, h2, h3⟩ := ref_ok hr (evV hF hx hs) hrd
      obtain ⟨h4, h5, h6, h7, _⟩ := rd_ok hr hrd
      obtain ⟨p, q, hk, hpq, hq, hrun⟩ := bounds_ok (P := P) (w := w) (sl := true) (c' := (γ i).cap - off) hF hlo hhi (Nat.le_refl _) (by omega) hk
      refine .pure (v := .ref i g (off + p) (q - p)) hr (key _ _ _ p q h1 hrun) ⟨h4, h5, by simp [cx, h6], rfl, fun _ => ⟨by simp only [cx]; omega, ?_⟩⟩ hk
      by_cases hc : (γ i).cap - off = p
      · rw [if_pos hc]
        exact ⟨o', fun h => by simp only [cx] at h; omega, by simp only [cx]; rw [Nat.sub_sub]⟩
      · rw [if_neg hc]
        refine ⟨o' + p * j.size, fun h => ?_, by simp only [cx, Option.map_some, add_addr]; rw [Nat.sub_sub]⟩
        simp only [cx] at h ⊢
        rw [h3 (by omega), h7, Nat.add_mul]
    · exact hk.elim
  · exact hk.elim

theorem does_ofBytes {t u e : TypeId} {x : Operand} {x' : Opd} (hr : HR w γ env S) (hF : FrOK w γ env S fr a) (ho : o.op = .convert t u x) (ht : P.underlying t = some (.slice e)) (hu : P.underlying u = some .string) (he : P.underlying e = some (.int .u8)) (hx : trO x = some x')
    (E : Env) (hk : stepK E fr S (.ofBytes x') K) : Does P o a w γ env S K := by
  simp only [stepK] at hk
  split at hk
  · rename_i es l hwn
    obtain ⟨rfl, s, rfl, hk⟩ := hk
    obtain ⟨b, off, cap, h1, h2, h3, h4, vs, h5, h6⟩ := window_ok hr (evV hF hx rfl) hwn
    simp only [List.length_map] at h1 h6
    refine .data hr (cv := .string ⟨s.toArray⟩) ?_ (.str s (by simp at h2; omega)) hk
    have := run_convert_bytes_back (P := P) w t u e ⟨b, off, none⟩ cap s ht he hu (fun j hj => by
      obtain ⟨h7, h8⟩ := h6 j hj
      have h9 := h8 0 (by omega)
      have h10 := h5 j (byteD s[j]) (by simp [hj])
      generalize vs j = us at h7 h9 h10
      rw [add_addr]
      cases h10 with
      | ccons _ v _ us' h11 _ h12 =>
        cases h11
        simp only [Nat.mul_one, Nat.add_zero] at h9
        exact h9)
    simp [execOp, ho, h1, this]
  · rename_i hwn
    obtain ⟨hs, hk⟩ := hk
    have h1 := evD hF hx hs
    generalize hv : a.eval x = v at h1
    cases h1
    refine .data hr (cv := .string .empty) ?_ (.str [] (by simp)) hk
    simp [execOp, ho, hv, convert, run_underlying ht, run_underlying hu, run_underlying he, Conv.bytesToString]

theorem trOs_ok {xs : List Operand} {ys : List Opd} (hF : FrOK w γ env S fr a) (h : trOs xs = some ys) : All2 (TR (cx w γ env S)) (ys.map (ld fr)) (xs.map a.eval) := by
  induction xs generalizing ys with
  | nil => simp [trOs] at h; subst h; exact .nil
  | cons x xs ih =>
    unfold trOs at h
    split at h
    · rename_i y ys' h1 h2
      injection h with h; subst h
      exact .cons (trO_ok h1 hF) (ih h2)
    · cases h

theorem does_mkfn {f : Nat} {first caps : Array Operand} {caps' : List Opd} (hr : HR w γ env S) (hF : FrOK w γ env S fr a) (ho : o.op = .makeFunc (.func f) first caps) (h0 : first.isEmpty = true) (hx : trOs caps.toList = some caps')
    (E : Env) (hk : stepK E fr S (.mkfn f caps') K) : Does P o a w γ env S K := by
  have hfe : first = #[] := by simpa using h0
  subst hfe
  have h1 := trOs_ok hF hx
  simp only [stepK] at hk
  split at hk
  · rename_i he
    have he' : caps' = [] := by simpa using he
    subst he'
    have hcc : caps = #[] := by
      have := h1.len
      simp at this
      exact Array.eq_empty_of_size_eq_zero this.symm
    refine .data hr (cv := .func (.func f) #[] #[]) ?_ (.fn f) hk
    subst hcc
    simp [execOp, ho, Instr.makeFunc]
  · obtain ⟨hc0, hk⟩ := hk
    refine .pure (v := .fn f (caps'.map (ld fr))) hr (cv := .func (.func f) #[] (caps.map a.eval)) ?_ ⟨caps.toList.map a.eval, by rw [← Array.toList_map], h1.mono fun v cv hv h => ?_⟩ hk
    · simp [execOp, ho, Instr.makeFunc]
    · have := hc0 v hv
      cases v <;> simp [isCap] at this
      · rename_i d
        refine ⟨h, ?_⟩
        cases h <;> first | rfl | (simp at this)
      · exact h

end
end Go.Abs
/- Aggregates; new variables and arrays: right. -/
namespace Go.Abs

theorem foldl_set {α : Type} (vs : List α) : ∀ (k off : Nat) (cs : Array α), off + k + vs.length ≤ cs.size →
    ((vs.zipIdx k).foldl (fun cs (x : α × Nat) => cs.setIfInBounds (off + x.2) x.1) cs).toList = splice cs.toList (off + k) vs := by
  induction vs with
  | nil => intro k off cs h; simp [splice]
  | cons v vs ih =>
    intro k off cs h
    simp only [List.length_cons] at h
    simp only [List.zipIdx_cons, List.foldl_cons]
    rw [ih (k + 1) off _ (by simp; omega)]
    simp only [splice, Array.toList_setIfInBounds, List.length_cons]
    have hlt : off + k < cs.toList.length := by simp; omega
    rw [show off + (k + 1) = off + k + 1 by omega, show off + k + (vs.length + 1) = off + k + 1 + vs.length by omega]
    rw [List.take_succ_eq_append_getElem (by simpa using hlt)]
    simp only [List.take_set_of_le (Nat.le_refl _), List.getElem_set_self, List.append_assoc, List.cons_append, List.nil_append, List.append_cancel_left_eq, List.cons.injEq, true_and]
    rw [List.drop_set]
    simp
    intro h'
    omega

section
variable {P : Program} {o : Oper} {a : Act} {w : World} {γ : Nat → Gh} {env : Nat → Prop} {S : St} {K : AV → St → Prop} {fr : Fr}

theorem dr_one {w : World} {O : Nat → Prop} {x : D} {v : Value} (h : DR w O (.val x v)) (hx : ∀ l, x ≠ .agg l) : v.oneCell = true := by
  cases h <;> first | rfl | exact absurd rfl (hx _)
theorem vr_one {x : Cx} {v : AV} {cv : Value} (hk : v.okc = true) (h : VR x v cv) (hd : ∀ d, v ≠ .d d) : cv.oneCell = true := by
  cases v <;> simp only [VR] at h <;> first
    | exact absurd rfl (hd _)
    | (simp [AV.okc] at hk; done)
    | exact h.elim
    | (obtain ⟨_, _, rfl⟩ := h; rfl)
    | exact h.2.2.2.1
    | (obtain ⟨_, _, _, rfl, _⟩ := h; rfl)
    | (obtain ⟨_, rfl, _⟩ := h; rfl)
theorem cells_all2 {x : Cx} {v : AV} {cv : Value} (hk : v.okc = true) (h : TR x v cv) : All2 (fun a v => VR x a v ∧ v.oneCell = true) v.cells cv.cells.toList := by
  cases v with
  | d d => exact ((DR.cells_of (tr_d h)).all2.mono fun _ _ _ h => h).map
  | agg l => obtain ⟨vs, rfl, h2⟩ := h; simpa [AV.cells, Value.cells] using h2
  | tup l => simp [AV.okc] at hk
  | _ =>
    first
      | (simp [AV.okc] at hk; done)
      | (have h1 := vr_one hk h (by simp)
         have h2 : cv.cells = #[cv] := by cases cv <;> first | rfl | simp [Value.oneCell] at h1
         rw [h2]; exact .cons ⟨h, h1⟩ .nil)

theorem fill_ok {x : Cx} (place : Nat → Option (Nat × Nat)) : ∀ (parts : List (Nat × Value)) (qs : List (Nat × Nat × AV)) (cs : Array Value) (l r : List AV),
    All2 (fun (q : Nat × Nat × AV) (p : Nat × Value) => place p.1 = some (q.1, q.2.1) ∧ TR x q.2.2 p.2) qs parts → All2 (fun a v => VR x a v ∧ v.oneCell = true) l cs.toList → fillA l qs = some r →
    ∃ cs' : Array Value, Instr.fill place cs parts = some cs' ∧ All2 (fun a v => VR x a v ∧ v.oneCell = true) r cs'.toList
  | [], qs, cs, l, r, hq, hl, h => by
    cases hq
    simp [fillA] at h; subst h
    exact ⟨cs, by simp [Instr.fill], hl⟩
  | (i, v) :: parts, qs, cs, l, r, hq, hl, h => by
    cases hq with
    | cons h1 h2 =>
      rename_i q qs
      obtain ⟨off, n, u⟩ := q
      obtain ⟨h3, h4⟩ := h1
      simp only at h3 h4
      simp only [fillA] at h
      split at h
      · rename_i hc
        obtain ⟨hc1, hc2, hc3⟩ := hc
        have h5 := cells_all2 hc1 h4
        have h6 := h5.len
        have h7 := hl.len
        simp at h6 h7
        have h8 : All2 (fun a v => VR x a v ∧ v.oneCell = true) (splice l off u.cells) ((v.cells.zipIdx.foldl (fun cs (c, j) => cs.setIfInBounds (off + j) c) cs)).toList := by
          have := foldl_set v.cells.toList 0 off cs (by simp; omega)
          rw [← Array.foldl_toList, Array.toList_zipIdx]
          rw [Nat.add_zero] at this
          rw [this]
          exact hl.splice off h5
        obtain ⟨cs', h9, h10⟩ := fill_ok place parts qs _ _ r h2 h8 h
        refine ⟨cs', ?_, h10⟩
        simp only [Instr.fill, h3]
        rw [if_neg (by simp; omega)]
        exact h9
      · cases h

theorem trParts_ok {place : Nat → Option (Nat × Nat)} {parts : List (Nat × Operand)} {qs : List (Nat × Nat × Opd)} (hF : FrOK w γ env S fr a) (h : trParts P place parts = some qs) :
    All2 (fun (q : Nat × Nat × AV) (p : Nat × Value) => place p.1 = some (q.1, q.2.1) ∧ TR (cx w γ env S) q.2.2 p.2) (qs.map fun (o, n, x) => (o, n, ld fr x)) (parts.map fun (i, x) => (i, a.eval x)) := by
  induction parts generalizing qs with
  | nil => simp [trParts] at h; subst h; exact .nil
  | cons p parts ih =>
    obtain ⟨i, x⟩ := p
    unfold trParts at h
    split at h
    · rename_i o n y ys h1 h2 h3
      injection h with h; subst h
      exact .cons ⟨h1, trO_ok h2 hF⟩ (ih h3)
    · cases h

theorem zeroD_ok {t : TypeId} {z : List D} (h : zeroD P t = some z) : ∃ i v, P.info? t = some i ∧ i.zero = some v ∧ ∀ w O, DR w O (.cells z v.cells.toList) := by
  unfold zeroD at h
  split at h
  · rename_i i hi
    split at h
    · rename_i v hv; exact ⟨i, v, hi, hv, fun w O => trVs_ok h w O⟩
    · cases h
  · cases h
theorem run_zero {t : TypeId} {i : TypeInfo} {v : Value} (hi : P.info? t = some i) (hv : i.zero = some v) (w : World) : (zeroValue t).run P w = .ok v w := by
  simp [zeroValue, typeInfo, hi, hv]

theorem zero_all2 {z : List D} {vs : List Value} (h : DR w (fun b => Own S γ b ∨ env b) (.cells z vs)) : All2 (fun a v => VR (cx w γ env S) a v ∧ v.oneCell = true) (z.map .d) vs :=
  (h.all2.mono fun _ _ _ h => h).map

theorem run_places : ∀ (fs : List Field), fs.all (fun f => (P.info? f.type).isSome) = true → ∀ w, ∃ ps : List (Nat × Nat), (fs.mapM (m := Sem) fun f => Prod.mk f.offset <$> sizeOf f.type).run P w = .ok ps w ∧ ∀ i p, fieldPlaces P fs i = some p → ps[i]? = some p
  | [], _, w => ⟨[], by simp, fun i p h => by simp [fieldPlaces] at h⟩
  | f :: fs, h, w => by
    simp only [List.all_cons, Bool.and_eq_true] at h
    obtain ⟨j, hj⟩ := Option.isSome_iff_exists.1 h.1
    obtain ⟨ps, h1, h2⟩ := run_places fs h.2 w
    have h3 := run_sizeOf (P := P) (w := w) hj
    refine ⟨(f.offset, j.size) :: ps, by simp [List.mapM_cons, h3, h1, Program.cellsOf, hj], fun i p hp => ?_⟩
    cases i with
    | zero => simp [fieldPlaces, hj] at hp; simpa using hp
    | succ i => exact h2 i p (by simpa [fieldPlaces] using hp)

theorem does_build {t : TypeId} {parts : Array (Nat × Operand)} {z : List D} {qs : List (Nat × Nat × Opd)} (hr : HR w γ env S) (hF : FrOK w γ env S fr a) (ho : o.op = .build t parts) (ht : trBuild P t parts.toList = some (.build z qs))
    (E : Env) (hk : stepK E fr S (.build z qs) K) : Does P o a w γ env S K := by
  unfold trBuild at ht
  simp only [stepK] at hk
  split at ht
  · rename_i z' fs hz hu
    split at ht
    · rename_i hall
      cases hp : trParts P (fieldPlaces P fs.toList) parts.toList with
      | none => simp [hp] at ht
      | some qs' =>
        simp [hp] at ht
        obtain ⟨rfl, rfl⟩ := ht
        obtain ⟨i, v, hi, hv, hzz⟩ := zeroD_ok hz
        split at hk
        · rename_i l hl
          obtain ⟨ps, hps, hpp⟩ := run_places (P := P) fs.toList hall w
          obtain ⟨cs', h1, h2⟩ := fill_ok (x := cx w γ env S) (fun i => ps[i]?) _ _ v.cells _ l (((trParts_ok hF hp).mono fun q p _ h => ⟨hpp _ _ h.1, h.2⟩)) (zero_all2 (hzz w _)) hl
          refine .pure hr (cv := .agg cs') ?_ (by have := mkAgg_ok (x := cx w γ env S) h2; simpa using this) hk
          have hm : (fs.mapM (m := Sem) fun f => Prod.mk f.offset <$> sizeOf f.type).run P w = .ok ps.toArray w := by
            rw [Array.mapM_eq_mapM_toList]
            simp [hps]
          simp [execOp, ho, Instr.build, run_zero hi hv, run_underlying hu, hm, h1]
        · exact hk.elim
    · cases ht
  · rename_i z' n e hz hu
    split at ht
    · rename_i j hj
      cases hp : trParts P (fun i => some (i * j.size, j.size)) parts.toList with
      | none => simp [hp] at ht
      | some qs' =>
        simp [hp] at ht
        obtain ⟨rfl, rfl⟩ := ht
        obtain ⟨i, v, hi, hv, hzz⟩ := zeroD_ok hz
        have hsz := run_sizeOf (P := P) (w := w) hj
        have hcs : P.cellsOf e = j.size := by simp [Program.cellsOf, hj]
        split at hk
        · rename_i l hl
          obtain ⟨cs', h1, h2⟩ := fill_ok (x := cx w γ env S) (fun i => some (i * j.size, j.size)) _ _ v.cells _ l (trParts_ok hF hp) (zero_all2 (hzz w _)) hl
          refine .pure hr (cv := .agg cs') ?_ (by have := mkAgg_ok (x := cx w γ env S) h2; simpa using this) hk
          simp [execOp, ho, Instr.build, run_zero hi hv, run_underlying hu, hsz, hcs, h1]
        · exact hk.elim
    · cases ht
  · cases ht

/-- A new object. -/
theorem Does.new {cv : Value} {w' : World} {cs : Array Value} {T : TypeId} {fz : Nat × Nat} (hr : HR w γ env S) (ob : AO) (gh : Gh) (v : AV) (hrun : (execOp a.eval o).run P w = .ok (.value cv) w')
    (hw : w'.heap = w.heap.push (.cells cs T fz)) (hb : gh.blk = w.heap.size)
    (ho : ∀ x' : Cx, (cx w γ env S).Le x' → x'.w = w' → x'.γ S.length = gh → Blk w' w.heap.size cs → OR x' S.length ob)
    (hfz : ∀ k, k < cs.size → ¬ (fz.1 ≤ k ∧ k < fz.2))
    (hv : ∀ x' : Cx, x'.γ S.length = gh → S.length < x'.n → TR x' v cv) (hk : K v (S ++ [ob])) (hio : IOs w w' := by exact ⟨rfl, rfl⟩) : Does P o a w γ env S K := by
  obtain ⟨h1, h2⟩ := hr.new ob gh (.cells cs T fz) hw hb
  have hblk : Blk w' w.heap.size cs := by
    refine ⟨T, fz, by rw [hw]; simp, fun k hk => ?_⟩
    have : w'.heap[w.heap.size]? = some (.cells cs T fz) := by rw [hw]; simp
    have h3 := hfz k hk
    simp only [World.frozen?, this]
    rw [← Bool.not_eq_true]
    simpa using h3
  have h3 := ho _ h1 rfl (by simp [cx]) hblk
  refine ⟨v, cv, w', _, S ++ [ob], .inl hrun, ⟨h1, h2 h3, fun b hb' _ => ?_, fun b hO => ?_, hio⟩, hv _ (by simp [cx]) (by simp [cx]), hk⟩
  · rw [hw, Array.getElem?_push]; simp [show b ≠ w.heap.size by omega]
  · by_cases hlt : b < w.heap.size
    · left
      obtain ⟨i, ob', h4, h5, h6⟩ := hO
      rcases Nat.lt_trichotomy i S.length with h7 | h7 | h7
      · rw [List.getElem?_append_left h7] at h4
        exact ⟨i, ob', h4, h5, by simpa [show i ≠ S.length by omega] using h6⟩
      · subst h7; simp at h6; omega
      · rw [List.getElem?_eq_none (by simp; omega)] at h4; cases h4
    · right; omega

theorem Does.newBox {w' : World} {cs : Array Value} {T : TypeId} {l : List AV} (hr : HR w γ env S) (hrun : (execOp a.eval o).run P w = .ok (.value (.pointer (some ⟨w.heap.size, 0, none⟩))) w')
    (hw : w'.heap = w.heap.push (.cells cs T)) (hl : All2 (fun a v => VR (cx w γ env S) a v ∧ v.oneCell = true) l cs.toList) (hk : K (.ptr S.length 0) (S ++ [.box l])) (hio : IOs w w' := by exact ⟨rfl, rfl⟩) : Does P o a w γ env S K :=
  .new hr (.box l) ⟨w.heap.size, 0, 0, 0, true⟩ (.ptr S.length 0) hrun hw rfl (fun x' hle hx hg hblk => ⟨by rw [hg], cs, by rw [hg, hx]; exact hblk, hl.mono fun _ _ _ h => ⟨hle.vr h.1, h.2⟩⟩)
    (fun k _ h => by simp at h) (fun x' hg hn => ⟨hn, by rw [hg], by rw [hg]⟩) hk hio
theorem Does.newArr {w' : World} {cs : Array Value} {T : TypeId} {fz : Nat × Nat} {es cap : Nat} {l : List D} (hr : HR w γ env S) (hrun : (execOp a.eval o).run P w = .ok (.value (.slice (some ⟨w.heap.size, 0, none⟩) l.length cap)) w')
    (hw : w'.heap = w.heap.push (.cells cs T fz)) (hfz : ∀ k, k < cs.size → ¬ (fz.1 ≤ k ∧ k < fz.2)) (hl : Elems (cx w γ env S) cs es l) (hcs : cs.size = cap * es) (hcap : l.length ≤ cap) (hc63 : cap < 2 ^ 63)
    (hk : K (.ref S.length 0 0 l.length) (S ++ [.arr 0 es l])) (hio : IOs w w' := by exact ⟨rfl, rfl⟩) : Does P o a w γ env S K :=
  .new hr (.arr 0 es l) ⟨w.heap.size, es, cap, 0, false⟩ (.ref S.length 0 0 l.length) hrun hw rfl
    (fun x' hle hx hg hblk => ⟨by rw [hg], by rw [hg], by rw [hg], cs, by rw [hg, hx]; exact hblk, by rw [hg]; exact hcs, by rw [hg]; exact hcap, by rw [hg]; exact hc63, hl.mono hle⟩)
    hfz (fun x' hg hn => ⟨hn, by rw [hg], by rw [hg]; exact Nat.le_refl _, rfl, fun _ => ⟨by rw [hg]; simpa using hcap, 0, fun _ => by simp, by rw [hg]; simp⟩⟩) hk hio

theorem does_alloc {t : TypeId} {z : List D} (hr : HR w γ env S) (ho : o.op = .alloc t) (hz : zeroD P t = some z)
    (E : Env) (hk : stepK E fr S (.alloc z) K) : Does P o a w γ env S K := by
  obtain ⟨i, v, hi, hv, hzz⟩ := zeroD_ok hz
  simp only [stepK] at hk
  exact .newBox hr (w' := w.alloc (.cells v.cells t)) (cs := v.cells) (T := t) (by simp [execOp, ho, Instr.alloc, run_zero hi hv, newVar, newRow]) rfl (zero_all2 (hzz w _)) hk

theorem does_box {t : TypeId} {n : Nat} {x : Operand} {x' : Opd} (hr : HR w γ env S) (hF : FrOK w γ env S fr a) (ho : o.op = .box t x) (hx : trO x = some x')
    (E : Env) (hk : stepK E fr S (.box n x') K) : Does P o a w γ env S K := by
  simp only [stepK] at hk
  obtain ⟨⟨h1, _⟩, hk⟩ := hk
  exact .newBox hr (w' := w.alloc (.cells (a.eval x).cells t)) (cs := (a.eval x).cells) (T := t) (by simp [execOp, ho, Instr.box, newVar, newRow]) rfl (cells_all2 h1 (trO_ok hx hF)) hk

end
end Go.Abs
/- New arrays; stores: right. -/
namespace Go.Abs

theorem range0 : Array.range 0 = #[] := rfl
theorem grownCap_lt (w : World) (need old : Nat) (e : TypeId) (h : need < 2 ^ 63) : grownCap w need old e < 2 ^ 63 := by
  unfold grownCap
  simp only [Question.cut]
  have := Nat.mod_lt (w.tape w.drawn (.appendCap need old e)) (show 0 < 2 ^ 63 - need by omega)
  omega

section
variable {P : Program} {o : Oper} {a : Act} {w : World} {γ : Nat → Gh} {env : Nat → Prop} {S : St} {K : AV → St → Prop} {fr : Fr}

theorem does_bytes {t u e : TypeId} {x : Operand} {x' : Opd} (hr : HR w γ env S) (hF : FrOK w γ env S fr a) (ho : o.op = .convert t u x) (ht : P.underlying t = some .string) (hu : P.underlying u = some (.slice e)) (he : P.underlying e = some (.int .u8)) (hx : trO x = some x')
    (E : Env) (hk : stepK E fr S (.bytes x') K) : Does P o a w γ env S K := by
  simp only [stepK] at hk
  split at hk
  · rename_i s hs
    have hrun := run_bytes_of_string (P := P) w t u e ⟨s.toArray⟩ ht hu he
    have hsz : (ByteArray.mk s.toArray).size = s.length := by show s.toArray.size = s.length; simp
    rw [hsz] at hrun
    have hlt := evSlen hF hx hs
    have hge := grownCap_ge w s.length 0 e
    have hl : (s.map byteD).length = s.length := by simp
    have hrow : (bytesRow ⟨s.toArray⟩ (grownCap w s.length 0 e)).size = grownCap w s.length 0 e := by simp [bytesRow, hsz]; omega
    refine .newArr (es := 1) (l := s.map byteD) hr (cs := bytesRow ⟨s.toArray⟩ (grownCap w s.length 0 e)) (cap := grownCap w s.length 0 e) (w' := w.drew.alloc (.cells (bytesRow ⟨s.toArray⟩ (grownCap w s.length 0 e)) e ((bytesRow ⟨s.toArray⟩ (grownCap w s.length 0 e)).size, (bytesRow ⟨s.toArray⟩ (grownCap w s.length 0 e)).size + 1))) (T := e)
      (by rw [hl]; simp only [execOp, ho, evS hF hx hs, Sem.run_bind, hrun, Result.andThen_ok, Sem.run_pure]) rfl (fun k hk h => by simp only at h; omega) ?_ (by rw [hrow, Nat.mul_one]) (by rw [hl]; exact hge) (grownCap_lt w _ _ _ hlt) (by rw [hl]; exact hk)
    refine ⟨fun i => [.int .u8 (s.getD i 0).toNat], fun i d hd => ?_, fun i hi => ⟨rfl, fun j hj => ?_⟩⟩
    · simp only [List.getElem?_map, Option.map_eq_some_iff] at hd
      obtain ⟨b, hb, rfl⟩ := hd
      show DR _ _ (.cells [byteD b] [.int .u8 (s.getD i 0).toNat])
      rw [show s.getD i 0 = b by simp [List.getD, hb]]
      exact .ccons _ _ _ _ (.int _ _) rfl .cnil
    · have : j = 0 := by omega
      subst this
      simp only [List.length_map] at hi
      simp only [Nat.mul_one, Nat.add_zero, bytesRow]
      rw [Array.getElem?_append_left (by simp; omega)]
      simp [List.getElem?_eq_getElem hi, List.getD]
  · exact hk.elim

theorem trIdx_ok {parts : List (Nat × Operand)} {qs : List (Nat × Opd)} (hF : FrOK w γ env S fr a) (h : trIdx parts = some qs) :
    All2 (fun (q : Nat × AV) (p : Nat × Value) => q.1 = p.1 ∧ TR (cx w γ env S) q.2 p.2) (qs.map fun (i, x) => (i, ld fr x)) (parts.map fun (i, x) => (i, a.eval x)) := by
  induction parts generalizing qs with
  | nil => simp [trIdx] at h; subst h; exact .nil
  | cons p parts ih =>
    obtain ⟨i, x⟩ := p
    unfold trIdx at h
    split at h
    · rename_i y ys h1 h2
      injection h with h; subst h
      exact .cons ⟨rfl, trO_ok h1 hF⟩ (ih h2)
    · cases h

theorem fillE_ok {x : Cx} (es : Nat) : ∀ (parts : List (Nat × Value)) (qs : List (Nat × AV)) (cs : Array Value) (l r : List D),
    All2 (fun (q : Nat × AV) (p : Nat × Value) => q.1 = p.1 ∧ TR x q.2 p.2) qs parts → Elems x cs es l → l.length * es ≤ cs.size → fillE es l qs = some r →
    ∃ cs' : Array Value, Instr.fill (fun i => some (i * es, es)) cs parts = some cs' ∧ cs'.size = cs.size ∧ Elems x cs' es r ∧ r.length = l.length
  | [], qs, cs, l, r, hq, hl, _, h => by
    cases hq
    simp [fillE] at h; subst h
    exact ⟨cs, by simp [Instr.fill], rfl, hl, rfl⟩
  | (i, v) :: parts, qs, cs, l, r, hq, hl, hs, h => by
    cases hq with
    | cons h1 h2 =>
      rename_i q qs
      obtain ⟨i', u⟩ := q
      obtain ⟨h3, h4⟩ := h1
      simp only at h3 h4
      subst h3
      cases u <;> simp only [fillE] at h <;> first | cases h | skip
      rename_i d
      split at h
      · rename_i hc
        obtain ⟨hc1, hc2⟩ := hc
        have h5 := DR.cells_of (tr_d h4)
        have h6 := h5.all2.len
        simp at h6
        have hb : i' * es + es ≤ cs.size := by
          have : (i' + 1) * es ≤ l.length * es := Nat.mul_le_mul_right _ hc2
          rw [Nat.add_mul] at this; omega
        have hset : ((v.cells.zipIdx.foldl (fun cs (c, j) => cs.setIfInBounds (i' * es + j) c) cs)).toList = splice cs.toList (i' * es) v.cells.toList := by
          have := foldl_set v.cells.toList 0 (i' * es) cs (by simp; omega)
          rw [← Array.foldl_toList, Array.toList_zipIdx]
          rw [Nat.add_zero] at this
          exact this
        have hget : ∀ k, (v.cells.zipIdx.foldl (fun cs (c, j) => cs.setIfInBounds (i' * es + j) c) cs)[k]? = if i' * es ≤ k ∧ k < i' * es + es then v.cells.toList[k - i' * es]? else cs[k]? := fun k => by
          rw [← Array.getElem?_toList, hset]
          unfold splice
          have hvl : v.cells.toList.length = es := by simp; omega
          by_cases hk : k < i' * es
          · rw [if_neg (by omega), List.append_assoc, List.getElem?_append_left (by simp; omega), List.getElem?_take, if_pos hk, Array.getElem?_toList]
          · by_cases hk2 : k < i' * es + es
            · rw [if_pos ⟨by omega, hk2⟩, List.append_assoc, List.getElem?_append_right (by simp; omega)]
              rw [List.getElem?_append_left (by simp at hvl ⊢; omega)]
              congr 1
              simp; omega
            · rw [if_neg (by omega), List.getElem?_append_right (by simp at hvl ⊢; omega), List.getElem?_drop, ← Array.getElem?_toList]
              congr 1
              simp at hvl ⊢; omega
        have hsz : (v.cells.zipIdx.foldl (fun cs (c, j) => cs.setIfInBounds (i' * es + j) c) cs).size = cs.size := by
          have := congrArg List.length hset
          simp [splice] at this ⊢
          omega
        obtain ⟨vs, g1, g2⟩ := hl
        have hE : Elems x (v.cells.zipIdx.foldl (fun cs (c, j) => cs.setIfInBounds (i' * es + j) c) cs) es (l.set i' d) := by
          refine ⟨fun k => if k = i' then v.cells.toList else vs k, fun k e hk => ?_, fun k hk => ?_⟩
          · by_cases hki : k = i'
            · subst hki
              rw [List.getElem?_set_self hc2] at hk
              injection hk with hk; subst hk
              simpa using h5
            · rw [List.getElem?_set_ne (fun e => hki e.symm)] at hk
              simpa [hki] using g1 k e hk
          · simp only [List.length_set] at hk
            by_cases hki : k = i'
            · subst hki
              refine ⟨by simp; omega, fun j hj => ?_⟩
              rw [hget, if_pos ⟨by omega, by omega⟩]
              simp
            · refine ⟨by simpa [hki] using (g2 k hk).1, fun j hj => ?_⟩
              have hne : ¬ (i' * es ≤ k * es + j ∧ k * es + j < i' * es + es) := by
                rcases Nat.lt_or_gt_of_ne hki with hlt | hlt
                · have := Nat.mul_le_mul_right es (show k + 1 ≤ i' by omega)
                  rw [Nat.add_mul] at this; omega
                · have := Nat.mul_le_mul_right es (show i' + 1 ≤ k by omega)
                  rw [Nat.add_mul] at this; omega
              rw [hget, if_neg hne]
              simpa [hki] using (g2 k hk).2 j hj
        obtain ⟨cs', k1, k2, k3, k4⟩ := fillE_ok es parts qs _ _ r h2 hE (by rw [hsz]; simpa using hs) h
        refine ⟨cs', ?_, by rw [k2, hsz], k3, by simpa using k4⟩
        simp only [Instr.fill]
        rw [if_neg (by simp; omega)]
        exact k1
      · cases h

/-- Zero elements. -/
theorem zeros_ok {x : Cx} {z : List D} {vs : Array Value} (hz : DR x.w x.O (.cells z vs.toList)) (es n : Nat) (hes : z.length = es) (he0 : 0 < es) {cs : Array Value} (hcs : ∀ k, k < n * es → cs[k]? = vs[k % es]?) :
    Elems x cs es (List.replicate n (if es = 1 then z.getD 0 .nilp else .agg z)) := by
  have hl := hz.all2.len
  simp at hl
  refine ⟨fun _ => vs.toList, fun i d hd => ?_, fun i hi => ⟨by simp; omega, fun j hj => ?_⟩⟩
  · have hd' := List.mem_of_getElem? hd
    have := List.eq_of_mem_replicate hd'
    subst this
    by_cases h1 : es = 1
    · rw [if_pos h1]
      cases z with
      | nil => simp at hes; omega
      | cons y z =>
        have : z = [] := by cases z with | nil => rfl | cons _ _ => simp at hes; omega
        subst this
        show DR _ _ (.cells _ vs.toList)
        generalize vs.toList = us at hz
        cases hz with
        | ccons _ v _ us g1 g2 g3 =>
          have : y.cells = [y] := by
            cases y <;> first
              | rfl
              | (cases g1; simp [Value.oneCell] at g2)
          simp only [List.getD_cons_zero, this]
          exact .ccons _ _ _ _ g1 g2 g3
    · rw [if_neg h1]; exact hz
  · simp only [List.length_replicate] at hi
    have : (i + 1) * es ≤ n * es := Nat.mul_le_mul_right _ hi
    rw [Nat.add_mul] at this
    rw [hcs _ (by omega)]
    rw [Nat.mul_comm, Nat.mul_add_mod, Nat.mod_eq_of_lt hj]
    simp

theorem does_bslice {t e : TypeId} {n : Nat} {parts : Array (Nat × Operand)} {i : TypeInfo} {z : List D} {qs : List (Nat × Opd)} (hr : HR w γ env S) (hF : FrOK w γ env S fr a) (ho : o.op = .buildSlice t n parts) (ht : slE P t = some e)
    (hi : P.info? e = some i) (hz : zeroD P e = some z) (hp : trIdx parts.toList = some qs) (hn : n * i.size ≤ 16777216) (hzl : z.length = i.size) (h0 : 0 < i.size)
    (E : Env) (hk : stepK E fr S (.bslice i.size n z qs) K) : Does P o a w γ env S K := by
  have ht := slE_ok ht
  have hsz := run_sizeOf (P := P) (w := w) hi
  have hcs : P.cellsOf e = i.size := by simp [Program.cellsOf, hi]
  obtain ⟨i', v, hi', hv, hzz⟩ := zeroD_ok hz
  rw [hi] at hi'; injection hi' with hi'; subst hi'
  simp only [stepK] at hk
  split at hk
  · rename_i l hl
    have hvl : v.cells.size = i.size := by have := (hzz w (fun _ => False)).all2.len; simp at this; omega
    let cs0 : Array Value := (Array.range (n * i.size)).map fun k => v.cells[k % v.cells.size]!
    have hcs0 : cs0.size = n * i.size := by simp [cs0]
    have hE : Elems (cx w γ env S) cs0 i.size (List.replicate n (if i.size = 1 then z.getD 0 .nilp else .agg z)) :=
      zeros_ok (hzz w _) i.size n hzl h0 fun k hk => by
        have hlt : k % i.size < v.cells.size := by rw [hvl]; exact Nat.mod_lt _ h0
        simp only [cs0, Array.getElem?_map, Array.getElem?_range, hk, if_true, Option.map_some, hvl]
        rw [getElem!_pos v.cells (k % i.size) hlt, getElem?_pos v.cells (k % i.size) hlt]
    obtain ⟨cs', h1, h2, h3, h4⟩ := fillE_ok i.size _ _ cs0 _ l (trIdx_ok hF hp) hE (by simp [hcs0]) hl
    have hln : l.length = n := by simpa using h4
    refine .newArr (es := i.size) (l := l) hr (cs := cs') (cap := n) (w' := w.alloc (.cells cs' e)) (T := e) (fz := (0, 0)) ?_ rfl (fun k _ h => by simp at h) h3 (by rw [h2, hcs0]) (by omega) ?_ (by rw [hln]; exact hk)
    · by_cases hn0 : n * i.size = 0
      · have hn00 : n = 0 := by rcases Nat.mul_eq_zero.1 hn0 with h | h <;> omega
        subst hn00
        have hcs00 : cs0 = #[] := by simp [cs0]
        have hq : qs = [] := by
          cases qs with
          | nil => rfl
          | cons q qs => obtain ⟨i1, x1⟩ := q; simp only [List.map_cons, List.replicate_zero] at hl; cases hx1 : ld fr x1 <;> simp [fillE, hx1] at hl
        have hpt : parts = #[] := by
          have := (trIdx_ok hF hp).len
          rw [hq] at this
          simp at this
          exact Array.eq_empty_of_size_eq_zero this.symm
        rw [hcs00, hpt] at h1
        simp [Instr.fill] at h1
        subst h1
        subst hpt
        simp [Instr.fill, execOp, ho, Instr.buildSlice, run_underlying ht, hsz, hcs, newRow, hln, range0]
      · have hn' : ¬ 16777216 < n * i.size := by omega
        simp only [cs0] at h1
        simp [execOp, ho, Instr.buildSlice, run_underlying ht, hsz, hcs, newRow, hln, run_zero hi hv, hn', hn0, h1]
    · have : n ≤ n * i.size := Nat.le_mul_of_pos_right n h0
      omega
  · exact hk.elim

theorem does_mks {t e : TypeId} {n c : Operand} {n' c' : Opd} {i : TypeInfo} {z : List D} (hr : HR w γ env S) (hF : FrOK w γ env S fr a) (ho : o.op = .makeSlice t n c) (ht : slE P t = some e)
    (hi : P.info? e = some i) (hz : zeroD P e = some z) (hn : trO n = some n') (hc : trO c = some c') (hzl : z.length = i.size) (h0 : 0 < i.size)
    (E : Env) (hk : stepK E fr S (.mks i.size i.bytes z n' c') K) : Does P o a w γ env S K := by
  have ht := slE_ok ht
  have hsz := run_sizeOf (P := P) (w := w) hi
  have hcs : P.cellsOf e = i.size := by simp [Program.cellsOf, hi]
  have hinfo := run_typeInfo (P := P) (w := w) hi
  obtain ⟨i', v, hi', hv, hzz⟩ := zeroD_ok hz
  rw [hi] at hi'; injection hi' with hi'; subst hi'
  simp only [stepK] at hk
  split at hk
  · rename_i p q hp hq
    obtain ⟨⟨h1, h2, h3, h4⟩, hk⟩ := hk
    have hvl : v.cells.size = i.size := by have := (hzz w (fun _ => False)).all2.len; simp at this; omega
    have wp : IntKind.i64.wrap p = p := IntWalk.i64_in p (by omega)
    have wq : IntKind.i64.wrap q = q := IntWalk.i64_in q (by omega)
    have hb : ¬ ((i.bytes : Int) * q > 281474976710656) := by rw [Int.mul_comm]; omega
    let cs0 : Array Value := (Array.range (q.toNat * i.size)).map fun k => v.cells[k % v.cells.size]!
    have hcs0 : cs0.size = q.toNat * i.size := by simp [cs0]
    have hE : Elems (cx w γ env S) cs0 i.size (List.replicate p.toNat (if i.size = 1 then z.getD 0 .nilp else .agg z)) :=
      zeros_ok (hzz w _) i.size p.toNat hzl h0 fun k hk => by
        have hlt : k % i.size < v.cells.size := by rw [hvl]; exact Nat.mod_lt _ h0
        have hkq : k < q.toNat * i.size := Nat.lt_of_lt_of_le hk (Nat.mul_le_mul_right _ (by omega))
        simp only [cs0, Array.getElem?_map, Array.getElem?_range, hkq, if_true, Option.map_some, hvl]
        rw [getElem!_pos v.cells (k % i.size) hlt, getElem?_pos v.cells (k % i.size) hlt]
    refine .newArr (es := i.size) (l := List.replicate p.toNat (if i.size = 1 then z.getD 0 .nilp else .agg z)) hr (cs := cs0) (cap := q.toNat) (w' := w.alloc (.cells cs0 e)) (T := e) (fz := (0, 0)) ?_ rfl (fun k _ h => by simp at h) hE hcs0 (by simp; omega) (by omega) (by simpa using hk)
    by_cases hq0 : q.toNat * i.size = 0
    · have hq00 : q = 0 := by rcases Nat.mul_eq_zero.1 hq0 with h | h <;> omega
      have hp00 : p = 0 := by omega
      subst hq00; subst hp00
      have hcs00 : cs0 = #[] := by simp [cs0]
      simp only [hcs00]
      simp [execOp, ho, Instr.makeSlice, evI hF hn hp, evI hF hc hq, asInt, asIntOf, run_underlying ht, hinfo, hsz, hcs, newRow, wp, range0]
    · have hp' : ¬ p < 0 := by omega
      have hq' : ¬ q < 0 := by omega
      have hpq : ¬ q < p := by omega
      simp only [cs0]
      simp [execOp, ho, Instr.makeSlice, evI hF hn hp, evI hF hc hq, asInt, asIntOf, run_underlying ht, hinfo, hsz, hcs, newRow, wp, wq, hp', hq', hpq, hb, hq0, run_zero hi hv]
  · exact hk.elim

end
end Go.Abs
/- Stores; appends: right. -/
namespace Go.Abs

theorem setCell_heap (w : World) (b k : Nat) (v : Value) (j : Nat) : (w.setCell ⟨b, k, none⟩ v).heap[j]? =
    if j = b then (w.heap[b]?).map (fun | .cells c T fz => .cells (c.setIfInBounds k v) T fz | o => o) else w.heap[j]? := by
  simp only [World.setCell, Array.getElem?_modify]
  by_cases h : b = j
  · subst h; simp; rfl
  · rw [if_neg h, if_neg (fun e => h e.symm)]
theorem setCells_size (b : Nat) : ∀ (vs : List Value) (k : Nat) (w : World), (w.setCells b k vs).heap.size = w.heap.size
  | [], k, w => rfl
  | v :: vs, k, w => by
    show ((w.setCell ⟨b, k, none⟩ v).setCells b (k + 1) vs).heap.size = _
    rw [setCells_size b vs]; simp [World.setCell]
theorem setCells_other (b : Nat) : ∀ (vs : List Value) (k : Nat) (w : World) (j : Nat), j ≠ b → (w.setCells b k vs).heap[j]? = w.heap[j]?
  | [], k, w, j, _ => rfl
  | v :: vs, k, w, j, h => by
    show ((w.setCell ⟨b, k, none⟩ v).setCells b (k + 1) vs).heap[j]? = _
    rw [setCells_other b vs _ _ j h, setCell_heap, if_neg h]
theorem setCells_same (b : Nat) (T : TypeId) (fz : Nat × Nat) : ∀ (vs : List Value) (k : Nat) (w : World) (cs : Array Value), w.heap[b]? = some (.cells cs T fz) → k + vs.length ≤ cs.size →
    ∃ cs' : Array Value, (w.setCells b k vs).heap[b]? = some (.cells cs' T fz) ∧ cs'.size = cs.size ∧ cs'.toList = splice cs.toList k vs
  | [], k, w, cs, h, _ => ⟨cs, h, rfl, by simp [splice]⟩
  | v :: vs, k, w, cs, h, hl => by
    simp only [List.length_cons] at hl
    have h1 : (w.setCell ⟨b, k, none⟩ v).heap[b]? = some (.cells (cs.setIfInBounds k v) T fz) := by
      rw [setCell_heap, if_pos rfl, h]; rfl
    obtain ⟨cs', h2, h3, h4⟩ := setCells_same b T fz vs (k + 1) _ _ h1 (by simp; omega)
    refine ⟨cs', h2, by simpa using h3, ?_⟩
    rw [h4]
    simp only [splice, Array.toList_setIfInBounds, List.length_cons]
    have hlt : k < cs.toList.length := by simp; omega
    rw [show k + (vs.length + 1) = k + 1 + vs.length by omega]
    rw [List.take_succ_eq_append_getElem (by simpa using hlt)]
    simp only [List.take_set_of_le (Nat.le_refl _), List.getElem_set_self, List.append_assoc, List.cons_append, List.nil_append, List.append_cancel_left_eq, List.cons.injEq, true_and]
    rw [List.drop_set]
    simp
    intro h'
    omega
theorem Blk.set {w : World} {b : Nat} {cs : Array Value} (h : Blk w b cs) (k : Nat) (vs : List Value) (hl : k + vs.length ≤ cs.size) :
    ∃ cs', Blk (w.setCells b k vs) b cs' ∧ cs'.size = cs.size ∧ cs'.toList = splice cs.toList k vs := by
  obtain ⟨T, fz, h1, h2⟩ := h
  obtain ⟨cs', h3, h4, h5⟩ := setCells_same b T fz vs k w cs h1 hl
  refine ⟨cs', ⟨T, fz, h3, fun j hj => ?_⟩, h4, h5⟩
  have := h2 j (by omega)
  simp only [World.frozen?, h1] at this
  simp only [World.frozen?, h3]
  exact this

section
variable {P : Program} {o : Oper} {a : Act} {w : World} {γ : Nat → Gh} {env : Nat → Prop} {S : St} {K : AV → St → Prop} {fr : Fr}

theorem run_storeAt {t : TypeId} {n b off : Nat} {ag : Bool} {ad x : Operand} {cs : Array Value} (ho : o.op = .store t ad x) (ht : szA P t = some (n, ag)) (had : a.eval ad = .pointer (some ⟨b, off, none⟩))
    (hn : (a.eval x).cells.size = n) (h1 : ∀ v ∈ (a.eval x).cells.toList, v.oneCell = true) (hb : Blk w b cs) (hl : off + n ≤ cs.size) :
    (execOp a.eval o).run P w = .ok .skip (w.setCells b off (a.eval x).cells.toList) := by
  obtain ⟨j, hj, hj1, hag⟩ := szA_ok ht
  have hsz := run_sizeOf (P := P) (w := w) hj
  have hcs : P.cellsOf t = n := by simp [Program.cellsOf, hj, hj1]
  obtain ⟨T, fz, hb1, hb2⟩ := id hb
  have hst := run_storeCells_cells (P := P) b off (a.eval x).cells.toList 0 w
    (fun k hk => by
      rw [Nat.add_zero, hb.cell]
      simp at hk
      simp [show off + k < cs.size by omega])
    (fun k hk => by simp at hk; exact hb2 _ (by omega))
    (fun v hv => by have := h1 v hv; cases v <;> first | rfl | simp [Value.oneCell] at this)
  rw [Nat.add_zero] at hst
  simp [execOp, ho, had, Instr.storeAt, Instr.sureAddr, storeVar, hsz, hcs, hn, hst]

theorem setCells_io (b : Nat) : ∀ (vs : List Value) (k : Nat) (w : World), IOs w (w.setCells b k vs)
  | [], _, w => .refl w
  | v :: r, k, w => by
    rw [World.setCells]
    exact IOs.trans (b := w.setCell ⟨b, k, none⟩ v) ⟨rfl, rfl⟩ (setCells_io b r (k + 1) _)
/-- An object of the activation's own is written in place. -/
theorem Does.inPlace {i : Nat} {o0 : AO} (hr : HR w γ env S) (ob : AO) (hi : S[i]? = some o0) (hl : o0.live = true) (hl' : ob.live = true) {vs : List Value} {k : Nat}
    (hrun : (execOp a.eval o).run P w = .ok .skip (w.setCells (γ i).blk k vs))
    (ho : ∀ x' : Cx, (cx w γ env S).Le x' → x'.w = w.setCells (γ i).blk k vs → x'.γ = γ → OR x' i ob)
    (hk : K .undef (S.set i ob)) : Does P o a w γ env S K := by
  obtain ⟨h1, h2⟩ := hr.repl (w' := w.setCells (γ i).blk k vs) (γ' := γ) ob hi hl (by rw [setCells_size]; exact Nat.le_refl _) (fun _ _ => rfl) (GX.refl _) (fun b _ hb => setCells_other _ _ _ _ _ hb) (fun _ => .inl rfl)
  have h3 := h2 (ho _ h1 rfl rfl)
  refine ⟨.undef, undef, _, γ, S.set i ob, .inr ⟨hrun, rfl⟩, ⟨h1, h3, fun b _ hb => setCells_other _ _ _ _ _ fun e => hb ⟨i, o0, hi, hl, e.symm⟩, fun b hb => .inl ?_, setCells_io _ _ _ _⟩, trivial, hk⟩
  obtain ⟨j, oj, h4, h5, h6⟩ := hb
  by_cases hij : j = i
  · subst hij; exact ⟨j, o0, hi, hl, h6⟩
  · rw [List.getElem?_set_ne (fun e => hij e.symm)] at h4
    exact ⟨j, oj, h4, h5, h6⟩

theorem does_storeBox {t : TypeId} {n i off : Nat} {ag : Bool} {ad x : Operand} {ad' x' : Opd} {l : List AV} (hr : HR w γ env S) (hF : FrOK w γ env S fr a) (ho : o.op = .store t ad x) (ht : szA P t = some (n, ag)) (had : trO ad = some ad') (hx : trO x = some x')
    (h1 : ld fr ad' = .ptr i off) (hi : S[i]? = some (.box l)) (hle : off + n ≤ l.length) (hok : (ld fr x').okc = true) (hn : (ld fr x').cells.length = n)
    (hk : K .undef (S.set i (.box (splice l off (ld fr x').cells)))) : Does P o a w γ env S K := by
  obtain ⟨h2, h3, cs, h4, h5⟩ := boxed hr hi
  obtain ⟨_, _, h7⟩ := evV hF had h1
  have h8 := cells_all2 hok (trO_ok hx hF)
  have h9 := h8.len
  simp at h9
  have hlen := h5.len
  simp at hlen
  have hrun := run_storeAt (P := P) (w := w) (cs := cs) ho ht h7 (by omega) (fun v hv => by
    obtain ⟨k, hk, rfl⟩ := List.getElem_of_mem hv
    obtain ⟨u, hu⟩ : ∃ u, (ld fr x').cells[k]? = some u := ⟨(ld fr x').cells[k]'(by simp at hk; omega), by simp⟩
    obtain ⟨v', hv', h10⟩ := h8.get hu
    rw [List.getElem?_eq_getElem hk] at hv'
    injection hv' with hv'; subst hv'
    exact h10.2) h4 (by omega)
  refine .inPlace hr (.box (splice l off (ld fr x').cells)) hi rfl rfl hrun (fun x'' hle' hw hγ => ?_) hk
  obtain ⟨cs', h11, h12, h13⟩ := h4.set off (a.eval x).cells.toList (by simp; omega)
  refine ⟨by rw [hγ]; exact h3, cs', by rw [hγ, hw]; exact h11, ?_⟩
  rw [h13]
  exact (h5.splice off h8).mono fun _ _ _ h => ⟨hle'.vr h.1, h.2⟩

theorem splice_one {α : Type} {l : List α} {off : Nat} {x : α} (h : off < l.length) : splice l off [x] = l.set off x := by
  unfold splice
  rw [List.set_eq_take_append_cons_drop, if_pos h]
  simp

theorem does_storeArr {t : TypeId} {n i g k off es : Nat} {ag : Bool} {ad x : Operand} {ad' x' : Opd} {l : List D} {v : D} (hr : HR w γ env S) (hF : FrOK w γ env S fr a) (ho : o.op = .store t ad x) (ht : szA P t = some (n, ag)) (had : trO ad = some ad') (hx : trO x = some x')
    (h1 : ld fr ad' = .ep i g k off) (hi : S[i]? = some (.arr g es l)) (hkl : k < l.length) (hle : off + n ≤ (l.getD k .nilp).cells.length) (hv : ld fr x' = .d v) (hn : v.cells.length = n) (d : D) (hd : d.cells = splice (l.getD k .nilp).cells off v.cells)
    (hk : K .undef (S.set i (.arr g es (l.set k d)))) : Does P o a w γ env S K := by
  have hilt : i < S.length := (List.getElem?_eq_some_iff.1 hi).1
  obtain ⟨g0, g1, g2, cs, g3, g4, g5, g6, vs, g7, g8⟩ := hr.objs i _ hi
  obtain ⟨_, _, _, _, h7⟩ := evV hF had h1
  have h7 := h7 g1
  simp only [cx] at h7 g1 g2 g3 g4 g5 g6
  rw [g2] at h7
  have h8 := DR.cells_of (evD hF hx hv)
  have h9 := h8.all2.len
  simp at h9
  have hkc := g7 k (l.getD k .nilp) (by simp [List.getD, List.getElem?_eq_getElem hkl])
  have hkl2 := hkc.all2.len
  have hes := (g8 k hkl).1
  have hbnd : k * es + es ≤ cs.size := by
    rw [g4]
    have := Nat.mul_le_mul_right es (show k + 1 ≤ (γ i).cap by omega)
    rw [Nat.add_mul] at this; omega
  have hrun := run_storeAt (P := P) (w := w) (cs := cs) ho ht h7 (by omega) (fun u hu => by
    obtain ⟨q, hq, rfl⟩ := List.getElem_of_mem hu
    obtain ⟨u', hu'⟩ : ∃ u, v.cells[q]? = some u := ⟨v.cells[q]'(by simp at hq; omega), by simp⟩
    obtain ⟨v', hv', h10⟩ := h8.all2.get hu'
    rw [List.getElem?_eq_getElem hq] at hv'
    injection hv' with hv'; subst hv'
    exact h10.2) g3 (by omega)
  refine .inPlace hr (.arr g es (l.set k d)) hi rfl rfl hrun (fun x'' hle' hw hγ => ?_) hk
  obtain ⟨cs', h11, h12, h13⟩ := g3.set (k * es + off) (a.eval x).cells.toList (by simp; omega)
  have hget : ∀ q, cs'[q]? = if k * es + off ≤ q ∧ q < k * es + off + n then (a.eval x).cells.toList[q - (k * es + off)]? else cs[q]? := fun q => by
    rw [← Array.getElem?_toList, h13]
    unfold splice
    have hvl : (a.eval x).cells.toList.length = n := by simp; omega
    by_cases hk : q < k * es + off
    · rw [if_neg (by omega), List.append_assoc, List.getElem?_append_left (by simp; omega), List.getElem?_take, if_pos hk, Array.getElem?_toList]
    · by_cases hk2 : q < k * es + off + n
      · rw [if_pos ⟨by omega, hk2⟩, List.append_assoc, List.getElem?_append_right (by simp; omega)]
        rw [List.getElem?_append_left (by simp at hvl ⊢; omega)]
        congr 1
        simp; omega
      · rw [if_neg (by omega), List.getElem?_append_right (by simp at hvl ⊢; omega), List.getElem?_drop, ← Array.getElem?_toList]
        congr 1
        simp at hvl ⊢; omega
  refine ⟨by rw [hγ]; exact g0, by rw [hγ]; exact g1, by rw [hγ]; exact g2, cs', by rw [hγ, hw]; exact h11, by rw [hγ, h12]; exact g4, by rw [hγ]; simpa using g5, by rw [hγ]; exact g6, ?_⟩
  have hsp : All2 (fun x v => DR w (fun b => Own S γ b ∨ env b) (.val x v) ∧ v.oneCell = true) (splice (l.getD k .nilp).cells off v.cells) (splice (vs k) off (a.eval x).cells.toList) := hkc.all2.splice off h8.all2
  refine ⟨fun q => if q = k then splice (vs k) off (a.eval x).cells.toList else vs q, fun q e hq => ?_, fun q hq => ?_⟩
  · by_cases hqk : q = k
    · subst hqk
      rw [List.getElem?_set_self hkl] at hq
      injection hq with hq; subst hq
      simp only [if_true]
      rw [hd]
      exact hle'.dr (DR.of_all2 hsp)
    · rw [List.getElem?_set_ne (fun e => hqk e.symm)] at hq
      simp only [if_neg hqk]
      exact hle'.dr (g7 q e hq)
  · simp only [List.length_set] at hq
    by_cases hqk : q = k
    · subst hqk
      have hsl : (splice (vs q) off (a.eval x).cells.toList).length = es := by rw [← hsp.len]; unfold splice; simp only [List.length_append, List.length_take, List.length_drop]; omega
      refine ⟨by simpa using hsl, fun j hj => ?_⟩
      simp only [if_true]
      rw [hget]
      unfold splice
      have hvl : (a.eval x).cells.toList.length = n := by simp; omega
      by_cases hj1 : j < off
      · rw [if_neg (by omega), List.append_assoc, List.getElem?_append_left (by simp; omega), List.getElem?_take, if_pos hj1]
        exact (g8 q hq).2 j hj
      · by_cases hj2 : j < off + n
        · rw [if_pos ⟨by omega, by omega⟩, List.append_assoc, List.getElem?_append_right (by simp; omega), List.getElem?_append_left (by simp at hvl ⊢; omega)]
          congr 1
          simp; omega
        · rw [if_neg (by omega), List.getElem?_append_right (by simp at hvl ⊢; omega), List.getElem?_drop, (g8 q hq).2 j hj]
          congr 1
          simp at hvl ⊢; omega
    · simp only [if_neg hqk]
      refine ⟨(g8 q hq).1, fun j hj => ?_⟩
      have hne : ¬ (k * es + off ≤ q * es + j ∧ q * es + j < k * es + off + n) := by
        rcases Nat.lt_or_gt_of_ne hqk with hlt | hlt
        · have := Nat.mul_le_mul_right es (show q + 1 ≤ k by omega)
          rw [Nat.add_mul] at this; omega
        · have := Nat.mul_le_mul_right es (show k + 1 ≤ q by omega)
          rw [Nat.add_mul] at this; omega
      rw [hget, if_neg hne]
      exact (g8 q hq).2 j hj

end
end Go.Abs
/- Stores as instructions; appends: right. -/
namespace Go.Abs
section
variable {P : Program} {o : Oper} {a : Act} {w : World} {γ : Nat → Gh} {env : Nat → Prop} {S : St} {K : AV → St → Prop} {fr : Fr}

theorem does_store1 {t : TypeId} {ad x : Operand} {ad' x' : Opd} (hr : HR w γ env S) (hF : FrOK w γ env S fr a) (ho : o.op = .store t ad x) (ht : szA P t = some (1, false)) (had : trO ad = some ad') (hx : trO x = some x')
    (E : Env) (hk : stepK E fr S (.store1 ad' x') K) : Does P o a w γ env S K := by
  simp only [stepK] at hk
  split at hk
  · rename_i i off h1
    split at hk
    · rename_i l hi
      obtain ⟨h2, h3, h4, hk⟩ := hk
      refine does_storeBox hr hF ho ht had hx h1 hi (by omega) h3 (by rw [h4]; rfl) ?_
      rw [h4, splice_one h2]; exact hk
    · exact hk.elim
  · rename_i i g k off h1
    split at hk
    · rename_i g' es l v hi hv
      obtain ⟨⟨rfl, h2, h3, h4⟩, hk⟩ := hk
      refine does_storeArr hr hF ho ht had hx h1 hi h2 (by omega) hv (by rw [h4]; rfl) _ ?_ hk
      rw [h4, splice_one h3]
      have hone : ∀ d : D, d.cells = [d] → off < d.cells.length → v.cells = d.cells.set off v := fun d hd hlt => by
        rw [hd] at hlt ⊢
        have : off = 0 := by simpa using hlt
        subst this; rw [h4]; rfl
      cases hd : l.getD k .nilp <;> rw [hd] at h3 <;> first
        | rfl
        | exact hone _ rfl h3
    · exact hk.elim
  · exact hk.elim

theorem does_storeA {t : TypeId} {n : Nat} {ad x : Operand} {ad' x' : Opd} (hr : HR w γ env S) (hF : FrOK w γ env S fr a) (ho : o.op = .store t ad x) (ht : szA P t = some (n, true)) (had : trO ad = some ad') (hx : trO x = some x')
    (E : Env) (hk : stepK E fr S (.storeA n ad' x') K) : Does P o a w γ env S K := by
  simp only [stepK] at hk
  split at hk
  · rename_i i off h1
    split at hk
    · rename_i l hi
      obtain ⟨⟨h2, h3, h4⟩, hk⟩ := hk
      exact does_storeBox hr hF ho ht had hx h1 hi h2 h3 h4 hk
    · exact hk.elim
  · rename_i i g k off h1
    split at hk
    · rename_i g' es l v hi hv
      obtain ⟨⟨rfl, h2, h3, h4⟩, hk⟩ := hk
      exact does_storeArr hr hF ho ht had hx h1 hi h2 h3 hv h4 _ rfl hk
    · exact hk.elim
  · exact hk.elim

/-- What is appended: its cells, one after the other. -/
structure Src (x : Cx) (es : Nat) (new : List D) (ns : List Value) : Prop where
  len : ns.length = new.length * es
  ok : ∃ us : Nat → List Value, (∀ i d, new[i]? = some d → DR x.w x.O (.cells d.cells (us i))) ∧ ∀ i, i < new.length → (us i).length = es ∧ ∀ j, j < es → ns[i * es + j]? = (us i)[j]?
  one : ∀ v ∈ ns, v.oneCell = true

theorem Src.of {x : Cx} {es : Nat} {new : List D} {ns : List Value} (hl : ns.length = new.length * es) (us : Nat → List Value) (h1 : ∀ i d, new[i]? = some d → DR x.w x.O (.cells d.cells (us i)))
    (h2 : ∀ i, i < new.length → (us i).length = es ∧ ∀ j, j < es → ns[i * es + j]? = (us i)[j]?) (h0 : 0 < es) : Src x es new ns := by
  refine ⟨hl, ⟨us, h1, h2⟩, fun v hv => ?_⟩
  obtain ⟨k, hk, rfl⟩ := List.getElem_of_mem hv
  have hi : k / es < new.length := Nat.div_lt_of_lt_mul (by rw [Nat.mul_comm]; omega)
  have hj : k % es < es := Nat.mod_lt _ h0
  have h3 := (h2 _ hi).2 _ hj
  rw [Nat.mul_comm, Nat.div_add_mod, List.getElem?_eq_getElem hk] at h3
  have h4 := (h1 (k / es) new[k / es] (by simp)).all2
  have h5 := h4.len
  rw [(h2 _ hi).1] at h5
  obtain ⟨v', hv', h6⟩ := h4.get (i := k % es) (a := (new[k / es]).cells[k % es]'(by omega)) (by simp)
  rw [← h3] at hv'
  injection hv' with hv'
  rw [hv']; exact h6.2

theorem Src.slr {x : Cx} {b off es : Nat} {l : List D} (h : SlR x b off es l) (h0 : 0 < es) : ∃ ns, Src x es l ns ∧ ∀ k v, ns[k]? = some v → x.w.cell? ⟨b, off + k, none⟩ = some v := by
  obtain ⟨vs, h1, h2⟩ := h
  have hall : ∀ k, k < l.length * es → x.w.cell? ⟨b, off + k, none⟩ = (vs (k / es))[k % es]? ∧ k % es < (vs (k / es)).length := fun k hk => by
    have hi : k / es < l.length := Nat.div_lt_of_lt_mul (by rw [Nat.mul_comm]; omega)
    have hj : k % es < es := Nat.mod_lt _ h0
    have h3 := (h2 _ hi).2 _ hj
    have : off + k / es * es + k % es = off + k := by rw [Nat.add_assoc, Nat.mul_comm, Nat.div_add_mod]
    rw [this] at h3
    exact ⟨h3, by rw [(h2 _ hi).1]; exact hj⟩
  refine ⟨(List.range (l.length * es)).map fun k => (vs (k / es)).getD (k % es) undef, Src.of (by simp) vs h1 (fun i hi => ⟨(h2 i hi).1, fun j hj => ?_⟩) h0, fun k v hv => ?_⟩
  · have hlt : i * es + j < l.length * es := by
      have := Nat.mul_le_mul_right es (show i + 1 ≤ l.length from hi)
      rw [Nat.add_mul] at this; omega
    have e1 : (i * es + j) / es = i := by rw [Nat.mul_comm, Nat.mul_add_div h0, Nat.div_eq_of_lt hj]; simp
    have e2 : (i * es + j) % es = j := by rw [Nat.mul_comm, Nat.mul_add_mod, Nat.mod_eq_of_lt hj]
    simp only [List.getElem?_map, List.getElem?_range hlt, Option.map_some, e1, e2]
    have := (h2 i hi).1
    simp [List.getD, List.getElem?_eq_getElem (show j < (vs i).length by omega)]
  · have hk : k < l.length * es := by have := (List.getElem?_eq_some_iff.1 hv).1; simpa using this
    simp only [List.getElem?_map, List.getElem?_range hk, Option.map_some] at hv
    injection hv with hv; subst hv
    obtain ⟨h3, h4⟩ := hall k hk
    rw [h3]
    simp [List.getD, List.getElem?_eq_getElem h4]

theorem Elems.app {x : Cx} {cs cs' : Array Value} {es : Nat} {l new : List D} {ns : List Value} (h : Elems x cs es l) (hs : Src x es new ns)
    (h1 : ∀ k, k < l.length * es → cs'[k]? = cs[k]?) (h2 : ∀ k, k < new.length * es → cs'[l.length * es + k]? = ns[k]?) : Elems x cs' es (l ++ new) := by
  obtain ⟨vs, h3, h4⟩ := h
  obtain ⟨us, h5, h6⟩ := hs.ok
  refine ⟨fun i => if i < l.length then vs i else us (i - l.length), fun i d hd => ?_, fun i hi => ?_⟩
  · by_cases hi : i < l.length
    · simp only [if_pos hi]
      rw [List.getElem?_append_left hi] at hd
      exact h3 i d hd
    · simp only [if_neg hi]
      rw [List.getElem?_append_right (by omega)] at hd
      exact h5 _ d hd
  · simp only [List.length_append] at hi
    by_cases hil : i < l.length
    · simp only [if_pos hil]
      refine ⟨(h4 i hil).1, fun j hj => ?_⟩
      rw [h1 _ (by have := Nat.mul_le_mul_right es (show i + 1 ≤ l.length from hil); rw [Nat.add_mul] at this; omega)]
      exact (h4 i hil).2 j hj
    · simp only [if_neg hil]
      have hi' : i - l.length < new.length := by omega
      refine ⟨(h6 _ hi').1, fun j hj => ?_⟩
      have e : i * es + j = l.length * es + ((i - l.length) * es + j) := by
        rw [← Nat.add_assoc, ← Nat.add_mul]; congr 2; omega
      rw [e, h2 _ (by have := Nat.mul_le_mul_right es (show i - l.length + 1 ≤ new.length from hi'); rw [Nat.add_mul] at this; omega)]
      exact (h6 _ hi').2 j hj

/-- The array of object i is longer: in its place, or in a new one. -/
theorem Does.moved {i g es n : Nat} {l new : List D} {w' : World} {cs' : Array Value} {T : TypeId} {fz : Nat × Nat} {B cap' : Nat} (hr : HR w γ env S) (hi : S[i]? = some (.arr g es l)) (hn : n = l.length)
    (hrun : (execOp a.eval o).run P w = .ok (.value (.slice (some ⟨B, 0, none⟩) (n + new.length) cap')) w')
    (hsz : w.heap.size ≤ w'.heap.size) (hw : ∀ b, b < w.heap.size → b ≠ (γ i).blk → w'.heap[b]? = w.heap[b]?) (hB : B = (γ i).blk ∨ w.heap.size ≤ B) (hbl : w'.heap[B]? = some (.cells cs' T fz)) (hfz : ∀ k, k < cs'.size → ¬ (fz.1 ≤ k ∧ k < fz.2))
    (hcs : cs'.size = cap' * es) (hcap : n + new.length ≤ cap') (h63 : cap' < 2 ^ 63)
    (hel : Elems (cx w γ env S) cs' es (l ++ new))
    (hk : K (.ref i (g + 1) 0 (n + new.length)) (S.set i (.arr (g + 1) es (l ++ new)))) (hio : IOs w w' := by exact ⟨rfl, rfl⟩) : Does P o a w γ env S K := by
  subst hn
  obtain ⟨g0, g1, g2, _⟩ := hr.objs i _ hi
  simp only [cx] at g0 g1 g2
  have hilt : i < S.length := (List.getElem?_eq_some_iff.1 hi).1
  obtain ⟨h1, h2⟩ := hr.repl (w' := w') (γ' := fun j => if j = i then ⟨B, es, cap', g + 1, false⟩ else γ j) (.arr (g + 1) es (l ++ new)) hi rfl hsz (fun j hj => by simp [hj])
    (by simp only [if_true]; exact ⟨g0.symm, fun h => (by rw [g0] at h; cases h), by simp only [g1]; omega, fun h => (by simp only [g1] at h; omega)⟩) hw (fun _ => by simpa using hB)
  have h3 := h2 ⟨by simp [cx], by simp [cx], by simp [cx], cs', ⟨T, fz, by simpa [cx] using hbl, fun k hk => by
      have h4 := hfz k hk
      simp only [cx, if_true, World.frozen?, hbl]
      rw [← Bool.not_eq_true]; simpa using h4⟩, by simpa [cx] using hcs, by simpa [cx] using hcap, by simpa [cx] using h63, hel.mono h1⟩
  refine ⟨.ref i (g + 1) 0 (l.length + new.length), _, w', _, _, .inl hrun, ⟨h1, h3, fun b hb hO => hw b hb fun e => hO ⟨i, _, hi, rfl, e.symm⟩, fun b hO => ?_, hio⟩, ?_, hk⟩
  · obtain ⟨j, oj, h4, h5, h6⟩ := hO
    by_cases hij : j = i
    · subst hij
      simp only [if_true] at h6
      rcases hB with h7 | h7
      · exact .inl ⟨j, _, hi, rfl, by omega⟩
      · exact .inr (by omega)
    · rw [List.getElem?_set_ne (fun e => hij e.symm)] at h4
      exact .inl ⟨j, oj, h4, h5, by simpa [hij] using h6⟩
  · exact ⟨by simpa [cx] using hilt, by simp [cx], by simp [cx], rfl, fun _ => ⟨by simpa [cx] using hcap, 0, fun _ => by simp, by simp [cx]⟩⟩

/-- The builtin where a new array is wanted, what it reads being known. -/
theorem run_append_new {t e u : TypeId} {ty : TypeId} {i : TypeInfo} {z sv : Value} {m n c : Nat} {base : Option Addr} {ns olds : List Value} (ht : P.underlying t = some (.slice e)) (hu : (∃ e', P.underlying u = some (.slice e')) ∨ P.underlying u = some .string) (hi : P.info? e = some i) (hz : i.zero = some z)
    (hlen : (Builtin.lenOf sv).run P w = .ok m w) (hfirst : ∀ w', w'.heap = w.heap → (Builtin.firstCells i.size m sv).run P w' = .ok ns.toArray w') (hold : ∀ w', w'.heap = w.heap → (Builtin.firstCells i.size n (.slice base n c)).run P w' = .ok olds.toArray w')
    (h0 : c < n + m) (hb : (n + m) * i.bytes ≤ 140737488355328) (hm : n + m < 2 ^ 63) :
    (Builtin.append_ #[t, u] ty #[.slice base n c, sv]).run P w = .ok (.slice (some ⟨w.heap.size, 0, none⟩) (n + m) (grownCap w (n + m) c e)) (w.drew.alloc (.cells (olds.toArray ++ ns.toArray ++ Builtin.zeroCells z.cells (grownCap w (n + m) c e - (n + m))) e)) := by
  have hfit := growslice_fits (need := n + m) (old := c) (bytes := i.bytes) h0 hb
  have h1 : ¬ (281474976710656 < Builtin.nextslicecap (n + m) c * i.bytes) := by omega
  have h2 : ¬ n + m ≤ c := by omega
  have hf := hfirst w.drew rfl
  have hff := hold w.drew rfl
  have hs := run_sizeOf (P := P) (w := w) hi
  have hcs : P.cellsOf e = i.size := by simp [Program.cellsOf, hi]
  have hti : ∀ w, (typeInfo e).run P w = .ok i w := fun w => run_typeInfo (w := w) hi
  have hno : ¬ (9223372036854775807 < (n : Int) + (m : Int) ∧ i.bytes = 0) := by omega
  rcases hu with ⟨e', hu⟩ | hu <;>
    simp [- List.append_toArray, Builtin.append_, run_underlying ht, run_underlying hu, hs, hcs, hlen, h2, hti, h1, Question.forced, hff, hf, run_zero hi hz, newRow, grownCap, hno, Array.append_assoc]

/-- The builtin where there is room. -/
theorem run_append_in {t e u : TypeId} {ty : TypeId} {i : TypeInfo} {sv : Value} {m n c b off : Nat} {cs : Array Value} {ns : List Value} (ht : P.underlying t = some (.slice e)) (hu : (∃ e', P.underlying u = some (.slice e')) ∨ P.underlying u = some .string) (hi : P.info? e = some i)
    (hlen : (Builtin.lenOf sv).run P w = .ok m w) (hfirst : ∀ w', w'.heap = w.heap → (Builtin.firstCells i.size m sv).run P w' = .ok ns.toArray w') (h0 : n + m ≤ c)
    (hb : Blk w b cs) (hl : off + n * i.size + ns.length ≤ cs.size) (h1 : ∀ v ∈ ns, v.oneCell = true) :
    (Builtin.append_ #[t, u] ty #[.slice (some ⟨b, off, none⟩) n c, sv]).run P w = .ok (.slice (some ⟨b, off, none⟩) (n + m) c) (w.setCells b (off + n * i.size) ns) := by
  have hf := hfirst w rfl
  have hs := run_sizeOf (P := P) (w := w) hi
  have hcs : P.cellsOf e = i.size := by simp [Program.cellsOf, hi]
  obtain ⟨T, fz, hb1, hb2⟩ := id hb
  have hst := run_storeCells_cells (P := P) b (off + n * i.size) ns 0 w
    (fun k hk => by rw [Nat.add_zero, hb.cell]; simp [show off + n * i.size + k < cs.size by omega])
    (fun k hk => hb2 _ (by omega))
    (fun v hv => by have := h1 v hv; cases v <;> first | rfl | simp [Value.oneCell] at this)
  rw [Nat.add_zero] at hst
  rcases hu with ⟨e', hu⟩ | hu <;>
    simp [Builtin.append_, run_underlying ht, run_underlying hu, hs, hcs, hlen, h0, hf, add_addr, hst]
/-- Nothing is appended. -/
theorem run_append_none {t e u : TypeId} {ty : TypeId} {i : TypeInfo} {sv : Value} {n c : Nat} {base : Option Addr} (ht : P.underlying t = some (.slice e)) (hu : (∃ e', P.underlying u = some (.slice e')) ∨ P.underlying u = some .string) (hi : P.info? e = some i)
    (hlen : (Builtin.lenOf sv).run P w = .ok 0 w) (hfirst : (Builtin.firstCells i.size 0 sv).run P w = .ok #[] w) (h0 : n ≤ c) :
    (Builtin.append_ #[t, u] ty #[.slice base n c, sv]).run P w = .ok (.slice base n c) w := by
  have hs := run_sizeOf (P := P) (w := w) hi
  have hcs : P.cellsOf e = i.size := by simp [Program.cellsOf, hi]
  cases base <;> (rcases hu with ⟨e', hu⟩ | hu <;>
    simp [Builtin.append_, run_underlying ht, run_underlying hu, hs, hcs, hlen, h0, hfirst, storeCells])

theorem does_app {c : Call} {t e u : TypeId} {i : TypeInfo} {x y : Operand} {x' y' : Opd} (hr : HR w γ env S) (hF : FrOK w γ env S fr a) (ho : o.op = .call c) (hc : c.callee = .builtin .append) (hargs : c.args.toList = [x, y]) (hts : c.argTypes.toList = [t, u])
    (ht : slE P t = some e) (hi : P.info? e = some i) (hu : (∃ e', P.underlying u = some (.slice e')) ∨ P.underlying u = some .string) (hz : i.zero.any (fun v => v.cells.size == i.size) = true) (h0 : 0 < i.size) (h0' : 0 < i.bytes) (hx : trO x = some x') (hy : trO y = some y')
    (E : Env) (hk : stepK E fr S (.app i.size i.bytes x' y') K) : Does P o a w γ env S K := by
  have ht := slE_ok ht
  obtain ⟨z, hz, hzs⟩ : ∃ z, i.zero = some z ∧ z.cells.size = i.size := by
    cases h : i.zero with
    | none => simp [h] at hz
    | some v => simp [h] at hz; exact ⟨v, rfl, hz⟩
  have hrun := run_builtin_call (P := P) (w := w) (a := a) ho hc
  rw [arr2 hargs, arr2 hts] at hrun
  have hex : ∀ (r : Value) (w' : World), (Builtin.append_ #[t, u] o.type #[a.eval x, a.eval y]).run P w = .ok r w' → (execOp a.eval o).run P w = .ok (.value r) w' := fun r w' h => by
    rw [hrun]; simp [builtin, h]
  simp only [stepK] at hk
  split at hk
  · rename_i es' new hsrc
    obtain ⟨rfl, hk⟩ := hk
    -- the source
    have hS : ∃ ns, Src (cx w γ env S) i.size new ns ∧ (Builtin.lenOf (a.eval y)).run P w = .ok new.length w ∧ (∀ w', w'.heap = w.heap → (Builtin.firstCells i.size new.length (a.eval y)).run P w' = .ok ns.toArray w') ∧ new.length < 2 ^ 63 := by
      split at hsrc
      · rename_i hs
        injection hsrc with hsrc; injection hsrc with e1 e2; subst e2
        have h1 := evD hF hy hs
        generalize hv : a.eval y = v at h1
        cases h1
        exact ⟨[], ⟨by simp, ⟨fun _ => [], fun i d h => by simp at h, fun i h => by simp at h⟩, fun v h => by simp at h⟩, by simp [Builtin.lenOf], fun w' _ => by simp [Builtin.firstCells], by simp⟩
      · rename_i s hs
        injection hsrc with hsrc; injection hsrc with e1 e2; subst e2
        have hsz : (ByteArray.mk s.toArray).size = s.length := by show s.toArray.size = s.length; simp
        have hlt := evSlen hF hy hs
        refine ⟨s.map fun b => .int .u8 b.toNat, Src.of (by simp [← e1]) (fun k => [.int .u8 (s.getD k 0).toNat]) (fun k d hd => ?_) (fun k hk => ⟨by rw [← e1]; rfl, fun j hj => ?_⟩) h0, by simp [evS hF hy hs, Builtin.lenOf, hsz], fun w' _ => ?_, by simpa using hlt⟩
        · simp only [List.getElem?_map, Option.map_eq_some_iff] at hd
          obtain ⟨b, hb, rfl⟩ := hd
          show DR _ _ (.cells [byteD b] [.int .u8 (s.getD k 0).toNat])
          rw [show s.getD k 0 = b by simp [List.getD, hb]]
          exact .ccons _ _ _ _ (.int _ _) rfl .cnil
        · have : j = 0 := by omega
          subst this
          simp only [List.length_map] at hk
          rw [← e1]
          simp [List.getElem?_eq_getElem hk, List.getD]
        · have hex : ((ByteArray.mk s.toArray).extract 0 s.length).data = s.toArray := by simp
          simp [evS hF hy hs, Builtin.firstCells, hex]
      · rename_i v hs1 hs2
        obtain ⟨b, off, cap, h1, h2, h3, h4, h5⟩ := window_ok hr (evV hF hy rfl) hsrc
        obtain ⟨ns, h6, h7⟩ := Src.slr h5 h0
        refine ⟨ns, h6, by simp [h1, Builtin.lenOf], fun w' hw' => ?_, by omega⟩
        have := run_loadCells_list (P := P) w' ⟨b, off, none⟩ ns (fun j v hv => by
          rw [add_addr, World.cell?_of_block (a := ⟨b, off + j, none⟩) (w := w) (by rw [hw'])]
          exact h7 j v hv)
        rw [h6.len] at this
        simp [h1, Builtin.firstCells, this]
    obtain ⟨ns, hsr, hlen, hfirst, hn63⟩ := hS
    split at hk
    · rename_i hs
      obtain ⟨⟨h1, h2⟩, hk⟩ := hk
      have h3 := evD hF hx hs
      generalize hv : a.eval x = v at h3
      cases h3
      have hrun' := run_append_new (P := P) (w := w) (ty := o.type) (n := 0) (c := 0) (base := none) (olds := []) ht hu hi hz hlen hfirst (fun w' _ => by simp [Builtin.firstCells]) (by omega) (by simpa using h1) (by omega)
      simp only [Nat.zero_add] at hrun'
      have hge := grownCap_ge w new.length 0 e
      have hlt := grownCap_lt w new.length 0 e hn63
      refine .newArr (es := i.size) (l := new) hr (cs := #[] ++ ns.toArray ++ Builtin.zeroCells z.cells (grownCap w new.length 0 e - new.length)) (cap := grownCap w new.length 0 e) (w' := _) (T := e) (fz := (0, 0)) (hex _ _ (by rw [hv]; exact hrun')) rfl (fun k _ h => by simp at h) ?_ ?_ hge hlt hk
      · have h5 : Elems (cx w γ env S) #[] i.size [] := ⟨fun _ => [], fun i d h => by simp at h, fun i h => by simp at h⟩
        have := h5.app (cs' := #[] ++ ns.toArray ++ Builtin.zeroCells z.cells (grownCap w new.length 0 e - new.length)) hsr (fun k h => by simp at h) (fun k h => by
          simp only [List.length_nil, Nat.zero_mul, Nat.zero_add, Array.empty_append]
          rw [Array.getElem?_append_left (by simp [hsr.len]; omega)]
          simp)
        simpa using this
      · simp only [Array.empty_append, Array.size_append, List.size_toArray, size_zeroCells, hzs, hsr.len, ← Nat.add_mul]
        congr 1; omega
    · rename_i j g off n hs
      split at hk
      · rename_i g' es' l hi'
        obtain ⟨⟨rfl, rfl, h1, h2⟩, hk⟩ := hk
        have hrd : rd S j = some (g, i.size, l) := by simp [rd, hi']
        obtain ⟨o', hv, h3, h4⟩ := ref_ok hr (evV hF hx hs) hrd
        obtain ⟨h5, _, h6, h7, h8, h9, h10, h11⟩ := rd_ok hr hrd
        by_cases hnew : new = []
        · subst hnew
          have hns : ns = [] := List.eq_nil_of_length_eq_zero (by simpa using hsr.len)
          subst hns
          refine .pure (v := .ref j g off n) hr (hex _ _ (by rw [hv]; exact run_append_none ht hu hi hlen (hfirst w rfl) (by omega))) ?_ (hk.1 rfl)
          rw [← hv]; exact evV hF hx hs
        · obtain ⟨hoff, hK⟩ := hk.2 hnew
          subst hoff
          have hm63 : n + new.length < 2 ^ 63 := by
            have := Nat.le_mul_of_pos_right (n + new.length) h0'
            omega
          have hnl : n = l.length := by omega
          have hpos : 0 < new.length := List.length_pos_iff.2 hnew
          obtain ⟨g0, g1, g2, cs, g3, g4, g5, g6, g7⟩ := hr.objs j _ hi'
          simp only [cx] at g0 g1 g2 g3 g4 g5 g6
          rw [Nat.sub_zero] at hv
          by_cases hroom : n + new.length ≤ (γ j).cap
          · have ho' : o' = 0 := by have := h4 (by omega); simpa using this
            subst ho'
            have hfit : 0 + n * i.size + ns.length ≤ cs.size := by
              rw [g4, hsr.len, Nat.zero_add, ← Nat.add_mul]; exact Nat.mul_le_mul_right _ hroom
            have hrun' := run_append_in (P := P) (w := w) (ty := o.type) ht hu hi hlen hfirst hroom g3 hfit hsr.one
            obtain ⟨cs', k1, k2, k3⟩ := g3.set (0 + n * i.size) ns hfit
            obtain ⟨T, fz, k4, k5⟩ := id k1
            refine .moved hr hi' hnl (hex _ _ (by rw [hv]; exact hrun')) (by rw [setCells_size]; exact Nat.le_refl _) (fun b _ hb => setCells_other _ _ _ _ _ hb) (.inl rfl) k4 (fun k hk hf => ?_) (by rw [k2, g4]) hroom g6 (g7.app hsr (fun k hk => ?_) fun k hk => ?_) hK (setCells_io _ _ _ _)
            · have := k5 k hk
              simp only [World.frozen?, k4] at this
              simp at this
              exact absurd (this hf.1) (by omega)
            · rw [← Array.getElem?_toList, k3]
              unfold splice
              rw [List.append_assoc, List.getElem?_append_left (by simp; rw [hnl]; rw [hnl] at hfit; omega), List.getElem?_take, if_pos (by rw [hnl]; omega), Array.getElem?_toList]
            · rw [← Array.getElem?_toList, k3]
              unfold splice
              have hlen' : (cs.toList.take (0 + n * i.size)).length = l.length * i.size := by simp; rw [hnl]; rw [hnl] at hfit; omega
              rw [List.append_assoc, List.getElem?_append_right (by omega), hlen', Nat.add_sub_cancel_left, List.getElem?_append_left (by rw [hsr.len]; exact hk)]
          · obtain ⟨olds, q1, q2⟩ := Src.slr h11 h0
            have hold : ∀ w', w'.heap = w.heap → (Builtin.firstCells i.size n (.slice (some ⟨(γ j).blk, o', none⟩) n (γ j).cap)).run P w' = .ok olds.toArray w' := fun w' hw' => by
              have := run_loadCells_list (P := P) w' ⟨(γ j).blk, o', none⟩ olds (fun k v hv => by
                rw [add_addr, World.cell?_of_block (a := ⟨(γ j).blk, o' + k, none⟩) (w := w) (by rw [hw'])]
                have hk := (List.getElem?_eq_some_iff.1 hv).1
                have hcap : 0 < (γ j).cap := by
                  rcases Nat.eq_zero_or_pos (γ j).cap with hc | hc
                  · have : l.length = 0 := by omega
                    rw [q1.len, this] at hk; simp at hk
                  · exact hc
                rw [h4 hcap, Nat.zero_mul]
                exact q2 k v hv)
              rw [q1.len, ← hnl] at this
              simp [Builtin.firstCells, this]
            have hrun' := run_append_new (P := P) (w := w) (ty := o.type) (n := n) (c := (γ j).cap) ht hu hi hz hlen hfirst hold (by omega) h2 hm63
            have hge := grownCap_ge w (n + new.length) (γ j).cap e
            have hlt := grownCap_lt w (n + new.length) (γ j).cap e hm63
            refine .moved (T := e) (fz := (0, 0)) hr hi' hnl (hex _ _ (by rw [hv]; exact hrun')) (by simp) (fun b hb _ => by
              show (w.heap.push _)[b]? = _
              rw [Array.getElem?_push]; simp [show b ≠ w.heap.size by omega]) (.inr (Nat.le_refl _)) (heap_alloc_new w.drew _) (fun k _ h => by simp at h) ?_ hge hlt (g7.app hsr (fun k hk => ?_) fun k hk => ?_) hK
            · simp only [Array.size_append, List.size_toArray, size_zeroCells, hzs, hsr.len, q1.len, ← Nat.add_mul]
              congr 1; omega
            · rw [Array.append_assoc, Array.getElem?_append_left (by simp [q1.len]; exact hk), List.getElem?_toArray]
              have hko : k < olds.length := by rw [q1.len]; exact hk
              rw [List.getElem?_eq_getElem hko]
              have := q2 k olds[k] (by simp)
              rw [Nat.zero_add] at this
              exact this.symm.trans (g3.cell k)
            · rw [Array.append_assoc, Array.getElem?_append_right (by simp [q1.len])]
              simp only [List.size_toArray, q1.len, Nat.add_sub_cancel_left]
              rw [Array.getElem?_append_left (by simp [hsr.len]; exact hk), List.getElem?_toArray]
      · exact hk.elim
    · exact hk.elim
  · exact hk.elim

end
end Go.Abs
/- Every instruction that is no call is right. -/
namespace Go.Abs
section
variable {P : Program} {o : Oper} {a : Act} {w : World} {γ : Nat → Gh} {env : Nat → Prop} {S : St} {K : AV → St → Prop} {fr : Fr}

theorem one_cells {w : World} {O : Nat → Prop} {x : D} {v : Value} (h : DR w O (.val x v)) (h1 : v.oneCell = true) : x.cells = [x] := by
  cases x <;> first
    | rfl
    | (cases h; simp [Value.oneCell] at h1)

theorem allD_len {l : List AV} {ds : List D} (h : allD l = some ds) : ds.length = l.length := by
  induction l generalizing ds with
  | nil => simp [allD] at h; subst h; rfl
  | cons a l ih =>
    cases a <;> simp only [allD] at h <;> first | cases h | skip
    cases h3 : allD l with
    | none => simp [h3] at h
    | some xs => simp [h3] at h; subst h; simp [ih h3]

theorem does_slArr {t e : TypeId} {n : Nat} {x : Operand} {x' : Opd} {lo hi : Option Operand} {lo' hi' : Option Opd} (hr : HR w γ env S) (hF : FrOK w γ env S fr a) (ho : o.op = .slice t x lo hi none) (ht : P.underlying t = some (.array n e)) (he : szA P e = some (1, false)) (hn32 : n < 4294967296) (hx : trO x = some x')
    (hlo : trOpt lo = some lo') (hhi : trOpt hi = some hi')
    (E : Env) (hk : stepK E fr S (.slArr n x' lo' hi') K) : Does P o a w γ env S K := by
  obtain ⟨j, hj, hj1, hag⟩ := szA_ok he
  have hsz := run_sizeOf (P := P) (w := w) hj
  have hcs1 : P.cellsOf e = 1 := by simp [Program.cellsOf, hj, hj1]
  simp only [stepK] at hk
  split at hk
  · rename_i i hs
    split at hk
    · rename_i l hi'
      split at hk
      · rename_i ds hds
        obtain ⟨hln, hk⟩ := hk
        obtain ⟨p, q, hk, hpq, hq, hrun⟩ := bounds_ok (P := P) (w := w) (sl := false) (c' := n) hF hlo hhi (Nat.le_refl _) (Nat.le_refl _) hk
        obtain ⟨h2, h3, cs, h4, h5⟩ := boxed hr hi'
        obtain ⟨_, _, h7⟩ := evV hF hx hs
        simp only [cx] at h7
        have hdl := allD_len hds
        obtain ⟨r1, r2⟩ := hr.repl (w' := w) (γ' := γ) .dead hi' rfl (Nat.le_refl _) (fun _ _ => rfl) (GX.refl _) (fun _ _ _ => rfl) (fun h => by cases h)
        have r3 := r2 trivial
        have hlen := h5.len
        have hnO : ¬ (cx w γ env (S.set i .dead)).O (γ i).blk := by
          rintro (⟨k, ok, h8, h9, h10⟩ | h8)
          · by_cases hki : k = i
            · subst hki; rw [List.getElem?_set_self h2] at h8; injection h8 with h8; subst h8; cases h9
            · rw [List.getElem?_set_ne (fun e => hki e.symm)] at h8
              exact hki (hr.inj k i ok _ h8 hi' h9 rfl h10)
          · exact hr.apart _ h8 ⟨i, _, hi', rfl, rfl⟩
        have hcells := allD_ok hds h5
        have hll : ((ds.drop p).take (q - p)).length = q - p := by simp; omega
        have hdr : ∀ off, (p < n → off = p) → DR w (cx w γ env (S.set i .dead)).O (.val (.sl 1 ((ds.drop p).take (q - p))) (.slice (some ⟨(γ i).blk, off, none⟩) ((ds.drop p).take (q - p)).length (n - p))) := fun off hoff => by
          refine .sl 1 (γ i).blk off (n - p) _ (fun k => [cs.getD (p + k) undef]) hnO h4.lt (by rw [hll]; omega) (by omega) (fun k d hd => ?_) fun k hk => ⟨rfl, fun jj hjj => ?_⟩
          · have hdk := get_window hd
            obtain ⟨u, h8, h9⟩ := hcells.all2.get hdk
            have h10 : cs.getD (p + k) undef = u := by
              simp only [Array.getElem?_toList] at h8
              simp [Array.getD_eq_getD_getElem?, h8]
            have h11 : DR w (cx w γ env (S.set i .dead)).O (.val d u) := r1.dr h9.1
            rw [h10, one_cells h9.1 h9.2]
            exact .ccons _ _ _ _ h11 h9.2 .cnil
          · have : jj = 0 := by omega
            subst this
            rw [hll] at hk
            simp only [Nat.mul_one, Nat.add_zero]
            rw [hoff (by omega), h4.cell]
            have : p + k < cs.size := by simp at hlen; omega
            simp [Array.getD_eq_getD_getElem?, this]
        by_cases hc : n = p
        · subst hc
          refine ⟨.d (.sl 1 ((ds.drop n).take (q - n))), .slice (some ⟨(γ i).blk, 0, none⟩) (q - n) (n - n), w, γ, _, .inl ?_, ⟨r1, r3, fun _ _ _ => rfl, fun b hb => .inl ?_, .refl w⟩, ?_, hk⟩
          · simp [execOp, ho, h7, Instr.sliceAt, run_underlying ht, Instr.sureAddr, hrun, hsz, hcs1]
          · obtain ⟨k, ok, h8, h9, h10⟩ := hb
            by_cases hki : k = i
            · subst hki; exact ⟨k, _, hi', rfl, h10⟩
            · rw [List.getElem?_set_ne (fun e => hki e.symm)] at h8; exact ⟨k, ok, h8, h9, h10⟩
          · have := hdr 0 (fun h => by omega)
            rw [hll] at this; exact this
        · refine ⟨.d (.sl 1 ((ds.drop p).take (q - p))), .slice (some ⟨(γ i).blk, p, none⟩) (q - p) (n - p), w, γ, _, .inl ?_, ⟨r1, r3, fun _ _ _ => rfl, fun b hb => .inl ?_, .refl w⟩, ?_, hk⟩
          · simp [execOp, ho, h7, Instr.sliceAt, run_underlying ht, Instr.sureAddr, hrun, hsz, hcs1, hc, add_addr]
          · obtain ⟨k, ok, h8, h9, h10⟩ := hb
            by_cases hki : k = i
            · subst hki; exact ⟨k, _, hi', rfl, h10⟩
            · rw [List.getElem?_set_ne (fun e => hki e.symm)] at h8; exact ⟨k, ok, h8, h9, h10⟩
          · have := hdr p (fun _ => rfl)
            rw [hll] at this; exact this
      · exact hk.elim
    · exact hk.elim
  · exact hk.elim

theorem does_cpl {t : TypeId} {x : Operand} {x' : Opd} (hr : HR w γ env S) (hF : FrOK w γ env S fr a) (ho : o.op = .unOp .xor t x) (hx : trO x = some x')
    (E : Env) (hk : stepK E fr S (.cpl x') K) : Does P o a w γ env S K := by
  simp only [stepK] at hk
  split at hk
  · rename_i k n hb
    exact .data hr (cv := .int k (ibit .xor k (if k.signed then -1 else k.max) n)) (by simp [execOp, ho, evI hF hx hb, Op.unary, Op.intBits, ibit]) (.int _ _) hk
  · exact hk.elim
theorem does_idxP {t e : TypeId} {n : Nat} {x i : Operand} {x' i' : Opd} {j : TypeInfo} (hr : HR w γ env S) (hF : FrOK w γ env S fr a) (ho : o.op = .indexAddr t x i) (ht : arE P t = some (n, e)) (hj : P.info? e = some j)
    (hx : trO x = some x') (hi : trO i = some i')
    (E : Env) (hk : stepK E fr S (.idxP n j.size x' i') K) : Does P o a w γ env S K := by
  have ht : P.underlying t = some (.array n e) := by
    unfold arE at ht
    split at ht
    · rename_i h; injection ht with ht; injection ht with h1 h2; subst h1; subst h2; exact h
    · cases ht
  have hsz := run_sizeOf (P := P) (w := w) hj
  have hcs : P.cellsOf e = j.size := by simp [Program.cellsOf, hj]
  simp only [stepK] at hk
  split at hk
  · rename_i q off kd k hq hki
    obtain ⟨⟨h3, h4⟩, hk⟩ := hk
    obtain ⟨h5, h6, h7⟩ := evV hF hx hq
    refine .pure hr (v := .ptr q (off + k.toNat * j.size)) (cv := .pointer (some ⟨(γ q).blk, off + k.toNat * j.size, none⟩)) ?_ ⟨h5, h6, rfl⟩ hk
    simp only [cx] at h7
    simp [execOp, ho, h7, evI hF hi hki, Instr.indexAt, Instr.sureAddr, asIntOf, run_underlying ht, h3, h4, hsz, hcs, add_addr]
  · exact hk.elim

def SI.isCall : SI → Bool
  | .call _ _ => true
  | .callV _ _ => true
  | _ => false

theorem flatStruct_kind {op : BinOp} {t : TypeId} {x y : Opd} {si : SI} (h : trBin P op t x y = some si) :
    si = .bin op x y ∨ (P.underlying t = some .bool ∧ ∃ ng, op = (if ng then .neq else .eql) ∧ si = .eqB ng x y) ∨ (∃ ks ng, flatStruct P t = some ks ∧ op = (if ng then .neq else .eql) ∧ si = .eqA ng ks x y) := by
  unfold trBin at h
  split at h
  · injection h with h; exact .inl h.symm
  · split at h
    · rename_i h1 h2
      have h3 : P.underlying t = some .bool := by
        unfold isBoolT at h2
        split at h2
        · assumption
        · cases h2
      split at h
      · injection h with h; exact .inr (.inl ⟨h3, false, rfl, h.symm⟩)
      · injection h with h; exact .inr (.inl ⟨h3, true, rfl, h.symm⟩)
      · cases h
    · split at h
      · rename_i ks hks
        split at h
        · injection h with h; exact .inr (.inr ⟨ks, false, hks, rfl, h.symm⟩)
        · injection h with h; exact .inr (.inr ⟨ks, true, hks, rfl, h.symm⟩)
        · cases h
      · cases h

theorem isU8_ok {t : TypeId} (h : isU8 P t = true) : P.underlying t = some (.int .u8) := by
  unfold isU8 at h
  split at h
  · assumption
  · cases h

/-- AN INSTRUCTION THAT IS NO CALL. -/
theorem does (E : Env) {si : SI} (hr : HR w γ env S) (hF : FrOK w γ env S fr a) (htr : trI P o.op = some si) (hnc : si.isCall = false) (hk : stepK E fr S si K) : Does P o a w γ env S K := by
  generalize hop : o.op = op at htr
  cases op with
  | move x =>
    simp only [trI] at htr
    cases hx : trO x with
    | none => simp [hx] at htr
    | some x' => simp [hx] at htr; subst htr; exact does_mov hr hF (.inl hop) hx (by simpa [stepK] using hk)
  | assign x =>
    simp only [trI] at htr
    cases hx : trO x with
    | none => simp [hx] at htr
    | some x' => simp [hx] at htr; subst htr; exact does_mov hr hF (.inr hop) hx (by simpa [stepK] using hk)
  | pick c x y =>
    simp only [trI] at htr
    split at htr
    · injection htr with htr; subst htr; exact does_pick hr hF hop ‹_› ‹_› ‹_› E hk
    · cases htr
  | binOp b t x y u =>
    simp only [trI] at htr
    split at htr
    · rename_i x' y' hx hy
      rcases flatStruct_kind htr with rfl | ⟨h1, ng, h2, rfl⟩ | ⟨ks, ng, h1, h2, rfl⟩
      · exact does_bin hr hF hop hx hy E hk
      · exact does_eqB hr hF hop hx hy h1 ng h2 E hk
      · exact does_eqA hr hF hop hx hy h1 ng h2 E hk
    · cases htr
  | unOp u t x =>
    cases u <;> simp only [trI] at htr <;> first | cases htr | skip
    · cases hx : trO x with
      | none => simp [hx] at htr
      | some x' => simp [hx] at htr; subst htr; exact does_neg hr hF hop hx E hk
    · cases hx : trO x with
      | none => simp [hx] at htr
      | some x' => simp [hx] at htr; subst htr; exact does_cpl hr hF hop hx E hk
    · cases hx : trO x with
      | none => simp [hx] at htr
      | some x' => simp [hx] at htr; subst htr; exact does_not hr hF hop hx E hk
  | convert s t x =>
    simp only [trI] at htr
    split at htr
    · rename_i x' hx
      unfold trConv at htr
      split at htr
      · rename_i k0 k h1 h2
        injection htr with htr; subst htr
        exact does_conv hr hF hop hx h1 h2 E hk
      · rename_i e h1 h2
        split at htr
        · rename_i hc
          simp only [Bool.and_eq_true] at hc
          injection htr with htr; subst htr
          exact does_bytes hr hF hop h1 h2 (isU8_ok hc.1) hx E hk
        · cases htr
      · rename_i e h1 h2
        split at htr
        · rename_i hc
          injection htr with htr; subst htr
          exact does_ofBytes hr hF hop h1 h2 (isU8_ok hc) hx E hk
        · cases htr
      · cases htr
    · cases htr
  | load t x =>
    simp only [trI] at htr
    split at htr
    · injection htr with htr; subst htr; exact does_loadA hr hF hop ‹_› ‹_› E hk
    · injection htr with htr; subst htr; exact does_load1 hr hF hop ‹_› ‹_› E hk
    · cases htr
  | store t ad x =>
    simp only [trI] at htr
    split at htr
    · injection htr with htr; subst htr; exact does_storeA hr hF hop ‹_› ‹_› ‹_› E hk
    · injection htr with htr; subst htr; exact does_store1 hr hF hop ‹_› ‹_› ‹_› E hk
    · cases htr
  | alloc t =>
    simp only [trI] at htr
    cases hz : zeroD P t with
    | none => simp [hz] at htr
    | some z => simp [hz] at htr; subst htr; exact does_alloc hr hop hz E hk
  | box t x =>
    simp only [trI] at htr
    split at htr
    · injection htr with htr; subst htr; exact does_box hr hF hop ‹_› E hk
    · cases htr
  | build t parts =>
    simp only [trI] at htr
    have h1 : ∃ z qs, si = .build z qs := by
      unfold trBuild at htr
      split at htr
      · split at htr
        · simp at htr; obtain ⟨q, _, rfl⟩ := htr; exact ⟨_, _, rfl⟩
        · cases htr
      · split at htr
        · simp at htr; obtain ⟨q, _, rfl⟩ := htr; exact ⟨_, _, rfl⟩
        · cases htr
      · cases htr
    obtain ⟨z, qs, rfl⟩ := h1
    exact does_build hr hF hop htr E hk
  | buildSlice t n parts =>
    simp only [trI] at htr
    split at htr
    · split at htr
      · split at htr
        · rename_i hc
          simp only [Bool.and_eq_true, decide_eq_true_eq, beq_iff_eq] at hc
          injection htr with htr; subst htr
          exact does_bslice hr hF hop ‹_› ‹_› ‹_› ‹_› hc.1.1 hc.1.2 hc.2 E hk
        · cases htr
      · cases htr
    · cases htr
  | fieldAddr t x f =>
    simp only [trI] at htr
    split at htr
    · split at htr
      · split at htr
        · injection htr with htr; subst htr
          exact does_fldA hr hF hop ‹_› ‹_› ‹_› ‹_› E hk
        · cases htr
      · cases htr
    · cases htr
  | indexAddr t x i =>
    simp only [trI] at htr
    split at htr
    · split at htr
      · injection htr with htr; subst htr
        exact does_idxA hr hF hop ‹_› ‹_› ‹_› ‹_› E hk
      · cases htr
    · split at htr
      · split at htr
        · injection htr with htr; subst htr
          exact does_idxP hr hF hop ‹_› ‹_› ‹_› ‹_› E hk
        · cases htr
      · cases htr
    · cases htr
  | index t x i =>
    simp only [trI] at htr
    split at htr
    · injection htr with htr; subst htr; exact does_idxS hr hF hop ‹_› ‹_› ‹_› E hk
    · split at htr
      · injection htr with htr; subst htr; exact does_idxG hr hF hop ‹_› ‹_› ‹_› ‹_› E hk
      · cases htr
    · cases htr
  | slice t x lo hi mx =>
    cases mx with
    | some m => simp [trI] at htr
    | none =>
      simp only [trI] at htr
      split at htr
      · injection htr with htr; subst htr; exact does_slS hr hF hop ‹_› ‹_› ‹_› ‹_› E hk
      · split at htr
        · injection htr with htr; subst htr; exact does_slL hr hF hop ‹_› ‹_› ‹_› ‹_› ‹_› E hk
        · cases htr
      · split at htr
        · split at htr
          · injection htr with htr; subst htr; exact does_slArr hr hF hop ‹_› ‹_› ‹_› ‹_› ‹_› ‹_› E hk
          · cases htr
        · cases htr
      · cases htr
  | makeFunc f first caps =>
    cases f with
    | func f =>
      simp only [trI] at htr
      split at htr
      · cases hx : trOs caps.toList with
        | none => simp [hx] at htr
        | some xs => simp [hx] at htr; subst htr; exact does_mkfn hr hF hop ‹_› hx E hk
      · cases htr
    | _ => simp [trI] at htr
  | makeSlice t n c =>
    simp only [trI] at htr
    split at htr
    · split at htr
      · split at htr
        · rename_i hc
          simp only [Bool.and_eq_true, decide_eq_true_eq, beq_iff_eq] at hc
          injection htr with htr; subst htr
          exact does_mks hr hF hop ‹_› ‹_› ‹_› ‹_› ‹_› hc.1 hc.2 E hk
        · cases htr
      · cases htr
    · cases htr
  | extract x i =>
    simp only [trI] at htr
    cases hx : trO x with
    | none => simp [hx] at htr
    | some x' => simp [hx] at htr; subst htr; exact does_ext hr hF hop hx E hk
  | call c =>
    simp only [trI] at htr
    unfold trCall at htr
    split at htr
    · split at htr
      · injection htr with htr; subst htr; exact does_lenS hr hF hop ‹_› ‹_› ‹_› ‹_› ‹_› E hk
      · injection htr with htr; subst htr; exact does_len hr hF hop ‹_› ‹_› ‹_› ‹_› ‹_› E hk
      · cases htr
    · split at htr
      · injection htr with htr; subst htr; exact does_mn hr hF hop ‹_› ‹_› ‹_› ‹_› E hk
      · cases htr
    · split at htr
      · split at htr
        · split at htr
          · rename_i hc
            injection htr with htr; subst htr
            exact does_app hr hF hop ‹_› ‹_› ‹_› ‹_› ‹_› (.inl ⟨_, ‹_›⟩) hc.1 hc.2.1 hc.2.2 ‹_› ‹_› E hk
          · cases htr
        · split at htr
          · rename_i hc
            injection htr with htr; subst htr
            exact does_app hr hF hop ‹_› ‹_› ‹_› ‹_› ‹_› (.inr ‹_›) hc.2.1 (by omega) hc.2.2 ‹_› ‹_› E hk
          · cases htr
        · cases htr
      · cases htr
    · split at htr
      · split at htr
        · simp at htr; obtain ⟨q, _, rfl⟩ := htr; cases hnc
        · cases htr
      · cases htr
    · simp at htr; obtain ⟨q, _, rfl⟩ := htr; cases hnc
    · cases htr
  | _ => simp [trI] at htr

end
end Go.Abs
/- Calls: the callee's store is a part of the caller's; its results in the caller's numbers. -/
namespace Go.Abs

/-- A FUNCTION's CONTRACT: with these arguments, these variables handed over: this result, and these objects behind the call. -/
def CallR (P : Program) (f : Nat) (as : List AV) (S0 : St) (r : AV) (S1 : St) : Prop :=
  ∀ (w : World) (γ0 : Nat → Gh) (env : Nat → Prop) (cargs : List Value), HR w γ0 env S0 → All2 (AR (cx w γ0 env S0)) as cargs →
    Calls P f cargs.toArray w fun e w' => ∃ cv γ1, e = .returned cv ∧ S0.length ≤ S1.length ∧ TR (cx w' γ1 env S1) r cv ∧ HR w' γ1 env S1 ∧ (∀ j, j < S0.length → γ1 j = γ0 j) ∧
      w.heap.size ≤ w'.heap.size ∧ (∀ b, b < w.heap.size → ¬ Own S0 γ0 b → w'.heap[b]? = w.heap[b]?) ∧ (∀ b, Own S1 γ1 b → Own S0 γ0 b ∨ w.heap.size ≤ b) ∧ IOs w w'

theorem addNew_nodup {l : List Nat} {i : Nat} (h : l.Nodup) : (addNew l i).Nodup := by
  unfold addNew
  split
  · exact h
  · rename_i hc
    rw [List.nodup_append]
    refine ⟨h, by simp, fun a ha b hb e => ?_⟩
    simp at hb; subst hb; subst e
    simp at hc; exact hc ha
theorem addNew_mem {l : List Nat} {i j : Nat} : j ∈ addNew l i ↔ j ∈ l ∨ j = i := by
  unfold addNew
  split
  · rename_i hc; simp at hc; constructor
    · exact .inl
    · rintro (h | rfl)
      · exact h
      · exact hc
  · simp
theorem ptrIds_nodup (vs : List AV) : ∀ acc : List Nat, acc.Nodup → (ptrIds acc vs).Nodup := by
  induction vs with
  | nil => exact fun acc h => h
  | cons v vs ih =>
    intro acc h
    cases v <;> first
      | exact ih _ h
      | exact ih _ (addNew_nodup h)
theorem ptrIds_acc (vs : List AV) : ∀ (acc : List Nat) (i : Nat), i ∈ acc → i ∈ ptrIds acc vs := by
  induction vs with
  | nil => exact fun acc i h => h
  | cons v vs ih =>
    intro acc i h
    cases v <;> first
      | exact ih _ _ h
      | exact ih _ _ (addNew_mem.2 (.inl h))
theorem ptrIds_mem (vs : List AV) : ∀ (acc : List Nat) (i off : Nat), AV.ptr i off ∈ vs → i ∈ ptrIds acc vs := by
  induction vs with
  | nil => intro acc i off h; simp at h
  | cons v vs ih =>
    intro acc i off h
    rcases List.mem_cons.1 h with h1 | h1
    · subst h1; exact ptrIds_acc vs _ _ (addNew_mem.2 (.inr rfl))
    · cases v <;> exact ih _ _ _ h1

theorem getAll_ok {S : St} : ∀ {ids : List Nat} {S0 : St}, getAll S ids = some S0 → S0.length = ids.length ∧ ∀ (j i : Nat), ids[j]? = some i → ∃ (l : List AV) (ds : List D), S[i]? = some (AO.box l) ∧ S0[j]? = some (AO.box l) ∧ allD l = some ds
  | [], S0, h => by simp [getAll] at h; subst h; simp
  | i :: ids, S0, h => by
    unfold getAll at h
    split at h
    · rename_i l S0' h1 h2
      split at h
      · rename_i h3
        injection h with h; subst h
        obtain ⟨h4, h5⟩ := getAll_ok h2
        obtain ⟨ds, hds⟩ := Option.isSome_iff_exists.1 h3
        refine ⟨by simp [h4], fun j i' hj => ?_⟩
        cases j with
        | zero => simp at hj; subst hj; exact ⟨l, ds, h1, by simp, hds⟩
        | succ j => simp at hj; obtain ⟨l', ds', h6, h7, h8⟩ := h5 j i' hj; exact ⟨l', ds', h6, by simpa using h7, h8⟩
      · cases h
    · cases h

theorem putAll_len : ∀ (ids : List Nat) (os S : St), (putAll ids os S).length = S.length
  | [], os, S => by simp [putAll]
  | i :: ids, [], S => by simp [putAll]
  | i :: ids, o :: os, S => by simp [putAll, putAll_len ids os]
theorem putAll_out : ∀ (ids : List Nat) (os S : St) (i : Nat), i ∉ ids → (putAll ids os S)[i]? = S[i]?
  | [], os, S, i, _ => by simp [putAll]
  | k :: ids, [], S, i, _ => by simp [putAll]
  | k :: ids, o :: os, S, i, h => by
    simp only [List.mem_cons, not_or] at h
    rw [putAll, putAll_out ids os _ i h.2, List.getElem?_set_ne (fun e => h.1 e.symm)]
theorem putAll_in : ∀ (ids : List Nat) (os S : St) (j i : Nat), ids.Nodup → ids.length ≤ os.length → ids[j]? = some i → i < S.length → (putAll ids os S)[i]? = os[j]?
  | [], os, S, j, i, _, _, h, _ => by simp at h
  | k :: ids, [], S, j, i, _, hl, h, _ => by simp at hl
  | k :: ids, o :: os, S, j, i, hn, hl, h, hi => by
    simp only [List.nodup_cons] at hn
    cases j with
    | zero =>
      simp at h; subst h
      rw [putAll, putAll_out _ _ _ _ hn.1, List.getElem?_set_self hi]; simp
    | succ j =>
      simp at h
      rw [putAll, putAll_in ids os _ j i hn.2 (by simpa using hl) h (by simpa using hi)]; simp

theorem flat_dr {w w' : World} {O O' : Nat → Prop} {d : D} {v : Value} (hf : d.flat = true) (h : DR w O (.val d v)) : DR w' O' (.val d v) := by
  cases h <;> first
    | (simp [D.flat] at hf; done)
    | exact .str _ ‹_›
    | constructor
theorem flatL_dr {w w' : World} {O O' : Nat → Prop} {l : List D} {vs : List Value} (hf : l.all D.flat = true) (h : DR w O (.cells l vs)) : DR w' O' (.cells l vs) := by
  induction l generalizing vs with
  | nil => cases h; exact .cnil
  | cons x l ih =>
    simp only [List.all_cons, Bool.and_eq_true] at hf
    cases h with | ccons _ v _ vs h1 h2 h3 => exact .ccons _ _ _ _ (flat_dr hf.1 h1) h2 (ih hf.2 h3)
theorem flat1_dr {w w' : World} {O O' : Nat → Prop} {d : D} {v : Value} (hf : d.flat1 = true) (h : DR w O (.val d v)) : DR w' O' (.val d v) := by
  cases d <;> first
    | exact flat_dr hf h
    | (cases h with | agg l vs h1 => exact .agg _ _ (flatL_dr hf h1))

theorem c0_tr {x : Cx} {v : AV} {cv : Value} (h : C0 x v cv) : VR x v cv := by
  cases v <;> first | exact h.1 | exact h | exact h.elim

section
variable {w w' : World} {γ γ0 γ1 γ' : Nat → Gh} {env env0 : Nat → Prop} {S S1 S' : St} {ids : List Nat}

/-- Values under new numbers. -/
theorem ren_c0 {x x' : Cx} {n : Nat} (hd : ∀ d v, DR x.w x.O (.val d v) → DR x'.w x'.O (.val d v)) (hn : ∀ j, j < x.n → rn ids n j < x'.n) (hg : ∀ j, j < x.n → x'.γ (rn ids n j) = x.γ j) {v : AV} {cv : Value} (h : C0 x v cv) : C0 x' (sh0 ids n v) cv := by
  cases v <;> simp only [C0, sh0] at h ⊢
  · exact ⟨hd _ _ h.1, h.2⟩
  · exact ⟨hn _ h.1, by rw [hg _ h.1]; exact h.2.1, by rw [hg _ h.1]; exact h.2.2⟩
theorem ren_vr {x x' : Cx} {n : Nat} (hd : ∀ d v, DR x.w x.O (.val d v) → DR x'.w x'.O (.val d v)) (hn : ∀ j, j < x.n → rn ids n j < x'.n) (hg : ∀ j, j < x.n → x'.γ (rn ids n j) = x.γ j) {v : AV} {cv : Value} (h : VR x v cv)
    (hv : ∀ l, v ≠ .fp l) (hv2 : ∀ i g k off, v ≠ .ep i g k off) : VR x' (shC ids n v) cv := by
  cases v <;> simp only [VR, shC, sh0] at h ⊢
  · exact hd _ _ h
  · exact ⟨hn _ h.1, by rw [hg _ h.1]; exact h.2.1, by rw [hg _ h.1]; exact h.2.2⟩
  · exact absurd rfl (hv2 _ _ _ _)
  · exact absurd rfl (hv _)
  · rw [hg _ h.1]; exact ⟨hn _ h.1, h.2⟩
  · obtain ⟨vs, h1, h2⟩ := h
    exact ⟨vs, h1, (h2.mono fun _ _ _ h3 => ren_c0 hd hn hg h3).map⟩
  all_goals exact h

end
end Go.Abs
/- Behind a call: the caller's store. -/
namespace Go.Abs

def backS (ids : List Nat) (S S1 : St) : St := putAll ids (S1.map (shO ids S.length)) S ++ (S1.drop ids.length).map (shO ids S.length)
def backγ (k n : Nat) (γ γ1 : Nat → Gh) : Nat → Gh := fun i => if i < n then γ i else γ1 (k + (i - n))

section
variable {w w' : World} {γ γ0 γ1 : Nat → Gh} {env env0 : Nat → Prop} {S S0 S1 : St} {ids : List Nat}

theorem rn_lt {n j i : Nat} (h : ids[j]? = some i) : rn ids n j = i := by simp [rn, h]
theorem rn_ge {n j : Nat} (h : ids.length ≤ j) : rn ids n j = n + (j - ids.length) := by simp [rn, List.getElem?_eq_none h]

theorem back_len (hk : ids.length ≤ S1.length) : (backS ids S S1).length = S.length + (S1.length - ids.length) := by simp [backS, putAll_len]
theorem back_old {i : Nat} (hi : i < S.length) (hn : i ∉ ids) : (backS ids S S1)[i]? = S[i]? := by
  unfold backS
  rw [List.getElem?_append_left (by rw [putAll_len]; exact hi), putAll_out _ _ _ _ hn]
theorem back_rn (hnd : ids.Nodup) (hk : ids.length ≤ S1.length) (hlt : ∀ i ∈ ids, i < S.length) {j : Nat} (hj : j < S1.length) : (backS ids S S1)[rn ids S.length j]? = (S1[j]?).map (shO ids S.length) := by
  by_cases h : j < ids.length
  · have e : ids[j]? = some ids[j] := by simp
    rw [rn_lt e]
    unfold backS
    have hl := hlt ids[j] (by simp)
    rw [List.getElem?_append_left (by rw [putAll_len]; exact hl), putAll_in ids _ S j ids[j] hnd (by simpa using hk) e hl]
    simp
  · rw [rn_ge (by omega)]
    unfold backS
    rw [List.getElem?_append_right (by rw [putAll_len]; omega), putAll_len, Nat.add_sub_cancel_left, List.getElem?_map, List.getElem?_drop]
    congr 2; omega
theorem back_cases (hk : ids.length ≤ S1.length) {i : Nat} {o : AO} (h : (backS ids S S1)[i]? = some o) :
    (i < S.length ∧ i ∉ ids) ∨ ∃ j, j < S1.length ∧ i = rn ids S.length j := by
  have hlt := (List.getElem?_eq_some_iff.1 h).1
  rw [back_len hk] at hlt
  by_cases h1 : i ∈ ids
  · obtain ⟨j, hj⟩ := List.getElem?_of_mem h1
    have := (List.getElem?_eq_some_iff.1 hj).1
    exact .inr ⟨j, by omega, (rn_lt hj).symm⟩
  · by_cases h2 : i < S.length
    · exact .inl ⟨h2, h1⟩
    · exact .inr ⟨ids.length + (i - S.length), by omega, by rw [rn_ge (by omega)]; omega⟩

theorem sho_live {n : Nat} {o : AO} : (shO ids n o).live = o.live := by cases o <;> rfl

/-- All that is known when a call has come back. -/
structure Back (w w' : World) (γ γ1 : Nat → Gh) (env env0 : Nat → Prop) (S S1 : St) (ids : List Nat) (lent : Nat → Prop) : Prop where
  hr : HR w γ env S
  nd : ids.Nodup
  box : ∀ i, i ∈ ids → ∃ l, S[i]? = some (.box l)
  len : ids.length ≤ S1.length
  hr1 : HR w' γ1 env0 S1
  g : ∀ j i, ids[j]? = some i → γ1 j = γ i
  size : w.heap.size ≤ w'.heap.size
  same : ∀ b, b < w.heap.size → ¬ (∃ i, i ∈ ids ∧ (γ i).blk = b) → w'.heap[b]? = w.heap[b]?
  own : ∀ b, Own S1 γ1 b → (∃ i, i ∈ ids ∧ (γ i).blk = b) ∨ w.heap.size ≤ b
  env0 : ∀ b, env0 b ↔ (Own S γ b ∨ env b) ∧ ¬ (∃ i, i ∈ ids ∧ (γ i).blk = b) ∧ ¬ lent b
  flat : (∀ b, ¬ lent b) ∨ S1.all AO.flat = true
  okr : S1.all AO.okr = true
  io : IOs w w'

variable {lent : Nat → Prop}

theorem Back.lt (B : Back w w' γ γ1 env env0 S S1 ids lent) : ∀ i ∈ ids, i < S.length := fun i hi => by
  obtain ⟨l, h⟩ := B.box i hi; exact (List.getElem?_eq_some_iff.1 h).1
theorem Back.gr (B : Back w w' γ γ1 env env0 S S1 ids lent) {j : Nat} (hj : j < S1.length) : backγ ids.length S.length γ γ1 (rn ids S.length j) = γ1 j := by
  unfold backγ
  by_cases h : j < ids.length
  · have e : ids[j]? = some ids[j] := by simp
    rw [rn_lt e, if_pos (B.lt _ (by simp)), ← B.g j _ e]
  · rw [rn_ge (by omega), if_neg (by omega)]
    congr 1; omega
theorem Back.ownIds (B : Back w w' γ γ1 env env0 S S1 ids lent) {b : Nat} (h : ∃ i, i ∈ ids ∧ (γ i).blk = b) : Own S γ b := by
  obtain ⟨i, h1, h2⟩ := h
  obtain ⟨l, h3⟩ := B.box i h1
  exact ⟨i, _, h3, rfl, h2⟩
/-- Who owns a block behind the call. -/
theorem Back.owns (B : Back w w' γ γ1 env env0 S S1 ids lent) {b : Nat} (h : Own (backS ids S S1) (backγ ids.length S.length γ γ1) b) :
    (∃ i o, i < S.length ∧ i ∉ ids ∧ S[i]? = some o ∧ o.live = true ∧ (γ i).blk = b) ∨ Own S1 γ1 b := by
  obtain ⟨i, o, h1, h2, h3⟩ := h
  rcases back_cases B.len h1 with ⟨h4, h5⟩ | ⟨j, h4, rfl⟩
  · rw [back_old h4 h5] at h1
    exact .inl ⟨i, o, h4, h5, h1, h2, by simpa [backγ, h4] using h3⟩
  · rw [back_rn B.nd B.len B.lt h4] at h1
    cases h5 : S1[j]? with
    | none => simp [h5] at h1
    | some o1 =>
      simp [h5] at h1
      subst h1
      rw [sho_live] at h2
      rw [B.gr h4] at h3
      exact .inr ⟨j, o1, h5, h2, h3⟩
theorem Back.notIds (B : Back w w' γ γ1 env env0 S S1 ids lent) {i : Nat} {o : AO} (h1 : i ∉ ids) (h2 : S[i]? = some o) (h3 : o.live = true) : ¬ ∃ k, k ∈ ids ∧ (γ k).blk = (γ i).blk := by
  rintro ⟨k, h4, h5⟩
  obtain ⟨l, h6⟩ := B.box k h4
  have := B.hr.inj k i _ _ h6 h2 rfl h3 h5
  subst this; exact h1 h4
theorem Back.le (B : Back w w' γ γ1 env env0 S S1 ids lent) : (cx w γ env S).Le (cx w' (backγ ids.length S.length γ γ1) env (backS ids S S1)) := by
  refine ⟨B.size, fun b hb hO => B.same b hb fun h => hO (.inl (B.ownIds h)), fun b hb hO => ?_, by simp [cx, back_len B.len], fun i hi => ?_⟩
  · rcases hO with hO | hO
    · rcases B.owns hO with ⟨i, o, h1, h2, h3, h4, h5⟩ | h
      · exact .inl ⟨i, o, h3, h4, h5⟩
      · rcases B.own b h with h | h
        · exact .inl (B.ownIds h)
        · simp only [cx] at hb; omega
    · exact .inr hO
  · have : i < S.length := hi
    simp only [cx, backγ, if_pos this]
    exact GX.refl _
/-- What is written behind the call was written in it, where nothing was lent. -/
theorem Back.sub (B : Back w w' γ γ1 env env0 S S1 ids lent) (hl : ∀ b, ¬ lent b) {b : Nat} (h : (cx w' (backγ ids.length S.length γ γ1) env (backS ids S S1)).O b) : (cx w' γ1 env0 S1).O b := by
  rcases h with h | h
  · rcases B.owns h with ⟨i, o, h1, h2, h3, h4, h5⟩ | h
    · refine .inr ((B.env0 b).2 ⟨.inl ⟨i, o, h3, h4, h5⟩, ?_, hl b⟩)
      rw [← h5]; exact B.notIds h2 h3 h4
    · exact .inl h
  · exact .inr ((B.env0 b).2 ⟨.inr h, fun h' => B.hr.apart b h (B.ownIds h'), hl b⟩)
theorem Back.dr (B : Back w w' γ γ1 env env0 S S1 ids lent) (hl : ∀ b, ¬ lent b) {j : Job} (h : DR w' (cx w' γ1 env0 S1).O j) : DR w' (cx w' (backγ ids.length S.length γ γ1) env (backS ids S S1)).O j :=
  h.mono (Nat.le_refl _) (fun _ _ _ => rfl) fun _ _ h => B.sub hl h

theorem okr0_no {v : AV} (h : v.okr0 = true) : (∀ l, v ≠ .fp l) ∧ ∀ i g k off, v ≠ .ep i g k off := by
  cases v <;> simp [AV.okr0] at h ⊢
theorem Back.vr (B : Back w w' γ γ1 env env0 S S1 ids lent) {v : AV} {cv : Value} (hf : (∀ b, ¬ lent b) ∨ v.flat = true) (hok : v.okr0 = true) (h : VR (cx w' γ1 env0 S1) v cv) :
    VR (cx w' (backγ ids.length S.length γ γ1) env (backS ids S S1)) (shC ids S.length v) cv := by
  have hn : ∀ j, j < (cx w' γ1 env0 S1).n → rn ids S.length j < (cx w' (backγ ids.length S.length γ γ1) env (backS ids S S1)).n := fun j hj => by
    simp only [cx, back_len B.len] at hj ⊢
    by_cases h : j < ids.length
    · rw [rn_lt (show ids[j]? = some ids[j] by simp)]; have := B.lt ids[j] (by simp); omega
    · rw [rn_ge (by omega)]; omega
  have hg : ∀ j, j < (cx w' γ1 env0 S1).n → (cx w' (backγ ids.length S.length γ γ1) env (backS ids S S1)).γ (rn ids S.length j) = (cx w' γ1 env0 S1).γ j := fun j hj => B.gr hj
  rcases hf with hf | hf
  · exact ren_vr (fun d v h => B.dr hf h) hn hg h (okr0_no hok).1 (okr0_no hok).2
  · cases v <;> first
      | exact flat1_dr hf h
      | (simp [AV.flat] at hf; done)
      | (simp [AV.okr0] at hok; done)
theorem Back.elems (B : Back w w' γ γ1 env env0 S S1 ids lent) (hl : ∀ b, ¬ lent b) {cs : Array Value} {es : Nat} {l : List D} (h : Elems (cx w' γ1 env0 S1) cs es l) : Elems (cx w' (backγ ids.length S.length γ γ1) env (backS ids S S1)) cs es l := by
  obtain ⟨vs, h1, h2⟩ := h
  exact ⟨vs, fun i d hd => B.dr hl (h1 i d hd), h2⟩

theorem Back.hrB (B : Back w w' γ γ1 env env0 S S1 ids lent) : HR w' (backγ ids.length S.length γ γ1) env (backS ids S S1) := by
  refine ⟨fun i o h => ?_, fun i i' o o' h h' hl hl' he => ?_, fun b hb => Nat.lt_of_lt_of_le (B.hr.elt b hb) B.size, fun b hb hO => ?_⟩
  · rcases back_cases B.len h with ⟨h4, h5⟩ | ⟨j, h4, rfl⟩
    · rw [back_old h4 h5] at h
      refine (B.hr.objs i o h).mono B.le (by simp [cx, backγ, h4]) fun hlv => B.same _ ((B.hr.objs i o h).live_lt hlv) (B.notIds h5 h hlv)
    · rw [back_rn B.nd B.len B.lt h4] at h
      cases h5 : S1[j]? with
      | none => simp [h5] at h
      | some o1 =>
        simp [h5] at h
        subst h
        have ho := B.hr1.objs j o1 h5
        have hgr := B.gr h4
        have hmem : o1 ∈ S1 := List.mem_of_getElem? h5
        have hok := List.all_eq_true.1 B.okr o1 hmem
        cases o1 with
        | box l =>
          obtain ⟨h6, cs, h7, h8⟩ := ho
          refine ⟨by simp only [cx, hgr]; exact h6, cs, by simp only [cx, hgr]; exact h7, ?_⟩
          refine (h8.mono fun v cv hv h9 => ⟨B.vr (B.flat.imp id fun hf => ?_) ?_ h9.1, h9.2⟩).map
          · have := List.all_eq_true.1 hf _ hmem
            simp only [AO.flat] at this
            exact List.all_eq_true.1 this v hv
          · simp only [AO.okr] at hok
            exact List.all_eq_true.1 hok v hv
        | arr g es l =>
          have hl : ∀ b, ¬ lent b := B.flat.resolve_right fun hf => by
            have := List.all_eq_true.1 hf _ hmem
            simp [AO.flat] at this
          obtain ⟨k0, k1, k2, cs, k3, k4, k5, k6, k7⟩ := ho
          refine ⟨by simp only [cx, hgr]; exact k0, by simp only [cx, hgr]; exact k1, by simp only [cx, hgr]; exact k2, cs, by simp only [cx, hgr]; exact k3, by simp only [cx, hgr]; exact k4, by simp only [cx, hgr]; exact k5, by simp only [cx, hgr]; exact k6, B.elems hl k7⟩
        | frz g es l =>
          have hl : ∀ b, ¬ lent b := B.flat.resolve_right fun hf => by
            have := List.all_eq_true.1 hf _ hmem
            simp [AO.flat] at this
          obtain ⟨k0, k1, k2, k2', k2'', cs, T, fz, k3, k4, k5, k6, k7⟩ := ho
          refine ⟨by simp only [cx, hgr]; exact k0, by simp only [cx, hgr]; exact k1, by simp only [cx, hgr]; exact k2, fun h' => k2' ?_, by simp only [cx, hgr]; exact k2'', cs, T, fz, by simp only [cx, hgr]; exact k3, by simp only [cx, hgr]; exact k4, by simp only [cx, hgr]; exact k5, by simp only [cx, hgr]; exact k6, B.elems hl k7⟩
          have := B.sub hl h'
          simp only [cx, hgr] at this ⊢
          exact this
        | dead => trivial
  · rcases back_cases B.len h with ⟨h4, h5⟩ | ⟨j, h4, rfl⟩ <;> rcases back_cases B.len h' with ⟨h4', h5'⟩ | ⟨j', h4', rfl⟩
    · rw [back_old h4 h5] at h
      rw [back_old h4' h5'] at h'
      simp only [backγ, if_pos h4, if_pos h4'] at he
      exact B.hr.inj _ _ _ _ h h' hl hl' he
    · exfalso
      rw [back_old h4 h5] at h
      rw [back_rn B.nd B.len B.lt h4'] at h'
      rw [B.gr h4'] at he
      simp only [backγ, if_pos h4] at he
      cases h6 : S1[j']? with
      | none => simp [h6] at h'
      | some o1 =>
        simp [h6] at h'; subst h'
        rw [sho_live] at hl'
        rcases B.own _ ⟨j', o1, h6, hl', he.symm⟩ with h7 | h7
        · exact B.notIds h5 h hl h7
        · have := (B.hr.objs i o h).live_lt hl; simp only [cx] at this; omega
    · exfalso
      rw [back_old h4' h5'] at h'
      rw [back_rn B.nd B.len B.lt h4] at h
      rw [B.gr h4] at he
      simp only [backγ, if_pos h4'] at he
      cases h6 : S1[j]? with
      | none => simp [h6] at h
      | some o1 =>
        simp [h6] at h; subst h
        rw [sho_live] at hl
        rcases B.own _ ⟨j, o1, h6, hl, he⟩ with h7 | h7
        · exact B.notIds h5' h' hl' h7
        · have := (B.hr.objs i' o' h').live_lt hl'; simp only [cx] at this; omega
    · rw [back_rn B.nd B.len B.lt h4] at h
      rw [back_rn B.nd B.len B.lt h4'] at h'
      rw [B.gr h4, B.gr h4'] at he
      cases h6 : S1[j]? with
      | none => simp [h6] at h
      | some o1 =>
        cases h7 : S1[j']? with
        | none => simp [h7] at h'
        | some o2 =>
          simp [h6] at h; simp [h7] at h'; subst h; subst h'
          rw [sho_live] at hl hl'
          rw [B.hr1.inj _ _ _ _ h6 h7 hl hl' he]
  · rcases B.owns hO with ⟨i, o, h1, h2, h3, h4, h5⟩ | h
    · exact B.hr.apart b hb ⟨i, o, h3, h4, h5⟩
    · rcases B.own b h with h | h
      · exact B.hr.apart b hb (B.ownIds h)
      · have := B.hr.elt b hb; omega

theorem Back.stp (B : Back w w' γ γ1 env env0 S S1 ids lent) : Stp w γ env S w' (backγ ids.length S.length γ γ1) (backS ids S S1) :=
  ⟨B.le, B.hrB, fun b hb hO => B.same b hb fun h => hO (B.ownIds h), fun b hO => by
    rcases B.owns hO with ⟨i, o, h1, h2, h3, h4, h5⟩ | h
    · exact .inl ⟨i, o, h3, h4, h5⟩
    · exact (B.own b h).imp B.ownIds id, B.io⟩

theorem Back.ar (B : Back w w' γ γ1 env env0 S S1 ids lent) {v : AV} {cv : Value} (hf : (∀ b, ¬ lent b) ∨ v.flat = true) (hok : v.okr1 = true) (h : AR (cx w' γ1 env0 S1) v cv) :
    AR (cx w' (backγ ids.length S.length γ γ1) env (backS ids S S1)) (sh1 ids S.length v) cv := by
  cases v with
  | agg l =>
    obtain ⟨vs, h1, h2⟩ := h
    have hl : ∀ b, ¬ lent b := hf.resolve_right (by simp [AV.flat])
    refine ⟨vs, h1, (h2.mono fun u cu hu h3 => ⟨B.vr (.inl hl) ?_ h3.1, h3.2⟩).map⟩
    simp only [AV.okr1] at hok
    exact List.all_eq_true.1 hok u hu
  | _ =>
    first
      | (have := B.vr hf hok h; simpa only [sh1, shC, sh0, AR] using this)
      | (simp [AV.okr1, AV.okr0] at hok; done)
theorem Back.tr (B : Back w w' γ γ1 env env0 S S1 ids lent) {v : AV} {cv : Value} (hf : (∀ b, ¬ lent b) ∨ v.flat = true) (hok : v.okr = true) (h : TR (cx w' γ1 env0 S1) v cv) :
    TR (cx w' (backγ ids.length S.length γ γ1) env (backS ids S S1)) (sh2 ids S.length v) cv := by
  cases v with
  | tup l =>
    obtain ⟨vs, h1, h2⟩ := h
    refine ⟨vs, h1, (h2.mono fun u cu hu h3 => B.ar (hf.imp id fun hf => ?_) ?_ h3).map⟩
    · simp only [AV.flat] at hf
      have := List.all_eq_true.1 hf u hu
      cases u <;> simp at this
      exact this
    · simp only [AV.okr] at hok
      exact List.all_eq_true.1 hok u hu
  | _ =>
    first
      | (have := B.ar hf hok h; simpa only [sh2, sh1, shC, sh0, TR] using this)
      | (simp [AV.okr, AV.okr1, AV.okr0] at hok; done)

end
end Go.Abs
/- Handing over: what a caller's store is to its callee. -/
namespace Go.Abs

theorem allD_map {l : List AV} {ds : List D} (h : allD l = some ds) : l = ds.map .d := by
  induction l generalizing ds with
  | nil => simp [allD] at h; subst h; rfl
  | cons v l ih =>
    cases v <;> simp [allD] at h
    obtain ⟨ds', h1, h2⟩ := h
    subst h2
    simp [ih h1]

theorem Stp.trans {w w' w'' : World} {γ γ' γ'' : Nat → Gh} {env : Nat → Prop} {S S' S'' : St} (h : Stp w γ env S w' γ' S') (k : Stp w' γ' env S' w'' γ'' S'') : Stp w γ env S w'' γ'' S'' :=
  ⟨h.le.trans k.le, k.hr, fun b hb hO => by
      have hs : w.heap.size ≤ w'.heap.size := h.le.size
      rw [k.chg b (by omega) fun h' => (h.own b h').elim hO (fun h'' => by omega), h.chg b hb hO],
    fun b hO => by
      have hs : w.heap.size ≤ w'.heap.size := h.le.size
      rcases k.own b hO with h1 | h1
      · exact h.own b h1
      · exact .inr (by omega), h.io.trans k.io⟩

section
variable {w : World} {γ : Nat → Gh} {env : Nat → Prop} {S S0 : St}

/-! ### freezing -/
theorem freeze1_len (S : St) (i : Nat) : (freeze1 S i).length = S.length := by unfold freeze1; split <;> simp
theorem freezeL_len (vs : List AV) : ∀ S : St, (freezeL vs S).length = S.length := by
  induction vs with
  | nil => intro S; rfl
  | cons v vs ih => intro S; cases v <;> simp [freezeL, ih, freeze1_len]
theorem freeze1_box {S : St} {i j : Nat} {l : List AV} : (freeze1 S i)[j]? = some (.box l) ↔ S[j]? = some (.box l) := by
  unfold freeze1
  split
  · rename_i g es l' h
    have hlt : i < S.length := (List.getElem?_eq_some_iff.1 h).1
    by_cases e : i = j
    · subst e; rw [List.getElem?_set_self hlt, h]; simp
    · rw [List.getElem?_set_ne e]
  · rfl
theorem freezeL_box {vs : List AV} : ∀ {S : St} {j : Nat} {l : List AV}, (freezeL vs S)[j]? = some (.box l) ↔ S[j]? = some (.box l) := by
  induction vs with
  | nil => intros; rfl
  | cons v vs ih =>
    intro S j l
    cases v <;> first
      | exact ih.trans freeze1_box
      | exact ih
theorem freeze1_rd (S : St) (i j : Nat) : rd (freeze1 S i) j = rd S j := by
  unfold freeze1
  split
  · rename_i g es l' h
    have hlt : i < S.length := (List.getElem?_eq_some_iff.1 h).1
    by_cases e : i = j
    · subst e; simp [rd, List.getElem?_set_self hlt, h]
    · simp only [rd, List.getElem?_set_ne e]
  · rfl
theorem freezeL_rd (vs : List AV) : ∀ (S : St) (j : Nat), rd (freezeL vs S) j = rd S j := by
  induction vs with
  | nil => intros; rfl
  | cons v vs ih =>
    intro S j
    cases v <;> first
      | exact (ih _ j).trans (freeze1_rd S _ j)
      | exact ih S j
theorem freeze1_narr {S : St} {i j g es : Nat} {l : List D} (h : (freeze1 S i)[j]? = some (.arr g es l)) : j ≠ i ∧ S[j]? = some (.arr g es l) := by
  unfold freeze1 at h
  split at h
  · rename_i g' es' l' h1
    have hlt : i < S.length := (List.getElem?_eq_some_iff.1 h1).1
    by_cases e : i = j
    · subst e; rw [List.getElem?_set_self hlt] at h; cases h
    · rw [List.getElem?_set_ne e] at h; exact ⟨fun e' => e e'.symm, h⟩
  · rename_i h1
    exact ⟨fun e => h1 _ _ _ (e ▸ h), h⟩
theorem freezeL_narr {vs : List AV} : ∀ {S : St} {j g es : Nat} {l : List D}, (freezeL vs S)[j]? = some (.arr g es l) → (∀ g' off n, AV.ref j g' off n ∉ vs) ∧ S[j]? = some (.arr g es l) := by
  induction vs with
  | nil => intro S j g es l h; exact ⟨by simp, h⟩
  | cons v vs ih =>
    intro S j g es l h
    cases v <;> first
      | (obtain ⟨h1, h2⟩ := ih h
         obtain ⟨h3, h4⟩ := freeze1_narr h2
         refine ⟨fun g' off n hm => ?_, h4⟩
         rcases List.mem_cons.1 hm with hm | hm
         · injection hm with e; exact h3 e
         · exact h1 g' off n hm)
      | (obtain ⟨h1, h2⟩ := ih h
         refine ⟨fun g' off n hm => ?_, h2⟩
         rcases List.mem_cons.1 hm with hm | hm
         · cases hm
         · exact h1 g' off n hm)
theorem getAll_congr {S S' : St} (h : ∀ (j : Nat) (l : List AV), S'[j]? = some (.box l) ↔ S[j]? = some (.box l)) : ∀ {ids : List Nat} {S0 : St}, getAll S ids = some S0 → getAll S' ids = some S0
  | [], S0, hg => by simpa [getAll] using hg
  | i :: ids, S0, hg => by
    unfold getAll at hg ⊢
    split at hg
    · rename_i l S0' h1 h2
      rw [(h i l).2 h1, getAll_congr h h2]; exact hg
    · cases hg
theorem lendAll_congr {S S' : St} (h : ∀ j : Nat, rd S' j = rd S j) (ids : List Nat) : ∀ vs : List AV, lendAll ids S' vs = lendAll ids S vs
  | [] => rfl
  | v :: vs => by
    have h1 : lend ids S' v = lend ids S v := by
      unfold lend
      split
      · rfl
      · rfl
      · have : window S' v = window S v := by
          unfold window
          split <;> simp [h]
        rw [this]
    simp only [lendAll, h1, lendAll_congr h ids vs]

theorem Stp.freeze1 (hr : HR w γ env S) (i : Nat) : Stp w γ env S w γ (freeze1 S i) := by
  unfold Abs.freeze1
  split
  · rename_i g es l hi
    have hlt : i < S.length := (List.getElem?_eq_some_iff.1 hi).1
    obtain ⟨r1, r2⟩ := hr.repl (w' := w) (γ' := γ) (.frz g es l) hi rfl (Nat.le_refl _) (fun _ _ => rfl) (GX.refl _) (fun _ _ _ => rfl) (fun h => by cases h)
    obtain ⟨h0, h1, h2, cs, h3, h4, h5, h6, h7⟩ := hr.objs i _ hi
    have hnO : ¬ (cx w γ env (S.set i (.frz g es l))).O (γ i).blk := by
      rintro (⟨k, ok, h8, h9, h10⟩ | h8)
      · by_cases hki : k = i
        · subst hki; rw [List.getElem?_set_self hlt] at h8; injection h8 with h8; subst h8; cases h9
        · rw [List.getElem?_set_ne (fun e => hki e.symm)] at h8
          exact hki (hr.inj k i ok _ h8 hi h9 rfl h10)
      · exact hr.apart _ h8 ⟨i, _, hi, rfl, rfl⟩
    have hlt' := h3.lt
    obtain ⟨T, fz, h3', _⟩ := h3
    refine ⟨r1, r2 ⟨h0, h1, h2, hnO, hlt', cs, T, fz, h3', h4, h5, h6, h7.mono r1⟩, fun _ _ _ => rfl, fun b hb => .inl ?_, .refl w⟩
    obtain ⟨k, ok, h8, h9, h10⟩ := hb
    by_cases hki : k = i
    · subst hki; exact ⟨k, _, hi, rfl, h10⟩
    · rw [List.getElem?_set_ne (fun e => hki e.symm)] at h8; exact ⟨k, ok, h8, h9, h10⟩
  · exact .refl hr
theorem Stp.freezeL (vs : List AV) : ∀ {S : St}, HR w γ env S → Stp w γ env S w γ (freezeL vs S) := by
  induction vs with
  | nil => exact fun hr => .refl hr
  | cons v vs ih =>
    intro S hr
    cases v <;> first
      | exact (Stp.freeze1 hr _).trans (ih (Stp.freeze1 hr _).hr)
      | exact ih hr

/-! ### what is handed over -/
def lendγ (ids : List Nat) (γ : Nat → Gh) : Nat → Gh := fun j => γ (ids.getD j 0)
def lendE (γ : Nat → Gh) (env : Nat → Prop) (S : St) (ids : List Nat) (lent : Nat → Prop) : Nat → Prop :=
  fun b => (Own S γ b ∨ env b) ∧ ¬ (∃ i, i ∈ ids ∧ (γ i).blk = b) ∧ ¬ lent b

variable {ids : List Nat} {lent : Nat → Prop}

theorem lend_own (hg : getAll S ids = some S0) {b : Nat} (h : Own S0 (lendγ ids γ) b) : ∃ i, i ∈ ids ∧ (γ i).blk = b := by
  obtain ⟨hl, hG⟩ := getAll_ok hg
  obtain ⟨j, o, h1, h2, h3⟩ := h
  have hj : j < ids.length := by rw [← hl]; exact (List.getElem?_eq_some_iff.1 h1).1
  refine ⟨ids[j], by simp, ?_⟩
  simpa [lendγ, List.getD_eq_getElem?_getD, hj] using h3
theorem lend_O (hg : getAll S ids = some S0) {b : Nat} (h : (cx w (lendγ ids γ) (lendE γ env S ids lent) S0).O b) : (cx w γ env S).O b := by
  rcases h with h | h
  · obtain ⟨i, h1, h2⟩ := lend_own hg h
    obtain ⟨j, hj⟩ := List.getElem?_of_mem h1
    obtain ⟨l, ds, h3, _⟩ := (getAll_ok hg).2 j i hj
    exact .inl ⟨i, _, h3, rfl, h2⟩
  · exact h.1
theorem lend_dr (hg : getAll S ids = some S0) {j : Job} (h : DR w (cx w γ env S).O j) : DR w (cx w (lendγ ids γ) (lendE γ env S ids lent) S0).O j :=
  h.mono (Nat.le_refl _) (fun _ _ _ => rfl) fun _ _ h => lend_O hg h

theorem lend_hr (hr : HR w γ env S) (hn : ids.Nodup) (hg : getAll S ids = some S0) : HR w (lendγ ids γ) (lendE γ env S ids lent) S0 := by
  obtain ⟨hl, hG⟩ := getAll_ok hg
  have hget : ∀ j o, S0[j]? = some o → ∃ i l ds, ids[j]? = some i ∧ S[i]? = some (.box l) ∧ o = .box l ∧ allD l = some ds ∧ lendγ ids γ j = γ i := fun j o h => by
    have hj : j < ids.length := by rw [← hl]; exact (List.getElem?_eq_some_iff.1 h).1
    have e : ids[j]? = some ids[j] := by simp
    obtain ⟨l, ds, h1, h2, h3⟩ := hG j _ e
    rw [h] at h2
    injection h2 with h2
    exact ⟨_, l, ds, e, h1, h2, h3, by simp [lendγ, List.getD_eq_getElem?_getD, hj]⟩
  refine ⟨fun j o h => ?_, fun j k o o' h h' hlv hlv' he => ?_, fun b hb => hr.O_lt hb.1, fun b hb hO => hb.2.1 (lend_own hg hO)⟩
  · obtain ⟨i, l, ds, h1, h2, h3, h4, h5⟩ := hget j o h
    subst h3
    obtain ⟨h6, cs, h7, h8⟩ := hr.objs i _ h2
    refine ⟨by simp only [cx, h5]; exact h6, cs, by simp only [cx, h5]; exact h7, h8.mono fun v cv hv h9 => ⟨?_, h9.2⟩⟩
    rw [allD_map h4] at hv
    obtain ⟨d, _, rfl⟩ := List.mem_map.1 hv
    exact lend_dr hg h9.1
  · obtain ⟨i, l, ds, h1, h2, h3, h4, h5⟩ := hget j o h
    obtain ⟨i', l', ds', h1', h2', h3', h4', h5'⟩ := hget k o' h'
    rw [h5, h5'] at he
    have := hr.inj i i' _ _ h2 h2' rfl rfl he
    subst this
    have hj := (List.getElem?_eq_some_iff.1 h1).1
    exact (List.getElem?_inj hj hn).1 (h1.trans h1'.symm)

theorem lend_sl (hr : HR w γ env S) (hg : getAll S ids = some S0) {i g off n es : Nat} {l : List D} {cv : Value}
    (hl1 : ∀ g es l, S[i]? = some (.arr g es l) → lent (γ i).blk)
    (hv : TR (cx w γ env S) (.ref i g off n) cv) (hw : window S (.ref i g off n) = some (es, l)) : DR w (cx w (lendγ ids γ) (lendE γ env S ids lent) S0).O (.val (.sl es l) cv) := by
  simp only [window] at hw
  split at hw
  · rename_i g' es' l' hrd
    split at hw
    · rename_i hc
      injection hw with hw; injection hw with h1 h2; subst h1; subst h2
      obtain ⟨rfl, hle⟩ := hc
      obtain ⟨o', e, h2, h2'⟩ := ref_ok hr hv hrd
      obtain ⟨h3, h3b, _, _, h4, h5, h5', h6⟩ := rd_ok hr hrd
      have hl : ((l'.drop off).take n).length = n := by simp; omega
      have hnO : ¬ (cx w (lendγ ids γ) (lendE γ env S ids lent) S0).O (γ i).blk := by
        rintro (h | h)
        · obtain ⟨k, hk1, hk2⟩ := lend_own hg h
          obtain ⟨j, hj⟩ := List.getElem?_of_mem hk1
          obtain ⟨lb, ds, hk3, _⟩ := (getAll_ok hg).2 j k hj
          obtain ⟨hb1, cs, hb2, _⟩ := hr.objs k _ hk3
          unfold rd at hrd
          split at hrd
          · rename_i hi
            have := hr.inj k i _ _ hk3 hi rfl rfl hk2
            subst this; rw [hk3] at hi; cases hi
          · rename_i hi
            obtain ⟨_, _, _, hf, _⟩ := hr.objs i _ hi
            exact hf (.inl ⟨k, _, hk3, rfl, hk2⟩)
          · cases hrd
        · unfold rd at hrd
          split at hrd
          · rename_i hi; exact h.2.2 (hl1 _ _ _ hi)
          · rename_i hi
            obtain ⟨_, _, _, hf, _⟩ := hr.objs i _ hi
            exact hf h.1
          · cases hrd
      subst e
      have hwin := h6.window off n
      rw [Nat.zero_add] at hwin
      obtain ⟨vs, h7, h8⟩ := hwin
      have : DR w (cx w (lendγ ids γ) (lendE γ env S ids lent) S0).O (.val (.sl es' ((l'.drop off).take n)) (.slice (some ⟨(γ i).blk, o', none⟩) ((l'.drop off).take n).length ((γ i).cap - off))) := by
        refine .sl es' (γ i).blk o' _ _ vs hnO h4 (by rw [hl]; omega) (by omega) (fun k d hd => lend_dr hg (h7 k d hd)) fun k hk => ⟨(h8 k hk).1, fun j hj => ?_⟩
        rw [hl] at hk
        rw [h2' (by omega)]
        exact (h8 k (by rw [hl]; exact hk)).2 j hj
      rw [hl] at this
      exact this
    · cases hw
  · cases hw

theorem lend_ok (hr : HR w γ env S) (hg : getAll S ids = some S0) {v x : AV} {cv : Value} (hm : ∀ i off, v = .ptr i off → i ∈ ids)
    (hl1 : ∀ i g off n, v = .ref i g off n → ∀ g es l, S[i]? = some (.arr g es l) → lent (γ i).blk)
    (hv : TR (cx w γ env S) v cv) (h : lend ids S v = some x) : AR (cx w (lendγ ids γ) (lendE γ env S ids lent) S0) x cv := by
  cases v with
  | d x' => simp [lend] at h; subst h; exact lend_dr hg hv
  | ptr i off =>
    simp [lend] at h; subst h
    have hi := hm i off rfl
    have hlt : ids.idxOf i < ids.length := List.idxOf_lt_length_of_mem hi
    obtain ⟨h1, h2, h3⟩ := hv
    have e : lendγ ids γ (ids.idxOf i) = γ i := by simp [lendγ, List.getD_eq_getElem?_getD, hlt]
    exact ⟨by simp only [cx, (getAll_ok hg).1]; exact hlt, by simp only [cx, e]; exact h2, by simp only [cx, e]; exact h3⟩
  | ref i g off n =>
    simp only [lend] at h
    cases hw : window S (.ref i g off n) with
    | none => simp [hw] at h
    | some p =>
      obtain ⟨es, l⟩ := p
      simp [hw] at h; subst h
      exact lend_sl hr hg (hl1 i g off n rfl) hv hw
  | _ => simp [lend, window] at h
theorem lendAll_ok (hr : HR w γ env S) (hg : getAll S ids = some S0) : ∀ {vs as : List AV} {cvs : List Value}, (∀ i off, AV.ptr i off ∈ vs → i ∈ ids) →
    (∀ i g off n, AV.ref i g off n ∈ vs → ∀ g es l, S[i]? = some (.arr g es l) → lent (γ i).blk) →
    All2 (TR (cx w γ env S)) vs cvs → lendAll ids S vs = some as → All2 (AR (cx w (lendγ ids γ) (lendE γ env S ids lent) S0)) as cvs
  | [], as, cvs, _, _, hv, h => by cases hv; simp [lendAll] at h; subst h; exact .nil
  | v :: vs, as, cvs, hm, hl1, hv, h => by
    cases hv with
    | cons hv1 hv2 =>
      simp only [lendAll] at h
      split at h
      · rename_i x xs h1 h2
        injection h with h; subst h
        exact .cons (lend_ok hr hg (fun i off e => hm i off (by simp [e])) (fun i g off n e => hl1 i g off n (by simp [e])) hv1 h1)
          (lendAll_ok hr hg (fun i off e => hm i off (by simp [e])) (fun i g off n e => hl1 i g off n (by simp [e])) hv2 h2)
      · cases h

/-- A call, by its contract. -/
theorem call_core {P : Program} {f : Nat} {vs as : List AV} {cvs : List Value} {r : AV} {S1 : St} (hr : HR w γ env S) (hv : All2 (TR (cx w γ env S)) vs cvs)
    (hg : getAll S (ptrIds [] vs) = some S0) (hl : lendAll (ptrIds [] vs) S vs = some as)
    (hl1 : ∀ i g off n, AV.ref i g off n ∈ vs → ∀ g es l, S[i]? = some (.arr g es l) → lent (γ i).blk)
    (hC : CallR P f as S0 r S1) (hf : (∀ b, ¬ lent b) ∨ (r.flat = true ∧ S1.all AO.flat = true)) (hok : r.okr = true ∧ S1.all AO.okr = true) :
    Calls P f cvs.toArray w fun e w' => ∃ cv γ', e = .returned cv ∧ Stp w γ env S w' γ' (backS (ptrIds [] vs) S S1) ∧ TR (cx w' γ' env (backS (ptrIds [] vs) S S1)) (sh2 (ptrIds [] vs) S.length r) cv := by
  have hnd := ptrIds_nodup vs [] .nil
  have hlen := (getAll_ok hg).1
  have h1 : HR w (lendγ (ptrIds [] vs) γ) (lendE γ env S (ptrIds [] vs) lent) S0 := lend_hr hr hnd hg
  refine (hC w _ _ cvs h1 (lendAll_ok hr hg (fun i off h => ptrIds_mem vs [] i off h) hl1 hv hl)).mono fun e w' => ?_
  rintro ⟨cv, γ1, h2, h3, h4, h5, h6, h7, h8, h9, h10⟩
  have B : Back w w' γ γ1 env (lendE γ env S (ptrIds [] vs) lent) S S1 (ptrIds [] vs) lent := {
    hr := hr
    nd := hnd
    box := fun i hi => by
      obtain ⟨j, hj⟩ := List.getElem?_of_mem hi
      obtain ⟨l, ds, h10, _⟩ := (getAll_ok hg).2 j i hj
      exact ⟨l, h10⟩
    len := by omega
    hr1 := h5
    g := fun j i hj => by
      have := (List.getElem?_eq_some_iff.1 hj).1
      rw [h6 j (by omega)]
      simp [lendγ, List.getD_eq_getElem?_getD, hj]
    size := h7
    same := fun b hb hno => h8 b hb fun hO => hno (lend_own hg hO)
    own := fun b hO => (h9 b hO).imp (fun h => lend_own hg h) id
    env0 := fun b => Iff.rfl
    flat := hf.imp id (·.2)
    okr := hok.2
    io := h10 }
  exact ⟨cv, _, h2, B.stp, B.tr (hf.imp id (·.1)) hok.1 h4⟩

end

/-- What is claimed of a program's functions. -/
structure EOK (P : Program) (E : Env) : Prop where
  call : ∀ f as S0 r S1, E.call f as S0 r S1 → CallR P f as S0 r S1
  ent : ∀ f as S0 r S1, E.call f as S0 r S1 → ∃ fn c, P.funcs[f]? = some fn ∧ (fn.name == "runtime.NumGoroutine") = false ∧ fn.body = some c

theorem callK_ent {P : Program} {E : Env} (hE : EOK P E) {f : Nat} {vs : List AV} {S : St} {K : AV → St → Prop} (hk : callK E f vs S K) (args : Array Value) (w : World) :
    (callFunc f args).run P w = .ok (.enter f args) w := by
  unfold callK at hk
  split at hk
  · obtain ⟨r, S1, hc, _⟩ := hk
    obtain ⟨fn, c, h1, h2, h3⟩ := hE.ent _ _ _ _ _ hc
    have h4 : fn.name ≠ "runtime.NumGoroutine" := by simpa using h2
    simp [callFunc, h1, h4, h3]
  · exact hk.elim

theorem callK_ok {P : Program} {E : Env} (hE : EOK P E) {w : World} {γ : Nat → Gh} {env : Nat → Prop} {S : St} {f : Nat} {vs : List AV} {cvs : List Value} {K : AV → St → Prop}
    (hr : HR w γ env S) (hv : All2 (TR (cx w γ env S)) vs cvs) (hk : callK E f vs S K) :
    Calls P f cvs.toArray w fun e w' => ∃ v cv γ' S', e = .returned cv ∧ Stp w γ env S w' γ' S' ∧ TR (cx w' γ' env S') v cv ∧ K v S' := by
  unfold callK at hk
  split at hk
  · rename_i S0 as hg hl
    obtain ⟨r, S1, hc, hok, hk⟩ := hk
    by_cases hf : (r.flat && S1.all AO.flat) = true
    · rw [if_pos hf] at hk
      simp only [Bool.and_eq_true] at hf
      refine (call_core (lent := fun b => ∃ i g es l, S[i]? = some (.arr g es l) ∧ (γ i).blk = b) hr hv hg hl (fun i _ _ _ _ g es l h => ⟨i, g, es, l, h, rfl⟩) (hE.call _ _ _ _ _ hc) (.inr hf) hok).mono fun e w' => ?_
      rintro ⟨cv, γ', h1, h2, h3⟩
      exact ⟨_, cv, γ', _, h1, h2, h3, hk⟩
    · rw [if_neg hf] at hk
      have hs := Stp.freezeL vs hr
      have hlen := freezeL_len vs S
      refine (call_core (lent := fun _ => False) hs.hr (hv.mono fun _ _ _ h => hs.le.tr h) (getAll_congr (fun _ _ => freezeL_box) hg) ((lendAll_congr (freezeL_rd vs S) _ vs).trans hl)
        (fun i g off n hm g' es l h => (freezeL_narr h).1 g off n hm) (hE.call _ _ _ _ _ hc) (.inl fun _ h => h) hok).mono fun e w' => ?_
      rintro ⟨cv, γ', h1, h2, h3⟩
      refine ⟨_, cv, γ', _, h1, hs.trans h2, h3, ?_⟩
      unfold backS
      rw [hlen]
      exact hk
  · exact hk.elim

end Go.Abs
