/-
  Abstract values: what the abstract interpreter computes with, and how they stand to the model's values in a world.
-/
import Derived.Calls
import Derived.Scope
import Derived.Below
import Derived.Maps.AppendAt
import Derived.Laws.Strings
import Derived.Laws.Slices
import Derived.Laws.CopyRow
import Derived.Lib.Strings
import Derived.Laws.Tables
import Derived.Laws.StructEq
import Derived.Laws.BytesArg
set_option linter.unusedVariables false
set_option linter.unusedSectionVars false
set_option linter.unusedSimpArgs false
namespace Go.Av
open Go.RowKit

/-- What is known of a slice's room: nothing; no room left over; at the tip of a row of the calls' own. -/
inductive Tok where
  | ro
  | nil
  | full
  | tip (t p : Nat)
  deriving DecidableEq, Repr

/-- Abstract values. Slices are values: their elements. -/
inductive AV where
  | top
  | bool (b : Bool)
  | int (k : IntKind) (n : Int)
  | flt (k : FloatKind) (bits : Nat)
  | cplx (k : FloatKind) (re im : Nat)
  | str (s : List UInt8)
  | nilptr
  | vptr (id off : Nat)
  | cptr (cs : List AV)
  | slice (xs : List AV) (tok : Tok)
  | sref (t v off len : Nat)
  | eptr (t v o : Nat)
  | nilmap
  | map (id : Nat)
  | func (fn : Fn) (first captured : List AV)
  | nilFunc
  | iface (t : TypeId) (v : AV)
  | nilIface
  | agg (cs : List AV)
  | tuple (vs : List AV)
  deriving Inhabited

def AV.cells : AV → List AV
  | .agg cs => cs
  | v => [v]

def flat (xs : List AV) : List AV := xs.flatMap AV.cells

/-- Objects of the abstract heap: a variable; a row of the calls' own that may be appended to, by its element type and how many elements are in use. -/
inductive AObj where
  | var (cs : List AV)
  | lin (e : TypeId) (p : Nat)
  | row (e : TypeId) (v : Nat) (cs : List AV)
  | dead (v : Nat)
  | map (es : List (AV × AV))
  deriving Inhabited

/-- How far a row of the calls' own has come: how many elements are in use; which version it is. -/
def AObj.ver : AObj → Option Nat
  | .lin _ p => some p
  | .row _ v _ => some v
  | .dead v => some v
  | _ => none

/-- What is remembered of a world: where variables lie, cells that stay as they are, where rows lie. -/
structure G where
  φ : Nat → Option Nat
  im : Nat → Nat → Option Value
  lb : Nat → Nat → Option (Nat × Nat)

def G.le (g g' : G) : Prop :=
  (∀ id b, g.φ id = some b → g'.φ id = some b) ∧ (∀ b o v, g.im b o = some v → g'.im b o = some v) ∧ (∀ t p x, g.lb t p = some x → g'.lb t p = some x)
theorem G.le.refl (g : G) : g.le g := ⟨fun _ _ h => h, fun _ _ _ h => h, fun _ _ _ h => h⟩
theorem G.le.trans {a b c : G} (h : a.le b) (k : b.le c) : a.le c :=
  ⟨fun _ _ x => k.1 _ _ (h.1 _ _ x), fun _ _ _ x => k.2.1 _ _ _ (h.2.1 _ _ _ x), fun _ _ _ x => k.2.2 _ _ _ (h.2.2 _ _ _ x)⟩

def TokOK (g : G) (base : Option Addr) (len cap : Nat) : Tok → Prop
  | .ro => len ≤ cap
  | .nil => base = none ∧ len = 0 ∧ cap = 0
  | .full => cap = len
  | .tip t p => p = len ∧ len ≤ cap ∧ ∃ b, g.lb t p = some (b, cap) ∧ base = some ⟨b, 0, none⟩

theorem TokOK.le {g g' : G} (h : g.le g') {base : Option Addr} {len cap : Nat} {tok : Tok} (k : TokOK g base len cap tok) : TokOK g' base len cap tok := by
  cases tok with
  | ro => exact k
  | nil => exact k
  | full => exact k
  | tip t p => exact ⟨k.1, k.2.1, k.2.2.imp fun b hb => ⟨h.2.2 _ _ _ hb.1, hb.2⟩⟩
theorem TokOK.cap {g : G} {base : Option Addr} {len cap : Nat} {tok : Tok} (k : TokOK g base len cap tok) : len ≤ cap := by
  cases tok with
  | ro => exact k
  | nil => rw [k.2.1]; exact Nat.zero_le _
  | full => exact Nat.le_of_eq k.symm
  | tip t p => exact k.2.1

/-- Nil is a slice with no room left over. -/
def Tok.fill : Tok → Tok
  | .nil => .full
  | t => t
theorem TokOK.fill {g : G} {base : Option Addr} {len cap : Nat} {tok : Tok} (k : TokOK g base len cap tok) : TokOK g base len cap tok.fill := by
  cases tok with
  | nil => exact k.2.2.trans k.2.1.symm
  | ro => exact k
  | full => exact k
  | tip t p => exact k

/-- Cells from a place on, that stay as they are. -/
def Held (g : G) (b o : Nat) (vs : List Value) : Prop := ∀ j v, vs[j]? = some v → g.im b (o + j) = some v
theorem Held.le {g g' : G} (h : g.le g') {b o : Nat} {vs : List Value} (k : Held g b o vs) : Held g' b o vs := fun j v hj => h.2.1 _ _ _ (k j v hj)

mutual
inductive VR (g : G) : AV → Value → Prop
  | top (v : Value) : VR g .top v
  | bool (b : Bool) : VR g (.bool b) (.bool b)
  | int (k : IntKind) (n : Int) : VR g (.int k n) (.int k n)
  | flt (k : FloatKind) (n : Nat) : VR g (.flt k n) (.float k n)
  | cplx (k : FloatKind) (m n : Nat) : VR g (.cplx k m n) (.complex k m n)
  | str (l : List UInt8) : VR g (.str l) (.string ⟨⟨l⟩⟩)
  | nilptr : VR g .nilptr (.pointer none)
  | vptr {id off b : Nat} (h : g.φ id = some b) : VR g (.vptr id off) (.pointer (some ⟨b, off, none⟩))
  | cptr {cs : List AV} {vs : List Value} {b o : Nat} (h : VRs g cs vs) (hm : Held g b o vs) : VR g (.cptr cs) (.pointer (some ⟨b, o, none⟩))
  | slice0 {base : Option Addr} {cap : Nat} {tok : Tok} (ht : TokOK g base 0 cap tok) : VR g (.slice [] tok) (.slice base 0 cap)
  | slice {xs : List AV} {vs : List Value} {b o len cap : Nat} {tok : Tok} (size : Nat) (hp : 0 < size) (hl : xs.length = len) (hs : ∀ x ∈ xs, x.cells.length = size) (h : VRs g (flat xs) vs) (hm : Held g b o vs)
      (ht : TokOK g (some ⟨b, o, none⟩) len cap tok) : VR g (.slice xs tok) (.slice (some ⟨b, o, none⟩) len cap)
  | sref {t v off len b c cap : Nat} (h : g.lb t v = some (b, c)) (hl : len ≤ cap) (hc : off = 0 → cap = c) : VR g (.sref t v off len) (.slice (some ⟨b, off, none⟩) len cap)
  | eptr {t v o b c : Nat} (h : g.lb t v = some (b, c)) : VR g (.eptr t v o) (.pointer (some ⟨b, o, none⟩))
  | nilmap : VR g .nilmap (.map none)
  | map {id b : Nat} (h : g.φ id = some b) : VR g (.map id) (.map (some b))
  | func {fn : Fn} {first cap : List AV} {vf vc : List Value} (h1 : VRs g first vf) (h2 : VRs g cap vc) : VR g (.func fn first cap) (.func fn ⟨vf⟩ ⟨vc⟩)
  | nilFunc : VR g .nilFunc .nilFunc
  | iface {t : TypeId} {x : AV} {v : Value} (h : VR g x v) : VR g (.iface t x) (.iface t v)
  | nilIface : VR g .nilIface .nilIface
  | agg {cs : List AV} {vs : List Value} (h : VRs g cs vs) : VR g (.agg cs) (.agg ⟨vs⟩)
  | tuple {cs : List AV} {vs : List Value} (h : VRs g cs vs) : VR g (.tuple cs) (.tuple ⟨vs⟩)
inductive VRs (g : G) : List AV → List Value → Prop
  | nil : VRs g [] []
  | cons {x : AV} {v : Value} {xs : List AV} {vs : List Value} (h : VR g x v) (hs : VRs g xs vs) : VRs g (x :: xs) (v :: vs)
end

mutual
theorem VR.le {g g' : G} (hg : g.le g') : ∀ {x : AV} {v : Value}, VR g x v → VR g' x v
  | _, _, .top v => .top v
  | _, _, .bool b => .bool b
  | _, _, .int k n => .int k n
  | _, _, .flt k n => .flt k n
  | _, _, .cplx k m n => .cplx k m n
  | _, _, .str l => .str l
  | _, _, .nilptr => .nilptr
  | _, _, .vptr h => .vptr (hg.1 _ _ h)
  | _, _, .cptr h hm => .cptr (VRs.le hg h) (hm.le hg)
  | _, _, .slice0 ht => .slice0 (ht.le hg)
  | _, _, .slice size hp hl hs h hm ht => .slice size hp hl hs (VRs.le hg h) (hm.le hg) (ht.le hg)
  | _, _, .sref h hl hc => .sref (hg.2.2 _ _ _ h) hl hc
  | _, _, .eptr h => .eptr (hg.2.2 _ _ _ h)
  | _, _, .nilmap => .nilmap
  | _, _, .map h => .map (hg.1 _ _ h)
  | _, _, .func h1 h2 => .func (VRs.le hg h1) (VRs.le hg h2)
  | _, _, .nilFunc => .nilFunc
  | _, _, .iface h => .iface (VR.le hg h)
  | _, _, .nilIface => .nilIface
  | _, _, .agg h => .agg (VRs.le hg h)
  | _, _, .tuple h => .tuple (VRs.le hg h)
theorem VRs.le {g g' : G} (hg : g.le g') : ∀ {xs : List AV} {vs : List Value}, VRs g xs vs → VRs g' xs vs
  | _, _, .nil => .nil
  | _, _, .cons h hs => .cons (VR.le hg h) (VRs.le hg hs)
end

theorem VRs.length {g : G} {xs : List AV} {vs : List Value} (h : VRs g xs vs) : vs.length = xs.length := by
  induction xs generalizing vs with
  | nil => cases h; rfl
  | cons x xs ih => cases h with | cons h hs => simp [ih hs]
theorem VRs.at {g : G} {xs : List AV} {vs : List Value} (h : VRs g xs vs) {i : Nat} {x : AV} (hi : xs[i]? = some x) : ∃ v, vs[i]? = some v ∧ VR g x v := by
  induction xs generalizing vs i with
  | nil => simp at hi
  | cons y xs ih =>
    cases h with
    | cons h hs =>
      cases i with
      | zero => simp at hi; subst hi; exact ⟨_, rfl, h⟩
      | succ i => simp at hi; simpa using ih hs hi
theorem VRs.at' {g : G} {xs : List AV} {vs : List Value} (h : VRs g xs vs) {i : Nat} {v : Value} (hi : vs[i]? = some v) : ∃ x, xs[i]? = some x ∧ VR g x v := by
  induction xs generalizing vs i with
  | nil => cases h; simp at hi
  | cons y xs ih =>
    cases h with
    | cons h hs =>
      cases i with
      | zero => simp at hi; subst hi; exact ⟨_, rfl, h⟩
      | succ i => simp at hi; simpa using ih hs hi
theorem VRs.append {g : G} {xs ys : List AV} {vs ws : List Value} (h : VRs g xs vs) (k : VRs g ys ws) : VRs g (xs ++ ys) (vs ++ ws) := by
  induction xs generalizing vs with
  | nil => cases h; simpa using k
  | cons x xs ih => cases h with | cons h hs => exact .cons h (ih hs)
theorem VRs.take {g : G} {xs : List AV} {vs : List Value} (h : VRs g xs vs) (n : Nat) : VRs g (xs.take n) (vs.take n) := by
  induction xs generalizing vs n with
  | nil => cases h; simp; exact .nil
  | cons x xs ih =>
    cases h with
    | cons h hs =>
      cases n with
      | zero => exact .nil
      | succ n => exact .cons h (ih hs n)
theorem VRs.drop {g : G} {xs : List AV} {vs : List Value} (h : VRs g xs vs) (n : Nat) : VRs g (xs.drop n) (vs.drop n) := by
  induction xs generalizing vs n with
  | nil => cases h; simp; exact .nil
  | cons x xs ih =>
    cases h with
    | cons h hs =>
      cases n with
      | zero => exact .cons h hs
      | succ n => simpa using ih hs n
theorem VRs.set {g : G} {xs : List AV} {vs : List Value} (h : VRs g xs vs) (n : Nat) {x : AV} {v : Value} (hx : VR g x v) : VRs g (xs.set n x) (vs.set n v) := by
  induction xs generalizing vs n with
  | nil => cases h; simp; exact .nil
  | cons y xs ih =>
    cases h with
    | cons h hs =>
      cases n with
      | zero => exact .cons hx hs
      | succ n => exact .cons h (ih hs n)
theorem VRs.replicate {g : G} {x : AV} {v : Value} (hx : VR g x v) (n : Nat) : VRs g (List.replicate n x) (List.replicate n v) := by
  induction n with
  | zero => exact .nil
  | succ n ih => exact .cons hx ih
theorem VRs.split {g : G} {xs ys : List AV} {ws : List Value} (h : VRs g (xs ++ ys) ws) : ∃ us vs, ws = us ++ vs ∧ VRs g xs us ∧ VRs g ys vs := by
  induction xs generalizing ws with
  | nil => exact ⟨[], ws, rfl, .nil, h⟩
  | cons x xs ih =>
    cases h with
    | cons h hs =>
      obtain ⟨us, vs, rfl, h1, h2⟩ := ih hs
      exact ⟨_ :: us, vs, rfl, .cons h h1, h2⟩
theorem VRs.snoc {g : G} {xs : List AV} {vs : List Value} (h : VRs g xs vs) {x : AV} {v : Value} (hx : VR g x v) : VRs g (xs ++ [x]) (vs ++ [v]) := h.append (.cons hx .nil)
theorem VRs.one {g : G} {x : AV} {v : Value} (h : VR g x v) : VRs g [x] [v] := .cons h .nil

theorem flat_append (xs ys : List AV) : flat (xs ++ ys) = flat xs ++ flat ys := by simp [flat]
theorem flat_cons (x : AV) (ys : List AV) : flat (x :: ys) = x.cells ++ flat ys := by simp [flat]
theorem flat_length {xs : List AV} {size : Nat} (h : ∀ x ∈ xs, x.cells.length = size) : (flat xs).length = xs.length * size := by
  induction xs with
  | nil => simp [flat]
  | cons x xs ih =>
    rw [flat_cons, List.length_append, h x (by simp), ih fun y hy => h y (by simp [hy]), List.length_cons, Nat.succ_mul, Nat.add_comm]
theorem flat_take {xs : List AV} {size : Nat} (h : ∀ x ∈ xs, x.cells.length = size) (n : Nat) : flat (xs.take n) = (flat xs).take (n * size) := by
  induction xs generalizing n with
  | nil => simp [flat]
  | cons x xs ih =>
    cases n with
    | zero => simp [flat]
    | succ n =>
      have hx : x.cells.length = size := h x (by simp)
      have e : (n + 1) * size - size = n * size := by rw [Nat.succ_mul]; omega
      have e2 : x.cells.take ((n + 1) * size) = x.cells := List.take_of_length_le (by rw [hx, Nat.succ_mul]; omega)
      rw [List.take_succ_cons, flat_cons, flat_cons, ih (fun y hy => h y (by simp [hy])) n, List.take_append, hx, e, e2]
theorem flat_drop {xs : List AV} {size : Nat} (h : ∀ x ∈ xs, x.cells.length = size) (n : Nat) : flat (xs.drop n) = (flat xs).drop (n * size) := by
  induction xs generalizing n with
  | nil => simp [flat]
  | cons x xs ih =>
    cases n with
    | zero => simp [flat]
    | succ n =>
      have hx : x.cells.length = size := h x (by simp)
      have e : (n + 1) * size - size = n * size := by rw [Nat.succ_mul]; omega
      have e2 : x.cells.drop ((n + 1) * size) = [] := List.drop_of_length_le (by rw [hx, Nat.succ_mul]; omega)
      rw [List.drop_succ_cons, flat_cons, ih (fun y hy => h y (by simp [hy])) n, List.drop_append, hx, e, e2, List.nil_append]
/-- The cells of an element, in the row. -/
theorem flat_at {xs : List AV} {size : Nat} (h : ∀ x ∈ xs, x.cells.length = size) {i : Nat} {x : AV} (hi : xs[i]? = some x) : x.cells = ((flat xs).drop (i * size)).take size := by
  rw [← flat_drop h]
  have : xs.drop i = x :: xs.drop (i + 1) := by
    rw [List.drop_eq_getElem_cons (by exact (List.getElem?_eq_some_iff.1 hi).1)]
    congr 1
    exact (List.getElem?_eq_some_iff.1 hi).2
  rw [this, flat_cons, List.take_append_of_le_length (by rw [h x (List.mem_of_getElem? hi)]; exact Nat.le_refl _), List.take_of_length_le (by rw [h x (List.mem_of_getElem? hi)]; exact Nat.le_refl _)]

/-- What is known of package-level variables: pointers to them. -/
class Ground where
  gt : Nat → Option AV
/-- It is so. -/
def GlobR [Ground] (g : G) : Prop := ∀ n x, Ground.gt n = some x → VR g x (.pointer (some ⟨n, 0, none⟩))
theorem GlobR.le [Ground] {g g' : G} (h : GlobR g) (hg : g.le g') : GlobR g' := fun n x hx => (h n x hx).le hg

/-- Neither a struct, nor a row, nor several results, nor unknown: a value of one cell. -/
def AV.oneCell : AV → Bool
  | .top | .agg _ | .tuple _ => false
  | _ => true
theorem VR.cells1 {g : G} {x : AV} {v : Value} (h : VR g x v) (hx : x.oneCell = true) : v.cells = #[v] ∧ x.cells = [x] := by
  cases h <;> simp_all [AV.oneCell, Value.cells, AV.cells]
/-- A value's cells. -/
theorem VR.cells {g : G} {x : AV} {v : Value} (h : VR g x v) (hx : x.oneCell = true ∨ ∃ cs, x = .agg cs) : VRs g x.cells v.cells.toList := by
  rcases hx with hx | ⟨cs, rfl⟩
  · obtain ⟨h1, h2⟩ := h.cells1 hx
    rw [h1, h2]
    exact .one h
  · cases h with
    | agg h => exact h
end Go.Av
set_option linter.unusedVariables false
set_option linter.unusedSectionVars false
set_option linter.unusedSimpArgs false
namespace Go.Av
open Go.RowKit

abbrev AHeap := List AObj
abbrev Ghost := Nat → Option AObj

/-- The block where an object lies now. -/
def blkOf (g : G) (S : Ghost) (id : Nat) : Option Nat :=
  match S id with
  | some (.lin _ p) => (g.lb id p).map (·.1)
  | some (.row _ v _) => (g.lb id v).map (·.1)
  | some (.var _) => g.φ id
  | some (.map _) => g.φ id
  | some (.dead _) => none
  | none => none

/-- A variable's block. -/
def VarAt (g : G) (w : World) (cs : List AV) (b : Nat) : Prop := ∃ vs e, w.heap[b]? = some (.cells ⟨vs⟩ e (0, 0)) ∧ VRs g cs vs

/-- A map's entries, one born behind the other. -/
def EntsR (g : G) (es : List (AV × AV)) (ents : List MapEntry) : Prop :=
  VRs g (es.map (·.1)) (ents.map (·.key)) ∧ VRs g (es.map (·.2)) (ents.map (·.val)) ∧ ents.map (·.born) = List.range ents.length
theorem EntsR.le {g g' : G} (hg : g.le g') {es : List (AV × AV)} {ents : List MapEntry} (h : EntsR g es ents) : EntsR g' es ents := ⟨h.1.le hg, h.2.1.le hg, h.2.2⟩
def MapAt (g : G) (w : World) (es : List (AV × AV)) (b : Nat) : Prop := ∃ ents, w.heap[b]? = some (.map ⟨ents⟩ ents.length) ∧ EntsR g es ents

/-- A variable, or a map, at its block. -/
def ObjAt (g : G) (w : World) (b : Nat) : AObj → Prop
  | .var cs => VarAt g w cs b
  | .map es => MapAt g w es b
  | _ => False
theorem ObjAt.lt {g : G} {w : World} {b : Nat} {o : AObj} (h : ObjAt g w b o) : b < w.heap.size := by
  cases o with
  | var cs => obtain ⟨_, _, hh, _⟩ := h; exact (Array.getElem?_eq_some_iff.1 hh).1
  | map es => obtain ⟨_, hh, _⟩ := h; exact (Array.getElem?_eq_some_iff.1 hh).1
  | lin e p => cases h
  | row e v cs => cases h
  | dead v => cases h
theorem ObjAt.same {g : G} {w w' : World} {b : Nat} {o : AObj} (h : ObjAt g w b o) (hw : w'.heap[b]? = w.heap[b]?) : ObjAt g w' b o := by
  cases o with
  | var cs => obtain ⟨vs, e, hh, h2⟩ := h; exact ⟨vs, e, by rw [hw]; exact hh, h2⟩
  | map es => obtain ⟨ents, hh, h2⟩ := h; exact ⟨ents, by rw [hw]; exact hh, h2⟩
  | lin e p => cases h
  | row e v cs => cases h
  | dead v => cases h
theorem ObjAt.le {g g' : G} (hg : g.le g') {w : World} {b : Nat} {o : AObj} (h : ObjAt g w b o) : ObjAt g' w b o := by
  cases o with
  | var cs => obtain ⟨vs, e, hh, h2⟩ := h; exact ⟨vs, e, hh, h2.le hg⟩
  | map es => obtain ⟨ents, hh, h2⟩ := h; exact ⟨ents, hh, h2.le hg⟩
  | lin e p => cases h
  | row e v cs => cases h
  | dead v => cases h
theorem ObjAt.ver {g : G} {w : World} {b : Nat} {o : AObj} (h : ObjAt g w b o) : o.ver = none := by
  cases o with
  | var cs => rfl
  | map es => rfl
  | lin e p => cases h
  | row e v cs => cases h
  | dead v => cases h
theorem ObjAt.blk {g : G} {w : World} {b : Nat} {o : AObj} (h : ObjAt g w b o) {g' : G} {S : Ghost} {id : Nat} (hs : S id = some o) : blkOf g' S id = g'.φ id := by
  cases o with
  | var cs => simp [blkOf, hs]
  | map es => simp [blkOf, hs]
  | lin e p => cases h
  | row e v cs => cases h
  | dead v => cases h

/-- A row's block: c elements wide, p in use. -/
def LinAt (P : Program) (g : G) (w : World) (e : TypeId) (p b c : Nat) : Prop :=
  p ≤ c ∧ c ≤ maxLen ∧ ∃ cur i, P.info? e = some i ∧ 0 < i.size ∧ w.heap[b]? = some (.cells cur e (0, 0)) ∧ cur.size = c * i.size ∧ ∀ o, p * i.size ≤ o → g.im b o = none

/-- A mutable row's block: its first cells are known. -/
def RowAt (P : Program) (g : G) (w : World) (e : TypeId) (cs : List AV) (b c : Nat) : Prop :=
  c ≤ maxLen ∧ (∀ o, g.im b o = none) ∧ ∃ cur i, P.info? e = some i ∧ 0 < i.size ∧ w.heap[b]? = some (.cells cur e (0, 0)) ∧ cur.size = c * i.size ∧ VRs g cs (cur.toList.take cs.length)

variable [Ground]
structure Inv (P : Program) (B0 : Nat) (W0 : World) (g : G) (S : Ghost) (w : World) : Prop where
  below : Below B0 W0 w
  base : B0 ≤ w.heap.size
  im : ∀ b o v, g.im b o = some v → w.cell? ⟨b, o, none⟩ = some v
  phi : ∀ id b, g.φ id = some b → B0 ≤ b ∧ (∀ o, g.im b o = none) ∧ ∃ ob, S id = some ob ∧ ObjAt g w b ob
  lin : ∀ t e p b c, S t = some (.lin e p) → g.lb t p = some (b, c) → B0 ≤ b ∧ LinAt P g w e p b c
  row : ∀ t e v cs b c, S t = some (.row e v cs) → g.lb t v = some (b, c) → B0 ≤ b ∧ RowAt P g w e cs b c
  lb : ∀ t p b c, g.lb t p = some (b, c) → ∃ o q, S t = some o ∧ o.ver = some q ∧ p ≤ q ∧ (g.lb t q).isSome
  inj : ∀ id id' b, blkOf g S id = some b → blkOf g S id' = some b → id = id'
  glob : GlobR g

section
variable {P : Program} {B0 : Nat} {W0 w : World} {g : G} {S : Ghost}

theorem Inv.im_lt (h : Inv P B0 W0 g S w) {b o : Nat} {v : Value} (hi : g.im b o = some v) : b < w.heap.size := World.block_lt_of_cell? w ⟨b, o, none⟩ (h.im _ _ _ hi)
theorem heap_lt {w : World} {b : Nat} {o : Obj} (h : w.heap[b]? = some o) : b < w.heap.size := (Array.getElem?_eq_some_iff.1 h).1
theorem Inv.phi_lt (h : Inv P B0 W0 g S w) {id b : Nat} (hi : g.φ id = some b) : b < w.heap.size := by
  obtain ⟨_, _, _, _, ho⟩ := h.phi _ _ hi
  exact ho.lt
/-- A variable. -/
theorem Inv.var (h : Inv P B0 W0 g S w) {id b : Nat} (hi : g.φ id = some b) {cs : List AV} (hs : S id = some (.var cs)) : B0 ≤ b ∧ (∀ o, g.im b o = none) ∧ VarAt g w cs b := by
  obtain ⟨h1, h2, ob, h3, h4⟩ := h.phi _ _ hi
  rw [hs] at h3
  injection h3 with h3
  subst h3
  exact ⟨h1, h2, h4⟩
theorem Inv.map (h : Inv P B0 W0 g S w) {id b : Nat} (hi : g.φ id = some b) {es : List (AV × AV)} (hs : S id = some (.map es)) : B0 ≤ b ∧ (∀ o, g.im b o = none) ∧ MapAt g w es b := by
  obtain ⟨h1, h2, ob, h3, h4⟩ := h.phi _ _ hi
  rw [hs] at h3
  injection h3 with h3
  subst h3
  exact ⟨h1, h2, h4⟩
theorem Inv.lin_lt (h : Inv P B0 W0 g S w) {t e p b c : Nat} (hs : S t = some (.lin e p)) (hi : g.lb t p = some (b, c)) : b < w.heap.size := by
  obtain ⟨_, _, _, _, _, _, _, hh, _⟩ := h.lin _ _ _ _ _ hs hi
  exact heap_lt hh
theorem Inv.row_lt (h : Inv P B0 W0 g S w) {t e v b c : Nat} {cs : List AV} (hs : S t = some (.row e v cs)) (hi : g.lb t v = some (b, c)) : b < w.heap.size := by
  obtain ⟨_, _, _, _, _, _, _, hh, _⟩ := h.row _ _ _ _ _ _ hs hi
  exact heap_lt hh
/-- What an object with a block is. -/
theorem blk_cases {id b : Nat} (hi : blkOf g S id = some b) : (∃ ob, S id = some ob ∧ g.φ id = some b) ∨ (∃ e p c, S id = some (.lin e p) ∧ g.lb id p = some (b, c)) ∨ (∃ e v cs c, S id = some (.row e v cs) ∧ g.lb id v = some (b, c)) := by
  unfold blkOf at hi
  split at hi
  · rename_i e p hs
    cases hl : g.lb id p with
    | none => simp [hl] at hi
    | some x =>
      obtain ⟨b', c⟩ := x
      simp [hl] at hi
      subst hi
      exact .inr (.inl ⟨e, p, c, hs, hl⟩)
  · rename_i e v cs hs
    cases hl : g.lb id v with
    | none => simp [hl] at hi
    | some x =>
      obtain ⟨b', c⟩ := x
      simp [hl] at hi
      subst hi
      exact .inr (.inr ⟨e, v, cs, c, hs, hl⟩)
  · rename_i cs hs; exact .inl ⟨_, hs, hi⟩
  · rename_i es hs; exact .inl ⟨_, hs, hi⟩
  · cases hi
  · cases hi
theorem Inv.blk_lt (h : Inv P B0 W0 g S w) {id b : Nat} (hi : blkOf g S id = some b) : b < w.heap.size := by
  rcases blk_cases hi with ⟨_, _, h1⟩ | ⟨e, p, c, hs, hl⟩ | ⟨e, v, cs, c, hs, hl⟩
  · exact h.phi_lt h1
  · exact h.lin_lt hs hl
  · exact h.row_lt hs hl
theorem Inv.blk_ge (h : Inv P B0 W0 g S w) {id b : Nat} (hi : blkOf g S id = some b) : B0 ≤ b := by
  rcases blk_cases hi with ⟨_, _, h1⟩ | ⟨e, p, c, hs, hl⟩ | ⟨e, v, cs, c, hs, hl⟩
  · exact (h.phi _ _ h1).1
  · exact (h.lin _ _ _ _ _ hs hl).1
  · exact (h.row _ _ _ _ _ _ hs hl).1
theorem Inv.blk_phi (h : Inv P B0 W0 g S w) {id b : Nat} (hi : g.φ id = some b) : blkOf g S id = some b := by
  obtain ⟨_, _, ob, hs, ho⟩ := h.phi _ _ hi
  rw [ho.blk hs, hi]
theorem Inv.phi_lb (h : Inv P B0 W0 g S w) {id b p : Nat} (hi : g.φ id = some b) : g.lb id p = none := by
  cases hl : g.lb id p with
  | none => rfl
  | some x =>
    obtain ⟨b', c⟩ := x
    obtain ⟨_, _, ob, hs, ho⟩ := h.phi _ _ hi
    obtain ⟨o, q, hs', hq, _⟩ := h.lb _ _ _ _ hl
    rw [hs] at hs'
    injection hs' with hs'
    subst hs'
    rw [ho.ver] at hq
    cases hq

/-- Memory that was there has not turned: all stands. -/
theorem Inv.grow (h : Inv P B0 W0 g S w) {w' : World} (hg : w.grownBy w' none) : Inv P B0 W0 g S w' := by
  have hb : ∀ k, k < w.heap.size → w'.heap[k]? = w.heap[k]? := fun k hk => hg.block k hk (by simp)
  refine ⟨h.below.grown hg h.base (by simp), Nat.le_trans h.base hg.size, ?_, ?_, ?_, ?_, h.lb, h.inj, h.glob⟩
  · intro b o v hi
    rw [World.cell?_of_block (w := w) (hb b (h.im_lt hi))]
    exact h.im _ _ _ hi
  · intro id b hi
    obtain ⟨h1, h2, ob, h3, h4⟩ := h.phi _ _ hi
    exact ⟨h1, h2, ob, h3, h4.same (hb b (h.phi_lt hi))⟩
  · intro t e p b c hs hl
    obtain ⟨h1, h2, h3, cur, i, h4, h5, h6, h7⟩ := h.lin _ _ _ _ _ hs hl
    exact ⟨h1, h2, h3, cur, i, h4, h5, by rw [hb b (h.lin_lt hs hl)]; exact h6, h7⟩
  · intro t e v cs b c hs hl
    obtain ⟨h1, h2, h3, cur, i, h4, h5, h6, h7⟩ := h.row _ _ _ _ _ _ hs hl
    exact ⟨h1, h2, h3, cur, i, h4, h5, by rw [hb b (h.row_lt hs hl)]; exact h6, h7⟩
theorem grownBy_alloc0 (w : World) (o : Obj) : w.grownBy (w.alloc o) none := ⟨rfl, rfl, rfl, by simp, fun k hk _ => Below.heap_alloc w o k hk⟩
theorem grownBy_drew0 (w : World) : w.grownBy w.drew none := ⟨rfl, rfl, rfl, Nat.le_refl _, fun _ _ _ => rfl⟩
theorem Inv.drew (h : Inv P B0 W0 g S w) : Inv P B0 W0 g S w.drew := h.grow (grownBy_drew0 w)
theorem Inv.alloc (h : Inv P B0 W0 g S w) (o : Obj) : Inv P B0 W0 g S (w.alloc o) := h.grow (grownBy_alloc0 w o)

/-- An id that nothing is known of. -/
def Unused (g : G) (id : Nat) : Prop := g.φ id = none ∧ ∀ p, g.lb id p = none

/-- One object set. -/
def Ghost.put (S : Ghost) (id : Nat) (o : AObj) : Ghost := fun i => if i = id then some o else S i
theorem Ghost.put_same (S : Ghost) (id : Nat) (o : AObj) : S.put id o id = some o := by simp [Ghost.put]
theorem Ghost.put_other (S : Ghost) {id i : Nat} (o : AObj) (h : i ≠ id) : S.put id o i = S i := by simp [Ghost.put, h]

/-- An object that is nowhere yet may be said to be anything. -/
theorem Inv.recast (h : Inv P B0 W0 g S w) {id : Nat} (hu : Unused g id) (o : AObj) : Inv P B0 W0 g (S.put id o) w := by
  have hn : ∀ S' : Ghost, blkOf g S' id = none := by
    intro S'
    unfold blkOf
    split
    · simp [hu.2]
    · simp [hu.2]
    · exact hu.1
    · exact hu.1
    · rfl
    · rfl
  have ho : ∀ i, i ≠ id → blkOf g (S.put id o) i = blkOf g S i := by
    intro i hi
    simp only [blkOf, S.put_other o hi]
  refine ⟨h.below, h.base, h.im, ?_, ?_, ?_, ?_, ?_, h.glob⟩
  · intro i b hi
    have hne : i ≠ id := by rintro rfl; rw [hu.1] at hi; cases hi
    rw [S.put_other o hne]
    exact h.phi _ _ hi
  · intro t e p b c hs hl
    have hne : t ≠ id := by rintro rfl; rw [hu.2] at hl; cases hl
    rw [S.put_other o hne] at hs
    exact h.lin _ _ _ _ _ hs hl
  · intro t e v cs b c hs hl
    have hne : t ≠ id := by rintro rfl; rw [hu.2] at hl; cases hl
    rw [S.put_other o hne] at hs
    exact h.row _ _ _ _ _ _ hs hl
  · intro t p b c hl
    have hne : t ≠ id := by rintro rfl; rw [hu.2] at hl; cases hl
    rw [S.put_other o hne]
    exact h.lb _ _ _ _ hl
  · intro i i' b h1 h2
    by_cases e1 : i = id
    · subst e1; rw [hn] at h1; cases h1
    · by_cases e2 : i' = id
      · subst e2; rw [hn] at h2; cases h2
      · rw [ho _ e1] at h1; rw [ho _ e2] at h2; exact h.inj _ _ _ h1 h2

/-- A new variable. -/
def G.addVar (g : G) (id b : Nat) : G := { g with φ := fun i => if i = id then some b else g.φ i }
theorem G.le_addVar {g : G} {id : Nat} (hu : g.φ id = none) (b : Nat) : g.le (g.addVar id b) := by
  refine ⟨fun i x hx => ?_, fun _ _ _ h => h, fun _ _ _ h => h⟩
  simp only [G.addVar]
  split
  · rename_i e; subst e; rw [hu] at hx; cases hx
  · exact hx
theorem Inv.newObj (h : Inv P B0 W0 g S w) {id : Nat} (hu : Unused g id) {o : AObj} {ob : Obj} (hc : ObjAt (g.addVar id w.heap.size) (w.alloc ob) w.heap.size o) :
    Inv P B0 W0 (g.addVar id w.heap.size) (S.put id o) (w.alloc ob) := by
  have hle := G.le_addVar hu.1 w.heap.size
  have h' := (h.recast hu o).alloc ob
  have hbo : ∀ i, i ≠ id → blkOf (g.addVar id w.heap.size) (S.put id o) i = blkOf g (S.put id o) i := by
    intro i hi
    simp only [blkOf, S.put_other _ hi, G.addVar, if_neg hi]
  have hbs : blkOf (g.addVar id w.heap.size) (S.put id o) id = some w.heap.size := by
    rw [hc.blk (S.put_same _ _)]; simp [G.addVar]
  refine ⟨h'.below, h'.base, h'.im, ?_, ?_, ?_, ?_, ?_, h.glob.le hle⟩
  · intro i b hi
    by_cases e1 : i = id
    · subst e1
      simp only [G.addVar, if_true, Option.some.injEq] at hi
      subst hi
      refine ⟨h.base, fun o => ?_, o, S.put_same _ _, hc⟩
      cases hh : (g.addVar i w.heap.size).im w.heap.size o with
      | none => rfl
      | some v => exact absurd (h.im_lt (b := w.heap.size) (o := o) (v := v) hh) (Nat.lt_irrefl _)
    · simp only [G.addVar, if_neg e1] at hi
      obtain ⟨h1, h2, ob', h3, h4⟩ := h'.phi _ _ hi
      exact ⟨h1, h2, ob', h3, h4.le hle⟩
  · intro t e' p b c hs hl
    exact h'.lin t e' p b c hs hl
  · intro t e' v cs b c hs hl
    obtain ⟨h1, h2, h3, cur, i, h4, h5, h6, h7, h8⟩ := h'.row t e' v cs b c hs hl
    exact ⟨h1, h2, h3, cur, i, h4, h5, h6, h7, h8.le hle⟩
  · intro t p b c hl
    exact h'.lb t p b c hl
  · intro i i' b h1 h2
    by_cases e1 : i = id
    · by_cases e2 : i' = id
      · rw [e1, e2]
      · subst e1
        rw [hbs] at h1
        injection h1 with h1
        rw [hbo _ e2] at h2
        have := (h.recast hu o).blk_lt h2
        omega
    · by_cases e2 : i' = id
      · subst e2
        rw [hbs] at h2
        injection h2 with h2
        rw [hbo _ e1] at h1
        have := (h.recast hu o).blk_lt h1
        omega
      · rw [hbo _ e1] at h1; rw [hbo _ e2] at h2; exact h'.inj _ _ _ h1 h2
theorem Inv.newVar (h : Inv P B0 W0 g S w) {id : Nat} (hu : Unused g id) {cs : List AV} {vs : List Value} (hc : VRs g cs vs) (e : TypeId) :
    Inv P B0 W0 (g.addVar id w.heap.size) (S.put id (.var cs)) (w.alloc (.cells ⟨vs⟩ e (0, 0))) :=
  h.newObj hu ⟨vs, e, heap_alloc_new w _, hc.le (G.le_addVar hu.1 _)⟩

/-- A variable, a map written. -/
theorem Inv.setObj (h : Inv P B0 W0 g S w) {id b : Nat} (hb : g.φ id = some b) {o : AObj} {w' : World} (hw : ObjAt g w' b o)
    (hg : w.grownBy w' (some b)) : Inv P B0 W0 g (S.put id o) w' := by
  obtain ⟨hge, him, ob0, hs0, ho0⟩ := h.phi _ _ hb
  have hlt := h.phi_lt hb
  have hk : ∀ k, k < w.heap.size → k ≠ b → w'.heap[k]? = w.heap[k]? := fun k hk hne => hg.block k hk (by simpa using hne)
  have hbo : ∀ i, blkOf g (S.put id o) i = blkOf g S i := by
    intro i
    by_cases e1 : i = id
    · subst e1; rw [ho0.blk hs0, hw.blk (S.put_same _ _)]
    · simp only [blkOf, S.put_other _ e1]
  have hne : ∀ i x, blkOf g S i = some x → i ≠ id → x ≠ b := by
    rintro i x hx hi rfl
    exact hi (h.inj _ _ _ hx (h.blk_phi hb))
  refine ⟨h.below.grown hg h.base (fun k hk => by injection hk with hk; omega), Nat.le_trans h.base hg.size, ?_, ?_, ?_, ?_, ?_, ?_, h.glob⟩
  · intro b' o v hi
    have hb' : b' ≠ b := by rintro rfl; rw [him] at hi; cases hi
    rw [World.cell?_of_block (w := w) (hk b' (h.im_lt hi) hb')]
    exact h.im _ _ _ hi
  · intro i x hi
    by_cases e1 : i = id
    · subst e1
      rw [hb] at hi
      injection hi with hi
      subst hi
      exact ⟨hge, him, o, S.put_same _ _, hw⟩
    · rw [S.put_other _ e1]
      obtain ⟨h1, h2, ob', h3, h4⟩ := h.phi _ _ hi
      exact ⟨h1, h2, ob', h3, h4.same (hk x (h.phi_lt hi) (hne _ _ (h.blk_phi hi) e1))⟩
  · intro t e' p x c hs hl
    have e1 : t ≠ id := by
      rintro rfl
      rw [h.phi_lb hb] at hl
      cases hl
    rw [S.put_other _ e1] at hs
    obtain ⟨h1, h2, h3, cur, i, h4, h5, h6, h7⟩ := h.lin _ _ _ _ _ hs hl
    have hx : blkOf g S t = some x := by simp [blkOf, hs, hl]
    exact ⟨h1, h2, h3, cur, i, h4, h5, by rw [hk x (h.lin_lt hs hl) (hne _ _ hx e1)]; exact h6, h7⟩
  · intro t e' v cs x c hs hl
    have e1 : t ≠ id := by
      rintro rfl
      rw [h.phi_lb hb] at hl
      cases hl
    rw [S.put_other _ e1] at hs
    obtain ⟨h1, h2, h3, cur, i, h4, h5, h6, h7⟩ := h.row _ _ _ _ _ _ hs hl
    have hx : blkOf g S t = some x := by simp [blkOf, hs, hl]
    exact ⟨h1, h2, h3, cur, i, h4, h5, by rw [hk x (h.row_lt hs hl) (hne _ _ hx e1)]; exact h6, h7⟩
  · intro t p x c hl
    have e1 : t ≠ id := by
      rintro rfl
      rw [h.phi_lb hb] at hl
      cases hl
    rw [S.put_other _ e1]
    exact h.lb _ _ _ _ hl
  · intro i i' x h1 h2
    rw [hbo] at h1 h2
    exact h.inj _ _ _ h1 h2
theorem Inv.setVar (h : Inv P B0 W0 g S w) {id b : Nat} (hb : g.φ id = some b) {cs : List AV} {vs : List Value} (hc : VRs g cs vs) {w' : World} (e : TypeId) (hw : w'.heap[b]? = some (.cells ⟨vs⟩ e (0, 0)))
    (hg : w.grownBy w' (some b)) : Inv P B0 W0 g (S.put id (.var cs)) w' := h.setObj hb ⟨vs, e, hw, hc⟩ hg

/-- A mutable row written in place. -/
theorem Inv.setRow (h : Inv P B0 W0 g S w) {t e v b c : Nat} {cs cs' : List AV} (hs : S t = some (.row e v cs)) (hb : g.lb t v = some (b, c)) {w' : World} {cur : Array Value} {i : TypeInfo} (hi : P.info? e = some i) (hw : w'.heap[b]? = some (.cells cur e (0, 0)))
    (hsz : cur.size = c * i.size) (hv : VRs g cs' (cur.toList.take cs'.length)) (hg : w.grownBy w' (some b)) : Inv P B0 W0 g (S.put t (.row e v cs')) w' := by
  obtain ⟨hge, hcm, him, cur0, i0, hi0, hp0, hh0, hcs0, hv0⟩ := h.row _ _ _ _ _ _ hs hb
  have hlt := h.row_lt hs hb
  have hk : ∀ k, k < w.heap.size → k ≠ b → w'.heap[k]? = w.heap[k]? := fun k hk hne => hg.block k hk (by simpa using hne)
  have hbt : blkOf g S t = some b := by simp [blkOf, hs, hb]
  have hbo : ∀ i, blkOf g (S.put t (.row e v cs')) i = blkOf g S i := by
    intro i
    by_cases e1 : i = t
    · subst e1; simp [blkOf, Ghost.put, hs]
    · simp only [blkOf, S.put_other _ e1]
  have hne : ∀ i x, blkOf g S i = some x → i ≠ t → x ≠ b := by
    rintro i x hx hi rfl
    exact hi (h.inj _ _ _ hx hbt)
  refine ⟨h.below.grown hg h.base (fun k hk => by injection hk with hk; omega), Nat.le_trans h.base hg.size, ?_, ?_, ?_, ?_, ?_, ?_, h.glob⟩
  · intro b' o v hi
    have hb' : b' ≠ b := by rintro rfl; rw [him] at hi; cases hi
    rw [World.cell?_of_block (w := w) (hk b' (h.im_lt hi) hb')]
    exact h.im _ _ _ hi
  · intro i x hi
    have e1 : i ≠ t := by
      rintro rfl
      rw [h.phi_lb hi] at hb
      cases hb
    rw [S.put_other _ e1]
    obtain ⟨h1, h2, ob', h3, h4⟩ := h.phi _ _ hi
    exact ⟨h1, h2, ob', h3, h4.same (hk x (h.phi_lt hi) (hne _ _ (h.blk_phi hi) e1))⟩
  · intro t' e' p x c hs' hl
    have e1 : t' ≠ t := by rintro rfl; rw [S.put_same] at hs'; cases hs'
    rw [S.put_other _ e1] at hs'
    obtain ⟨h1, h2, h3, cur, i, h4, h5, h6, h7⟩ := h.lin _ _ _ _ _ hs' hl
    have hx : blkOf g S t' = some x := by simp [blkOf, hs', hl]
    exact ⟨h1, h2, h3, cur, i, h4, h5, by rw [hk x (h.lin_lt hs' hl) (hne _ _ hx e1)]; exact h6, h7⟩
  · intro t' e' v' cs2 x c2 hs' hl
    by_cases e1 : t' = t
    · subst e1
      rw [S.put_same] at hs'
      injection hs' with hs'
      injection hs' with q1 q2 q3
      subst q1; subst q2; subst q3
      rw [hb] at hl
      injection hl with hl
      injection hl with q1 q2
      subst q1; subst q2
      rw [hi] at hi0
      injection hi0 with hi0
      subst hi0
      exact ⟨hge, hcm, him, cur, i, hi, hp0, hw, hsz, hv⟩
    · rw [S.put_other _ e1] at hs'
      obtain ⟨h1, h2, h3, cur, i, h4, h5, h6, h7⟩ := h.row _ _ _ _ _ _ hs' hl
      have hx : blkOf g S t' = some x := by simp [blkOf, hs', hl]
      exact ⟨h1, h2, h3, cur, i, h4, h5, by rw [hk x (h.row_lt hs' hl) (hne _ _ hx e1)]; exact h6, h7⟩
  · intro t' p x c hl
    by_cases e1 : t' = t
    · subst e1
      obtain ⟨o, q, h1, h2, h3⟩ := h.lb _ _ _ _ hl
      rw [hs] at h1
      injection h1 with h1
      subst h1
      exact ⟨_, q, S.put_same _ _, h2, h3⟩
    · rw [S.put_other _ e1]
      exact h.lb _ _ _ _ hl
  · intro i i' x h1 h2
    rw [hbo] at h1 h2
    exact h.inj _ _ _ h1 h2

/-- New cells that stay as they are. -/
def G.addIm (g : G) (b : Nat) (lo hi : Nat) (vs : Nat → Option Value) : G := { g with im := fun b' o => if b' = b ∧ lo ≤ o ∧ o < hi then vs o else g.im b' o }
theorem G.le_addIm {g : G} {b lo hi : Nat} {vs : Nat → Option Value} (h : ∀ o v, lo ≤ o → o < hi → g.im b o = some v → vs o = some v) : g.le (g.addIm b lo hi vs) := by
  refine ⟨fun _ _ h => h, fun b' o v hx => ?_, fun _ _ _ h => h⟩
  simp only [G.addIm]
  split
  · rename_i hc
    obtain ⟨rfl, h1, h2⟩ := hc
    exact h _ _ h1 h2 hx
  · exact hx
/-- Cells of a block that is no object's: they may be held. -/
theorem Inv.hold (h : Inv P B0 W0 g S w) {b lo hi : Nat} {vs : Nat → Option Value} (hv : ∀ o v, lo ≤ o → o < hi → vs o = some v → w.cell? ⟨b, o, none⟩ = some v)
    (hle : ∀ o v, lo ≤ o → o < hi → g.im b o = some v → vs o = some v)
    (hphi : ∀ id, g.φ id ≠ some b) (hlin : ∀ t e p c i, S t = some (.lin e p) → g.lb t p = some (b, c) → P.info? e = some i → hi ≤ p * i.size)
    (hrow : ∀ t e v cs c, S t = some (.row e v cs) → g.lb t v ≠ some (b, c)) :
    Inv P B0 W0 (g.addIm b lo hi vs) S w := by
  have hl := G.le_addIm hle
  refine ⟨h.below, h.base, ?_, ?_, ?_, ?_, h.lb, h.inj, h.glob.le hl⟩
  · intro b' o v hx
    simp only [G.addIm] at hx
    split at hx
    · rename_i hc
      obtain ⟨rfl, h1, h2⟩ := hc
      exact hv _ _ h1 h2 hx
    · exact h.im _ _ _ hx
  · intro id b' hi'
    obtain ⟨h1, h2, ob', h3, h4⟩ := h.phi _ _ hi'
    refine ⟨h1, fun o => ?_, ob', h3, h4.le hl⟩
    simp only [G.addIm]
    rw [if_neg]
    · exact h2 o
    · rintro ⟨rfl, _⟩; exact hphi _ hi'
  · intro t e p b' c hs hlb
    obtain ⟨h1, h2, h3, cur, i, h4, h5, h6, h7, h8⟩ := h.lin _ _ _ _ _ hs hlb
    refine ⟨h1, h2, h3, cur, i, h4, h5, h6, h7, fun o ho => ?_⟩
    simp only [G.addIm]
    rw [if_neg]
    · exact h8 o ho
    · rintro ⟨rfl, _, hlt⟩
      have := hlin _ _ _ _ _ hs hlb h4
      omega
  · intro t e v cs b' c hs hlb
    obtain ⟨h1, h2, h3, cur, i, h4, h5, h6, h7, h8⟩ := h.row _ _ _ _ _ _ hs hlb
    refine ⟨h1, h2, fun o => ?_, cur, i, h4, h5, h6, h7, h8.le hl⟩
    simp only [G.addIm]
    rw [if_neg]
    · exact h3 o
    · rintro ⟨rfl, _⟩; exact hrow _ _ _ _ _ hs hlb
end
end Go.Av
set_option linter.unusedVariables false
set_option linter.unusedSectionVars false
set_option linter.unusedSimpArgs false
namespace Go.Av
open Go.RowKit

def G.addLin (g : G) (t p b c : Nat) : G := { g with lb := fun t' p' => if t' = t ∧ p' = p then some (b, c) else g.lb t' p' }
theorem G.le_addLin {g : G} {t p b c : Nat} (h : g.lb t p = none) : g.le (g.addLin t p b c) := by
  refine ⟨fun _ _ h => h, fun _ _ _ h => h, fun t' p' x hx => ?_⟩
  simp only [G.addLin]
  split
  · rename_i hc; obtain ⟨rfl, rfl⟩ := hc; rw [h] at hx; cases hx
  · exact hx

section
variable [Ground] {P : Program} {B0 : Nat} {W0 w : World} {g : G} {S : Ghost}

/-- What was known of row t: nothing; or that it lay in block 'row', p0 elements in use, fewer than p. -/
def RowWas (P : Program) (g : G) (S : Ghost) (w w' : World) (t p b1 : Nat) (e : TypeId) (row : Option Nat) : Prop :=
  (Unused g t ∧ row = none ∧ w.heap.size ≤ b1) ∨
  ∃ p0 b0 c0, S t = some (.lin e p0) ∧ g.lb t p0 = some (b0, c0) ∧ p0 < p ∧ row = some b0 ∧ (b1 = b0 ∨ w.heap.size ≤ b1) ∧
    ∀ i o v, P.info? e = some i → o < p0 * i.size → w.cell? ⟨b0, o, none⟩ = some v → b1 = b0 → w'.cell? ⟨b0, o, none⟩ = some v

theorem Inv.lined (h : Inv P B0 W0 g S w) {w' : World} {t p b1 c1 : Nat} {e : TypeId} {row : Option Nat} {cur : Array Value} {i : TypeInfo}
    (hg : w.grownBy w' row) (hi : P.info? e = some i) (hsz : 0 < i.size) (hh : w'.heap[b1]? = some (.cells cur e (0, 0))) (hcs : cur.size = c1 * i.size) (hpc : p ≤ c1) (hcm : c1 ≤ maxLen)
    (hrow : RowWas P g S w w' t p b1 e row)
    (hkeep : ∀ t' p0 b0 c0 o v, S t' = some (.lin e p0) → g.lb t' p0 = some (b0, c0) → row = some b0 → g.im b0 o = some v → w'.cell? ⟨b0, o, none⟩ = some v)
    (hrowcell : ∀ b0, row = some b0 → b1 ≠ b0 → w'.heap[b0]? = w.heap[b0]?) :
    ∃ g', g.le g' ∧ Inv P B0 W0 g' (S.put t (.lin e p)) w' ∧ g'.lb t p = some (b1, c1) ∧ Held g' b1 0 (cur.toList.take (p * i.size)) ∧ g'.φ = g.φ ∧ (∀ t' p', t' ≠ t → g'.lb t' p' = g.lb t' p') := by
  have hb1 : w.heap.size ≤ b1 ∨ ∃ p0 c0, S t = some (.lin e p0) ∧ g.lb t p0 = some (b1, c0) := by
    rcases hrow with ⟨_, _, h1⟩ | ⟨p0, b0, c0, h1, h2, _, _, h3 | h3, _⟩
    · exact .inl h1
    · subst h3; exact .inr ⟨p0, c0, h1, h2⟩
    · exact .inl h3
  have hB1 : B0 ≤ b1 := by
    rcases hb1 with h1 | ⟨p0, c0, h1, h2⟩
    · have := h.base; omega
    · exact (h.lin _ _ _ _ _ h1 h2).1
  have hblk_ne : ∀ id x, blkOf g S id = some x → id ≠ t → x ≠ b1 := by
    rintro id x hx hne rfl
    rcases hb1 with h1 | ⟨p0, c0, h1, h2⟩
    · have := h.blk_lt hx; omega
    · exact hne (h.inj _ _ _ hx (by simp [blkOf, h1, h2]))
  have hrow_ne : ∀ id x, blkOf g S id = some x → id ≠ t → row ≠ some x := by
    rintro id x hx hne hr
    rcases hrow with ⟨_, h1, _⟩ | ⟨p0, b0, c0, h1, h2, _, h3, _⟩
    · rw [h1] at hr; cases hr
    · rw [h3] at hr
      injection hr with hr
      subst hr
      exact hne (h.inj _ _ _ hx (by simp [blkOf, h1, h2]))
  have hphi_t : g.φ t = none := by
    cases hp : g.φ t with
    | none => rfl
    | some x =>
      rcases hrow with ⟨h1, _⟩ | ⟨p0, b0, c0, h1, _⟩
      · rw [h1.1] at hp; cases hp
      · obtain ⟨_, _, ob, h2, h3⟩ := h.phi _ _ hp
        rw [h1] at h2
        injection h2 with h2
        subst h2
        cases h3
  have hlbt : g.lb t p = none := by
    rcases hrow with ⟨h1, _⟩ | ⟨p0, b0, c0, h1, h2, h3, _⟩
    · exact h1.2 _
    · cases hp : g.lb t p with
      | none => rfl
      | some x =>
        obtain ⟨b, c⟩ := x
        obtain ⟨o', q, h4, h5, h6, _⟩ := h.lb _ _ _ _ hp
        rw [h1] at h4
        injection h4 with h4
        subst h4
        injection h5 with h5
        omega
  have hrow_lt : ∀ k, row = some k → B0 ≤ k ∧ k < w.heap.size := by
    intro k hk
    rcases hrow with ⟨_, h1, _⟩ | ⟨p0, b0, c0, h1, h2, _, h3, _⟩
    · rw [h1] at hk; cases hk
    · rw [h3] at hk
      injection hk with hk
      subst hk
      exact ⟨(h.lin _ _ _ _ _ h1 h2).1, h.lin_lt h1 h2⟩
  -- cells that are held stay so
  have him : ∀ b o v, g.im b o = some v → w'.cell? ⟨b, o, none⟩ = some v := by
    intro b o v hx
    by_cases hr : row = some b
    · rcases hrow with ⟨_, h1, _⟩ | ⟨p0, b0, c0, h1, h2, _, h3, _⟩
      · rw [h1] at hr; cases hr
      · rw [h3] at hr
        injection hr with hr
        subst hr
        exact hkeep _ _ _ _ _ _ h1 h2 h3 hx
    · rw [World.cell?_of_block (w := w) (hg.block b (h.im_lt hx) (fun e => hr e.symm))]
      exact h.im _ _ _ hx
  have hcell : ∀ o v, cur[o]? = some v → w'.cell? ⟨b1, o, none⟩ = some v := by
    intro o v hv
    simp [World.cell?, hh, hv]
  let g1 := g.addIm b1 0 (p * i.size) (fun o => cur[o]?)
  have hle1 : g.le g1 := by
    refine G.le_addIm fun o v _ ho hx => ?_
    have := him _ _ _ hx
    simp [World.cell?, hh] at this
    exact this
  have hle2 : g1.le (g1.addLin t p b1 c1) := G.le_addLin (by exact hlbt)
  have hle := hle1.trans hle2
  have hbo : ∀ id, id ≠ t → blkOf (g1.addLin t p b1 c1) (S.put t (.lin e p)) id = blkOf g S id := by
    intro id hne
    simp only [blkOf, S.put_other _ hne]
    cases S id with
    | none => rfl
    | some ob =>
      cases ob with
      | var cs => rfl
      | map es => rfl
      | dead v => rfl
      | lin e' p' => simp [G.addLin, hne, g1, G.addIm]
      | row e' v cs => simp [G.addLin, hne, g1, G.addIm]
  have hbt : blkOf (g1.addLin t p b1 c1) (S.put t (.lin e p)) t = some b1 := by simp [blkOf, Ghost.put, G.addLin]
  refine ⟨g1.addLin t p b1 c1, hle, ⟨?_, ?_, ?_, ?_, ?_, ?_, ?_, ?_, h.glob.le hle⟩, by simp [G.addLin], ?_, rfl, ?_⟩
  · exact h.below.grown hg h.base (fun k hk => (hrow_lt k hk).1)
  · exact Nat.le_trans h.base hg.size
  · intro b o v hx
    simp only [G.addLin, g1, G.addIm] at hx
    split at hx
    · rename_i hc
      obtain ⟨rfl, _, _⟩ := hc
      exact hcell _ _ hx
    · exact him _ _ _ hx
  · intro id b hx
    have hx' : g.φ id = some b := hx
    obtain ⟨h1, h2, ob, h3, h4⟩ := h.phi _ _ hx'
    have hne : id ≠ t := by rintro rfl; rw [hphi_t] at hx'; cases hx'
    have hblk := h.blk_phi hx'
    refine ⟨h1, fun o => ?_, ob, by rw [S.put_other _ hne]; exact h3, (h4.same (hg.block b (h.phi_lt hx') (fun e => hrow_ne _ _ hblk hne e.symm))).le hle⟩
    simp only [G.addLin, g1, G.addIm]
    rw [if_neg]
    · exact h2 o
    · rintro ⟨rfl, _⟩; exact hblk_ne _ _ hblk hne rfl
  · intro t' e' p' b c hs hl
    by_cases hne : t' = t
    · subst hne
      rw [S.put_same] at hs
      injection hs with hs
      injection hs with he hp
      subst he; subst hp
      simp only [G.addLin, and_self, if_true, Option.some.injEq, Prod.mk.injEq] at hl
      obtain ⟨rfl, rfl⟩ := hl
      refine ⟨hB1, hpc, hcm, cur, i, hi, hsz, hh, hcs, fun o ho => ?_⟩
      simp only [G.addLin, g1, G.addIm]
      rw [if_neg (by omega)]
      cases hx : g.im b1 o with
      | none => rfl
      | some v =>
        exfalso
        rcases hb1 with h1 | ⟨p0, c0, h1, h2⟩
        · have := h.im_lt hx; omega
        · obtain ⟨_, _, _, cur0, i0, h4, _, _, _, h8⟩ := h.lin _ _ _ _ _ h1 h2
          rw [hi] at h4
          injection h4 with h4
          subst h4
          rcases hrow with ⟨hu, _⟩ | ⟨p0', b0, c0', h1', _, h3', _⟩
          · rw [hu.2] at h2; cases h2
          · rw [h1] at h1'
            injection h1' with h1'
            injection h1' with _ h1'
            subst h1'
            have := Nat.mul_le_mul_right i.size (Nat.le_of_lt h3')
            rw [h8 o (by omega)] at hx
            cases hx
    · rw [S.put_other _ hne] at hs
      have hl' : g.lb t' p' = some (b, c) := by simpa [G.addLin, hne, g1, G.addIm] using hl
      obtain ⟨h1, h2, h3, cur0, i0, h4, h5, h6, h7, h8⟩ := h.lin _ _ _ _ _ hs hl'
      have hblk : blkOf g S t' = some b := by simp [blkOf, hs, hl']
      refine ⟨h1, h2, h3, cur0, i0, h4, h5, ?_, h7, fun o ho => ?_⟩
      · rw [hg.block b (h.lin_lt hs hl') (fun e => hrow_ne _ _ hblk hne e.symm)]
        exact h6
      · simp only [G.addLin, g1, G.addIm]
        rw [if_neg]
        · exact h8 o ho
        · rintro ⟨rfl, _⟩; exact hblk_ne _ _ hblk hne rfl
  · intro t' e' v' cs' b c hs hl
    have hne : t' ≠ t := by rintro rfl; rw [S.put_same] at hs; cases hs
    rw [S.put_other _ hne] at hs
    have hl' : g.lb t' v' = some (b, c) := by simpa [G.addLin, hne, g1, G.addIm] using hl
    obtain ⟨h1, h2, h3, cur0, i0, h4, h5, h6, h7, h8⟩ := h.row _ _ _ _ _ _ hs hl'
    have hblk : blkOf g S t' = some b := by simp [blkOf, hs, hl']
    refine ⟨h1, h2, fun o => ?_, cur0, i0, h4, h5, ?_, h7, h8.le hle⟩
    · simp only [G.addLin, g1, G.addIm]
      rw [if_neg]
      · exact h3 o
      · rintro ⟨rfl, _⟩; exact hblk_ne _ _ hblk hne rfl
    · rw [hg.block b (h.row_lt hs hl') (fun e => hrow_ne _ _ hblk hne e.symm)]
      exact h6
  · intro t' p' b c hl
    by_cases hne : t' = t
    · subst hne
      refine ⟨.lin e p, p, S.put_same _ _, rfl, ?_, by simp [G.addLin]⟩
      by_cases hp : p' = p
      · omega
      · have hl' : g.lb t' p' = some (b, c) := by simpa [G.addLin, hp, g1, G.addIm] using hl
        obtain ⟨o', q, h1, h2, h2', _⟩ := h.lb _ _ _ _ hl'
        rcases hrow with ⟨hu, _⟩ | ⟨p0', b0, c0', h1', _, h3', _⟩
        · rw [hu.2] at hl'; cases hl'
        · rw [h1] at h1'
          injection h1' with h1'
          subst h1'
          injection h2 with h2
          omega
    · have hl' : g.lb t' p' = some (b, c) := by simpa [G.addLin, hne, g1, G.addIm] using hl
      obtain ⟨o', q, h1, h2, h2', h3⟩ := h.lb _ _ _ _ hl'
      exact ⟨o', q, by rw [S.put_other _ hne]; exact h1, h2, h2', by simpa [G.addLin, hne, g1, G.addIm] using h3⟩
  · intro id id' b h1 h2
    by_cases e1 : id = t
    · by_cases e2 : id' = t
      · rw [e1, e2]
      · subst e1
        rw [hbt] at h1
        injection h1 with h1
        subst h1
        rw [hbo _ e2] at h2
        exact absurd rfl (hblk_ne _ _ h2 e2)
    · by_cases e2 : id' = t
      · subst e2
        rw [hbt] at h2
        injection h2 with h2
        subst h2
        rw [hbo _ e1] at h1
        exact absurd rfl (hblk_ne _ _ h1 e1)
      · rw [hbo _ e1] at h1; rw [hbo _ e2] at h2; exact h.inj _ _ _ h1 h2
  · intro j v hj
    have hlt : j < p * i.size := by
      have := (List.getElem?_eq_some_iff.1 hj).1
      simp at this
      omega
    have hj' : cur[j]? = some v := by
      rw [List.getElem?_take_of_lt hlt] at hj
      simpa using hj
    simp only [G.addLin, g1, G.addIm, Nat.zero_add]
    simp [hlt, hj']
  · intro t' p' hne
    simp [G.addLin, hne, g1, G.addIm]

/-- What was known of a mutable row: nothing; or that it lay in block 'row', an elder version. -/
def RowKnown (g : G) (S : Ghost) (w : World) (t v b1 : Nat) (row : Option Nat) : Prop :=
  (Unused g t ∧ row = none ∧ w.heap.size ≤ b1) ∨
  ∃ e0 v0 cs0 b0 c0, S t = some (.row e0 v0 cs0) ∧ g.lb t v0 = some (b0, c0) ∧ v0 < v ∧ row = some b0 ∧ (b1 = b0 ∨ w.heap.size ≤ b1)

/-- A mutable row: a new one, or its next version. -/
theorem Inv.rowed (h : Inv P B0 W0 g S w) {w' : World} {t v b1 c1 : Nat} {e : TypeId} {cs : List AV} {row : Option Nat} {cur : Array Value} {i : TypeInfo}
    (hg : w.grownBy w' row) (hi : P.info? e = some i) (hsz : 0 < i.size) (hh : w'.heap[b1]? = some (.cells cur e (0, 0))) (hcs : cur.size = c1 * i.size) (hcm : c1 ≤ maxLen)
    (hv : VRs g cs (cur.toList.take cs.length)) (hrow : RowKnown g S w t v b1 row) :
    ∃ g', g.le g' ∧ Inv P B0 W0 g' (S.put t (.row e v cs)) w' ∧ g'.lb t v = some (b1, c1) ∧ g'.φ = g.φ ∧ (∀ t' p', t' ≠ t → g'.lb t' p' = g.lb t' p') := by
  have hb1 : w.heap.size ≤ b1 ∨ ∃ e0 v0 cs0 c0, S t = some (.row e0 v0 cs0) ∧ g.lb t v0 = some (b1, c0) := by
    rcases hrow with ⟨_, _, h1⟩ | ⟨e0, v0, cs0, b0, c0, h1, h2, _, _, h3 | h3⟩
    · exact .inl h1
    · subst h3; exact .inr ⟨e0, v0, cs0, c0, h1, h2⟩
    · exact .inl h3
  have hB1 : B0 ≤ b1 := by
    rcases hb1 with h1 | ⟨e0, v0, cs0, c0, h1, h2⟩
    · have := h.base; omega
    · exact (h.row _ _ _ _ _ _ h1 h2).1
  have hblk_ne : ∀ id x, blkOf g S id = some x → id ≠ t → x ≠ b1 := by
    rintro id x hx hne rfl
    rcases hb1 with h1 | ⟨e0, v0, cs0, c0, h1, h2⟩
    · have := h.blk_lt hx; omega
    · exact hne (h.inj _ _ _ hx (by simp [blkOf, h1, h2]))
  have hrow_ne : ∀ id x, blkOf g S id = some x → id ≠ t → row ≠ some x := by
    rintro id x hx hne hr
    rcases hrow with ⟨_, h1, _⟩ | ⟨e0, v0, cs0, b0, c0, h1, h2, _, h3, _⟩
    · rw [h1] at hr; cases hr
    · rw [h3] at hr
      injection hr with hr
      subst hr
      exact hne (h.inj _ _ _ hx (by simp [blkOf, h1, h2]))
  have hphi_t : g.φ t = none := by
    cases hp : g.φ t with
    | none => rfl
    | some x =>
      rcases hrow with ⟨h1, _⟩ | ⟨e0, v0, cs0, b0, c0, h1, h2, _⟩
      · rw [h1.1] at hp; cases hp
      · rw [h.phi_lb hp] at h2; cases h2
  have hlbt : g.lb t v = none := by
    rcases hrow with ⟨h1, _⟩ | ⟨e0, v0, cs0, b0, c0, h1, h2, h3, _⟩
    · exact h1.2 _
    · cases hp : g.lb t v with
      | none => rfl
      | some x =>
        obtain ⟨b, c⟩ := x
        obtain ⟨o', q, h4, h5, h6, _⟩ := h.lb _ _ _ _ hp
        rw [h1] at h4
        injection h4 with h4
        subst h4
        injection h5 with h5
        omega
  have hrow_lt : ∀ k, row = some k → B0 ≤ k ∧ k < w.heap.size := by
    intro k hk
    rcases hrow with ⟨_, h1, _⟩ | ⟨e0, v0, cs0, b0, c0, h1, h2, _, h3, _⟩
    · rw [h1] at hk; cases hk
    · rw [h3] at hk
      injection hk with hk
      subst hk
      exact ⟨(h.row _ _ _ _ _ _ h1 h2).1, h.row_lt h1 h2⟩
  have him : ∀ b o u, g.im b o = some u → w'.cell? ⟨b, o, none⟩ = some u := by
    intro b o u hx
    by_cases hr : row = some b
    · rcases hrow with ⟨_, h1, _⟩ | ⟨e0, v0, cs0, b0, c0, h1, h2, _, h3, _⟩
      · rw [h1] at hr; cases hr
      · rw [h3] at hr
        injection hr with hr
        subst hr
        rw [(h.row _ _ _ _ _ _ h1 h2).2.2.1] at hx
        cases hx
    · rw [World.cell?_of_block (w := w) (hg.block b (h.im_lt hx) (fun e => hr e.symm))]
      exact h.im _ _ _ hx
  have him1 : ∀ o, g.im b1 o = none := by
    intro o
    rcases hb1 with h1 | ⟨e0, v0, cs0, c0, h1, h2⟩
    · cases hx : g.im b1 o with
      | none => rfl
      | some u => have := h.im_lt hx; omega
    · exact (h.row _ _ _ _ _ _ h1 h2).2.2.1 o
  have hle : g.le (g.addLin t v b1 c1) := G.le_addLin hlbt
  have hbo : ∀ id, id ≠ t → blkOf (g.addLin t v b1 c1) (S.put t (.row e v cs)) id = blkOf g S id := by
    intro id hne
    simp only [blkOf, S.put_other _ hne]
    cases S id with
    | none => rfl
    | some ob =>
      cases ob with
      | var cs => rfl
      | map es => rfl
      | dead v => rfl
      | lin e' p' => simp [G.addLin, hne]
      | row e' v cs => simp [G.addLin, hne]
  have hbt : blkOf (g.addLin t v b1 c1) (S.put t (.row e v cs)) t = some b1 := by simp [blkOf, Ghost.put, G.addLin]
  refine ⟨g.addLin t v b1 c1, hle, ⟨?_, ?_, ?_, ?_, ?_, ?_, ?_, ?_, h.glob.le hle⟩, by simp [G.addLin], rfl, ?_⟩
  · exact h.below.grown hg h.base (fun k hk => (hrow_lt k hk).1)
  · exact Nat.le_trans h.base hg.size
  · exact him
  · intro id b hx
    have hx' : g.φ id = some b := hx
    obtain ⟨h1, h2, ob, h3, h4⟩ := h.phi _ _ hx'
    have hne : id ≠ t := by rintro rfl; rw [hphi_t] at hx'; cases hx'
    have hblk := h.blk_phi hx'
    exact ⟨h1, h2, ob, by rw [S.put_other _ hne]; exact h3, (h4.same (hg.block b (h.phi_lt hx') (fun e => hrow_ne _ _ hblk hne e.symm))).le hle⟩
  · intro t' e' p' b c hs hl
    have hne : t' ≠ t := by rintro rfl; rw [S.put_same] at hs; cases hs
    rw [S.put_other _ hne] at hs
    have hl' : g.lb t' p' = some (b, c) := by simpa [G.addLin, hne] using hl
    obtain ⟨h1, h2, h3, cur0, i0, h4, h5, h6, h7, h8⟩ := h.lin _ _ _ _ _ hs hl'
    have hblk : blkOf g S t' = some b := by simp [blkOf, hs, hl']
    refine ⟨h1, h2, h3, cur0, i0, h4, h5, ?_, h7, h8⟩
    rw [hg.block b (h.lin_lt hs hl') (fun e => hrow_ne _ _ hblk hne e.symm)]
    exact h6
  · intro t' e' v' cs' b c hs hl
    by_cases hne : t' = t
    · subst hne
      rw [S.put_same] at hs
      injection hs with hs
      injection hs with q1 q2 q3
      subst q1; subst q2; subst q3
      simp only [G.addLin, and_self, if_true, Option.some.injEq, Prod.mk.injEq] at hl
      obtain ⟨rfl, rfl⟩ := hl
      exact ⟨hB1, hcm, him1, cur, i, hi, hsz, hh, hcs, hv.le hle⟩
    · rw [S.put_other _ hne] at hs
      have hl' : g.lb t' v' = some (b, c) := by simpa [G.addLin, hne] using hl
      obtain ⟨h1, h2, h3, cur0, i0, h4, h5, h6, h7, h8⟩ := h.row _ _ _ _ _ _ hs hl'
      have hblk : blkOf g S t' = some b := by simp [blkOf, hs, hl']
      refine ⟨h1, h2, h3, cur0, i0, h4, h5, ?_, h7, h8.le hle⟩
      rw [hg.block b (h.row_lt hs hl') (fun e => hrow_ne _ _ hblk hne e.symm)]
      exact h6
  · intro t' p' b c hl
    by_cases hne : t' = t
    · subst hne
      refine ⟨.row e v cs, v, S.put_same _ _, rfl, ?_, by simp [G.addLin]⟩
      by_cases hp : p' = v
      · omega
      · have hl' : g.lb t' p' = some (b, c) := by simpa [G.addLin, hp] using hl
        obtain ⟨o', q, h1, h2, h2', _⟩ := h.lb _ _ _ _ hl'
        rcases hrow with ⟨hu, _⟩ | ⟨e0, v0, cs0, b0, c0, h1', _, h3', _⟩
        · rw [hu.2] at hl'; cases hl'
        · rw [h1] at h1'
          injection h1' with h1'
          subst h1'
          injection h2 with h2
          omega
    · have hl' : g.lb t' p' = some (b, c) := by simpa [G.addLin, hne] using hl
      obtain ⟨o', q, h1, h2, h2', h3⟩ := h.lb _ _ _ _ hl'
      exact ⟨o', q, by rw [S.put_other _ hne]; exact h1, h2, h2', by simpa [G.addLin, hne] using h3⟩
  · intro id id' b h1 h2
    by_cases e1 : id = t
    · by_cases e2 : id' = t
      · rw [e1, e2]
      · subst e1
        rw [hbt] at h1
        injection h1 with h1
        subst h1
        rw [hbo _ e2] at h2
        exact absurd rfl (hblk_ne _ _ h2 e2)
    · by_cases e2 : id' = t
      · subst e2
        rw [hbt] at h2
        injection h2 with h2
        subst h2
        rw [hbo _ e1] at h1
        exact absurd rfl (hblk_ne _ _ h1 e1)
      · rw [hbo _ e1] at h1; rw [hbo _ e2] at h2; exact h.inj _ _ _ h1 h2
  · intro t' p' hne
    simp [G.addLin, hne]
end
end Go.Av
set_option linter.unusedVariables false
set_option linter.unusedSectionVars false
set_option linter.unusedSimpArgs false
namespace Go.Av
open Go.RowKit

mutual
/-- A constant as an abstract value. -/
def ofConst : Value → AV
  | .bool b => .bool b
  | .int k n => .int k n
  | .float k n => .flt k n
  | .complex k m n => .cplx k m n
  | .string s => .str s.data.toList
  | .pointer none => .nilptr
  | .slice base len cap => if len = 0 ∧ cap = 0 then .slice [] (match base with | none => .nil | some _ => .full) else .top
  | .map none => .nilmap
  | .nilFunc => .nilFunc
  | .nilIface => .nilIface
  | .agg ⟨cs⟩ => .agg (ofConsts cs)
  | _ => .top
def ofConsts : List Value → List AV
  | [] => []
  | v :: vs => ofConst v :: ofConsts vs
end
mutual
theorem ofConst_ok (g : G) : ∀ v : Value, VR g (ofConst v) v
  | .bool b => .bool b
  | .int k n => .int k n
  | .float k n => .flt k n
  | .complex k m n => .cplx k m n
  | .string ⟨⟨l⟩⟩ => .str l
  | .pointer none => .nilptr
  | .pointer (some _) => .top _
  | .slice base len cap => by
    simp only [ofConst]
    split
    · rename_i h
      obtain ⟨rfl, rfl⟩ := h
      exact .slice0 (by cases base with | none => exact ⟨rfl, rfl, rfl⟩ | some _ => exact rfl)
    · exact .top _
  | .map none => .nilmap
  | .map (some _) => .top _
  | .chan _ => .top _
  | .func _ _ _ => .top _
  | .iface _ _ => .top _
  | .tuple _ => .top _
  | .nilFunc => .nilFunc
  | .nilIface => .nilIface
  | .agg ⟨cs⟩ => .agg (ofConsts_ok g cs)
theorem ofConsts_ok (g : G) : ∀ vs : List Value, VRs g (ofConsts vs) vs
  | [] => .nil
  | v :: vs => .cons (ofConst_ok g v) (ofConsts_ok g vs)
end

/-- Kinds of types. -/
inductive TK where
  | bool | int (k : IntKind) | flt (k : FloatKind) | cplx (k : FloatKind) | str
  | slice (e : TypeId)
  | arr (n : Nat) (e : TypeId)
  | struct (fs : List (Nat × TypeId))
  | ptr (e : TypeId)
  | map (k v : TypeId)
  | func
  | iface
  | other

def TK.isAgg : TK → Bool
  | .arr _ _ | .struct _ => true
  | _ => false

structure TI where
  k : TK
  size : Nat
  bytes : Nat
  zero : AV := .top
  eq : Bool := false
  row : Bool := false
  cmp : Bool := false

def TKOK (P : Program) (t : TypeId) : TK → Prop
  | .bool => P.underlying t = some .bool
  | .int k => P.underlying t = some (.int k)
  | .flt k => P.underlying t = some (.float k)
  | .cplx k => P.underlying t = some (.complex k)
  | .str => P.underlying t = some .string
  | .slice e => P.underlying t = some (.slice e)
  | .arr n e => P.underlying t = some (.array n e)
  | .struct fs => ∃ fields, P.underlying t = some (.struct fields) ∧ fields.toList.map (fun f => (f.offset, f.type)) = fs
  | .ptr e => P.underlying t = some (.pointer e)
  | .map k v => P.underlying t = some (.map k v)
  | .func => ∃ a b c, P.underlying t = some (.func a b c)
  | .iface => ∃ ms, P.underlying t = some (.interface ms)
  | .other => ∃ d, P.underlying t = some d ∧ (match d with | .struct _ | .array _ _ | .interface _ => false | _ => true) = true

/-- Equality at this type is equality cell by cell, of bools, ints, strings. -/
def cellsEq : List AV → List AV → Option Bool
  | [], [] => some true
  | .bool a :: xs, .bool b :: ys => (cellsEq xs ys).map (a == b && ·)
  | .int k a :: xs, .int k' b :: ys => if k = k' then (cellsEq xs ys).map (a == b && ·) else none
  | .str a :: xs, .str b :: ys => (cellsEq xs ys).map (a == b && ·)
  | _, _ => none
def PlainEq (P : Program) (t : TypeId) : Prop :=
  ∀ (g : G) (xs ys : List AV) (vs ws : List Value) (b : Bool) (w : World), VRs g xs vs → VRs g ys ws → cellsEq xs ys = some b →
    (eqGuard .eql t (.tmp 0) (.tmp 0) (.agg ⟨vs⟩) (.agg ⟨ws⟩)).run P w = .ok () w ∧ (Op.equal t (.agg ⟨vs⟩) (.agg ⟨ws⟩)).run P w = .ok b w

def TIOK (P : Program) (t : TypeId) (i : TI) : Prop :=
  ∃ info, P.info? t = some info ∧ info.size = i.size ∧ info.bytes = i.bytes ∧ TKOK P t i.k ∧ (∀ z, info.zero = some z → i.zero = .top ∨ i.zero = ofConst z) ∧ (info.zero = none → i.zero = .top) ∧ (i.eq = true → PlainEq P t) ∧ (i.cmp = true → info.comparable = true)

abbrev Env := TypeId → Option TI
def EnvOK (P : Program) (E : Env) : Prop := ∀ t i, E t = some i → TIOK P t i

section
variable {P : Program} {E : Env} {t : TypeId} {i : TI}
theorem TIOK.isAgg (h : TIOK P t i) (w : World) : (Go.isAgg t).run P w = .ok i.k.isAgg w := by
  obtain ⟨info, h1, _, _, hk, _⟩ := h
  have key : ∀ d, P.underlying t = some d → (Go.isAgg t).run P w = .ok (match d with | .struct _ | .array _ _ => true | _ => false) w := by
    intro d hd
    simp only [Go.isAgg, Sem.run_bind, run_underlying hd, Result.andThen_ok]
    cases d <;> rfl
  cases hkk : i.k with
  | struct fs => rw [hkk] at hk; obtain ⟨f, hk, _⟩ := hk; rw [key _ hk]; rfl
  | func => rw [hkk] at hk; obtain ⟨a, b, c, hk⟩ := hk; rw [key _ hk]; rfl
  | iface => rw [hkk] at hk; obtain ⟨a, hk⟩ := hk; rw [key _ hk]; rfl
  | other =>
    rw [hkk] at hk
    obtain ⟨d, hk, hd⟩ := hk
    rw [key _ hk]
    cases d <;> simp_all [TK.isAgg]
  | _ => rw [hkk] at hk; rw [key _ hk]; rfl
theorem TIOK.sizeOf (h : TIOK P t i) (w : World) : (Go.sizeOf t).run P w = .ok i.size w := by
  obtain ⟨info, h1, h2, _⟩ := h
  simp [Go.sizeOf, typeInfo, h1, h2]
theorem TIOK.info (h : TIOK P t i) : ∃ info, P.info? t = some info ∧ info.size = i.size ∧ info.bytes = i.bytes := by
  obtain ⟨info, h1, h2, h3, _⟩ := h
  exact ⟨info, h1, h2, h3⟩
theorem TIOK.zero (h : TIOK P t i) (hz : i.zero.oneCell = true ∨ ∃ cs, i.zero = .agg cs) (w : World) : ∃ z, (zeroValue t).run P w = .ok z w ∧ ∀ g, VR g i.zero z := by
  obtain ⟨info, h1, _, _, _, h5, h6, _⟩ := h
  have hne : i.zero ≠ .top := by rintro e; rw [e] at hz; simp [AV.oneCell] at hz
  cases hzz : info.zero with
  | none => exact absurd (h6 hzz) hne
  | some z =>
    refine ⟨z, by simp [zeroValue, typeInfo, h1, hzz], fun g => ?_⟩
    rcases h5 z hzz with h | h
    · exact absurd h hne
    · rw [h]; exact ofConst_ok g z

/-- The first cells as a value of a type. -/
def apart (i : TI) (cs : List AV) : Option AV :=
  if i.k.isAgg then (if i.size ≤ cs.length then some (.agg (cs.take i.size)) else none) else cs.head?

theorem add_none (b o n : Nat) : (⟨b, o, none⟩ : Addr).add n = ⟨b, o + n, none⟩ := by unfold Addr.add; split <;> simp_all

/-- A load from cells that are there. -/
theorem run_loadVar_of (h : TIOK P t i) {g : G} {w : World} {cs : List AV} {vs : List Value} {b o : Nat} (hv : VRs g cs vs) (hc : ∀ j v, vs[j]? = some v → w.cell? ⟨b, o + j, none⟩ = some v) {r : AV} (hr : apart i cs = some r) :
    ∃ v, (loadVar t ⟨b, o, none⟩).run P w = .ok v w ∧ VR g r v := by
  unfold apart at hr
  unfold loadVar
  simp only [Sem.run_bind, h.isAgg w, Result.andThen_ok]
  split at hr
  · rename_i hagg
    split at hr
    · rename_i hle
      injection hr with hr
      subst hr
      have hl := hv.length
      have hlen : (vs.take i.size).length = i.size := by rw [List.length_take]; omega
      have hrun := run_loadCells_list (P := P) w ⟨b, o, none⟩ (vs.take i.size) (fun j v hj => by
        rw [add_none]
        have hlt : j < i.size := by
          have := (List.getElem?_eq_some_iff.1 hj).1
          omega
        rw [List.getElem?_take_of_lt hlt] at hj
        exact hc j v hj)
      rw [hlen] at hrun
      refine ⟨.agg ⟨vs.take i.size⟩, ?_, .agg (hv.take _)⟩
      simp [hagg, h.sizeOf w, hrun]
    · cases hr
  · rename_i hagg
    cases hv with
    | nil => simp at hr
    | cons h1 h2 =>
      rename_i x v xs vs
      simp at hr
      subst hr
      refine ⟨v, ?_, h1⟩
      have := hc 0 v rfl
      simp only [Nat.add_zero] at this
      simp [hagg, load, Sem.run, this]

/-- A part of a struct or a row. -/
theorem run_part_of (h : TIOK P t i) {g : G} (w : World) {cs : List AV} {vs : List Value} (off : Nat) (hv : VRs g cs vs) {r : AV} (hr : apart i (cs.drop off) = some r) :
    ∃ v, (part t ⟨vs⟩ off).run P w = .ok v w ∧ VR g r v := by
  unfold apart at hr
  unfold part
  simp only [Sem.run_bind, h.isAgg w, Result.andThen_ok]
  have hd := hv.drop off
  split at hr
  · rename_i hagg
    split at hr
    · rename_i hle
      injection hr with hr
      subst hr
      refine ⟨.agg ⟨(vs.drop off).take i.size⟩, ?_, .agg (hd.take _)⟩
      have e : (⟨vs⟩ : Array Value).extract off (off + i.size) = ⟨(vs.drop off).take i.size⟩ := by
        apply Array.toList_inj.1
        rw [Array.toList_extract]
        simp [List.extract_eq_take_drop]
      simp [hagg, h.sizeOf w, e]
    · cases hr
  · rename_i hagg
    cases hdd : cs.drop off with
    | nil => rw [hdd] at hr; simp at hr
    | cons x xs =>
      rw [hdd] at hr hd
      simp at hr
      subst hr
      cases hvv : vs.drop off with
      | nil => rw [hvv] at hd; cases hd
      | cons v vs' =>
        rw [hvv] at hd
        cases hd with
        | cons h1 h2 =>
          have : vs[off]? = some v := by
            have := congrArg (·[0]?) hvv
            simpa using this
          exact ⟨v, by simp [hagg, this], h1⟩
end
end Go.Av
set_option linter.unusedVariables false
set_option linter.unusedSectionVars false
set_option linter.unusedSimpArgs false
namespace Go.Av
open Go.RowKit

/-- Bools, numbers as the model has them. -/
def prim : AV → Option Value
  | .bool b => some (.bool b)
  | .int k n => some (.int k n)
  | .flt k n => some (.float k n)
  | .cplx k m n => some (.complex k m n)
  | _ => none
theorem prim_ok {g : G} {x : AV} {v a : Value} (h : VR g x v) (hp : prim x = some a) : v = a := by
  cases h <;> simp_all [prim]
def pureOf {α : Type} : Sem α → Option α
  | .pure v => some v
  | _ => none
theorem pureOf_run {P : Program} {α : Type} {s : Sem α} {v : α} (h : pureOf s = some v) (w : World) : s.run P w = .ok v w := by
  cases s <;> simp_all [pureOf, Sem.run]

def primBin (op : BinOp) (t : TypeId) (x y : AV) : Option AV :=
  match prim x, prim y with
  | some a, some b => (pureOf (Go.binOp op t a b)).map ofConst
  | _, _ => none

def isNilConst : Operand → Bool
  | .const _ => true
  | _ => false

/-- Bools; slices and functions against nil. -/
def refEq2 (k : TK) (x y : AV) : Option Bool :=
  match k with
  | .bool => (match x, y with | .bool a, .bool b => some (a == b) | _, _ => none)
  | .slice _ => (match x, y with
    | .slice [] .nil, .slice [] .nil => some true
    | .slice (_ :: _) _, .slice [] .nil => some false
    | .slice [] (.tip _ _), .slice [] .nil => some false
    | .slice [] .nil, .slice (_ :: _) _ => some false
    | .sref _ _ _ _, .slice [] .nil => some false
    | .slice [] .nil, .sref _ _ _ _ => some false
    | _, _ => none)
  | .func => (match x, y with
    | .nilFunc, .nilFunc => some true
    | .func _ _ _, .nilFunc => some false
    | .nilFunc, .func _ _ _ => some false
    | _, _ => none)
  | _ => none

/-- Pointers, interface values, functions against nil. -/
def refEq (k : TK) (lit : Bool) : AV → AV → Option Bool
  | .nilptr, .nilptr => match k with | .ptr _ => some true | _ => none
  | .nilptr, .vptr _ _ => match k with | .ptr _ => some false | _ => none
  | .vptr _ _, .nilptr => match k with | .ptr _ => some false | _ => none
  | .nilptr, .cptr _ => match k with | .ptr _ => some false | _ => none
  | .cptr _, .nilptr => match k with | .ptr _ => some false | _ => none
  | .nilptr, .eptr _ _ _ => match k with | .ptr _ => some false | _ => none
  | .eptr _ _ _, .nilptr => match k with | .ptr _ => some false | _ => none
  | .nilIface, .nilIface => if lit then (match k with | .iface => some true | _ => none) else none
  | .nilIface, .iface _ _ => match k with | .iface => some false | _ => none
  | .iface _ _, .nilIface => match k with | .iface => some false | _ => none
  | x, y => refEq2 k x y

def abin (op : BinOp) (t : TypeId) (ti : Option TI) (lit : Bool) (x y : AV) : Option AV :=
  match x, y with
  | .str a, .str b =>
    match op with
    | .add => if a.length + b.length ≤ 2 ^ 62 then some (.str (a ++ b)) else none
    | .eql => some (.bool (a == b))
    | .neq => some (.bool !(a == b))
    | .lss => some (.bool (Op.bytesLess a b))
    | .leq => some (.bool (Op.bytesLess a b || a == b))
    | .gtr => some (.bool !(Op.bytesLess a b || a == b))
    | .geq => some (.bool !(Op.bytesLess a b))
    | _ => none
  | .agg xs, .agg ys =>
    match op, ti with
    | .eql, some i => if i.eq then (cellsEq xs ys).map .bool else none
    | .neq, some i => if i.eq then (cellsEq xs ys).map (fun b => .bool !b) else none
    | _, _ => none
  | x, y =>
    match op with
    | .eql => match (ti.bind fun i => refEq i.k lit x y) with | some b => some (.bool b) | none => primBin op t x y
    | .neq => match (ti.bind fun i => refEq i.k lit x y) with | some b => some (.bool !b) | none => primBin op t x y
    | _ => primBin op t x y

section
variable {P : Program} {E : Env}

theorem run_eqGuard_other (op : BinOp) (t : TypeId) (x y : Operand) (a b : Value) (w : World) (h : (match a, b with | .nilIface, .nilIface => false | .agg _, .agg _ => false | _, _ => true) = true) :
    (eqGuard op t x y a b).run P w = .ok () w := by
  have key : ∀ c : Bool, ∀ X : Sem Unit, X.run P w = .ok () w → (if (!c) = true then pure () else X : Sem Unit).run P w = .ok () w := by
    intro c X hX
    cases c
    · rfl
    · exact hX
  unfold eqGuard
  refine key _ _ ?_
  split
  · cases h
  · cases h
  · rfl
theorem run_eqGuard_nils (op : BinOp) (t : TypeId) (x y : Operand) (w : World) (h : (isNilConst x || isNilConst y) = true) : (eqGuard op t x y .nilIface .nilIface).run P w = .ok () w := by
  have key : ∀ c : Bool, ∀ X : Sem Unit, X.run P w = .ok () w → (if (!c) = true then pure () else X : Sem Unit).run P w = .ok () w := by
    intro c X hX
    cases c
    · rfl
    · exact hX
  unfold eqGuard
  refine key _ _ ?_
  cases x <;> cases y <;> first | rfl | cases h

theorem equal_succ (t : TypeId) (x y : Value) : Op.equal t x y = Op.equalIn (9999 + 1) t x y := rfl
theorem run_equal_nils {t e : TypeId} (ht : P.underlying t = some (.pointer e)) (w : World) : (Op.equal t (.pointer none) (.pointer none)).run P w = .ok true w := by
  rw [equal_succ]; generalize 9999 = d
  simp [Op.equalIn, run_underlying ht]
theorem run_equal_nil_some {t e : TypeId} (ht : P.underlying t = some (.pointer e)) (a : Addr) (w : World) : (Op.equal t (.pointer none) (.pointer (some a))).run P w = .ok false w := by
  rw [equal_succ]; generalize 9999 = d
  simp [Op.equalIn, run_underlying ht]
theorem run_equal_some_nil {t e : TypeId} (ht : P.underlying t = some (.pointer e)) (a : Addr) (w : World) : (Op.equal t (.pointer (some a)) (.pointer none)).run P w = .ok false w := by
  rw [equal_succ]; generalize 9999 = d
  simp [Op.equalIn, run_underlying ht]
theorem run_equal_ifaces {t : TypeId} {ms : Array (String × TypeId)} (ht : P.underlying t = some (.interface ms)) (w : World) : (Op.equal t .nilIface .nilIface).run P w = .ok true w := by
  rw [equal_succ]; generalize 9999 = d
  simp [Op.equalIn, run_underlying ht]
theorem run_equal_nil_iface {t : TypeId} {ms : Array (String × TypeId)} (ht : P.underlying t = some (.interface ms)) (u : TypeId) (v : Value) (w : World) : (Op.equal t .nilIface (.iface u v)).run P w = .ok false w := by
  rw [equal_succ]; generalize 9999 = d
  simp [Op.equalIn, run_underlying ht]
theorem run_equal_iface_nil {t : TypeId} {ms : Array (String × TypeId)} (ht : P.underlying t = some (.interface ms)) (u : TypeId) (v : Value) (w : World) : (Op.equal t (.iface u v) .nilIface).run P w = .ok false w := by
  rw [equal_succ]; generalize 9999 = d
  simp [Op.equalIn, run_underlying ht]

theorem toList_mk (l : List UInt8) : (⟨⟨l⟩⟩ : ByteArray).toList = l := ByteArray.toList_mk l
theorem mk_append (a b : List UInt8) : (⟨⟨a⟩⟩ : ByteArray) ++ ⟨⟨b⟩⟩ = ⟨⟨a ++ b⟩⟩ := by
  have h : ∀ x y : ByteArray, x.data.toList = y.data.toList → x = y := by
    intro x y h
    cases x; cases y
    congr 1
    exact Array.toList_inj.1 h
  apply h
  simp

theorem run_equal_bools {t : TypeId} (ht : P.underlying t = some .bool) (a b : Bool) (w : World) : (Op.equal t (.bool a) (.bool b)).run P w = .ok (a == b) w := by
  rw [equal_succ]; generalize 9999 = d
  simp [Op.equalIn, run_underlying ht]
theorem run_equal_slices {t e : TypeId} (ht : P.underlying t = some (.slice e)) (a b : Option Addr) (l c m d' : Nat) (h : a = none ∨ b = none) (w : World) : (Op.equal t (.slice a l c) (.slice b m d')).run P w = .ok (a.isNone && b.isNone) w := by
  rw [equal_succ]; generalize 9999 = d
  cases a with
  | none => cases b <;> simp [Op.equalIn, run_underlying ht]
  | some x => cases b with
    | none => simp [Op.equalIn, run_underlying ht]
    | some y => rcases h with h | h <;> cases h
theorem run_equal_funcs {t : TypeId} {x y : Array TypeId} {z : Bool} (ht : P.underlying t = some (.func x y z)) {a b : Value} {r : Bool} (h : (a = .nilFunc ∧ b = .nilFunc ∧ r = true) ∨ (∃ f p q, a = .func f p q ∧ b = .nilFunc ∧ r = false) ∨ (∃ f p q, a = .nilFunc ∧ b = .func f p q ∧ r = false)) (w : World) : (Op.equal t a b).run P w = .ok r w := by
  rw [equal_succ]; generalize 9999 = d
  rcases h with ⟨rfl, rfl, rfl⟩ | ⟨f, p, q, rfl, rfl, rfl⟩ | ⟨f, p, q, rfl, rfl, rfl⟩ <;> simp [Op.equalIn, run_underlying ht]

/-- A slice's base. -/
theorem VR.slice_nil {g : G} {xs : List AV} {v : Value} (h : VR g (.slice xs .nil) v) : xs = [] ∧ v = .slice none 0 0 := by
  cases h with
  | slice0 ht => obtain ⟨rfl, _, rfl⟩ := ht; exact ⟨rfl, rfl⟩
  | slice size hp hl hs hv hm ht => obtain ⟨h, _⟩ := ht; cases h
theorem VR.slice_cons {g : G} {x : AV} {xs : List AV} {tok : Tok} {v : Value} (h : VR g (.slice (x :: xs) tok) v) : ∃ a l c, v = .slice (some a) l c := by
  cases h with
  | slice size hp hl hs hv hm ht => exact ⟨_, _, _, rfl⟩
theorem VR.slice_tip {g : G} {xs : List AV} {t p : Nat} {v : Value} (h : VR g (.slice xs (.tip t p)) v) : ∃ a l c, v = .slice (some a) l c := by
  cases h with
  | slice0 ht => obtain ⟨_, _, b, _, rfl⟩ := ht; exact ⟨_, _, _, rfl⟩
  | slice size hp hl hs hv hm ht => exact ⟨_, _, _, rfl⟩

theorem refEq2_ok {g : G} {t : TypeId} {k : TK} (hk : TKOK P t k) {op : BinOp} {x y : Operand} {a b : AV} {va vb : Value} {r : Bool} (ha : VR g a va) (hb : VR g b vb) (h : refEq2 k a b = some r) (w : World) :
    (eqGuard op t x y va vb).run P w = .ok () w ∧ (Op.equal t va vb).run P w = .ok r w ∧ Go.binOp .eql t va vb = (do pure (.bool (← Op.equal t va vb))) ∧ Go.binOp .neq t va vb = (do pure (.bool (!(← Op.equal t va vb)))) := by
  unfold refEq2 at h
  split at h
  · split at h
    · injection h with h
      subst h
      cases ha; cases hb
      exact ⟨run_eqGuard_other op t x y _ _ w rfl, run_equal_bools hk _ _ w, rfl, rfl⟩
    · cases h
  · rename_i e
    split at h
    · injection h with h
      subst h
      obtain ⟨_, rfl⟩ := ha.slice_nil
      obtain ⟨_, rfl⟩ := hb.slice_nil
      exact ⟨run_eqGuard_other op t x y _ _ w rfl, run_equal_slices hk _ _ _ _ _ _ (.inl rfl) w, rfl, rfl⟩
    · injection h with h
      subst h
      obtain ⟨_, _, _, rfl⟩ := ha.slice_cons
      obtain ⟨_, rfl⟩ := hb.slice_nil
      exact ⟨run_eqGuard_other op t x y _ _ w rfl, run_equal_slices hk _ _ _ _ _ _ (.inr rfl) w, rfl, rfl⟩
    · injection h with h
      subst h
      obtain ⟨_, _, _, rfl⟩ := ha.slice_tip
      obtain ⟨_, rfl⟩ := hb.slice_nil
      exact ⟨run_eqGuard_other op t x y _ _ w rfl, run_equal_slices hk _ _ _ _ _ _ (.inr rfl) w, rfl, rfl⟩
    · injection h with h
      subst h
      obtain ⟨_, rfl⟩ := ha.slice_nil
      obtain ⟨_, _, _, rfl⟩ := hb.slice_cons
      exact ⟨run_eqGuard_other op t x y _ _ w rfl, run_equal_slices hk _ _ _ _ _ _ (.inl rfl) w, rfl, rfl⟩
    · injection h with h
      subst h
      obtain ⟨_, rfl⟩ := hb.slice_nil
      cases ha
      exact ⟨run_eqGuard_other op t x y _ _ w rfl, run_equal_slices hk _ _ _ _ _ _ (.inr rfl) w, rfl, rfl⟩
    · injection h with h
      subst h
      obtain ⟨_, rfl⟩ := ha.slice_nil
      cases hb
      exact ⟨run_eqGuard_other op t x y _ _ w rfl, run_equal_slices hk _ _ _ _ _ _ (.inl rfl) w, rfl, rfl⟩
    · cases h
  · obtain ⟨q1, q2, q3, hk⟩ := hk
    split at h
    · injection h with h
      subst h
      cases ha; cases hb
      exact ⟨run_eqGuard_other op t x y _ _ w rfl, run_equal_funcs hk (.inl ⟨rfl, rfl, rfl⟩) w, rfl, rfl⟩
    · injection h with h
      subst h
      cases ha; cases hb
      exact ⟨run_eqGuard_other op t x y _ _ w rfl, run_equal_funcs hk (.inr (.inl ⟨_, _, _, rfl, rfl, rfl⟩)) w, rfl, rfl⟩
    · injection h with h
      subst h
      cases ha; cases hb
      exact ⟨run_eqGuard_other op t x y _ _ w rfl, run_equal_funcs hk (.inr (.inr ⟨_, _, _, rfl, rfl, rfl⟩)) w, rfl, rfl⟩
    · cases h
  · cases h

theorem refEq_ok (hE : EnvOK P E) {g : G} {t : TypeId} {i : TI} (hi : E t = some i) {op : BinOp} {x y : Operand} {a b : AV} {va vb : Value} {r : Bool} (ha : VR g a va) (hb : VR g b vb) (h : refEq i.k (isNilConst x || isNilConst y) a b = some r) (w : World) :
    (eqGuard op t x y va vb).run P w = .ok () w ∧ (Op.equal t va vb).run P w = .ok r w ∧ Go.binOp .eql t va vb = (do pure (.bool (← Op.equal t va vb))) ∧ Go.binOp .neq t va vb = (do pure (.bool (!(← Op.equal t va vb)))) := by
  obtain ⟨_, _, _, _, hk, _⟩ := hE _ _ hi
  unfold refEq at h
  split at h
  all_goals first
    | (cases h; done)
    | exact refEq2_ok hk ha hb h w
    | (cases ha; cases hb
       split at h
       · rename_i hkk
         rw [hkk] at hk
         injection h with h
         subst h
         first
           | exact ⟨run_eqGuard_other op t x y _ _ w rfl, run_equal_nils hk w, rfl, rfl⟩
           | exact ⟨run_eqGuard_other op t x y _ _ w rfl, run_equal_nil_some hk _ w, rfl, rfl⟩
           | exact ⟨run_eqGuard_other op t x y _ _ w rfl, run_equal_some_nil hk _ w, rfl, rfl⟩
           | (obtain ⟨ms, hk⟩ := hk; exact ⟨run_eqGuard_other op t x y _ _ w rfl, run_equal_nil_iface hk _ _ w, rfl, rfl⟩)
           | (obtain ⟨ms, hk⟩ := hk; exact ⟨run_eqGuard_other op t x y _ _ w rfl, run_equal_iface_nil hk _ _ w, rfl, rfl⟩)
       · cases h)
    | (cases ha; cases hb
       split at h
       · rename_i hl
         split at h
         · rename_i hkk
           rw [hkk] at hk
           injection h with h
           subst h
           obtain ⟨ms, hk⟩ := hk
           exact ⟨run_eqGuard_nils op t x y w hl, run_equal_ifaces hk w, rfl, rfl⟩
         · cases h
       · cases h)

/-- Numbers in interfaces. -/
def aifc (E : Env) (o : BinOp) (t : TypeId) (x y : AV) : Option AV :=
  match x, y with
  | .iface u (.int k a), .iface u' (.int k' b) =>
    match (E t).map fun i : TI => i.k with
    | some TK.iface =>
      match (if u = u' then (if k = k' then (match E u with | some iu => (match iu.k with | .int _ => if iu.cmp then some (a == b) else none | _ => none) | none => none) else none) else some false : Option Bool) with
      | some r => (match o with | .eql => some (.bool r) | .neq => some (.bool !r) | _ => none)
      | none => none
    | _ => none
  | _, _ => none
theorem aifc_ok (hE : EnvOK P E) {g : G} {o : BinOp} {t : TypeId} {x y : Operand} {a b r : AV} {va vb : Value} (ha : VR g a va) (hb : VR g b vb) (h : aifc E o t a b = some r) (w : World) :
    ∃ v, (do eqGuard o t x y va vb; Go.binOp o t va vb : Sem Value).run P w = .ok v w ∧ VR g r v := by
  unfold aifc at h
  split at h
  case h_2 => cases h
  rename_i u k a u' k' b
  split at h
  case h_2 => cases h
  rename_i hk
  split at h
  case h_2 => cases h
  rename_i e he
  cases ha with
  | iface ha =>
  cases hb with
  | iface hb =>
  cases ha
  cases hb
  obtain ⟨it, hit, hkt⟩ : ∃ it, E t = some it ∧ it.k = .iface := by
    cases ht : E t with
    | none => rw [ht] at hk; cases hk
    | some it =>
      rw [ht] at hk
      exact ⟨it, rfl, Option.some.inj hk⟩
  obtain ⟨_, _, _, _, hks, _⟩ := hE _ _ hit
  rw [hkt] at hks
  obtain ⟨ms, hks⟩ := hks
  have heq : (Op.equal t (.iface u (.int k a)) (.iface u' (.int k' b))).run P w = .ok e w := by
    rw [equal_succ]
    generalize hd : 9999 = d
    have hd1 : ∃ d', d = d' + 1 := ⟨9998, by omega⟩
    obtain ⟨d', rfl⟩ := hd1
    split at he
    · rename_i hu
      subst hu
      split at he
      · rename_i hkk
        subst hkk
        split at he
        · rename_i iu hiu
          split at he
          · rename_i kk hki
            split at he
            · rename_i hc
              injection he with he
              subst he
              obtain ⟨info, hi, _, _, hkd, _, _, _, hcm⟩ := hE _ _ hiu
              rw [hki] at hkd
              have hkd' : P.underlying u = some (.int kk) := hkd
              simp [Op.equalIn, run_underlying hks, typeInfo, hi, hcm hc, run_underlying hkd']
            · cases he
          · cases he
        · cases he
      · cases he
    · rename_i hu
      injection he with he
      subst he
      simp [Op.equalIn, run_underlying hks, hu]
  have hg : (eqGuard o t x y (.iface u (.int k a)) (.iface u' (.int k' b))).run P w = .ok () w := run_eqGuard_other o t x y _ _ w rfl
  cases o <;> simp only at h <;> try (cases h; done)
  · injection h with h
    subst h
    refine ⟨.bool e, ?_, .bool _⟩
    simp only [Sem.run_bind, hg, Result.andThen_ok]
    show ((do pure (.bool (← Op.equal t (.iface u (.int k a)) (.iface u' (.int k' b)))) : Sem Value)).run P w = _
    simp only [Sem.run_bind, heq, Result.andThen_ok]
    rfl
  · injection h with h
    subst h
    refine ⟨.bool !e, ?_, .bool _⟩
    simp only [Sem.run_bind, hg, Result.andThen_ok]
    show ((do pure (.bool (!(← Op.equal t (.iface u (.int k a)) (.iface u' (.int k' b))))) : Sem Value)).run P w = _
    simp only [Sem.run_bind, heq, Result.andThen_ok]
    rfl

theorem primBin_ok {g : G} {op : BinOp} {t : TypeId} {x y : Operand} {a b r : AV} {va vb : Value} (ha : VR g a va) (hb : VR g b vb) (h : primBin op t a b = some r) (w : World) :
    ∃ v, (do eqGuard op t x y va vb; Go.binOp op t va vb : Sem Value).run P w = .ok v w ∧ VR g r v := by
  unfold primBin at h
  split at h
  · rename_i pa pb h1 h2
    have e1 := prim_ok ha h1
    have e2 := prim_ok hb h2
    subst e1; subst e2
    cases hp : pureOf (Go.binOp op t va vb) with
    | none => rw [hp] at h; cases h
    | some v =>
      rw [hp] at h
      injection h with h
      subst h
      refine ⟨v, ?_, ofConst_ok g v⟩
      have hg : (eqGuard op t x y va vb).run P w = .ok () w := run_eqGuard_other op t x y va vb w (by cases a <;> simp [prim] at h1 <;> subst h1 <;> cases vb <;> rfl)
      simp only [Sem.run_bind, hg, Result.andThen_ok]
      exact pureOf_run hp w
  · cases h

theorem abin_ok (hE : EnvOK P E) {g : G} {op : BinOp} {t : TypeId} {x y : Operand} {a b r : AV} {va vb : Value} (ha : VR g a va) (hb : VR g b vb) (h : abin op t (E t) (isNilConst x || isNilConst y) a b = some r) (w : World) :
    ∃ v, (do eqGuard op t x y va vb; Go.binOp op t va vb : Sem Value).run P w = .ok v w ∧ VR g r v := by
  unfold abin at h
  split at h
  · -- strings
    rename_i l m
    cases ha; cases hb
    simp only [Sem.run_bind, run_eqGuard_other (P := P) op t x y (.string ⟨⟨l⟩⟩) (.string ⟨⟨m⟩⟩) w rfl, Result.andThen_ok]
    cases op <;> simp only at h <;> try (cases h; done)
    case add =>
      split at h
      · rename_i hl
        injection h with h
        subst h
        refine ⟨.string ⟨⟨l ++ m⟩⟩, ?_, .str _⟩
        have hs : ((⟨⟨l⟩⟩ : ByteArray).size + (⟨⟨m⟩⟩ : ByteArray).size : Nat) = l.length + m.length := rfl
        simp only [Go.binOp, Op.stringOp, hs]
        rw [if_neg (by show ¬ (_ : Int) > 9223372036854775807; omega), mk_append]
        rfl
      · cases h
    all_goals
      injection h with h
      subst h
      refine ⟨_, by simp only [Go.binOp, Op.stringOp, toList_mk]; rfl, .bool _⟩
  · -- structs
    rename_i xs ys
    cases ha with
    | agg ha =>
    cases hb with
    | agg hb =>
    rename_i vs ws
    cases hi : E t with
    | none => rw [hi] at h; cases op <;> simp at h
    | some i =>
      rw [hi] at h
      obtain ⟨_, _, _, _, _, _, _, hpe, _⟩ := hE _ _ hi
      cases op <;> simp only at h <;> try (cases h; done)
      all_goals
        split at h
        · rename_i heq
          cases hc : cellsEq xs ys with
          | none => rw [hc] at h; cases h
          | some bb =>
            rw [hc] at h
            simp only [Option.map_some, Option.some.injEq] at h
            subst h
            obtain ⟨h1, h2⟩ := hpe heq g xs ys vs ws bb w ha hb hc
            refine ⟨_, ?_, .bool _⟩
            first
              | (have e1 : (eqGuard .eql t x y (.agg ⟨vs⟩) (.agg ⟨ws⟩)).run P w = .ok () w := h1
                 simp only [Sem.run_bind, e1, Result.andThen_ok, Go.binOp, h2]; rfl)
              | (have e1 : (eqGuard .neq t x y (.agg ⟨vs⟩) (.agg ⟨ws⟩)).run P w = .ok () w := h1
                 simp only [Sem.run_bind, e1, Result.andThen_ok, Go.binOp, h2]; rfl)
        · cases h
  · -- references, numbers
    have hp : ∀ {h : primBin op t a b = some r}, ∃ v, (do eqGuard op t x y va vb; Go.binOp op t va vb : Sem Value).run P w = .ok v w ∧ VR g r v := fun {h} => primBin_ok ha hb h w
    cases op <;> simp only at h <;> try exact hp (h := h)
    all_goals
      split at h
      · rename_i bb hr
        injection h with h
        subst h
        cases hi : E t with
        | none => rw [hi] at hr; cases hr
        | some i =>
          rw [hi] at hr
          obtain ⟨h1, h2, h3, h4⟩ := refEq_ok hE hi (x := x) (y := y) ha hb hr w
          refine ⟨_, ?_, .bool _⟩
          first
            | (have h1' : (eqGuard .eql t x y va vb).run P w = .ok () w := h1
               simp only [Sem.run_bind, h1', Result.andThen_ok, h3, h2]; rfl)
            | (have h1' : (eqGuard .neq t x y va vb).run P w = .ok () w := h1
               simp only [Sem.run_bind, h1', Result.andThen_ok, h4, h2]; rfl)
      · exact hp (h := h)
end
end Go.Av
set_option linter.unusedVariables false
set_option linter.unusedSectionVars false
set_option linter.unusedSimpArgs false
namespace Go.Av
open Go.RowKit

def aun (op : UnOp) (x : AV) : Option AV := (prim x).bind fun v => (pureOf (Op.unary op v)).map ofConst

def bytesOfAVs : List AV → Option (List UInt8)
  | [] => some []
  | .int .u8 n :: xs => (bytesOfAVs xs).map (UInt8.ofNat n.toNat :: ·)
  | _ => none

def aconv (E : Env) (s d : TypeId) (x : AV) : Option AV :=
  match E s, E d with
  | some is, some id =>
    match id.k, x with
    | .int k, .int _ n => some (.int k (k.wrap n))
    | .flt k, .int _ n => some (.flt k (k.nearest n))
    | .int k, .flt f b => match (f.decode b).toInt .zero with
      | some n => if k.min ≤ n ∧ n ≤ k.max then some (.int k n) else none
      | none => none
    | .str, .int _ n => some (.str (Utf8.encode n).data.toList)
    | .str, .str l => some (.str l)
    | .str, .slice xs _ => match is.k with
      | .slice e => match E e with
        | some ie => match ie.k with
          | .int .u8 => (bytesOfAVs xs).map .str
          | _ => none
        | none => none
      | _ => none
    | _, _ => none
  | _, _ => none

def afield (E : Env) (xt : TypeId) (x : AV) (f : Nat) : Option AV :=
  match E xt, x with
  | some i, .agg cs => match i.k with
    | .struct fs => match fs[f]? with
      | some (off, ft) => (E ft).bind fun fi => apart fi (cs.drop off)
      | none => none
    | _ => none
  | _, _ => none

def aindex (E : Env) (xt : TypeId) (x ix : AV) : Option AV :=
  match E xt, x, ix with
  | some i, .agg cs, .int _ n => match i.k with
    | .arr len e => if 0 ≤ n ∧ n < len then (E e).bind fun ei => apart ei (cs.drop (n.toNat * ei.size)) else none
    | _ => none
  | some i, .str l, .int _ n => match i.k with
    | .str => if 0 ≤ n then (l[n.toNat]?).map fun b => .int .u8 b.toNat else none
    | _ => none
  | _, _, _ => none

def afieldAddr (E : Env) (st : TypeId) (x : AV) (f : Nat) : Option AV :=
  match E st with
  | some i => match i.k with
    | .struct fs => match fs[f]? with
      | some (off, ft) => match E ft with
        | some fi => if fi.size = 0 then none else match x with
          | .vptr id o => some (.vptr id (o + off))
          | .cptr cs => some (.cptr (cs.drop off))
          | .eptr id v o => some (.eptr id v (o + off))
          | _ => none
        | none => none
      | none => none
    | _ => none
  | none => none

def aindexAddr (E : Env) (t : TypeId) (x ix : AV) : Option AV :=
  match E t, ix with
  | some i, .int _ n => match i.k, x with
    | .slice e, .slice xs _ => if 0 ≤ n then match xs[n.toNat]?, E e with
      | some y, some ei => if y.cells.length = ei.size then some (.cptr y.cells) else none
      | _, _ => none
      else none
    | .slice e, .sref id v off len => if 0 ≤ n ∧ n < len then (E e).map fun ei => .eptr id v (off + n.toNat * ei.size) else none
    | .arr len e, .vptr id o => if 0 ≤ n ∧ n < len then (E e).map fun ei => .vptr id (o + n.toNat * ei.size) else none
    | .arr len e, .eptr id v o => if 0 ≤ n ∧ n < len then (E e).map fun ei => .eptr id v (o + n.toNat * ei.size) else none
    | .arr len e, .cptr cs => if 0 ≤ n ∧ n < len then (E e).map fun ei => .cptr (cs.drop (n.toNat * ei.size)) else none
    | _, _ => none
  | _, _ => none

section
variable {P : Program} {E : Env}

theorem aun_ok {g : G} {op : UnOp} {x r : AV} {v : Value} (hx : VR g x v) (h : aun op x = some r) (w : World) : ∃ u, (Op.unary op v).run P w = .ok u w ∧ VR g r u := by
  unfold aun at h
  cases hp : prim x with
  | none => rw [hp] at h; cases h
  | some a =>
    rw [hp] at h
    have := prim_ok hx hp
    subst this
    simp only [Option.bind_some] at h
    cases hq : pureOf (Op.unary op v) with
    | none => rw [hq] at h; cases h
    | some u =>
      rw [hq] at h
      injection h with h
      subst h
      exact ⟨u, pureOf_run hq w, ofConst_ok g u⟩

theorem bytesOf_ok {g : G} {xs : List AV} {vs : List Value} {l : List UInt8} (hb : bytesOfAVs xs = some l) (h : VRs g xs vs) :
    ∃ ns : List Int, vs = ns.map (Value.int .u8) ∧ l = ns.map (fun n => UInt8.ofNat n.toNat) ∧ flat xs = xs := by
  induction xs generalizing vs l with
  | nil => simp [bytesOfAVs] at hb; subst hb; cases h; exact ⟨[], rfl, rfl, rfl⟩
  | cons x xs ih =>
    cases h with
    | cons h1 h2 =>
      unfold bytesOfAVs at hb
      split at hb
      · rename_i heq; cases heq
      · rename_i n ys heq
        injection heq with e1 e2
        subst e1; subst e2
        cases hbb : bytesOfAVs xs with
        | none => rw [hbb] at hb; cases hb
        | some m =>
          rw [hbb] at hb
          injection hb with hb
          subst hb
          obtain ⟨ns, rfl, rfl, hf⟩ := ih hbb h2
          cases h1
          refine ⟨n :: ns, rfl, rfl, ?_⟩
          rw [flat_cons, hf]
          rfl
      · cases hb

theorem run_convert_slice_nil (src e dst : TypeId) (hs : P.underlying src = some (.slice e)) (he : P.underlying e = some (.int .u8)) (hd : P.underlying dst = some .string) (base : Option Addr) (c : Nat) (w : World) :
    (Go.convert src dst (.slice base 0 c)).run P w = .ok (.string ⟨⟨[]⟩⟩) w := by
  rcases base with _ | a
  · exact run_convert_bytes_nil w src e hs he 0 c dst hd
  · rw [run_convert_bytes_string w src dst e _ 0 c hs he hd]
    have : (loadCells a 0).run P w = .ok #[] w := rfl
    simp [Conv.bytesToString, this]
    rfl

theorem aconv_ok (hE : EnvOK P E) {g : G} {s d : TypeId} {x r : AV} {v : Value} (hx : VR g x v) (h : aconv E s d x = some r) {w : World} (him : ∀ b o u, g.im b o = some u → w.cell? ⟨b, o, none⟩ = some u) :
    ∃ u, (Go.convert s d v).run P w = .ok u w ∧ VR g r u := by
  unfold aconv at h
  split at h
  case h_2 => cases h
  case h_1 is id his hid =>
  obtain ⟨_, hus⟩ : ∃ ds, P.underlying s = some ds := by
    obtain ⟨_, _, _, _, hk, _⟩ := hE _ _ his
    cases hkk : is.k <;> rw [hkk] at hk <;> first | exact ⟨_, hk⟩ | (obtain ⟨_, hk, _⟩ := hk; exact ⟨_, hk⟩) | (obtain ⟨_, _, _, hk⟩ := hk; exact ⟨_, hk⟩) | (obtain ⟨_, hk⟩ := hk; exact ⟨_, hk⟩)
  obtain ⟨_, _, _, _, hkd, _⟩ := hE _ _ hid
  split at h
  · -- int to int
    rename_i k k' n hk
    rw [hk] at hkd
    cases hx
    injection h with h
    subst h
    exact ⟨_, by simp [Go.convert, run_underlying hus, run_underlying hkd, Conv.intToInt], .int _ _⟩
  · -- int to float
    rename_i k k' n hk
    rw [hk] at hkd
    cases hx
    injection h with h
    subst h
    exact ⟨_, by simp [Go.convert, run_underlying hus, run_underlying hkd, Conv.intToFloat], .flt _ _⟩
  · -- float to int
    rename_i k f b hk
    rw [hk] at hkd
    cases hx
    split at h
    · rename_i n hn
      split at h
      · rename_i hr
        injection h with h
        subst h
        exact ⟨_, by simp [Go.convert, run_underlying hus, run_underlying hkd, Conv.floatToInt, hn, hr], .int _ _⟩
      · cases h
    · cases h
  · -- int to string
    rename_i k n hk
    rw [hk] at hkd
    cases hx
    injection h with h
    subst h
    refine ⟨.string (Utf8.encode n), by simp [Go.convert, run_underlying hus, run_underlying hkd, Conv.intToString], ?_⟩
    generalize Utf8.encode n = b
    obtain ⟨⟨l⟩⟩ := b
    exact .str l
  · -- string to string
    rename_i l hk
    rw [hk] at hkd
    cases hx
    injection h with h
    subst h
    exact ⟨_, by simp [Go.convert, run_underlying hus, run_underlying hkd], .str _⟩
  · -- bytes to string
    rename_i xs tok hk
    rw [hk] at hkd
    split at h
    · rename_i e hke
      split at h
      · rename_i ie hie
        split at h
        · rename_i hee
          obtain ⟨_, _, _, _, hku, _⟩ := hE _ _ hie
          rw [hee] at hku
          obtain ⟨_, _, _, _, hks, _⟩ := hE _ _ his
          rw [hke] at hks
          cases hb : bytesOfAVs xs with
          | none => rw [hb] at h; cases h
          | some l =>
            rw [hb] at h
            injection h with h
            subst h
            cases hx with
            | slice0 ht =>
              simp [bytesOfAVs] at hb
              subst hb
              exact ⟨_, run_convert_slice_nil s e d hks hku hkd _ _ w, .str _⟩
            | slice size hp hl hs hv hm ht =>
              obtain ⟨ns, h1, h2, h3⟩ := bytesOf_ok hb (by
                have hf : flat xs = xs := by
                  clear hv hm hs hl
                  induction xs generalizing l with
                  | nil => rfl
                  | cons x xs ih =>
                    unfold bytesOfAVs at hb
                    split at hb
                    · rename_i heq; cases heq
                    · rename_i n ys heq
                      injection heq with e1 e2
                      subst e1; subst e2
                      cases hbb : bytesOfAVs xs with
                      | none => rw [hbb] at hb; cases hb
                      | some m => rw [flat_cons, ih m hbb]; rfl
                    · cases hb
                rw [hf] at hv
                exact hv)
              subst h1; subst h2
              refine ⟨_, run_convert_bytes_arg w s e hks hku _ _ _ _ ns ?_ ?_ d hkd, ?_⟩
              · have := hv.length
                rw [h3] at this
                simp at this
                omega
              · intro i hi
                have hlen := hv.length
                rw [h3] at hlen
                simp at hlen
                refine him _ _ _ (hm i _ ?_)
                simp [List.getD_eq_getElem?_getD, List.getElem?_eq_getElem (show i < ns.length by omega)]
              · exact .str _
        · cases h
      · cases h
    · cases h
  · cases h

theorem TKOK.struct_at {t : TypeId} {fs : List (Nat × TypeId)} (h : TKOK P t (.struct fs)) {f : Nat} {off : Nat} {ft : TypeId} (hf : fs[f]? = some (off, ft)) :
    ∃ fields, P.underlying t = some (.struct fields) ∧ ∃ fd, fields[f]? = some fd ∧ fd.offset = off ∧ fd.type = ft := by
  obtain ⟨fields, h1, h2⟩ := h
  refine ⟨fields, h1, ?_⟩
  rw [← h2, List.getElem?_map] at hf
  cases hh : fields.toList[f]? with
  | none => rw [hh] at hf; cases hf
  | some fd =>
    rw [hh] at hf
    simp only [Option.map_some, Option.some.injEq, Prod.mk.injEq] at hf
    exact ⟨fd, by simpa using hh, hf.1, hf.2⟩

theorem afield_ok (hE : EnvOK P E) {g : G} {xt : TypeId} {f : Nat} {x r : AV} {v : Value} (hx : VR g x v) (h : afield E xt x f = some r) (w : World) : ∃ u, (Instr.field xt v f).run P w = .ok u w ∧ VR g r u := by
  unfold afield at h
  split at h
  · rename_i i cs hi
    split at h
    · rename_i fs hk
      split at h
      · rename_i off ft hf
        cases hft : E ft with
        | none => rw [hft] at h; cases h
        | some fi =>
          rw [hft] at h
          simp only [Option.bind_some] at h
          obtain ⟨_, _, _, _, hks, _⟩ := hE _ _ hi
          rw [hk] at hks
          obtain ⟨fields, h1, fd, h2, h3, h4⟩ := hks.struct_at hf
          subst h3; subst h4
          cases hx with
          | agg hv =>
            obtain ⟨u, hu, hr⟩ := run_part_of (hE _ _ hft) w fd.offset hv h
            exact ⟨u, by simp [Instr.field, run_underlying h1, h2, asAgg, hu], hr⟩
      · cases h
    · cases h
  · cases h

theorem aindex_ok (hE : EnvOK P E) {g : G} {xt : TypeId} {x ix r : AV} {v vi : Value} (hx : VR g x v) (hix : VR g ix vi) (h : aindex E xt x ix = some r) (w : World) : ∃ u, (Instr.index xt v vi).run P w = .ok u w ∧ VR g r u := by
  unfold aindex at h
  split at h
  · rename_i i cs k n hi
    split at h
    · rename_i len e hk
      split at h
      · rename_i hr
        cases he : E e with
        | none => rw [he] at h; cases h
        | some ei =>
          rw [he] at h
          simp only [Option.bind_some] at h
          obtain ⟨_, _, _, _, hks, _⟩ := hE _ _ hi
          rw [hk] at hks
          have hks' : P.underlying xt = some (.array len e) := hks
          cases hx with
          | agg hv =>
            cases hix
            obtain ⟨u, hu, hr'⟩ := run_part_of (hE _ _ he) w (n.toNat * ei.size) hv h
            exact ⟨u, by simp [Instr.index, asIntOf, run_underlying hks', hr, (hE _ _ he).sizeOf w, hu], hr'⟩
      · cases h
    · cases h
  · rename_i i l k n hi
    split at h
    · rename_i hk
      split at h
      · rename_i hr
        obtain ⟨_, _, _, _, hks, _⟩ := hE _ _ hi
        rw [hk] at hks
        have hks' : P.underlying xt = some .string := hks
        cases hx
        cases hix
        cases hl : l[n.toNat]? with
        | none => rw [hl] at h; cases h
        | some b =>
          rw [hl] at h
          injection h with h
          subst h
          refine ⟨_, ?_, .int _ _⟩
          have hb : (ByteArray.mk (Array.mk l))[n.toNat]? = some b := by
            obtain ⟨h1, h2⟩ := List.getElem?_eq_some_iff.1 hl
            have h3 : n.toNat < (ByteArray.mk (Array.mk l)).size := h1
            rw [getElem?_pos (ByteArray.mk (Array.mk l)) n.toNat h3]
            exact congrArg some h2
          simp [Instr.index, asIntOf, run_underlying hks', hr, hb]
      · cases h
    · cases h
  · cases h

theorem afieldAddr_ok (hE : EnvOK P E) {g : G} {st : TypeId} {f : Nat} {x r : AV} {v : Value} (hx : VR g x v) (h : afieldAddr E st x f = some r) (w : World) : ∃ u, (Instr.fieldAt st v f).run P w = .ok u w ∧ VR g r u := by
  unfold afieldAddr at h
  split at h
  · rename_i i hi
    split at h
    · rename_i fs hk
      split at h
      · rename_i off ft hf
        split at h
        · rename_i fi hft
          split at h
          · cases h
          · rename_i hz
            obtain ⟨_, _, _, _, hks, _⟩ := hE _ _ hi
            rw [hk] at hks
            obtain ⟨fields, h1, fd, h2, h3, h4⟩ := hks.struct_at hf
            subst h3; subst h4
            have hs := (hE _ _ hft).sizeOf w
            split at h
            · injection h with h
              subst h
              cases hx with
              | @vptr _ _ b hp => exact ⟨.pointer (some ⟨b, _, none⟩), by simp [Instr.fieldAt, run_underlying h1, h2, Instr.sureAddr, fieldPlace, hs, hz, add_none], .vptr hp⟩
            · injection h with h
              subst h
              cases hx with
              | @cptr _ vs b o hv hm =>
                refine ⟨.pointer (some ⟨b, o + fd.offset, none⟩), by simp [Instr.fieldAt, run_underlying h1, h2, Instr.sureAddr, fieldPlace, hs, hz, add_none], .cptr (hv.drop _) ?_⟩
                intro j u hj
                rw [List.getElem?_drop] at hj
                rw [Nat.add_assoc]
                exact hm _ _ hj
            · injection h with h
              subst h
              cases hx with
              | @eptr _ _ _ b c hp => exact ⟨.pointer (some ⟨b, _, none⟩), by simp [Instr.fieldAt, run_underlying h1, h2, Instr.sureAddr, fieldPlace, hs, hz, add_none], .eptr hp⟩
            · cases h
        · cases h
      · cases h
    · cases h
  · cases h

theorem aindexAddr_ok (hE : EnvOK P E) {g : G} {t : TypeId} {x ix r : AV} {v vi : Value} (hx : VR g x v) (hix : VR g ix vi) (h : aindexAddr E t x ix = some r) (w : World) : ∃ u, (Instr.indexAt t v vi).run P w = .ok u w ∧ VR g r u := by
  unfold aindexAddr at h
  split at h
  · rename_i i k n hi
    obtain ⟨_, _, _, _, hks, _⟩ := hE _ _ hi
    cases hix
    split at h
    · rename_i e xs tok hk
      rw [hk] at hks
      have hks' : P.underlying t = some (.slice e) := hks
      split at h
      · rename_i h0
        split at h
        · rename_i y ei hy hei
          split at h
          · rename_i hc
            injection h with h
            subst h
            have hlt := (List.getElem?_eq_some_iff.1 hy).1
            cases hx with
            | slice0 ht => simp at hlt
            | @slice _ vs b o len cap _ size hp hl hs hv hm ht =>
              have hsz := hs y (List.mem_of_getElem? hy)
              have hss : size = ei.size := by omega
              subst hss
              have hrange : 0 ≤ n ∧ n < (xs.length : Int) := ⟨h0, by omega⟩
              subst hl
              refine ⟨.pointer (some ⟨b, o + n.toNat * ei.size, none⟩), by simp [Instr.indexAt, asIntOf, run_underlying hks', hrange, (hE _ _ hei).sizeOf w, add_none], ?_⟩
              refine .cptr (vs := (List.drop (n.toNat * ei.size) vs).take ei.size) ?_ ?_
              · rw [flat_at hs hy]
                exact (hv.drop _).take _
              · intro j u hj
                have hjl : j < ei.size := by
                  have := (List.getElem?_eq_some_iff.1 hj).1
                  simp at this
                  omega
                rw [List.getElem?_take_of_lt hjl, List.getElem?_drop] at hj
                rw [Nat.add_assoc]
                exact hm _ _ hj
          · cases h
        · cases h
      · cases h
    · rename_i e id v0 off len hk
      rw [hk] at hks
      have hks' : P.underlying t = some (.slice e) := hks
      split at h
      · rename_i hr
        cases hei : E e with
        | none => rw [hei] at h; cases h
        | some ei =>
          rw [hei] at h
          injection h with h
          subst h
          cases hx with
          | @sref _ _ _ _ b c cap hp hl hc => exact ⟨.pointer (some ⟨b, _, none⟩), by simp [Instr.indexAt, asIntOf, run_underlying hks', hr, (hE _ _ hei).sizeOf w, add_none], .eptr hp⟩
      · cases h
    · rename_i len e id o hk
      rw [hk] at hks
      have hks' : P.underlying t = some (.array len e) := hks
      split at h
      · rename_i hr
        cases hei : E e with
        | none => rw [hei] at h; cases h
        | some ei =>
          rw [hei] at h
          injection h with h
          subst h
          cases hx with
          | @vptr _ _ b hp => exact ⟨.pointer (some ⟨b, _, none⟩), by simp [Instr.indexAt, asIntOf, run_underlying hks', hr, Instr.sureAddr, (hE _ _ hei).sizeOf w, add_none], .vptr hp⟩
      · cases h
    · rename_i len e id v0 o hk
      rw [hk] at hks
      have hks' : P.underlying t = some (.array len e) := hks
      split at h
      · rename_i hr
        cases hei : E e with
        | none => rw [hei] at h; cases h
        | some ei =>
          rw [hei] at h
          injection h with h
          subst h
          cases hx with
          | @eptr _ _ _ b c hp => exact ⟨.pointer (some ⟨b, _, none⟩), by simp [Instr.indexAt, asIntOf, run_underlying hks', hr, Instr.sureAddr, (hE _ _ hei).sizeOf w, add_none], .eptr hp⟩
      · cases h
    · rename_i len e cs hk
      rw [hk] at hks
      have hks' : P.underlying t = some (.array len e) := hks
      split at h
      · rename_i hr
        cases hei : E e with
        | none => rw [hei] at h; cases h
        | some ei =>
          rw [hei] at h
          injection h with h
          subst h
          cases hx with
          | @cptr _ vs b o hv hm =>
            refine ⟨.pointer (some ⟨b, o + n.toNat * ei.size, none⟩), by simp [Instr.indexAt, asIntOf, run_underlying hks', hr, Instr.sureAddr, (hE _ _ hei).sizeOf w, add_none], .cptr (hv.drop _) ?_⟩
            intro j u hj
            rw [List.getElem?_drop] at hj
            rw [Nat.add_assoc]
            exact hm _ _ hj
      · cases h
    · cases h
  · cases h
end
end Go.Av
set_option linter.unusedVariables false
set_option linter.unusedSectionVars false
set_option linter.unusedSimpArgs false
namespace Go.Av
open Go.RowKit

/-- A bound of a cut. -/
def abound (x : AV) (y : Nat) : Option Nat :=
  match x with
  | .int _ i => if 0 ≤ i ∧ i ≤ y then some i.toNat else none
  | _ => none

def hiOf (hi : Option AV) (len : Nat) : Option Nat := match hi with | some v => abound v len | none => some len
def loOf (lo : Option AV) (h : Nat) : Option Nat := match lo with | some v => abound v h | none => some 0

def cutTok (tok : Tok) (len l h : Nat) : Tok :=
  if h = len then (match tok with | .full => .full | .nil => .full | .tip t p => if l = 0 then .tip t p else .ro | .ro => .ro) else .ro

def aslice (E : Env) (t : TypeId) (x : AV) (lo hi mx : Option AV) : Option AV :=
  match E t, x with
  | some i, .str s => match i.k, mx with
    | .str, none =>
      match hiOf hi s.length with
      | some h => match loOf lo h with
        | some l => some (.str ((s.drop l).take (h - l)))
        | none => none
      | none => none
    | _, _ => none
  | some i, .slice xs tok => match i.k with
    | .slice e => match E e with
      | some ei =>
        if xs.all (fun y => y.cells.length == ei.size) then
          match mx with
          | none =>
            match hiOf hi xs.length with
            | some h => match loOf lo h with
              | some l => some (.slice ((xs.take h).drop l) (cutTok tok xs.length l h))
              | none => none
            | none => none
          | some m => match abound m xs.length, hi with
            | some m, some hv => match abound hv m with
              | some h => match loOf lo h with
                | some l => some (.slice ((xs.take h).drop l) (if m = h then .full else .ro))
                | none => none
              | none => none
            | _, _ => none
        else none
      | none => none
    | _ => none
  | some i, .sref id v off len => match i.k with
    | .slice e => match E e with
      | some ei =>
        if 0 < ei.size then
          match mx with
          | none =>
            match hiOf hi len with
            | some h => match loOf lo h with
              | some l => if l = 0 then some (.sref id v off h) else if l = h then some (.slice [] .ro) else some (.sref id v (off + l * ei.size) (h - l))
              | none => none
            | none => none
          | some m => match abound m len, hi with
            | some m, some hv => match abound hv m with
              | some h => match loOf lo h with
                | some l => if l = h then some (.slice [] (if m = h then .full else .ro)) else none
                | none => none
              | none => none
            | _, _ => none
        else none
      | none => none
    | _ => none
  | _, _ => none

section
variable {P : Program} {E : Env}

theorem abound_ok {g : G} {x : AV} {v : Value} (hx : VR g x v) {y n : Nat} (h : abound x y = some n) : n ≤ y ∧ ∀ (P : Program) (code : BoundsCode) (w : World) (y' : Nat), y ≤ y' → (Instr.sliceBound v y' code).run P w = .ok n w := by
  cases hx <;> simp only [abound] at h <;> try (cases h; done)
  rename_i k n'
  split at h
  · rename_i hr
    injection h with h
    subst h
    refine ⟨by omega, fun P code w y' hy => ?_⟩
    have : 0 ≤ n' ∧ n' ≤ (y' : Int) := by omega
    simp [Instr.sliceBound, asIntOf, this]
  · cases h

/-- An optional operand. -/
def OptR (g : G) : Option AV → Option Value → Prop
  | none, none => True
  | some a, some v => VR g a v
  | _, _ => False

/-- Bounds of a cut, all of them within the length. -/
theorem abounds_ok {g : G} {lo hi : Option AV} {vlo vhi : Option Value} (hlo : OptR g lo vlo) (hhi : OptR g hi vhi)
    {len cap l h : Nat} (hlc : len ≤ cap) (h1 : hiOf hi len = some h) (h2 : loOf lo h = some l) (isSlice : Bool) (w : World) :
    h ≤ len ∧ l ≤ h ∧ (Instr.sliceBounds isSlice len cap vlo vhi none).run P w = .ok (l, h, cap) w := by
  cases hi with
  | none =>
    cases vhi with
    | some v => exact hhi.elim
    | none =>
      simp only [hiOf, Option.some.injEq] at h1
      subst h1
      cases lo with
      | none =>
        cases vlo with
        | some v => exact hlo.elim
        | none =>
          simp only [loOf, Option.some.injEq] at h2
          subst h2
          exact ⟨Nat.le_refl _, Nat.zero_le _, by simp [Instr.sliceBounds]⟩
      | some a =>
        cases vlo with
        | none => exact hlo.elim
        | some v =>
          obtain ⟨b1, b2⟩ := abound_ok hlo h2
          exact ⟨Nat.le_refl _, b1, by simp [Instr.sliceBounds, b2 P _ w _ (Nat.le_refl _)]⟩
  | some ah =>
    cases vhi with
    | none => exact hhi.elim
    | some u =>
      obtain ⟨c1, c2⟩ := abound_ok hhi h1
      cases lo with
      | none =>
        cases vlo with
        | some v => exact hlo.elim
        | none =>
          simp only [loOf, Option.some.injEq] at h2
          subst h2
          exact ⟨c1, Nat.zero_le _, by simp [Instr.sliceBounds, c2 P _ w _ hlc]⟩
      | some a =>
        cases vlo with
        | none => exact hlo.elim
        | some v =>
          obtain ⟨b1, b2⟩ := abound_ok hlo h2
          exact ⟨c1, b1, by simp [Instr.sliceBounds, c2 P _ w _ hlc, b2 P _ w _ (Nat.le_refl _)]⟩

theorem abounds3_ok {g : G} {lo : Option AV} {am ah : AV} {vlo : Option Value} {vm vh : Value} (hlo : OptR g lo vlo) (hhi : VR g ah vh) (hmx : VR g am vm)
    {len cap l h m : Nat} (hlc : len ≤ cap) (h0 : abound am len = some m) (h1 : abound ah m = some h) (h2 : loOf lo h = some l) (isSlice : Bool) (w : World) :
    m ≤ len ∧ h ≤ m ∧ l ≤ h ∧ (Instr.sliceBounds isSlice len cap vlo (some vh) (some vm)).run P w = .ok (l, h, m) w := by
  obtain ⟨d1, d2⟩ := abound_ok hmx h0
  obtain ⟨c1, c2⟩ := abound_ok hhi h1
  cases lo with
  | none =>
    cases vlo with
    | some v => exact hlo.elim
    | none =>
      simp only [loOf, Option.some.injEq] at h2
      subst h2
      exact ⟨d1, c1, Nat.zero_le _, by simp [Instr.sliceBounds, d2 P _ w _ hlc, c2 P _ w _ (Nat.le_refl _)]⟩
  | some a =>
    cases vlo with
    | none => exact hlo.elim
    | some v =>
      obtain ⟨b1, b2⟩ := abound_ok hlo h2
      exact ⟨d1, c1, b1, by simp [Instr.sliceBounds, d2 P _ w _ hlc, c2 P _ w _ (Nat.le_refl _), b2 P _ w _ (Nat.le_refl _)]⟩

/-- A slice cut out of a slice. -/
theorem cut_ok {g : G} {xs : List AV} {tok tok' : Tok} {base : Option Addr} {len cap size : Nat} (hx : VR g (.slice xs tok) (.slice base len cap)) (hs : ∀ x ∈ xs, x.cells.length = size) {l h m : Nat} (hh : h ≤ len) (hl : l ≤ h) (hm : h ≤ m) (hmc : m ≤ cap)
    (ht : ∀ b : Option Addr, (l = 0 → b = base) → TokOK g b (h - l) (m - l) tok') :
    VR g (.slice ((xs.take h).drop l) tok') (.slice (if m = l then base else base.map (·.add (l * size))) (h - l) (m - l)) := by
  cases hx with
  | slice0 ht0 =>
    have : h = 0 := by omega
    subst this
    have : l = 0 := by omega
    subst this
    simp only [List.take_nil, List.drop_nil]
    refine .slice0 (ht _ fun _ => ?_)
    split
    · rfl
    · cases base with
      | none => rfl
      | some a => simp [Addr.add]
  | @slice _ vs b o len cap _ sz hp hlen hsz hv hm' ht0 =>
    subst hlen
    rcases Nat.eq_zero_or_pos (h - l) with e | e
    · have : (xs.take h).drop l = [] := by
        apply List.drop_of_length_le
        rw [List.length_take]
        omega
      rw [this, e]
      refine .slice0 ?_
      have := ht (if m = l then some ⟨b, o, none⟩ else (some (⟨b, o, none⟩ : Addr)).map (·.add (l * size))) (fun h0 => by subst h0; split <;> simp [Addr.add])
      rwa [e] at this
    · have hne : m ≠ l := by omega
      rw [if_neg hne]
      simp only [Option.map_some, add_none]
      have hszz : sz = size := by
        cases xs with
        | nil => simp at hh; omega
        | cons x xs => rw [← hsz x (by simp), hs x (by simp)]
      subst hszz
      refine .slice (vs := (vs.take (h * sz)).drop (l * sz)) sz hp (by rw [List.length_drop, List.length_take]; omega) (fun x hx => hs x (List.mem_of_mem_take (List.mem_of_mem_drop hx))) ?_ ?_ ?_
      · rw [flat_drop (fun x hx => hs x (List.mem_of_mem_take hx)), flat_take hs]
        exact (hv.take _).drop _
      · intro j v hj
        rw [List.getElem?_drop] at hj
        have : l * sz + j < (vs.take (h * sz)).length := (List.getElem?_eq_some_iff.1 hj).1
        rw [List.length_take] at this
        rw [List.getElem?_take_of_lt (by omega)] at hj
        rw [Nat.add_assoc]
        exact hm' _ _ hj
      · refine ht _ fun h0 => ?_
        subst h0
        simp

theorem aslice_ok (hE : EnvOK P E) {g : G} {t : TypeId} {x r : AV} {lo hi mx : Option AV} {v : Value} {vlo vhi vmx : Option Value} (hx : VR g x v) (hlo : OptR g lo vlo) (hhi : OptR g hi vhi) (hmx : OptR g mx vmx)
    (h : aslice E t x lo hi mx = some r) (w : World) : ∃ u, (Instr.sliceAt t v vlo vhi vmx).run P w = .ok u w ∧ VR g r u := by
  unfold aslice at h
  split at h
  · -- a string
    rename_i i s hi'
    split at h
    · rename_i hk
      split at h
      · rename_i hh h1
        split at h
        · rename_i ll h2
          injection h with h
          subst h
          obtain ⟨_, _, _, _, hks, _⟩ := hE _ _ hi'
          rw [hk] at hks
          have hks' : P.underlying t = some .string := hks
          cases vmx with
          | some v => exact hmx.elim
          | none =>
            cases hx
            obtain ⟨b1, b2, b3⟩ := abounds_ok (P := P) hlo hhi (Nat.le_refl _) h1 h2 false w
            refine ⟨.string ⟨⟨(s.drop ll).take (hh - ll)⟩⟩, ?_, .str _⟩
            have hsz : (ByteArray.mk (Array.mk s)).size = s.length := rfl
            have hex : (ByteArray.mk (Array.mk s)).extract ll hh = ⟨⟨(s.drop ll).take (hh - ll)⟩⟩ := by
              have := Lib.extract_data (ByteArray.mk (Array.mk s)) ll hh
              generalize (ByteArray.mk (Array.mk s)).extract ll hh = q at this
              obtain ⟨⟨q⟩⟩ := q
              simp only at this
              rw [this]
            simp [Instr.sliceAt, Instr.slice, run_underlying hks', hsz, b3, hex]
        · cases h
      · cases h
    · cases h
  · -- a slice
    rename_i i xs tok hi'
    split at h
    · rename_i e hk
      split at h
      · rename_i ei hei
        split at h
        · rename_i hall
          obtain ⟨_, _, _, _, hks, _⟩ := hE _ _ hi'
          rw [hk] at hks
          have hks' : P.underlying t = some (.slice e) := hks
          have hs : ∀ x ∈ xs, x.cells.length = ei.size := by
            intro x hx'
            have := List.all_eq_true.1 hall x hx'
            simpa using this
          obtain ⟨base, len, cap, rfl, hlc, hll, htok⟩ : ∃ base len cap, v = .slice base len cap ∧ len ≤ cap ∧ xs.length = len ∧ TokOK g base len cap tok := by
            cases hx with
            | slice0 ht => exact ⟨_, _, _, rfl, Nat.zero_le _, rfl, ht⟩
            | slice size hp hl hs hv hm ht => exact ⟨_, _, _, rfl, ht.cap, hl, ht⟩
          have hz := (hE _ _ hei).sizeOf w
          split at h
          · -- two bounds
            split at h
            · rename_i hh h1
              split at h
              · rename_i ll h2
                injection h with h
                subst h
                cases vmx with
                | some v => exact hmx.elim
                | none =>
                  rw [hll] at h1 ⊢
                  obtain ⟨b1, b2, b3⟩ := abounds_ok (P := P) hlo hhi hlc h1 h2 true w
                  refine ⟨.slice (if cap = ll then base else base.map (·.add (ll * ei.size))) (hh - ll) (cap - ll), by simp [Instr.sliceAt, Instr.slice, run_underlying hks', b3, hz], ?_⟩
                  refine cut_ok hx hs b1 b2 (Nat.le_trans b1 hlc) (Nat.le_refl _) fun b hb => ?_
                  unfold cutTok
                  split
                  · rename_i he
                    subst he
                    cases tok with
                    | ro => exact Nat.sub_le_sub_right hlc _
                    | full => exact congrArg (· - ll) htok
                    | nil => exact congrArg (· - ll) (htok.2.2.trans htok.2.1.symm)
                    | tip t p =>
                      simp only
                      split
                      · rename_i h0
                        subst h0
                        rw [hb rfl]
                        exact htok
                      · exact Nat.sub_le_sub_right hlc _
                  · exact Nat.sub_le_sub_right (Nat.le_trans b1 hlc) _
              · cases h
            · cases h
          · -- three bounds
            rename_i am
            split at h
            · rename_i m hv h0
              split at h
              · rename_i hh h1
                split at h
                · rename_i ll h2
                  injection h with h
                  subst h
                  cases vmx with
                  | none => exact hmx.elim
                  | some vm =>
                    cases vhi with
                    | none => exact hhi.elim
                    | some vh =>
                      rw [hll] at h0
                      obtain ⟨b0, b1, b2, b3⟩ := abounds3_ok (P := P) hlo hhi hmx hlc h0 h1 h2 true w
                      refine ⟨.slice (if m = ll then base else base.map (·.add (ll * ei.size))) (hh - ll) (m - ll), by simp [Instr.sliceAt, Instr.slice, run_underlying hks', b3, hz], ?_⟩
                      refine cut_ok hx hs (by omega) b2 b1 (by omega) fun b hb => ?_
                      split
                      · rename_i he; subst he; exact rfl
                      · exact Nat.sub_le_sub_right b1 _
                · cases h
              · cases h
            · cases h
        · cases h
      · cases h
    · cases h
  · -- a mutable row
    rename_i i id v0 off len hi'
    split at h
    · rename_i e hk
      split at h
      · rename_i ei hei
        split at h
        · rename_i hpos
          obtain ⟨_, _, _, _, hks, _⟩ := hE _ _ hi'
          rw [hk] at hks
          have hks' : P.underlying t = some (.slice e) := hks
          have hz := (hE _ _ hei).sizeOf w
          cases hx with
          | @sref _ _ _ _ b c cap hb hlc hcap =>
            split at h
            · split at h
              · rename_i hh h1
                split at h
                · rename_i ll h2
                  cases vmx with
                  | some v => exact hmx.elim
                  | none =>
                    obtain ⟨b1, b2, b3⟩ := abounds_ok (P := P) hlo hhi hlc h1 h2 true w
                    have hrun : (Instr.sliceAt t (.slice (some ⟨b, off, none⟩) len cap) vlo vhi none).run P w = .ok (.slice (if cap = ll then some ⟨b, off, none⟩ else (some (⟨b, off, none⟩ : Addr)).map (·.add (ll * ei.size))) (hh - ll) (cap - ll)) w := by
                      simp [Instr.sliceAt, Instr.slice, run_underlying hks', b3, hz]
                    refine ⟨_, hrun, ?_⟩
                    split at h
                    · rename_i h0
                      subst h0
                      injection h with h
                      subst h
                      have e1 : (if cap = 0 then some (⟨b, off, none⟩ : Addr) else (some (⟨b, off, none⟩ : Addr)).map (·.add (0 * ei.size))) = some ⟨b, off, none⟩ := by
                        split
                        · rfl
                        · simp [add_none]
                      rw [e1]
                      exact .sref hb (Nat.le_trans b1 hlc) hcap
                    · rename_i h0
                      split at h
                      · rename_i hlh
                        subst hlh
                        injection h with h
                        subst h
                        rw [Nat.sub_self]
                        exact .slice0 (Nat.zero_le _)
                      · rename_i hlh
                        injection h with h
                        subst h
                        rw [if_neg (by omega)]
                        simp only [Option.map_some, add_none]
                        refine .sref hb (by omega) fun he => ?_
                        have := Nat.mul_pos (Nat.pos_of_ne_zero h0) hpos
                        omega
                · cases h
              · cases h
            · rename_i am
              split at h
              · rename_i m hv h0
                split at h
                · rename_i hh h1
                  split at h
                  · rename_i ll h2
                    cases vmx with
                    | none => exact hmx.elim
                    | some vm =>
                      cases vhi with
                      | none => exact hhi.elim
                      | some vh =>
                        obtain ⟨b0, b1, b2, b3⟩ := abounds3_ok (P := P) hlo hhi hmx hlc h0 h1 h2 true w
                        split at h
                        · rename_i hlh
                          subst hlh
                          injection h with h
                          subst h
                          refine ⟨.slice (if m = ll then some ⟨b, off, none⟩ else (some (⟨b, off, none⟩ : Addr)).map (·.add (ll * ei.size))) (ll - ll) (m - ll), by simp [Instr.sliceAt, Instr.slice, run_underlying hks', b3, hz], ?_⟩
                          rw [Nat.sub_self]
                          refine .slice0 ?_
                          split
                          · rename_i he; subst he; exact Nat.sub_self _
                          · exact Nat.zero_le _
                        · cases h
                  · cases h
                · cases h
              · cases h
        · cases h
      · cases h
    · cases h
  · cases h
end
end Go.Av
set_option linter.unusedVariables false
set_option linter.unusedSectionVars false
set_option linter.unusedSimpArgs false
namespace Go.Av
open Go.RowKit

def setRange {α : Type} (cs : List α) (off : Nat) (ys : List α) : List α := cs.take off ++ (ys ++ cs.drop (off + ys.length))
theorem setRange_length {α : Type} (cs : List α) (off : Nat) (ys : List α) (h : off + ys.length ≤ cs.length) : (setRange cs off ys).length = cs.length := by
  simp [setRange]; omega
theorem setRange_cons {α : Type} (cs : List α) (off : Nat) (y : α) (ys : List α) (h : off + (y :: ys).length ≤ cs.length) : setRange (cs.set off y) (off + 1) ys = setRange cs off (y :: ys) := by
  simp only [List.length_cons] at h
  unfold setRange
  have hlt : off < cs.length := by omega
  have e1 : (cs.set off y).take (off + 1) = cs.take off ++ [y] := by
    rw [List.take_set]
    have e0 : (cs.take (off + 1)).set off y = cs.take off ++ [y] := by
      rw [List.take_succ_eq_append_getElem hlt, List.set_append]
      simp [Nat.min_eq_left (Nat.le_of_lt hlt)]
    exact e0
  have e2 : (cs.set off y).drop (off + 1 + ys.length) = cs.drop (off + (y :: ys).length) := by
    rw [List.drop_set_of_lt (by omega)]
    congr 1
    simp only [List.length_cons]
    omega
  rw [e1, e2]
  simp
theorem fold_set (off : Nat) : ∀ (vs : List Value) (k : Nat) (cs : Array Value), off + k + vs.length ≤ cs.size →
    ((vs.zipIdx k).foldl (fun cs p => cs.setIfInBounds (off + p.2) p.1) cs).toList = setRange cs.toList (off + k) vs
  | [], k, cs, _ => by simp [setRange]
  | v :: vs, k, cs, h => by
    simp only [List.length_cons] at h
    have ih := fold_set off vs (k + 1) (cs.setIfInBounds (off + k) v) (by simp; omega)
    simp only [List.zipIdx_cons, List.foldl_cons]
    rw [ih, Array.toList_setIfInBounds, ← Nat.add_assoc, setRange_cons _ _ _ _ (by simp; omega)]
theorem VRs.setRange {g : G} {cs ys : List AV} {vs ws : List Value} (h : VRs g cs vs) (k : VRs g ys ws) (off : Nat) : VRs g (setRange cs off ys) (setRange vs off ws) := by
  unfold Av.setRange
  refine (h.take _).append (k.append ?_)
  rw [← k.length]
  exact h.drop _

/-- A value that may be laid into memory: neither unknown nor several results. -/
def AV.laid : AV → Bool
  | .top | .tuple _ => false
  | _ => true
theorem AV.laid_cells {x : AV} (h : x.laid = true) : x.oneCell = true ∨ ∃ cs, x = .agg cs := by
  cases x <;> simp_all [AV.laid, AV.oneCell]

def afill (place : Nat → Option (Nat × Nat)) (cells : List AV) : List (Nat × AV) → Option (List AV)
  | [] => some cells
  | (i, x) :: rest =>
    match place i with
    | none => none
    | some (off, size) => if x.laid && (x.cells.length == size) && decide (off + x.cells.length ≤ cells.length) then afill place (setRange cells off x.cells) rest else none

inductive PartsR (g : G) : List (Nat × AV) → List (Nat × Value) → Prop
  | nil : PartsR g [] []
  | cons {i : Nat} {x : AV} {v : Value} {ps : List (Nat × AV)} {qs : List (Nat × Value)} (h : VR g x v) (hs : PartsR g ps qs) : PartsR g ((i, x) :: ps) ((i, v) :: qs)

theorem fill_ok {g : G} {place : Nat → Option (Nat × Nat)} : ∀ {ps : List (Nat × AV)} {qs : List (Nat × Value)} (h : PartsR g ps qs) {cells r : List AV} {cs : Array Value}, VRs g cells cs.toList → afill place cells ps = some r →
    ∃ cs', Instr.fill place cs qs = some cs' ∧ VRs g r cs'.toList := by
  intro ps qs h
  induction h with
  | nil => intro cells r cs hc hr; simp only [afill, Option.some.injEq] at hr; subst hr; exact ⟨cs, rfl, hc⟩
  | @cons i x v ps qs hx hs ih =>
    intro cells r cs hc hr
    simp only [afill] at hr
    split at hr
    · cases hr
    · rename_i off size hp
      split at hr
      · rename_i hcond
        simp only [Bool.and_eq_true, beq_iff_eq, decide_eq_true_eq] at hcond
        obtain ⟨⟨hlaid, hsz⟩, hle⟩ := hcond
        have hcells := hx.cells (AV.laid_cells hlaid)
        have hl := hcells.length
        have hl2 := hc.length
        have hvs : v.cells.size = size := by rw [← hsz, ← hl]; simp
        have hcs : off + v.cells.size ≤ cs.size := by
          have : cs.size = cells.length := by rw [← hl2]; simp
          omega
        have hfold : (v.cells.zipIdx.foldl (fun cs (p : Value × Nat) => cs.setIfInBounds (off + p.2) p.1) cs).toList = setRange cs.toList off v.cells.toList := by
          have := fold_set off v.cells.toList 0 cs (by simpa using hcs)
          simp only [Nat.add_zero] at this
          rw [← this, ← Array.foldl_toList, Array.toList_zipIdx]
        obtain ⟨cs', h1, h2⟩ := ih (cs := v.cells.zipIdx.foldl (fun cs (p : Value × Nat) => cs.setIfInBounds (off + p.2) p.1) cs) (by rw [hfold]; exact hc.setRange hcells off) hr
        refine ⟨cs', ?_, h2⟩
        simp only [Instr.fill, hp, hvs]
        rw [if_neg (by simp [hvs]; rw [hvs] at hcs; exact hcs)]
        exact h1
      · cases hr

def abuild (E : Env) (t : TypeId) (ps : List (Nat × AV)) : Option AV :=
  match E t with
  | some i => match i.k, i.zero with
    | .struct fs, .agg zs => if fs.all (fun p => (E p.2).isSome) then (afill (fun k => (fs[k]?).bind fun p => (E p.2).map fun fi => (p.1, fi.size)) zs ps).map .agg else none
    | .arr _ e, .agg zs => match E e with
      | some ei => (afill (fun k => some (k * ei.size, ei.size)) zs ps).map .agg
      | none => none
    | _, _ => none
  | none => none

section
variable {P : Program} {E : Env}
theorem TIOK.zero_agg {t : TypeId} {i : TI} {zs : List AV} (h : TIOK P t i) (hz : i.zero = .agg zs) : ∃ info cs, P.info? t = some info ∧ info.zero = some (.agg cs) ∧ ∀ g, VRs g zs cs.toList := by
  obtain ⟨info, h1, _, _, _, h5, h6, _⟩ := h
  cases hzz : info.zero with
  | none => rw [h6 hzz] at hz; cases hz
  | some z =>
    rcases h5 z hzz with h | h
    · rw [h] at hz; cases hz
    · rw [hz] at h
      have := fun g => ofConst_ok g z
      rw [← h] at this
      cases this ⟨fun _ => none, fun _ _ => none, fun _ _ => none⟩ with
      | @agg _ vs h0 =>
        exact ⟨info, ⟨vs⟩, h1, hzz, fun g => by cases this g with | agg h => exact h⟩

theorem mapM_places (hE : EnvOK P E) : ∀ (fields : List Field), (fields.all fun f => (E f.type).isSome) = true →
    fields.mapM (fun f => (P.info? f.type).map fun i => (f.offset, i.size)) = some (fields.map fun f => (f.offset, ((E f.type).map (·.size)).getD 0))
  | [], _ => rfl
  | f :: fields, h => by
    simp only [List.all_cons, Bool.and_eq_true] at h
    obtain ⟨fi, hfi⟩ := Option.isSome_iff_exists.1 h.1
    obtain ⟨info, h1, h2, _⟩ := (hE _ _ hfi).info
    simp [List.mapM_cons, h1, h2, hfi, mapM_places hE fields h.2]

theorem abuild_ok (hE : EnvOK P E) {g : G} {t : TypeId} {ps : List (Nat × AV)} {qs : Array (Nat × Value)} {r : AV} (hp : PartsR g ps qs.toList) (h : abuild E t ps = some r) (w : World) : ∃ u, (Instr.build t qs).run P w = .ok u w ∧ VR g r u := by
  unfold abuild at h
  split at h
  · rename_i i hi
    split at h
    · rename_i fs zs hk hz
      split at h
      · rename_i hall
        obtain ⟨info, cs, h1, h2, h3⟩ := (hE _ _ hi).zero_agg hz
        obtain ⟨_, _, _, _, hks, _⟩ := hE _ _ hi
        rw [hk] at hks
        obtain ⟨fields, hu, hf⟩ := hks
        cases hr : afill (fun k => (fs[k]?).bind fun p => (E p.2).map fun fi => (p.1, fi.size)) zs ps with
        | none => rw [hr] at h; cases h
        | some r' =>
          rw [hr] at h
          injection h with h
          subst h
          obtain ⟨cs', h4, h5⟩ := fill_ok hp (cs := cs) (h3 g) hr
          refine ⟨.agg cs', run_build w t qs cs' ?_, ?_⟩
          · have hall' : (fields.toList.all fun f => (E f.type).isSome) = true := by
              rw [← hf, List.all_map] at hall
              exact hall
            have hm := mapM_places hE _ hall'
            unfold Program.built
            rw [h1, hu]
            simp only [h2, hm, Value.cells]
            rw [← h4]
            congr 1
            funext k
            rw [← hf, List.getElem?_map]
            simp only [List.getElem?_toArray, List.getElem?_map]
            cases hk : fields.toList[k]? with
            | none => rfl
            | some f =>
              have hfm := List.all_eq_true.1 hall' f (List.mem_of_getElem? hk)
              obtain ⟨fi, hfi⟩ := Option.isSome_iff_exists.1 hfm
              simp [hfi]
          · obtain ⟨l⟩ := cs'
            exact .agg h5
      · cases h
    · rename_i n e zs hk hz
      split at h
      · rename_i ei hei
        obtain ⟨info, cs, h1, h2, h3⟩ := (hE _ _ hi).zero_agg hz
        obtain ⟨_, _, _, _, hks, _⟩ := hE _ _ hi
        rw [hk] at hks
        have hu : P.underlying t = some (.array n e) := hks
        obtain ⟨ie, h6, h7, _⟩ := (hE _ _ hei).info
        cases hr : afill (fun k => some (k * ei.size, ei.size)) zs ps with
        | none => rw [hr] at h; cases h
        | some r' =>
          rw [hr] at h
          injection h with h
          subst h
          obtain ⟨cs', h4, h5⟩ := fill_ok hp (cs := cs) (h3 g) hr
          refine ⟨.agg cs', run_build w t qs cs' ?_, ?_⟩
          · unfold Program.built
            rw [h1, hu]
            simp only [h2, h6, Value.cells]
            rw [← h4, h7]
          · obtain ⟨l⟩ := cs'
            exact .agg h5
      · cases h
    · cases h
  · cases h

def aextract (x : AV) (i : Nat) : Option AV :=
  match x with
  | .tuple vs => vs[i]?
  | _ => none
theorem aextract_ok {g : G} {x r : AV} {v : Value} {i : Nat} (hx : VR g x v) (h : aextract x i = some r) (w : World) : ∃ u, (Instr.extract v i).run P w = .ok u w ∧ VR g r u := by
  cases hx <;> simp only [aextract] at h <;> try (cases h; done)
  rename_i cs vs hv
  obtain ⟨u, hu, hr⟩ := hv.at h
  exact ⟨u, by simp [Instr.extract, hu], hr⟩

/-- Builtins that only compute. -/
def alen (i : TI) (x : AV) : Option AV :=
  match i.k, x with
  | .str, .str l => some (.int .i64 l.length)
  | .slice _, .slice xs _ => some (.int .i64 xs.length)
  | .slice _, .sref _ _ _ len => some (.int .i64 len)
  | .arr n _, _ => some (.int .i64 n)
  | .map _ _, .nilmap => some (.int .i64 0)
  | _, _ => none
def abuiltin (E : Env) (b : Builtin) (ts : List TypeId) (xs : List AV) : Option AV :=
  match b, xs with
  | .len, [x] => match ts with
    | t :: _ => (E t).bind fun i => alen i x
    | [] => none
  | .min, [.int k x, .int _ y] => some (.int k (if y < x then y else x))
  | .max, [.int k x, .int _ y] => some (.int k (if y > x then y else x))
  | .complex, [.flt k x, .flt k' y] => if k = k' then some (.cplx k x y) else none
  | .real, [.cplx k x _] => some (.flt k x)
  | .imag, [.cplx k _ y] => some (.flt k y)
  | _, _ => none

theorem alen_ok (hE : EnvOK P E) {g : G} {t ty : TypeId} {i : TI} (hi : E t = some i) {x r : AV} {v : Value} (hx : VR g x v) (h : alen i x = some r) (ts : List TypeId) (w : World) : ∃ u, (Builtin.len_ ⟨t :: ts⟩ ty #[v]).run P w = .ok u w ∧ VR g r u := by
  obtain ⟨_, _, _, _, hk, _⟩ := hE _ _ hi
  unfold alen at h
  split at h
  · rename_i l hkk
    rw [hkk] at hk
    injection h with h; subst h
    cases hx
    exact ⟨.int .i64 l.length, by simp [Builtin.len_, run_underlying hk, goInt]; rfl, .int _ _⟩
  · rename_i e xs tok hkk
    rw [hkk] at hk
    injection h with h; subst h
    cases hx with
    | slice0 ht => exact ⟨.int .i64 0, by simp [Builtin.len_, run_underlying hk, goInt], .int _ _⟩
    | slice size hp hl hs hv hm ht => subst hl; exact ⟨.int .i64 xs.length, by simp [Builtin.len_, run_underlying hk, goInt], .int _ _⟩
  · rename_i e _ _ _ len hkk
    rw [hkk] at hk
    injection h with h; subst h
    cases hx
    exact ⟨.int .i64 len, by simp [Builtin.len_, run_underlying hk, goInt], .int _ _⟩
  · rename_i n e hkk
    rw [hkk] at hk
    injection h with h; subst h
    exact ⟨.int .i64 n, by simp [Builtin.len_, run_underlying hk, goInt], .int _ _⟩
  · rename_i k e hkk
    rw [hkk] at hk
    injection h with h; subst h
    cases hx
    exact ⟨.int .i64 0, by simp [Builtin.len_, run_underlying hk, goInt], .int _ _⟩
  · cases h

theorem abuiltin_ok (hE : EnvOK P E) {g : G} {b : Builtin} {ts : Array TypeId} {ty : TypeId} {cs : Array Bool} {xs : List AV} {vs : List Value} {r : AV} (hx : VRs g xs vs) (h : abuiltin E b ts.toList xs = some r) (w : World) :
    ∃ u, (builtin b ts ty cs ⟨vs⟩).run P w = .ok (.value u) w ∧ VR g r u := by
  unfold abuiltin at h
  split at h
  · rename_i x
    cases hx with
    | cons h1 h2 =>
      cases h2
      obtain ⟨ts⟩ := ts
      cases ts with
      | nil => cases h
      | cons t ts =>
        simp only at h
        cases hi : E t with
        | none => rw [hi] at h; cases h
        | some i =>
          rw [hi] at h
          obtain ⟨u, hu, hr⟩ := alen_ok hE hi (ty := ty) h1 h ts w
          exact ⟨u, by simp [builtin, hu], hr⟩
  · rename_i k x k' y
    injection h with h; subst h
    cases hx with
    | cons h1 h2 => cases h1; cases h2 with | cons h3 h4 => cases h3; cases h4; exact ⟨_, by simp [builtin, Builtin.min_, Builtin.min2, List.foldlM], .int _ _⟩
  · rename_i k x k' y
    injection h with h; subst h
    cases hx with
    | cons h1 h2 => cases h1; cases h2 with | cons h3 h4 => cases h3; cases h4; exact ⟨_, by simp [builtin, Builtin.max_, Builtin.max2, List.foldlM], .int _ _⟩
  · rename_i k x k' y
    split at h
    · rename_i hk
      injection h with h; subst h
      cases hx with
      | cons h1 h2 => cases h1; cases h2 with | cons h3 h4 => cases h3; cases h4; subst hk; exact ⟨.complex k x y, by
        have e : Builtin.complex_ ts ty ⟨[.float k x, .float k y]⟩ = pure (.complex k x y) := by
          show (if k = k then _ else _) = _
          rw [if_pos rfl]
        simp only [builtin, Sem.run_bind, e, Sem.run_pure, Result.andThen_ok], .cplx _ _ _⟩
    · cases h
  · injection h with h; subst h
    cases hx with
    | cons h1 h2 => cases h1; cases h2; exact ⟨_, rfl, .flt _ _⟩
  · injection h with h; subst h
    cases hx with
    | cons h1 h2 => cases h1; cases h2; exact ⟨_, rfl, .flt _ _⟩
  · cases h
end
end Go.Av
