/-
  Operations on memory: new variables, loads, stores, new slices.
-/
import Derived.Test.YtjhpgkjnkgknnaaGreatDoorHa
import Derived.ArgAppend
import Derived.Lib.ConvBytes
set_option linter.unusedVariables false
set_option linter.unusedSectionVars false
set_option linter.unusedSimpArgs false
namespace Go.Av
open Go.RowKit
variable [Ground]

def Agree (H : AHeap) (S : Ghost) : Prop := ∀ id o, H[id]? = some o → S id = some o
def Ghost.over (S : Ghost) (H : AHeap) : Ghost := fun id => match H[id]? with | some o => some o | none => S id
theorem Agree.over (H : AHeap) (S : Ghost) : Agree H (S.over H) := by
  intro id o h
  simp [Ghost.over, h]
theorem Agree.over_self {H : AHeap} {S : Ghost} (h : Agree H S) : S.over H = S := by
  funext id
  unfold Ghost.over
  split
  · rename_i o ho; exact (h _ _ ho).symm
  · rfl
theorem Agree.over_snoc {H : AHeap} {S : Ghost} (h : Agree H S) (o : AObj) : S.over (H ++ [o]) = S.put H.length o := by
  funext id
  unfold Ghost.over Ghost.put
  by_cases e : id = H.length
  · subst e; simp
  · rw [if_neg e]
    rcases Nat.lt_or_ge id H.length with hl | hl
    · rw [List.getElem?_append_left hl]
      have := List.getElem?_eq_getElem hl
      rw [this]
      exact (h _ _ this).symm
    · rw [List.getElem?_eq_none (by simp; omega)]
theorem Agree.over_set {H : AHeap} {S : Ghost} (h : Agree H S) {id : Nat} (hl : id < H.length) (o : AObj) : S.over (H.set id o) = S.put id o := by
  funext i
  unfold Ghost.over Ghost.put
  by_cases e : i = id
  · subst e; simp [hl]
  · rw [if_neg e, List.getElem?_set_ne (fun x => e x.symm)]
    split
    · rename_i o' ho; exact (h _ _ ho).symm
    · rfl
theorem Ghost.over_over {S : Ghost} {H H' : AHeap} (h : H.length ≤ H'.length) : (S.over H).over H' = S.over H' := by
  funext id
  unfold Ghost.over
  cases hh : H'[id]? with
  | some o => rfl
  | none =>
    have : H'.length ≤ id := by
      rcases Nat.lt_or_ge id H'.length with hl | hl
      · rw [List.getElem?_eq_getElem hl] at hh; cases hh
      · exact hl
    simp only
    rw [List.getElem?_eq_none (by omega)]

/-- More is known; what is new lies between two numbers. -/
def Ext (g g' : G) (lo hi : Nat) : Prop := g.le g' ∧ ∀ id, Unused g id → ¬ (lo ≤ id ∧ id < hi) → Unused g' id
theorem Ext.refl (g : G) (lo hi : Nat) : Ext g g lo hi := ⟨.refl g, fun _ h _ => h⟩
def Fresh (g : G) (lo hi : Nat) : Prop := ∀ id, lo ≤ id → id < hi → Unused g id
theorem Ext.trans {a b c : G} {l m n : Nat} (h : Ext a b l m) (k : Ext b c m n) (h1 : l ≤ m) (h2 : m ≤ n) : Ext a c l n :=
  ⟨h.1.trans k.1, fun id hu hn => k.2 id (h.2 id hu (by omega)) (by omega)⟩
theorem Ext.fresh {a b : G} {l m n : Nat} (h : Ext a b l m) (hf : Fresh a l n) (h1 : l ≤ m) : Fresh b m n :=
  fun id h2 h3 => h.2 id (hf id (by omega) h3) (by omega)

/-- Nothing is known of objects from a number on. -/
def Free (g : G) (lo : Nat) : Prop := ∀ id, lo ≤ id → Unused g id
theorem Free.fresh {g : G} {lo : Nat} (h : Free g lo) (hi : Nat) : Fresh g lo hi := fun id h1 _ => h id h1
theorem Ext.free {a b : G} {l m : Nat} (h : Ext a b l m) (hf : Free a l) (h1 : l ≤ m) : Free b m := fun id h2 => h.2 id (hf id (by omega)) (by omega)

/-- What an operation comes to. -/
def Post (P : Program) (B0 : Nat) (W0 : World) (g : G) (S : Ghost) (H H' : AHeap) (r : AV) (res : Result Value) : Prop :=
  ∃ v w' g', res = .ok v w' ∧ VR g' r v ∧ Ext g g' H.length H'.length ∧ Inv P B0 W0 g' (S.over H') w'

section
variable {P : Program} {E : Env} {B0 : Nat} {W0 w : World} {g : G} {S : Ghost} {H : AHeap}

/-- What only computes. -/
theorem Post.pure' {r : AV} {res : Result Value} (hA : Agree H S) (hI : Inv P B0 W0 g S w) (h : ∃ v, res = .ok v w ∧ VR g r v) : Post P B0 W0 g S H H r res := by
  obtain ⟨v, h1, h2⟩ := h
  exact ⟨v, w, g, h1, h2, .refl _ _ _, by rw [hA.over_self]; exact hI⟩

/-- A new variable. -/
theorem Post.newVar {cs : List AV} {v : Value} {t : TypeId} (hA : Agree H S) (hI : Inv P B0 W0 g S w) (hf : Fresh g H.length (H.length + 1)) (hv : VRs g cs v.cells.toList) :
    Post P B0 W0 g S H (H ++ [.var cs]) (.vptr H.length 0) ((do pure (.pointer (some (← newVar t v))) : Sem Value).run P w) := by
  have hu := hf H.length (Nat.le_refl _) (by omega)
  refine ⟨.pointer (some ⟨w.heap.size, 0, none⟩), w.alloc (.cells v.cells t), g.addVar H.length w.heap.size, rfl, .vptr (by simp [G.addVar]), ⟨G.le_addVar hu.1 _, ?_⟩, ?_⟩
  · intro id h1 h2
    simp only [List.length_append, List.length_cons, List.length_nil] at h2
    have hne : id ≠ H.length := by omega
    exact ⟨by simp [G.addVar, hne, h1.1], h1.2⟩
  · rw [hA.over_snoc]
    have := hI.newVar hu hv t
    have e : (⟨v.cells.toList⟩ : Array Value) = v.cells := by cases v.cells; rfl
    rw [e] at this
    exact this

def aalloc (E : Env) (t : TypeId) (H : AHeap) : Option (AV × AHeap) :=
  (E t).bind fun i => if i.zero.laid then some (.vptr H.length 0, H ++ [.var i.zero.cells]) else none
theorem aalloc_ok (hE : EnvOK P E) {t : TypeId} {r : AV} {H' : AHeap} (h : aalloc E t H = some (r, H')) (hA : Agree H S) (hI : Inv P B0 W0 g S w) (hf : Fresh g H.length H'.length) :
    Post P B0 W0 g S H H' r ((Instr.alloc t true (.tuple #[])).run P w) := by
  unfold aalloc at h
  cases hi : E t with
  | none => rw [hi] at h; cases h
  | some i =>
    rw [hi] at h
    simp only [Option.bind_some] at h
    split at h
    · rename_i hl
      injection h with h
      injection h with h1 h2
      subst h1; subst h2
      obtain ⟨z, hz, hr⟩ := (hE _ _ hi).zero (AV.laid_cells hl) w
      have := Post.newVar (t := t) hA hI (by simpa using hf) ((hr g).cells (AV.laid_cells hl))
      simpa [Instr.alloc, hz] using this
    · cases h

def abox (x : AV) (H : AHeap) : Option (AV × AHeap) := if x.laid then some (.vptr H.length 0, H ++ [.var x.cells]) else none
theorem abox_ok {t : TypeId} {x r : AV} {v : Value} {H' : AHeap} (h : abox x H = some (r, H')) (hx : VR g x v) (hA : Agree H S) (hI : Inv P B0 W0 g S w) (hf : Fresh g H.length H'.length) :
    Post P B0 W0 g S H H' r ((Instr.box t v).run P w) := by
  unfold abox at h
  split at h
  · rename_i hl
    injection h with h
    injection h with h1 h2
    subst h1; subst h2
    exact Post.newVar (t := t) hA hI (by simpa using hf) (hx.cells (AV.laid_cells hl))
  · cases h

def aload (E : Env) (t : TypeId) (p : AV) (H : AHeap) : Option AV :=
  match E t, p with
  | some i, .vptr id off => match H[id]? with
    | some (.var cs) => apart i (cs.drop off)
    | _ => none
  | some i, .cptr cs => apart i cs
  | some i, .eptr id v o => match H[id]? with
    | some (.row _ v' cs) => if v' = v then apart i (cs.drop o) else none
    | _ => none
  | _, _ => none
theorem aload_ok (hE : EnvOK P E) {t : TypeId} {p r : AV} {v : Value} (h : aload E t p H = some r) (hp : VR g p v) (hA : Agree H S) (hI : Inv P B0 W0 g S w) : ∃ u, (Instr.loadAt t v).run P w = .ok u w ∧ VR g r u := by
  unfold aload at h
  split at h
  · rename_i i id off hi
    split at h
    · rename_i cs hc
      cases hp with
      | @vptr _ _ b hb =>
        obtain ⟨_, _, vs, e, h2, h3⟩ := hI.var hb (hA _ _ hc)
        obtain ⟨u, hu, hr⟩ := run_loadVar_of (hE _ _ hi) (w := w) (b := b) (o := off) (h3.drop off) (fun j u hj => by
          rw [List.getElem?_drop] at hj
          simp [World.cell?, h2, hj]) h
        exact ⟨u, by simp [Instr.loadAt, Instr.sureAddr, hu], hr⟩
    · cases h
  · rename_i i cs hi
    cases hp with
    | @cptr _ vs b o hv hm =>
      obtain ⟨u, hu, hr⟩ := run_loadVar_of (hE _ _ hi) (w := w) (b := b) (o := o) hv (fun j u hj => hI.im _ _ _ (hm j u hj)) h
      exact ⟨u, by simp [Instr.loadAt, Instr.sureAddr, hu], hr⟩
  · rename_i i id v0 o hi
    split at h
    · rename_i e v' cs hc
      split at h
      · rename_i hv'
        subst hv'
        cases hp with
        | @eptr _ _ _ b c hb =>
          obtain ⟨_, _, _, cur, i0, _, _, h2, _, h3⟩ := hI.row _ _ _ _ _ _ (hA _ _ hc) hb
          obtain ⟨u, hu, hr⟩ := run_loadVar_of (hE _ _ hi) (w := w) (b := b) (o := o) (h3.drop o) (fun j u hj => by
            rw [List.getElem?_drop] at hj
            have hlt := (List.getElem?_eq_some_iff.1 hj).1
            rw [List.length_take] at hlt
            rw [List.getElem?_take_of_lt (by omega)] at hj
            simp [World.cell?, h2]
            simpa using hj) h
          exact ⟨u, by simp [Instr.loadAt, Instr.sureAddr, hu], hr⟩
      · cases h
    · cases h
  · cases h

theorem VR.oneCell' {x : AV} {v : Value} (h : VR g x v) (hx : x.oneCell = true) : v.oneCell' = true := by
  cases h <;> simp_all [AV.oneCell, Value.oneCell']
theorem VRs.oneCell' {xs : List AV} {vs : List Value} (h : VRs g xs vs) (hx : xs.all AV.oneCell = true) : ∀ v ∈ vs, v.oneCell' = true := by
  induction xs generalizing vs with
  | nil => cases h; simp
  | cons x xs ih =>
    cases h with
    | cons h1 h2 =>
      simp only [List.all_cons, Bool.and_eq_true] at hx
      intro v hv
      rcases List.mem_cons.1 hv with rfl | hv
      · exact h1.oneCell' hx.1
      · exact ih h2 hx.2 v hv

/-- Cells of a mutable row's block written. -/
theorem Inv.storeRow (hI : Inv P B0 W0 g S w) {id v b c : Nat} {e : TypeId} {cs : List AV} (hs : S id = some (.row e v cs)) (hb : g.lb id v = some (b, c)) {ys : List AV} {ws : List Value} (hy : VRs g ys ws) (hone : ys.all AV.oneCell = true) {o : Nat} (hle : o + ys.length ≤ cs.length) :
    ∃ w', (storeCells ⟨b, o, none⟩ ws).run P w = .ok () w' ∧ Inv P B0 W0 g (S.put id (.row e v (setRange cs o ys))) w' := by
  obtain ⟨_, _, _, cur, i0, hi0, _, h2, hsz, h3⟩ := hI.row _ _ _ _ _ _ hs hb
  have hlen := hy.length
  have hcl := h3.length
  rw [List.length_take] at hcl
  have hcl2 : cs.length ≤ cur.toList.length := by omega
  have hcsz : cur.toList.length = cur.size := by simp
  have hrun := run_storeCells_at (P := P) b o e ws 0 cur w h2 (by simp only [Nat.add_zero]; omega) (hy.oneCell' hone)
  simp only [Nat.add_zero] at hrun
  refine ⟨_, hrun, hI.setRow hs hb hi0 (setRow_heap w b cur _ e (0, 0) h2) ?_ ?_ ⟨rfl, rfl, rfl, by simp, fun k hk hne => setRow_other w b k _ (fun e => hne (by rw [e]))⟩⟩
  · rw [← hsz]
    simp only [List.size_toArray, List.length_append, List.length_take, List.length_drop, hlen]
    omega
  · rw [setRange_length _ _ _ hle]
    have e1 : (List.take o cur.toList ++ ws ++ List.drop (o + ws.length) cur.toList).toArray.toList.take cs.length = setRange (cur.toList.take cs.length) o ws := by
      unfold setRange
      simp only [List.append_assoc]
      rw [List.take_append, List.take_append, List.take_take, List.drop_take, List.take_take]
      rw [List.length_take, Nat.min_eq_left (by omega : o ≤ cur.toList.length), Nat.min_eq_right (by omega : o ≤ cs.length), List.take_of_length_le (by omega : ws.length ≤ cs.length - o)]
      rw [show min o cs.length = o by omega, show cs.length - o - ws.length = cs.length - (o + ws.length) by omega]
    rw [e1]
    exact h3.setRange hy o

def astore (E : Env) (t : TypeId) (p x : AV) (H : AHeap) : Option AHeap :=
  match E t, p with
  | some i, .eptr id v o => match H[id]? with
    | some (.row e v' cs) => if v' = v ∧ (x.laid && (x.cells.length == i.size) && decide (o + x.cells.length ≤ cs.length) && x.cells.all AV.oneCell) = true then some (H.set id (.row e v (setRange cs o x.cells))) else none
    | _ => none
  | some i, .vptr id off => match H[id]? with
    | some (.var cs) => if x.laid && (x.cells.length == i.size) && decide (off + x.cells.length ≤ cs.length) && x.cells.all AV.oneCell then some (H.set id (.var (setRange cs off x.cells))) else none
    | _ => none
  | _, _ => none
theorem astore_ok (hE : EnvOK P E) {t : TypeId} {p x : AV} {v u : Value} {H' : AHeap} (h : astore E t p x H = some H') (hp : VR g p v) (hx : VR g x u) (hA : Agree H S) (hI : Inv P B0 W0 g S w) :
    H'.length = H.length ∧ ∃ w', (Instr.storeAt t v u).run P w = .ok () w' ∧ Inv P B0 W0 g (S.over H') w' := by
  unfold astore at h
  split at h
  · rename_i i id v0 o hi
    split at h
    · rename_i e v' cs hc
      split at h
      · rename_i hcond
        obtain ⟨hv', hcond⟩ := hcond
        subst hv'
        simp only [Bool.and_eq_true, beq_iff_eq, decide_eq_true_eq] at hcond
        obtain ⟨⟨⟨hl, hsz⟩, hle⟩, hone⟩ := hcond
        injection h with h
        subst h
        refine ⟨by simp, ?_⟩
        cases hp with
        | @eptr _ _ _ b c hb =>
          have hxc := hx.cells (AV.laid_cells hl)
          have husz : u.cells.size = i.size := by rw [← hsz, ← hxc.length]; simp
          obtain ⟨w', hrun, hI'⟩ := hI.storeRow (hA _ _ hc) hb hxc hone hle
          refine ⟨w', ?_, by rw [hA.over_set ((List.getElem?_eq_some_iff.1 hc).1)]; exact hI'⟩
          simp only [Instr.storeAt, Instr.sureAddr, storeVar, Sem.run_bind, Sem.run_pure, Result.andThen_ok, (hE _ _ hi).sizeOf w]
          rw [if_neg (by rw [husz]; simp)]
          exact hrun
      · cases h
    · cases h
  · rename_i i id off hi
    split at h
    · rename_i cs hc
      split at h
      · rename_i hcond
        simp only [Bool.and_eq_true, beq_iff_eq, decide_eq_true_eq] at hcond
        obtain ⟨⟨⟨hl, hsz⟩, hle⟩, hone⟩ := hcond
        injection h with h
        subst h
        refine ⟨by simp, ?_⟩
        cases hp with
        | @vptr _ _ b hb =>
          obtain ⟨_, _, vs, e, h2, h3⟩ := hI.var hb (hA _ _ hc)
          have hxc := hx.cells (AV.laid_cells hl)
          have hlen := hxc.length
          have hcl := h3.length
          have husz : u.cells.size = i.size := by rw [← hsz, ← hlen]; simp
          have hrun := run_storeCells_at (P := P) b off e u.cells.toList 0 ⟨vs⟩ w h2 (by simp only [Nat.add_zero]; rw [hlen]; show off + _ ≤ vs.length; omega) (hxc.oneCell' hone)
          simp only [Nat.add_zero] at hrun
          have hstore : (Instr.storeAt t (.pointer (some ⟨b, off, none⟩)) u).run P w = .ok () (w.setRow b (List.take off vs ++ u.cells.toList ++ List.drop (off + u.cells.toList.length) vs).toArray) := by
            simp only [Instr.storeAt, Instr.sureAddr, storeVar, Sem.run_bind, Sem.run_pure, Result.andThen_ok, (hE _ _ hi).sizeOf w]
            rw [if_neg (by rw [husz]; simp)]
            exact hrun
          refine ⟨_, hstore, ?_⟩
          rw [hA.over_set ((List.getElem?_eq_some_iff.1 hc).1)]
          have hset := h3.setRange hxc off
          have e1 : (List.take off vs ++ u.cells.toList ++ List.drop (off + u.cells.toList.length) vs) = setRange vs off u.cells.toList := by simp [setRange]
          refine hI.setVar hb hset (e := e) ?_ ?_
          · rw [← e1]
            exact setRow_heap w b ⟨vs⟩ _ e (0, 0) h2
          · refine ⟨rfl, rfl, rfl, by simp, fun k hk hne => setRow_other w b k _ (fun e => hne (by rw [e]))⟩
      · cases h
    · cases h
  · cases h

/-- A slice in a new block: its cells are held from now on. -/
theorem Post.newSlice {xs : List AV} {vs : List Value} {size : Nat} {t : TypeId} {fr : Nat × Nat} {cur : Array Value} {cap : Nat} {tok : Tok} (hp : 0 < size) (hs : ∀ x ∈ xs, x.cells.length = size) (hv : VRs g (flat xs) vs)
    (hc : ∀ (j : Nat) (v : Value), vs[j]? = some v → cur[j]? = some v) (ht : ∀ g' : G, TokOK g' (some ⟨w.heap.size, 0, none⟩) xs.length cap tok) (hA : Agree H S) (hI : Inv P B0 W0 g S w) :
    ∃ g', VR g' (.slice xs tok) (.slice (some ⟨w.heap.size, 0, none⟩) xs.length cap) ∧ Ext g g' H.length H.length ∧ Inv P B0 W0 g' (S.over H) (w.alloc (.cells cur t fr)) := by
  let w' := w.alloc (.cells cur t fr)
  have hI' : Inv P B0 W0 g S w' := hI.alloc _
  have hnew : ∀ o v, cur[o]? = some v → w'.cell? ⟨w.heap.size, o, none⟩ = some v := by
    intro o v h
    have : w'.heap[w.heap.size]? = some (.cells cur t fr) := heap_alloc_new w _
    simp [World.cell?, this, h]
  have hno : ∀ o v, g.im w.heap.size o = some v → False := fun o v h => absurd (hI.im_lt h) (Nat.lt_irrefl _)
  have hI2 := hI'.hold (b := w.heap.size) (lo := 0) (hi := vs.length) (vs := fun o => vs[o]?) (fun o v _ _ h => hnew o v (hc o v h)) (fun o v _ _ h => (hno o v h).elim) (fun id h => absurd (hI.phi_lt h) (Nat.lt_irrefl _))
    (fun t' e p c i hS hl _ => absurd (hI.lin_lt hS hl) (Nat.lt_irrefl _)) (fun t' e v cs c hS hl => absurd (hI.row_lt hS hl) (Nat.lt_irrefl _))
  have hle : g.le (g.addIm w.heap.size 0 vs.length (fun o => vs[o]?)) := G.le_addIm (fun o v _ _ h => (hno o v h).elim)
  refine ⟨_, ?_, ⟨hle, fun id h _ => h⟩, by rw [hA.over_self]; exact hI2⟩
  refine .slice size hp rfl hs (hv.le hle) ?_ (ht _)
  intro j v hj
  have hlt := (List.getElem?_eq_some_iff.1 hj).1
  simp only [G.addIm, Nat.zero_add]
  rw [if_pos ⟨trivial, Nat.zero_le _, hlt⟩]
  exact hj

/-- A mutable row in a new block. -/
theorem Post.newRow {cs : List AV} {e : TypeId} {cur : Array Value} {i : TypeInfo} {c1 : Nat} {w' : World} (hw : w.grownBy w' none) (hh : w'.heap[w.heap.size]? = some (.cells cur e (0, 0))) (hi : P.info? e = some i) (hsz : 0 < i.size) (hcs : cur.size = c1 * i.size) (hcm : c1 ≤ maxLen)
    (hv : VRs g cs (cur.toList.take cs.length)) (hA : Agree H S) (hI : Inv P B0 W0 g S w) (hf : Fresh g H.length (H.length + 1)) {len : Nat} (hl : len ≤ c1) :
    ∃ g', VR g' (.sref H.length 0 0 len) (.slice (some ⟨w.heap.size, 0, none⟩) len c1) ∧ Ext g g' H.length (H ++ [AObj.row e 0 cs]).length ∧ Inv P B0 W0 g' (S.over (H ++ [.row e 0 cs])) w' := by
  have hun := hf H.length (Nat.le_refl _) (by omega)
  obtain ⟨g', q1, q2, q3, q4, q5⟩ := hI.rowed (t := H.length) (v := 0) (cs := cs) hw hi hsz hh hcs hcm hv (.inl ⟨hun, rfl, Nat.le_refl _⟩)
  refine ⟨g', .sref q3 hl (fun _ => rfl), ⟨q1, fun id hid hn => ?_⟩, by rw [hA.over_snoc]; exact q2⟩
  simp only [List.length_append, List.length_cons, List.length_nil] at hn
  have hne : id ≠ H.length := by omega
  exact ⟨by rw [q4]; exact hid.1, fun p => by rw [q5 _ _ hne]; exact hid.2 p⟩
end
end Go.Av
set_option linter.unusedVariables false
set_option linter.unusedSectionVars false
set_option linter.unusedSimpArgs false
namespace Go.Av
open Go.RowKit
variable [Ground]

/-- Elements laid at their places. -/
def aelems (size : Nat) (xs : List AV) : List (Nat × AV) → Option (List AV)
  | [] => some xs
  | (i, x) :: rest => if x.laid && (x.cells.length == size) && decide (i < xs.length) then aelems size (xs.set i x) rest else none

theorem flat_set {xs : List AV} {size : Nat} (h : ∀ x ∈ xs, x.cells.length = size) {i : Nat} (hi : i < xs.length) {y : AV} (hy : y.cells.length = size) : flat (xs.set i y) = setRange (flat xs) (i * size) y.cells := by
  have e1 : xs.set i y = xs.take i ++ y :: xs.drop (i + 1) := by rw [List.set_eq_take_append_cons_drop, if_pos hi]
  rw [e1, flat_append, flat_cons, flat_take h, flat_drop h]
  unfold setRange
  rw [hy, Nat.succ_mul]
theorem aelems_ok {size : Nat} : ∀ {ps : List (Nat × AV)} {xs r : List AV}, (∀ x ∈ xs, x.cells.length = size) → aelems size xs ps = some r →
    r.length = xs.length ∧ (∀ x ∈ r, x.cells.length = size) ∧ afill (fun k => some (k * size, size)) (flat xs) ps = some (flat r) := by
  intro ps
  induction ps with
  | nil => intro xs r h hr; simp only [aelems, Option.some.injEq] at hr; subst hr; exact ⟨rfl, h, rfl⟩
  | cons p ps ih =>
    obtain ⟨i, x⟩ := p
    intro xs r h hr
    simp only [aelems] at hr
    split at hr
    · rename_i hc
      simp only [Bool.and_eq_true, beq_iff_eq, decide_eq_true_eq] at hc
      obtain ⟨⟨h1, h2⟩, h3⟩ := hc
      have hset : ∀ y ∈ xs.set i x, y.cells.length = size := by
        intro y hy
        rcases List.mem_or_eq_of_mem_set hy with h' | h'
        · exact h y h'
        · rw [h']; exact h2
      obtain ⟨i1, i2, i3⟩ := ih hset hr
      refine ⟨by rw [i1]; simp, i2, ?_⟩
      have hle : i * size + x.cells.length ≤ (flat xs).length := by
        rw [flat_length h, h2, ← Nat.succ_mul]
        exact Nat.mul_le_mul_right _ h3
      simp only [afill]
      rw [if_pos (by simp [h1, h2]; rw [h2] at hle; exact hle), ← flat_set h h3 h2]
      exact i3
    · cases hr

def abuildSlice (E : Env) (t : TypeId) (n : Nat) (ps : List (Nat × AV)) (H : AHeap) : Option (AV × AHeap) :=
  match E t with
  | some i => match i.k with
    | .slice e => match E e with
      | some ei => if 0 < ei.size && decide (n * ei.size ≤ 2 ^ 24) && ei.zero.laid && (ei.zero.cells.length == ei.size) then (aelems ei.size (List.replicate n ei.zero) ps).map fun xs => (.slice xs .full, H) else none
      | none => none
    | _ => none
  | none => none

theorem flat_replicate_at {z : AV} {size : Nat} (hz : z.cells.length = size) (hp : 0 < size) : ∀ (n i : Nat), i < n * size → (flat (List.replicate n z))[i]? = z.cells[i % size]?
  | 0, i, h => by omega
  | n + 1, i, h => by
    rw [List.replicate_succ, flat_cons]
    rcases Nat.lt_or_ge i size with hi | hi
    · rw [List.getElem?_append_left (by omega), Nat.mod_eq_of_lt hi]
    · rw [List.getElem?_append_right (by omega), hz, flat_replicate_at hz hp n (i - size) (by rw [Nat.succ_mul] at h; omega)]
      congr 1
      exact (Nat.mod_eq_sub_mod hi).symm
theorem VRs.of_at {g : G} : ∀ {xs : List AV} {vs : List Value}, xs.length = vs.length → (∀ (i : Nat) (x : AV) (v : Value), xs[i]? = some x → vs[i]? = some v → VR g x v) → VRs g xs vs
  | [], [], _, _ => .nil
  | [], _ :: _, h, _ => by simp at h
  | _ :: _, [], h, _ => by simp at h
  | x :: xs, v :: vs, h, k => .cons (k 0 x v rfl rfl) (VRs.of_at (by simpa using h) fun i y u hy hu => k (i + 1) y u (by simpa using hy) (by simpa using hu))
theorem zeros_ok {g : G} {z : AV} {zv : Value} {size : Nat} (hz : z.cells.length = size) (hp : 0 < size) (hv : VRs g z.cells zv.cells.toList) (n : Nat) :
    VRs g (flat (List.replicate n z)) ((Array.range (n * size)).map (zv.cells[· % zv.cells.size]!)).toList := by
  have hsz : zv.cells.size = size := by rw [← hz, ← hv.length]; simp
  have hfl : (flat (List.replicate n z)).length = n * size := by
    rw [flat_length (size := size) (fun x hx => by rw [(List.mem_replicate.1 hx).2]; exact hz)]
    simp
  refine VRs.of_at (by rw [hfl]; simp) fun i x v hx hu => ?_
  have hi : i < n * size := by rw [← hfl]; exact (List.getElem?_eq_some_iff.1 hx).1
  rw [flat_replicate_at hz hp n i hi] at hx
  obtain ⟨u, hu', hr⟩ := hv.at hx
  have : v = u := by
    have hm : i % size < zv.cells.size := by rw [hsz]; exact Nat.mod_lt _ hp
    simp only [Array.toList_map, List.getElem?_map, Array.getElem?_toList] at hu
    have hrange : (Array.range (n * size))[i]? = some i := by simp [hi]
    rw [hrange] at hu
    simp only [Option.map_some, Option.some.injEq] at hu
    rw [hsz, getElem!_pos zv.cells (i % size) hm] at hu
    have hu2 : zv.cells[i % size]? = some u := by simpa using hu'
    rw [getElem?_pos zv.cells (i % size) hm] at hu2
    injection hu2 with hu2
    rw [← hu, hu2]
  rw [this]
  exact hr

section
variable {P : Program} {E : Env} {B0 : Nat} {W0 w : World} {g : G} {S : Ghost} {H : AHeap}

theorem abuildSlice_ok (hE : EnvOK P E) {t : TypeId} {n : Nat} {ps : List (Nat × AV)} {qs : Array (Nat × Value)} {r : AV} {H' : AHeap} (h : abuildSlice E t n ps H = some (r, H')) (hp : PartsR g ps qs.toList) (hA : Agree H S) (hI : Inv P B0 W0 g S w) :
    Post P B0 W0 g S H H' r ((Instr.buildSlice t n qs).run P w) := by
  unfold abuildSlice at h
  split at h
  · rename_i i hi
    split at h
    · rename_i e hk
      split at h
      · rename_i ei hei
        split at h
        · rename_i hc
          simp only [Bool.and_eq_true, beq_iff_eq, decide_eq_true_eq] at hc
          obtain ⟨⟨⟨hpos, hsmall⟩, hlaid⟩, hzc⟩ := hc
          cases hx : aelems ei.size (List.replicate n ei.zero) ps with
          | none => rw [hx] at h; cases h
          | some xs =>
            rw [hx] at h
            simp only [Option.map_some, Option.some.injEq, Prod.mk.injEq] at h
            obtain ⟨rfl, rfl⟩ := h
            obtain ⟨_, _, _, _, hks, _⟩ := hE _ _ hi
            rw [hk] at hks
            have hu : P.underlying t = some (.slice e) := hks
            obtain ⟨z, hz, hzr⟩ := (hE _ _ hei).zero (AV.laid_cells hlaid) w
            have hzv := (hzr g).cells (AV.laid_cells hlaid)
            obtain ⟨a1, a2, a3⟩ := aelems_ok (fun x hx => by rw [(List.mem_replicate.1 hx).2]; exact hzc) hx
            simp only [List.length_replicate] at a1
            have hzeros := zeros_ok hzc hpos hzv n
            obtain ⟨cs', f1, f2⟩ := fill_ok hp (cs := (Array.range (n * ei.size)).map (z.cells[· % z.cells.size]!)) hzeros a3
            have hrun : (Instr.buildSlice t n qs).run P w = .ok (.slice (some ⟨w.heap.size, 0, none⟩) n n) (w.alloc (.cells cs' e)) := by
              rcases Nat.eq_zero_or_pos n with h0 | h0
              · subst h0
                have e0 : ∀ f : Nat → Value, (Array.range (0 * ei.size)).map f = #[] := fun f => Array.eq_empty_of_size_eq_zero (by simp)
                rw [e0] at f1
                have hns : ¬ (0 * ei.size > 2 ^ 24) := by omega
                simp only [Instr.buildSlice, Sem.run_bind, run_underlying hu, Result.andThen_ok, (hE _ _ hei).sizeOf w]
                rw [if_neg hns, if_pos (by simp)]
                simp only [Sem.run_bind, Sem.run_pure, Result.andThen_ok, e0, f1]
                rfl
              · have hne : n * ei.size ≠ 0 := by
                  have := Nat.mul_pos h0 hpos
                  omega
                have hns : ¬ (n * ei.size > 2 ^ 24) := by omega
                simp only [Instr.buildSlice, Sem.run_bind, run_underlying hu, Result.andThen_ok, (hE _ _ hei).sizeOf w]
                rw [if_neg hns, if_neg hne]
                simp only [Sem.run_bind, Sem.run_pure, Result.andThen_ok, hz, f1]
                rfl
            rw [hrun]
            rcases Nat.eq_zero_or_pos n with h0 | h0
            · subst h0
              have : xs = [] := List.eq_nil_of_length_eq_zero a1
              subst this
              exact ⟨_, _, g, rfl, .slice0 rfl, .refl _ _ _, by rw [hA.over_self]; exact hI.alloc _⟩
            · obtain ⟨g', q1, q2, q3⟩ := Post.newSlice (t := e) (fr := (0, 0)) (cur := cs') (cap := xs.length) (tok := .full) hpos a2 f2 (fun j v hj => by simpa using hj) (fun _ => rfl) hA hI
              rw [a1] at q1
              exact ⟨_, _, g', rfl, q1, q2, q3⟩
        · cases h
      · cases h
    · cases h
  · cases h
end
end Go.Av
set_option linter.unusedVariables false
set_option linter.unusedSectionVars false
set_option linter.unusedSimpArgs false
namespace Go.Av
open Go.RowKit
variable [Ground]

/-- The first cells as an element. -/
def aelem (ei : TI) (cs : List AV) : Option AV :=
  if ei.k.isAgg then (if ei.size ≤ cs.length then some (.agg (cs.take ei.size)) else none) else match cs with
    | c :: _ => if c.oneCell && ei.size == 1 then some c else none
    | [] => none
/-- Elements out of cells. -/
def achunk (ei : TI) : Nat → List AV → Option (List AV)
  | 0, _ => some []
  | n + 1, cs => match aelem ei cs with
    | some x => match achunk ei n (cs.drop ei.size) with
      | some xs => some (x :: xs)
      | none => none
    | none => none
theorem aelem_cells {ei : TI} {cs : List AV} {x : AV} (h : aelem ei cs = some x) : x.cells = cs.take ei.size ∧ x.cells.length = ei.size := by
  unfold aelem at h
  split at h
  · split at h
    · rename_i hl
      injection h with h; subst h
      exact ⟨rfl, by simp [AV.cells]; omega⟩
    · cases h
  · split at h
    · rename_i c cs'
      split at h
      · rename_i hc
        simp only [Bool.and_eq_true, beq_iff_eq] at hc
        injection h with h; subst h
        have : c.cells = [c] := by cases c <;> first | rfl | (simp [AV.oneCell] at hc)
        rw [this, hc.2]
        exact ⟨rfl, rfl⟩
      · cases h
    · cases h
theorem achunk_flat {ei : TI} : ∀ {n : Nat} {cs xs : List AV}, achunk ei n cs = some xs → xs.length = n ∧ flat xs = cs.take (n * ei.size) ∧ ∀ x ∈ xs, x.cells.length = ei.size
  | 0, cs, xs, h => by simp only [achunk, Option.some.injEq] at h; subst h; simp [flat]
  | n + 1, cs, xs, h => by
    simp only [achunk] at h
    split at h
    · rename_i x hx
      split at h
      · rename_i xs' hxs
        injection h with h; subst h
        obtain ⟨h1, h2, h3⟩ := achunk_flat hxs
        obtain ⟨h4, h5⟩ := aelem_cells hx
        refine ⟨by simp [h1], ?_, fun y hy => ?_⟩
        · rw [flat_cons, h2, h4, Nat.succ_mul, Nat.add_comm (n * ei.size), List.take_add]
        · rcases List.mem_cons.1 hy with rfl | hy
          · exact h5
          · exact h3 y hy
      · cases h
    · cases h
/-- What a slice has. -/
def acont (ei : TI) (e : TypeId) (H : AHeap) (y : AV) : Option (List AV) :=
  match y with
  | .slice ys _ => some ys
  | .sref t v off len => match H[t]? with
    | some (.row e' v' cs) => if e' = e ∧ v' = v ∧ off + len * ei.size ≤ cs.length then achunk ei len (cs.drop off) else none
    | _ => none
  | _ => none

/-- What is asked of elements that are laid behind others. -/
def aelemsOK (ei : TI) (n : Nat) (ys : List AV) : Bool :=
  0 < ei.size && ei.zero.laid && (ei.zero.cells.length == ei.size) && decide (ei.bytes ≤ 2 ^ 16) && decide (n + ys.length ≤ 2 ^ 31) && ys.all (fun z => z.cells.length == ei.size && z.cells.all AV.oneCell)

def aappend (E : Env) (t : TypeId) (x y : AV) (H : AHeap) : Option (AV × AHeap) :=
  match E t with
  | some i => match i.k with
    | .slice e => match E e with
      | some ei => match acont ei e H y with
        | some ys => match x with
          | .slice xs tok =>
            if ys.isEmpty then some (.slice xs tok, H) else
            if aelemsOK ei xs.length ys && xs.all (fun z => z.cells.length == ei.size) then
              match tok.fill with
              | .full => if i.row then some (.sref H.length 0 0 (xs.length + ys.length), H ++ [.row e 0 (flat xs ++ flat ys)])
                else some (.slice (xs ++ ys) (.tip H.length (xs.length + ys.length)), H ++ [.lin e (xs.length + ys.length)])
              | .tip id p => match H[id]? with
                | some (.lin e' p') => if e' = e ∧ p' = p then some (.slice (xs ++ ys) (.tip id (xs.length + ys.length)), H.set id (.lin e (xs.length + ys.length))) else none
                | _ => none
              | _ => none
            else none
          | .sref id v off len =>
            if ys.isEmpty then some (.sref id v off len, H) else
            if aelemsOK ei len ys && decide (off = 0) then
              match H[id]? with
              | some (.row e' v' cs) => if e' = e ∧ v' = v then
                  if len * ei.size = cs.length then some (.sref id (v + 1) 0 (len + ys.length), H.set id (.row e (v + 1) (cs ++ flat ys)))
                  else if (len + ys.length) * ei.size ≤ cs.length then some (.sref id v 0 (len + ys.length), H.set id (.row e v (setRange cs (len * ei.size) (flat ys))))
                  else none
                else none
              | _ => none
            else none
          | _ => none
        | none => none
      | none => none
    | _ => none
  | none => none

section
variable {P : Program} {E : Env} {B0 : Nat} {W0 w : World} {g : G} {S : Ghost} {H : AHeap}

/-- The arm with room. -/
theorem run_append_room_row {P : Program} (w : World) (t ty e : TypeId) (i : TypeInfo) (ht : P.underlying t = some (.slice e)) (hi : P.info? e = some i)
    (b sLen sCap : Nat) (a : Addr) (m c : Nat) (news : List Value) (cur : Array Value) (e' : TypeId) (hb : w.heap[b]? = some (.cells cur e' (0, 0))) (hl : news.length = m * i.size) (hnews : ∀ (j : Nat) u, news[j]? = some u → w.cell? (a.add j) = some u) (h1 : ∀ u ∈ news, u.oneCell' = true)
    (hroom : sLen + m ≤ sCap) (hsz : (sLen + m) * i.size ≤ cur.size) :
    (Builtin.append_ #[t, t] ty #[.slice (some ⟨b, 0, none⟩) sLen sCap, .slice (some a) m c]).run P w = .ok (.slice (some ⟨b, 0, none⟩) (sLen + m) sCap) (w.setRow b (cur.toList.take (sLen * i.size) ++ news ++ cur.toList.drop (sLen * i.size + news.length)).toArray) := by
  have hfc := run_firstCells_some (P := P) w i.size m a m c news hl hnews
  have hst := run_storeCells_at (P := P) b (sLen * i.size) e' news 0 cur w hb (by rw [hl]; simp only [Nat.add_zero]; rw [← Nat.add_mul]; exact hsz) h1
  simp only [Nat.add_zero] at hst
  have ha : (⟨b, 0, none⟩ : Addr).add (sLen * i.size) = ⟨b, sLen * i.size, none⟩ := by rw [add_none]; simp
  simp [Builtin.append_, run_underlying ht, sizeOf, typeInfo, hi, Builtin.lenOf, hroom, hfc, ha, hst]

/-- Nothing is appended. -/
theorem run_append_nothing {P : Program} (w : World) (t ty e : TypeId) (i : TypeInfo) (ht : P.underlying t = some (.slice e)) (hi : P.info? e = some i) (base base' : Option Addr) (sLen sCap c : Nat) (hc : sLen ≤ sCap) :
    (Builtin.append_ #[t, t] ty #[.slice base sLen sCap, .slice base' 0 c]).run P w = .ok (.slice base sLen sCap) w := by
  have hfc : (Builtin.firstCells i.size 0 (.slice base' 0 c)).run P w = .ok #[] w := by
    cases base' with
    | none => rfl
    | some a => simp [Builtin.firstCells]; rfl
  cases base with
  | none => simp [Builtin.append_, run_underlying ht, sizeOf, typeInfo, hi, Builtin.lenOf, hc, hfc]
  | some a => simp [Builtin.append_, run_underlying ht, sizeOf, typeInfo, hi, Builtin.lenOf, hc, hfc, storeCells]

theorem flat_oneCell {ys : List AV} (h : ys.all (fun z => z.cells.all AV.oneCell) = true) : (flat ys).all AV.oneCell = true := by
  induction ys with
  | nil => rfl
  | cons y ys ih =>
    simp only [List.all_cons, Bool.and_eq_true] at h
    rw [flat_cons, List.all_append, h.1, ih h.2]
    rfl

theorem achunk_nil {ei : TI} {n : Nat} {cs : List AV} (h : achunk ei n cs = some []) : n = 0 := (achunk_flat h).1.symm

theorem acont_ok {ei : TI} {e : TypeId} {y : AV} {u : Value} {ys : List AV} (h : acont ei e H y = some ys) (hy : VR g y u) (hA : Agree H S) (hI : Inv P B0 W0 g S w) :
    ∃ base c2, u = .slice base ys.length c2 ∧ (ys ≠ [] → ∃ b2 o2 ws, base = some ⟨b2, o2, none⟩ ∧ VRs g (flat ys) ws ∧ ∀ (j : Nat) u, ws[j]? = some u → w.cell? ((⟨b2, o2, none⟩ : Addr).add j) = some u) := by
  unfold acont at h
  split at h
  · injection h with h; subst h
    cases hy with
    | slice0 ht => exact ⟨_, _, rfl, fun h => absurd rfl h⟩
    | @slice _ ws b2 o2 l c2 _ size hp hl hs hv hm ht =>
      subst hl
      exact ⟨_, _, rfl, fun _ => ⟨b2, o2, ws, rfl, hv, fun j u hj => by rw [add_none]; exact hI.im _ _ _ (hm j u hj)⟩⟩
  · rename_i t v0 off len
    split at h
    · rename_i e' v' cs hc
      split at h
      · rename_i hcond
        obtain ⟨rfl, rfl, hle⟩ := hcond
        obtain ⟨h1, h2, h3⟩ := achunk_flat h
        cases hy with
        | @sref _ _ _ _ b c cap hb hl hcap =>
          obtain ⟨_, _, _, cur, i0, hi0, _, hh, hsz, hv⟩ := hI.row _ _ _ _ _ _ (hA _ _ hc) hb
          rw [h1]
          refine ⟨_, _, rfl, fun _ => ⟨b, off, (((cur.toList.take cs.length).drop off).take (len * ei.size)), rfl, by rw [h2]; exact (hv.drop _).take _, fun j u hj => ?_⟩⟩
          have hlt := (List.getElem?_eq_some_iff.1 hj).1
          simp only [List.length_take, List.length_drop] at hlt
          rw [List.getElem?_take_of_lt (by omega), List.getElem?_drop, List.getElem?_take_of_lt (by omega)] at hj
          rw [add_none]
          simp [World.cell?, hh]
          simpa using hj
      · cases h
    · cases h
  · cases h

/-- The arm that grows. -/
theorem append_grows {t ty e : TypeId} {ie : TypeInfo} {z : Value} (hu : P.underlying t = some (.slice e)) (hie : P.info? e = some ie) (hzz : ie.zero = some z) (hzsz : z.cells.size = ie.size) {base : Option Addr} {len cap m c2 b2 o2 : Nat} {vs ws : List Value}
    (hvl : vs.length = len * ie.size) (hold : ∀ a, base = some a → ∀ (j : Nat) u, vs[j]? = some u → w.cell? (a.add j) = some u) (hnil : base = none → len = 0 ∧ cap = 0)
    (hwl : ws.length = m * ie.size) (hwc : ∀ (j : Nat) u, ws[j]? = some u → w.cell? ((⟨b2, o2, none⟩ : Addr).add j) = some u) (hmpos : 0 < m) (hbig : len + m ≤ maxLen) (hbytes : (len + m) * ie.bytes ≤ 140737488355328) (hg : cap < len + m) :
    ∃ c' w' cur, (Builtin.append_ #[t, t] ty #[.slice base len cap, .slice (some ⟨b2, o2, none⟩) m c2]).run P w = .ok (.slice (some ⟨w.heap.size, 0, none⟩) (len + m) c') w' ∧ w.grownBy w' none ∧
      w'.heap[w.heap.size]? = some (.cells cur e (0, 0)) ∧ cur.size = c' * ie.size ∧ len + m ≤ c' ∧ c' ≤ maxLen ∧ cur.toList.take ((len + m) * ie.size) = vs ++ ws := by
  have hge := grownCap_ge w (len + m) cap e
  have hcm : grownCap w (len + m) cap e ≤ maxLen := grownCap_le_maxLen w (len + m) cap e hbig
  have hsmall : ((len + m : Nat) : Int) ≤ 9223372036854775807 := by unfold maxLen at hbig; omega
  have key : ∀ old : List Value, old = vs → (Builtin.append_ #[t, t] ty #[.slice base len cap, .slice (some ⟨b2, o2, none⟩) m c2]).run P w = .ok (.slice (some ⟨w.heap.size, 0, none⟩) (len + m) (grownCap w (len + m) cap e))
      (w.drew.alloc (.cells (old.toArray ++ ws.toArray ++ Builtin.zeroCells z.cells (grownCap w (len + m) cap e - (len + m))) e)) →
      ∃ c' w' cur, (Builtin.append_ #[t, t] ty #[.slice base len cap, .slice (some ⟨b2, o2, none⟩) m c2]).run P w = .ok (.slice (some ⟨w.heap.size, 0, none⟩) (len + m) c') w' ∧ w.grownBy w' none ∧
        w'.heap[w.heap.size]? = some (.cells cur e (0, 0)) ∧ cur.size = c' * ie.size ∧ len + m ≤ c' ∧ c' ≤ maxLen ∧ cur.toList.take ((len + m) * ie.size) = vs ++ ws := by
    rintro old rfl hr
    refine ⟨_, _, _, hr, ⟨rfl, rfl, rfl, by simp, fun k hk _ => heap_alloc_old w.drew _ k hk⟩, heap_alloc_new w.drew _, ?_, hge, hcm, ?_⟩
    · simp only [Array.size_append, List.size_toArray, size_zeroCells, hzsz, hvl, hwl, ← Nat.add_mul]
      congr 1
      omega
    · simp only [Array.toList_append, List.append_assoc]
      rw [← List.append_assoc]
      have : (len + m) * ie.size = (old ++ ws).length := by rw [List.length_append, hvl, hwl, Nat.add_mul]
      rw [this]
      exact List.take_left
  cases base with
  | none =>
    obtain ⟨rfl, rfl⟩ := hnil rfl
    have hvs0 : vs = [] := List.eq_nil_of_length_eq_zero (by simpa using hvl)
    have hr := run_append_nil (P := P) w t ty e ie z hu hie hzz ⟨b2, o2, none⟩ m c2 ws hwl hwc hmpos (by omega) (by simp only [Nat.zero_add] at hbytes; omega)
    refine key [] hvs0.symm ?_
    simpa using hr
  | some b =>
    refine key vs rfl ?_
    exact run_append_grow (P := P) w t ty e ie z hu hie hzz b len cap vs hvl (hold b rfl) ⟨b2, o2, none⟩ m c2 ws hwl hwc hg hsmall (growslice_fits hg hbytes)

set_option maxHeartbeats 1000000 in
theorem aappend_ok (hE : EnvOK P E) {t ty : TypeId} {x y r : AV} {v u : Value} {H' : AHeap} (h : aappend E t x y H = some (r, H')) (hx : VR g x v) (hy : VR g y u) (hA : Agree H S) (hI : Inv P B0 W0 g S w) (hf : Fresh g H.length H'.length) :
    Post P B0 W0 g S H H' r ((Builtin.append_ #[t, t] ty #[v, u]).run P w) := by
  unfold aappend at h
  split at h
  case h_2 => cases h
  rename_i i hi
  split at h
  case h_2 => cases h
  rename_i e hk
  split at h
  case h_2 => cases h
  rename_i ei hei
  split at h
  case h_2 => cases h
  rename_i ys hcont
  obtain ⟨_, _, _, _, hks, _⟩ := hE _ _ hi
  rw [hk] at hks
  have hu : P.underlying t = some (.slice e) := hks
  obtain ⟨ie, hie, hie1, hie2⟩ := (hE _ _ hei).info
  obtain ⟨base2, c2, rfl, hys0⟩ := acont_ok hcont hy hA hI
  -- what is asked of the elements
  have asked : ∀ {n : Nat}, ys.isEmpty ≠ true → aelemsOK ei n ys = true → 0 < ei.size ∧ (∀ z ∈ ys, z.cells.length = ei.size) ∧ (flat ys).all AV.oneCell = true ∧ 0 < ys.length ∧ n + ys.length ≤ maxLen ∧ (n + ys.length) * ie.bytes ≤ 140737488355328 ∧ ∃ z, ie.zero = some z ∧ z.cells.size = ie.size := by
    intro n hne hc
    unfold aelemsOK at hc
    simp only [Bool.and_eq_true, decide_eq_true_eq, beq_iff_eq] at hc
    obtain ⟨⟨⟨⟨⟨hpos, hlaid⟩, hzc⟩, hby⟩, hlen⟩, hys0⟩ := hc
    obtain ⟨z, hz, hzr⟩ := (hE _ _ hei).zero (AV.laid_cells hlaid) w
    have hzcells := (hzr g).cells (AV.laid_cells hlaid)
    refine ⟨hpos, fun z hz => by have := List.all_eq_true.1 hys0 z hz; simp only [Bool.and_eq_true, beq_iff_eq] at this; exact this.1,
      flat_oneCell (List.all_eq_true.2 fun z hz => by have := List.all_eq_true.1 hys0 z hz; simp only [Bool.and_eq_true] at this; exact this.2), ?_, by unfold maxLen; omega, ?_, z, ?_, ?_⟩
    · cases ys with
      | nil => simp at hne
      | cons y ys => simp
    · rw [hie2]
      calc (n + ys.length) * ei.bytes ≤ 2 ^ 31 * 2 ^ 16 := Nat.mul_le_mul hlen hby
        _ = 140737488355328 := by decide
    · cases hq : ie.zero with
      | none => simp [zeroValue, typeInfo, hie, hq, Sem.run, unsupported] at hz
      | some z' => simp [zeroValue, typeInfo, hie, hq] at hz; rw [hz]
    · rw [hie1, ← hzc, ← hzcells.length]; simp
  split at h
  · -- a slice
    rename_i xs tok
    obtain ⟨base, len, cap, rfl, hll, htok⟩ : ∃ base len cap, v = .slice base len cap ∧ xs.length = len ∧ TokOK g base len cap tok := by
      cases hx with
      | slice0 ht => exact ⟨_, _, _, rfl, rfl, ht⟩
      | slice size hp hl hs hv hm ht => exact ⟨_, _, _, rfl, hl, ht⟩
    split at h
    · -- nothing
      rename_i hemp
      injection h with h
      injection h with h1 h2
      subst h1; subst h2
      have : ys = [] := by simpa using hemp
      subst this
      exact Post.pure' hA hI ⟨.slice base len cap, run_append_nothing w t ty e ie hu hie base _ len cap _ htok.cap, hx⟩
    rename_i hne
    have hx' : VR g (.slice xs tok.fill) (.slice base len cap) := by
      cases hx with
      | slice0 ht => exact .slice0 ht.fill
      | slice size hp hl hs hv hm ht => exact .slice size hp hl hs hv hm ht.fill
    replace htok := htok.fill
    clear hx
    have hx := hx'
    clear hx'
    generalize tok.fill = tok at h htok hx
    split at h
    case isFalse => cases h
    rename_i hc
    simp only [Bool.and_eq_true] at hc
    obtain ⟨hc, hxs0⟩ := hc
    obtain ⟨hpos, hys, hone, hmpos, hbig, hbytes, z, hzz, hzsz⟩ := asked hne hc
    rw [hll] at hbig hbytes
    have hxs : ∀ z ∈ xs, z.cells.length = ei.size := fun z hz => by have := List.all_eq_true.1 hxs0 z hz; simpa using this
    have hxys : ∀ z ∈ xs ++ ys, z.cells.length = ei.size := fun z hz => (List.mem_append.1 hz).elim (hxs z) (hys z)
    obtain ⟨b2, o2, ws, rfl, hws, hwc⟩ := hys0 (fun h => by subst h; simp at hmpos)
    have hwl : ws.length = ys.length * ie.size := by rw [hie1, hws.length, flat_length hys]
    have hw1 := hws.oneCell' hone
    -- the cells of what was there
    have hold : ∃ vs, VRs g (flat xs) vs ∧ vs.length = len * ie.size ∧ ∀ b o, base = some ⟨b, o, none⟩ → Held g b o vs := by
      cases hx with
      | slice0 ht =>
        refine ⟨[], .nil, by simp, fun b o _ j v hj => by simp at hj⟩
      | @slice _ vs b o l c _ size hp hl hs hv hm ht =>
        refine ⟨vs, hv, ?_, fun b' o' hb => ?_⟩
        · rw [hv.length, flat_length hxs, hl, hie1]
        · injection hb with hb
          injection hb with hb1 hb2
          subst hb1; subst hb2
          exact hm
    obtain ⟨vs, hvs, hvl, hvh⟩ := hold
    have hbase : ∀ a, base = some a → ∀ (j : Nat) u, vs[j]? = some u → w.cell? (a.add j) = some u := by
      intro a ha j u' hj
      cases hx with
      | slice0 ht => simp at hvl; rw [hvl] at hj; cases hj
      | @slice _ vs' b' o' l c _ size hp hl hs hv hm ht =>
        injection ha with ha
        subst ha
        rw [add_none]
        exact hI.im _ _ _ (hvh b' o' rfl j u' hj)
    have hall : VRs g (flat (xs ++ ys)) (vs ++ ws) := by rw [flat_append]; exact hvs.append hws
    have hallen : (xs ++ ys).length = len + ys.length := by rw [List.length_append, hll]
    have hie' : 0 < ie.size := by rw [hie1]; exact hpos
    split at h
    · -- a new row
      have hcap : cap = len := htok
      have hnil : base = none → len = 0 ∧ cap = 0 := by
        intro hb
        cases hx with
        | slice0 ht => exact ⟨rfl, ht⟩
        | slice size hp hl hs hv hm ht => cases hb
      obtain ⟨c', w', cur, hr, hg', hh, hcs, hpc, hcm, htake⟩ := append_grows (ty := ty) (c2 := c2) (cap := cap) hu hie hzz hzsz hvl hbase hnil hwl hwc hmpos hbig hbytes (by omega)
      split at h
      · injection h with h
        injection h with h1 h2
        subst h1; subst h2
        have hfl : (flat xs ++ flat ys).length = (len + ys.length) * ie.size := by rw [List.length_append, flat_length hxs, flat_length hys, hll, hie1, Nat.add_mul]
        obtain ⟨g', q1, q2, q3⟩ := Post.newRow (H := H) (len := len + ys.length) (c1 := c') (cs := flat xs ++ flat ys) (cur := cur) hg' hh hie hie' hcs hcm (by rw [hfl, htake]; exact hvs.append hws) hA hI (by simpa using hf) hpc
        rw [hll]
        exact ⟨_, _, g', hr, q1, q2, q3⟩
      · injection h with h
        injection h with h1 h2
        subst h1; subst h2
        have hun := hf H.length (Nat.le_refl _) (by simp)
        obtain ⟨g', q1, q2, q3, q4, q5, q6⟩ := hI.lined (t := H.length) (p := len + ys.length) (b1 := w.heap.size) (c1 := c') (e := e) (cur := cur) (i := ie) hg' hie hie' hh hcs hpc hcm (.inl ⟨hun, rfl, Nat.le_refl _⟩)
          (fun _ _ _ _ _ _ _ _ hn _ => by cases hn) (fun _ hn _ => by cases hn)
        rw [htake] at q4
        rw [hll]
        refine ⟨_, w', g', hr, .slice ei.size hpos hallen hxys (hall.le q1) q4 ⟨rfl, hpc, w.heap.size, q3, rfl⟩, ⟨q1, fun id hid hn => ?_⟩, by rw [hA.over_snoc]; exact q2⟩
        simp only [List.length_append, List.length_cons, List.length_nil] at hn
        have hne : id ≠ H.length := by omega
        exact ⟨by rw [q5]; exact hid.1, fun p => by rw [q6 _ _ hne]; exact hid.2 p⟩
    · -- a row that grows
      rename_i id p
      split at h
      · rename_i e' p' hid
        split at h
        · rename_i hep
          obtain ⟨rfl, rfl⟩ := hep
          injection h with h
          injection h with h1 h2
          subst h1; subst h2
          obtain ⟨hp, hlc, b, hlb, hbs⟩ := htok
          subst hp
          have hS := hA _ _ hid
          obtain ⟨hB, hpc0, hcm0, cur0, i0, hi0, hi0p, hh0, hcs0, him0⟩ := hI.lin _ _ _ _ _ hS hlb
          rw [hie] at hi0
          injection hi0 with hi0
          subst hi0
          subst hbs
          have hlt := (List.getElem?_eq_some_iff.1 hid).1
          have hvcur : cur0.toList.take (p' * ie.size) = vs := by
            apply List.ext_getElem?
            intro j
            rcases Nat.lt_or_ge j (p' * ie.size) with hj | hj
            · rw [List.getElem?_take_of_lt hj]
              have hjv : j < vs.length := by omega
              have hv1 : vs[j]? = some vs[j] := List.getElem?_eq_getElem hjv
              have := hI.im _ _ _ (hvh b 0 rfl j _ hv1)
              simp only [Nat.zero_add, World.cell?, hh0] at this
              rw [hv1]
              simpa using this
            · rw [List.getElem?_eq_none (by rw [List.length_take]; omega), List.getElem?_eq_none (by omega)]
          rw [hll]
          by_cases hroom : p' + ys.length ≤ cap
          · have hr := run_append_room_row (P := P) w t ty e' ie hu hie b p' cap ⟨b2, o2, none⟩ ys.length c2 ws cur0 e' hh0 hwl hwc hw1 hroom (by rw [hcs0]; exact Nat.mul_le_mul_right _ hroom)
            rw [hvcur] at hr
            have hcur : (vs ++ ws ++ cur0.toList.drop (p' * ie.size + ws.length)).toArray.size = cap * ie.size := by
              have h1 : (p' + ys.length) * ie.size ≤ cap * ie.size := Nat.mul_le_mul_right _ hroom
              have h2 : cur0.toList.length = cap * ie.size := by rw [Array.length_toList, hcs0]
              simp only [List.size_toArray, List.length_append, List.length_drop, hvl, hwl, h2]
              rw [Nat.add_mul] at h1
              omega
            have hnew := setRow_heap w b cur0 (vs ++ ws ++ cur0.toList.drop (p' * ie.size + ws.length)).toArray e' (0, 0) hh0
            obtain ⟨g', q1, q2, q3, q4, q5, q6⟩ := hI.lined (w' := w.setRow b (vs ++ ws ++ cur0.toList.drop (p' * ie.size + ws.length)).toArray) (t := id) (p := p' + ys.length) (b1 := b) (c1 := cap) (e := e') (cur := (vs ++ ws ++ cur0.toList.drop (p' * ie.size + ws.length)).toArray) (i := ie) (row := some b)
              ⟨rfl, rfl, rfl, by simp, fun k hk hne => setRow_other w b k _ (fun e => hne (by rw [e]))⟩ hie hie' hnew hcur hroom hcm0
              (.inr ⟨p', b, cap, hS, hlb, by omega, rfl, .inl rfl, fun i o v hi2 ho hv _ => by
                rw [hie] at hi2
                injection hi2 with hi2
                subst hi2
                simp only [World.cell?, hh0] at hv
                simp only [World.cell?, hnew]
                have ho' : o < vs.length := by rw [hvl]; exact ho
                have hv' : cur0.toList[o]? = some v := by simpa using hv
                have : vs[o]? = some v := by rw [← hvcur, List.getElem?_take_of_lt ho]; exact hv'
                simp [List.append_assoc, List.getElem?_append_left ho', this]⟩)
              (fun t' p0 b0 c0 o v hS' hl' hb0 him => by
                injection hb0 with hb0
                subst hb0
                have ht' : t' = id := hI.inj _ _ b (by simp [blkOf, hS', hl']) (by simp [blkOf, hS, hlb])
                have ho : o < p' * ie.size := by
                  rcases Nat.lt_or_ge o (p' * ie.size) with h' | h'
                  · exact h'
                  · rw [him0 o h'] at him; cases him
                have hv := hI.im _ _ _ him
                simp only [World.cell?, hh0] at hv
                simp only [World.cell?, hnew]
                have ho' : o < vs.length := by rw [hvl]; exact ho
                have hv' : cur0.toList[o]? = some v := by simpa using hv
                have : vs[o]? = some v := by rw [← hvcur, List.getElem?_take_of_lt ho]; exact hv'
                simp [List.append_assoc, List.getElem?_append_left ho', this])
              (fun b0 hb0 hne2 => by injection hb0 with hb0; exact absurd hb0 hne2)
            have htake : (vs ++ ws ++ cur0.toList.drop (p' * ie.size + ws.length)).toArray.toList.take ((p' + ys.length) * ie.size) = vs ++ ws := by
              have : (p' + ys.length) * ie.size = (vs ++ ws).length := by rw [List.length_append, hvl, hwl, Nat.add_mul]
              rw [this]
              exact List.take_left
            rw [htake] at q4
            refine ⟨_, _, g', hr, .slice ei.size hpos hallen hxys (hall.le q1) q4 ⟨rfl, hroom, b, q3, rfl⟩, ⟨q1, fun i' hi' hn => ?_⟩, by rw [hA.over_set hlt]; exact q2⟩
            have hne3 : i' ≠ id := by
              rintro rfl
              rw [hi'.2] at hlb
              cases hlb
            exact ⟨by rw [q5]; exact hi'.1, fun p => by rw [q6 _ _ hne3]; exact hi'.2 p⟩
          · obtain ⟨c', w', cur, hr, hg', hh, hcs, hpc, hcm, htake⟩ := append_grows (ty := ty) (c2 := c2) (cap := cap) hu hie hzz hzsz hvl hbase (fun hb => by cases hb) hwl hwc hmpos hbig hbytes (by omega)
            have hgr : w.grownBy w' (some b) := ⟨hg'.os, hg'.tape, hg'.output, hg'.size, fun k hk _ => hg'.block k hk (by simp)⟩
            have hbsame : w'.heap[b]? = w.heap[b]? := hg'.block b (heap_lt hh0) (by simp)
            obtain ⟨g', q1, q2, q3, q4, q5, q6⟩ := hI.lined (t := id) (p := p' + ys.length) (b1 := w.heap.size) (c1 := c') (e := e') (cur := cur) (i := ie) (row := some b) hgr hie hie' hh hcs hpc hcm
              (.inr ⟨p', b, cap, hS, hlb, by omega, rfl, .inr (Nat.le_refl _), fun _ o v _ _ hv _ => by rw [World.cell?_of_block (w := w) hbsame]; exact hv⟩)
              (fun t' p0 b0 c0 o v hS' hl' hb0 him => by
                injection hb0 with hb0
                subst hb0
                rw [World.cell?_of_block (w := w) hbsame]
                exact hI.im _ _ _ him)
              (fun b0 hb0 _ => by injection hb0 with hb0; subst hb0; exact hbsame)
            rw [htake] at q4
            refine ⟨_, _, g', hr, .slice ei.size hpos hallen hxys (hall.le q1) q4 ⟨rfl, hpc, w.heap.size, q3, rfl⟩, ⟨q1, fun i' hi' hn => ?_⟩, by rw [hA.over_set hlt]; exact q2⟩
            have hne3 : i' ≠ id := by
              rintro rfl
              rw [hi'.2] at hlb
              cases hlb
            exact ⟨by rw [q5]; exact hi'.1, fun p => by rw [q6 _ _ hne3]; exact hi'.2 p⟩
        · cases h
      · cases h
    · cases h
  · -- a mutable row
    rename_i id v0 off len
    cases hx with
    | @sref _ _ _ _ b c cap hlb hlc hcap =>
    split at h
    · rename_i hemp
      injection h with h
      injection h with h1 h2
      subst h1; subst h2
      have : ys = [] := by simpa using hemp
      subst this
      exact Post.pure' hA hI ⟨_, run_append_nothing w t ty e ie hu hie _ _ len cap _ hlc, .sref hlb hlc hcap⟩
    rename_i hne
    split at h
    case isFalse => cases h
    rename_i hc
    simp only [Bool.and_eq_true, decide_eq_true_eq] at hc
    obtain ⟨hc, rfl⟩ := hc
    obtain rfl := hcap rfl
    obtain ⟨hpos, hys, hone, hmpos, hbig, hbytes, z, hzz, hzsz⟩ := asked hne hc
    obtain ⟨b2, o2, ws, rfl, hws, hwc⟩ := hys0 (fun h => by subst h; simp at hmpos)
    have hwl : ws.length = ys.length * ie.size := by rw [hie1, hws.length, flat_length hys]
    have hw1 := hws.oneCell' hone
    have hie' : 0 < ie.size := by rw [hie1]; exact hpos
    split at h
    case h_2 => cases h
    rename_i e' v' cs hid
    split at h
    case isFalse => cases h
    rename_i hep
    obtain ⟨rfl, rfl⟩ := hep
    have hS := hA _ _ hid
    have hlt := (List.getElem?_eq_some_iff.1 hid).1
    obtain ⟨hB, hcm0, him0, cur0, i0, hi0, _, hh0, hcs0, hv0⟩ := hI.row _ _ _ _ _ _ hS hlb
    rw [hie] at hi0
    injection hi0 with hi0
    subst hi0
    have hcl : (cur0.toList.take cs.length).length = cs.length := hv0.length
    have hcl3 : cur0.toList.length = cur0.size := Array.length_toList
    have hcl2 : cs.length ≤ cur0.size := by
      rw [List.length_take] at hcl
      omega
    have hyl : (flat ys).length = ys.length * ie.size := by rw [flat_length hys, hie1]
    split at h
    · rename_i hwhole
      rw [← hie1] at hwhole
      injection h with h
      injection h with h1 h2
      subst h1; subst h2
      have hfl : (cs ++ flat ys).length = (len + ys.length) * ie.size := by rw [List.length_append, hyl, ← hwhole, Nat.add_mul]
      have hvl : (cur0.toList.take cs.length).length = len * ie.size := by rw [hcl, hwhole]
      have holds : ∀ a, some (⟨b, 0, none⟩ : Addr) = some a → ∀ (j : Nat) u, (cur0.toList.take cs.length)[j]? = some u → w.cell? (a.add j) = some u := by
        intro a ha j u hj
        injection ha with ha
        subst ha
        have hlt := (List.getElem?_eq_some_iff.1 hj).1
        rw [hcl] at hlt
        rw [List.getElem?_take_of_lt hlt] at hj
        rw [add_none, Nat.zero_add]
        simp [World.cell?, hh0]
        simpa using hj
      by_cases hroom : len + ys.length ≤ cap
      · have hr := run_append_room_row (P := P) w t ty e' ie hu hie b len cap ⟨b2, o2, none⟩ ys.length c2 ws cur0 e' hh0 hwl hwc hw1 hroom (by rw [hcs0]; exact Nat.mul_le_mul_right _ hroom)
        have hcur : (cur0.toList.take (len * ie.size) ++ ws ++ cur0.toList.drop (len * ie.size + ws.length)).toArray.size = cap * ie.size := by
          have h1 : (len + ys.length) * ie.size ≤ cap * ie.size := Nat.mul_le_mul_right _ hroom
          simp only [List.size_toArray, List.length_append, List.length_drop, List.length_take, hwl, Array.length_toList, hcs0]
          rw [Nat.add_mul] at h1
          omega
        have hnew := setRow_heap w b cur0 (cur0.toList.take (len * ie.size) ++ ws ++ cur0.toList.drop (len * ie.size + ws.length)).toArray e' (0, 0) hh0
        obtain ⟨g', q1, q2, q3, q4, q5⟩ := hI.rowed (w' := w.setRow b (cur0.toList.take (len * ie.size) ++ ws ++ cur0.toList.drop (len * ie.size + ws.length)).toArray) (t := id) (v := v' + 1) (b1 := b) (c1 := cap) (e := e') (cs := cs ++ flat ys) (row := some b)
          ⟨rfl, rfl, rfl, by simp, fun k hk hne => setRow_other w b k _ (fun e => hne (by rw [e]))⟩ hie hie' hnew hcur hcm0 (by
            rw [hfl]
            have e1 : (len + ys.length) * ie.size = (cur0.toList.take (len * ie.size) ++ ws).length := by rw [List.length_append, hwl, List.length_take, Nat.add_mul]; omega
            simp only
            rw [e1, List.take_left, hwhole]
            exact hv0.append hws) (.inr ⟨e', v', cs, b, cap, hS, hlb, by omega, rfl, .inl rfl⟩)
        refine ⟨_, _, g', hr, .sref q3 hroom (fun _ => rfl), ⟨q1, fun i' hi' hn => ?_⟩, by rw [hA.over_set hlt]; exact q2⟩
        have hne3 : i' ≠ id := by
          rintro rfl
          rw [hi'.2] at hlb
          cases hlb
        exact ⟨by rw [q4]; exact hi'.1, fun p => by rw [q5 _ _ hne3]; exact hi'.2 p⟩
      · obtain ⟨c', w', cur, hr, hg', hh, hcs, hpc, hcm, htake⟩ := append_grows (ty := ty) (c2 := c2) (cap := cap) hu hie hzz hzsz hvl holds (fun hb => by cases hb) hwl hwc hmpos hbig hbytes (by omega)
        have hgr : w.grownBy w' (some b) := ⟨hg'.os, hg'.tape, hg'.output, hg'.size, fun k hk _ => hg'.block k hk (by simp)⟩
        obtain ⟨g', q1, q2, q3, q4, q5⟩ := hI.rowed (t := id) (v := v' + 1) (b1 := w.heap.size) (c1 := c') (e := e') (cs := cs ++ flat ys) (row := some b) hgr hie hie' hh hcs hcm (by
            rw [hfl, htake]
            exact hv0.append hws) (.inr ⟨e', v', cs, b, cap, hS, hlb, by omega, rfl, .inr (Nat.le_refl _)⟩)
        refine ⟨_, _, g', hr, .sref q3 hpc (fun _ => rfl), ⟨q1, fun i' hi' hn => ?_⟩, by rw [hA.over_set hlt]; exact q2⟩
        have hne3 : i' ≠ id := by
          rintro rfl
          rw [hi'.2] at hlb
          cases hlb
        exact ⟨by rw [q4]; exact hi'.1, fun p => by rw [q5 _ _ hne3]; exact hi'.2 p⟩
    · split at h
      · rename_i hin
        rw [← hie1] at hin
        injection h with h
        injection h with h1 h2
        subst h1; subst h2
        have hroom : len + ys.length ≤ cap := by
          have : (len + ys.length) * ie.size ≤ cap * ie.size := by rw [← hcs0]; omega
          exact Nat.le_of_mul_le_mul_right this hie'
        have hr := run_append_room_row (P := P) w t ty e' ie hu hie b len cap ⟨b2, o2, none⟩ ys.length c2 ws cur0 e' hh0 hwl hwc hw1 hroom (by rw [hcs0]; exact Nat.mul_le_mul_right _ hroom)
        have hle : len * ie.size + (flat ys).length ≤ cs.length := by rw [hyl, ← Nat.add_mul]; exact hin
        obtain ⟨w', hst, hI'⟩ := hI.storeRow hS hlb hws hone hle
        have hrun2 := run_storeCells_at (P := P) b (len * ie.size) e' ws 0 cur0 w hh0 (by simp only [Nat.add_zero]; rw [hwl, ← Nat.add_mul]; omega) hw1
        simp only [Nat.add_zero] at hrun2
        rw [hrun2] at hst
        injection hst with _ hst
        subst hst
        refine ⟨_, _, g, hr, .sref hlb hroom hcap, ?_, ?_⟩
        · simp only [List.length_set]
          exact .refl _ _ _
        · rw [hA.over_set hlt, ← hie1]
          exact hI'
      · cases h
  · cases h
end
end Go.Av
set_option linter.unusedVariables false
set_option linter.unusedSectionVars false
set_option linter.unusedSimpArgs false
namespace Go.Av
open Go.RowKit
variable [Ground]

def aconvB (E : Env) (s d : TypeId) (x : AV) : Option AV :=
  match x with
  | .str l => match E s, E d with
    | some is, some id => match is.k, id.k with
      | .str, .slice e => match E e with
        | some ie => match ie.k with
          | .int .u8 => if l.length ≤ 2 ^ 31 then some (.slice (l.map fun b => .int .u8 b.toNat) .ro) else none
          | _ => none
        | none => none
      | _, _ => none
    | _, _ => none
  | _ => none

section
variable {P : Program} {E : Env} {B0 : Nat} {W0 w : World} {g : G} {S : Ghost} {H : AHeap}

theorem bytesWorld_eq (w : World) (e : TypeId) (s : ByteArray) : Lib.bytesWorld w e s = w.drew.alloc (.cells (Lib.bytesCells w e s) e ((Lib.bytesCells w e s).size, (Lib.bytesCells w e s).size + 1)) := by
  have hh : (Lib.bytesWorld w e s).heap = (w.drew.alloc (.cells (Lib.bytesCells w e s) e ((Lib.bytesCells w e s).size, (Lib.bytesCells w e s).size + 1))).heap := by
    apply Array.ext_getElem?
    intro j
    rcases Nat.lt_trichotomy j w.heap.size with h | h | h
    · rw [Lib.bytesWorld_at_old w e s j h]
      exact (Below.heap_alloc w.drew _ j h).symm
    · subst h
      rw [Lib.bytesWorld_at_new]
      exact (heap_alloc_new w.drew _).symm
    · rw [Array.getElem?_eq_none (by rw [Lib.bytesWorld_size]; omega), Array.getElem?_eq_none (by show _ ≤ _; simp [World.alloc, World.drew, -World.alloc_eq, -World.drew_eq]; omega)]
  have : ∀ a b : World, a.heap = b.heap → a.tape = b.tape → a.drawn = b.drawn → a.os = b.os → a.output = b.output → a = b := by
    intro a b h1 h2 h3 h4 h5
    cases a; cases b; simp_all
  exact this _ _ hh rfl rfl rfl rfl

theorem aconvB_ok (hE : EnvOK P E) {s d : TypeId} {x r : AV} {v : Value} (h : aconvB E s d x = some r) (hx : VR g x v) (hA : Agree H S) (hI : Inv P B0 W0 g S w) :
    Post P B0 W0 g S H H r ((convert s d v).run P w) := by
  unfold aconvB at h
  split at h
  case h_2 => cases h
  rename_i l
  split at h
  case h_2 => cases h
  rename_i is id his hid
  split at h
  case h_2 => cases h
  rename_i e hks hkd
  split at h
  case h_2 => cases h
  rename_i ie hie
  split at h
  case h_2 => cases h
  rename_i hke
  split at h
  case isFalse => cases h
  rename_i hl
  injection h with h
  subst h
  cases hx
  obtain ⟨_, _, _, _, k1, _⟩ := hE _ _ his
  obtain ⟨_, _, _, _, k2, _⟩ := hE _ _ hid
  obtain ⟨_, _, _, _, k3, _⟩ := hE _ _ hie
  rw [hks] at k1
  rw [hkd] at k2
  rw [hke] at k3
  rw [Lib.run_convert_string_bytes w s d e ⟨⟨l⟩⟩ k1 k2 k3, bytesWorld_eq]
  have hlen : (⟨⟨l⟩⟩ : ByteArray).size = l.length := rfl
  have hcap : l.length ≤ grownCap w l.length 0 e := grownCap_ge w l.length 0 e
  cases hl0 : l with
  | nil =>
    refine ⟨_, _, g, rfl, .slice0 (Nat.zero_le _), .refl _ _ _, ?_⟩
    rw [hA.over_self]
    exact hI.drew.alloc _
  | cons b l' =>
    rw [← hl0]
    have hflat : flat (l.map fun b => AV.int .u8 b.toNat) = l.map fun b => AV.int .u8 b.toNat := by
      clear hl hl0 hlen hcap
      induction l with
      | nil => rfl
      | cons b l ih => simp only [List.map_cons, flat_cons, ih]; rfl
    have hv : VRs g (flat (l.map fun b => AV.int .u8 b.toNat)) (l.map fun b => Value.int .u8 b.toNat) := by
      rw [hflat]
      clear hl hl0 hlen hcap hflat
      induction l with
      | nil => exact .nil
      | cons b l ih => exact .cons (.int _ _) ih
    obtain ⟨g', q1, q2, q3⟩ := Post.newSlice (w := w.drew) (xs := l.map fun b => AV.int .u8 b.toNat) (size := 1) (t := e) (fr := ((Lib.bytesCells w e ⟨⟨l⟩⟩).size, (Lib.bytesCells w e ⟨⟨l⟩⟩).size + 1)) (cur := Lib.bytesCells w e ⟨⟨l⟩⟩) (cap := grownCap w l.length 0 e) (tok := .ro) (by omega)
      (fun x hx => by obtain ⟨b, _, rfl⟩ := List.mem_map.1 hx; rfl) hv (fun j v hj => by
        simp only [Lib.bytesCells]
        have hlt := (List.getElem?_eq_some_iff.1 hj).1
        simp only [List.length_map] at hlt
        rw [Array.getElem?_append_left (by simpa using hlt)]
        simpa using hj) (fun g' => by simp only [TokOK, List.length_map]; exact hcap) hA hI.drew
    simp only [List.length_map] at q1
    exact ⟨_, _, g', rfl, q1, q2, q3⟩

/-- clear: a slice's elements are zeros. -/
def aclear (E : Env) (t : TypeId) (x : AV) (H : AHeap) : Option AHeap :=
  match E t with
  | some i => match i.k with
    | .slice e => match E e with
      | some ei => match x with
        | .slice [] _ => some H
        | .sref id v off len =>
          if len = 0 then some H else
          if 0 < ei.size && ei.zero.laid && (ei.zero.cells.length == ei.size) && ei.zero.cells.all AV.oneCell then
            match H[id]? with
            | some (.row e' v' cs) => if v' = v ∧ off + len * ei.size ≤ cs.length then some (H.set id (.row e' v (setRange cs off (flat (List.replicate len ei.zero))))) else none
            | _ => none
          else none
        | _ => none
      | none => none
    | _ => none
  | none => none

theorem aclear_ok (hE : EnvOK P E) {t ty : TypeId} {ts : List TypeId} {x : AV} {v : Value} {H' : AHeap} (h : aclear E t x H = some H') (hx : VR g x v) (hA : Agree H S) (hI : Inv P B0 W0 g S w) :
    H'.length = H.length ∧ ∃ w', (Builtin.clear_ ⟨t :: ts⟩ ty #[v]).run P w = .ok (.tuple #[]) w' ∧ Inv P B0 W0 g (S.over H') w' := by
  unfold aclear at h
  split at h
  case h_2 => cases h
  rename_i i hi
  split at h
  case h_2 => cases h
  rename_i e hk
  split at h
  case h_2 => cases h
  rename_i ei hei
  obtain ⟨_, _, _, _, hks, _⟩ := hE _ _ hi
  rw [hk] at hks
  have hu : P.underlying t = some (.slice e) := hks
  split at h
  · injection h with h
    subst h
    refine ⟨rfl, w, ?_, by rw [hA.over_self]; exact hI⟩
    cases hx with
    | @slice0 base cap _ ht =>
      cases base with
      | none => simp [Builtin.clear_, run_underlying hu]
      | some a => simp [Builtin.clear_, run_underlying hu]
    | slice size hp hl hs hv hm ht =>
      simp only [List.length_nil] at hl
      subst hl
      simp [Builtin.clear_, run_underlying hu]
  · rename_i id v0 off len
    cases hx with
    | @sref _ _ _ _ b c cap hlb hlc hcap =>
    split at h
    · rename_i h0
      subst h0
      injection h with h
      subst h
      exact ⟨rfl, w, by simp [Builtin.clear_, run_underlying hu], by rw [hA.over_self]; exact hI⟩
    rename_i h0
    split at h
    case isFalse => cases h
    rename_i hc
    simp only [Bool.and_eq_true, decide_eq_true_eq, beq_iff_eq] at hc
    obtain ⟨⟨⟨hpos, hlaid⟩, hzc⟩, hone⟩ := hc
    split at h
    case h_2 => cases h
    rename_i e' v' cs hid
    split at h
    case isFalse => cases h
    rename_i hep
    obtain ⟨rfl, hle⟩ := hep
    injection h with h
    subst h
    obtain ⟨z, hz, hzr⟩ := (hE _ _ hei).zero (AV.laid_cells hlaid) w
    have hzv := (hzr g).cells (AV.laid_cells hlaid)
    have hzsz : z.cells.size = ei.size := by rw [← hzc, ← hzv.length]; simp
    have hzeros := zeros_ok (g := g) hzc hpos hzv len
    have hall : (flat (List.replicate len ei.zero)).all AV.oneCell = true := by
      clear hzeros hle h0 hlc
      induction len with
      | zero => rfl
      | succ n ih => rw [List.replicate_succ, flat_cons, List.all_append, hone, ih]; rfl
    have hfl : (flat (List.replicate len ei.zero)).length = len * ei.size := by
      rw [flat_length (size := ei.size) (fun x hx => by rw [(List.mem_replicate.1 hx).2]; exact hzc)]
      simp
    obtain ⟨w', hst, hI'⟩ := hI.storeRow (hA _ _ hid) hlb hzeros hall (by rw [hfl]; exact hle)
    refine ⟨by simp, w', ?_, by rw [hA.over_set ((List.getElem?_eq_some_iff.1 hid).1)]; exact hI'⟩
    obtain ⟨k, rfl⟩ : ∃ k, len = k + 1 := ⟨len - 1, by omega⟩
    simp only [Builtin.clear_, Sem.run_bind, run_underlying hu, Result.andThen_ok, List.getElem?_toArray, List.getElem?_cons_zero, hz, Builtin.zeroCells, hzsz]
    simp only [hzsz] at hst
    rw [hst]
    rfl
  · cases h

/-- copy into a mutable row. -/
def acopy (E : Env) (t : TypeId) (x y : AV) (H : AHeap) : Option (AV × AHeap) :=
  match E t with
  | some i => match i.k with
    | .slice e => match E e with
      | some ei => match acont ei e H y with
        | some ys => match x with
          | .slice [] _ => some (.int .i64 0, H)
          | .sref id v off len =>
            let n := Nat.min ys.length len
            if n = 0 then some (.int .i64 0, H) else
            if ys.all (fun z => z.cells.length == ei.size && z.cells.all AV.oneCell) then
              match H[id]? with
              | some (.row e' v' cs) => if v' = v ∧ off + n * ei.size ≤ cs.length then some (.int .i64 n, H.set id (.row e' v (setRange cs off (flat (ys.take n))))) else none
              | _ => none
            else none
          | _ => none
        | none => none
      | none => none
    | _ => none
  | none => none

theorem run_firstCells_zero (w : World) (size : Nat) (base : Option Addr) (l c : Nat) : (Builtin.firstCells size 0 (.slice base l c)).run P w = .ok #[] w := by
  cases base with
  | none => rfl
  | some a => simp [Builtin.firstCells]; rfl

theorem acopy_ok (hE : EnvOK P E) {t ty : TypeId} {ts : List TypeId} {x y r : AV} {v u : Value} {H' : AHeap} (h : acopy E t x y H = some (r, H')) (hx : VR g x v) (hy : VR g y u) (hA : Agree H S) (hI : Inv P B0 W0 g S w) :
    H'.length = H.length ∧ ∃ n w', r = .int .i64 n ∧ (Builtin.copy_ ⟨t :: ts⟩ ty #[v, u]).run P w = .ok (.int .i64 n) w' ∧ Inv P B0 W0 g (S.over H') w' := by
  unfold acopy at h
  split at h
  case h_2 => cases h
  rename_i i hi
  split at h
  case h_2 => cases h
  rename_i e hk
  split at h
  case h_2 => cases h
  rename_i ei hei
  split at h
  case h_2 => cases h
  rename_i ys hcont
  obtain ⟨_, _, _, _, hks, _⟩ := hE _ _ hi
  rw [hk] at hks
  have hu : P.underlying t = some (.slice e) := hks
  have hz := (hE _ _ hei).sizeOf w
  obtain ⟨base2, c2, rfl, hys0⟩ := acont_ok hcont hy hA hI
  have none_ : ∀ (base : Option Addr) (l c : Nat), Nat.min ys.length l = 0 → (Builtin.copy_ ⟨t :: ts⟩ ty #[.slice base l c, .slice base2 ys.length c2]).run P w = .ok (.int .i64 0) w := by
    intro base l c h0
    have e1 : min ys.length l = 0 := h0
    cases base with
    | none => simp [Builtin.copy_, run_underlying hu, Builtin.lenOf, hz, e1, run_firstCells_zero, goInt]
    | some a => simp [Builtin.copy_, run_underlying hu, Builtin.lenOf, hz, e1, run_firstCells_zero, goInt, storeCells]
  split at h
  · injection h with h
    injection h with h1 h2
    subst h1; subst h2
    refine ⟨rfl, 0, w, rfl, ?_, by rw [hA.over_self]; exact hI⟩
    cases hx with
    | slice0 ht => exact none_ _ _ _ (Nat.min_zero _)
    | slice size hp hl hs hv hm ht =>
      simp only [List.length_nil] at hl
      subst hl
      exact none_ _ _ _ (Nat.min_zero _)
  · rename_i id v0 off len
    cases hx with
    | @sref _ _ _ _ b c cap hlb hlc hcap =>
    simp only at h
    split at h
    · rename_i h0
      injection h with h
      injection h with h1 h2
      subst h1; subst h2
      exact ⟨rfl, 0, w, rfl, none_ _ _ _ h0, by rw [hA.over_self]; exact hI⟩
    rename_i h0
    split at h
    case isFalse => cases h
    rename_i hc
    have hys : ∀ z ∈ ys, z.cells.length = ei.size := fun z hz => by have := List.all_eq_true.1 hc z hz; simp only [Bool.and_eq_true, beq_iff_eq] at this; exact this.1
    have hone : (flat ys).all AV.oneCell = true := flat_oneCell (List.all_eq_true.2 fun z hz => by have := List.all_eq_true.1 hc z hz; simp only [Bool.and_eq_true] at this; exact this.2)
    split at h
    case h_2 => cases h
    rename_i e' v' cs hid
    split at h
    case isFalse => cases h
    rename_i hep
    obtain ⟨rfl, hle⟩ := hep
    injection h with h
    injection h with h1 h2
    subst h1; subst h2
    obtain ⟨b2, o2, ws, rfl, hws, hwc⟩ := hys0 (fun h => by subst h; exact h0 (Nat.zero_min _))
    have hfl : flat (ys.take (Nat.min ys.length len)) = (flat ys).take (Nat.min ys.length len * ei.size) := flat_take hys _
    have hwl : ws.length = ys.length * ei.size := by rw [hws.length, flat_length hys]
    have hlen : (ws.take (Nat.min ys.length len * ei.size)).length = Nat.min ys.length len * ei.size := by
      rw [List.length_take, hwl]
      exact Nat.min_eq_left (Nat.mul_le_mul_right _ (Nat.min_le_left _ _))
    have hvs : VRs g (flat (ys.take (Nat.min ys.length len))) (ws.take (Nat.min ys.length len * ei.size)) := by rw [hfl]; exact hws.take _
    have hall : (flat (ys.take (Nat.min ys.length len))).all AV.oneCell = true := by
      rw [hfl]
      exact List.all_eq_true.2 fun z hz => List.all_eq_true.1 hone z (List.mem_of_mem_take hz)
    obtain ⟨w', hst, hI'⟩ := hI.storeRow (hA _ _ hid) hlb hvs hall (by rw [← hvs.length, hlen]; exact hle)
    refine ⟨by simp, _, w', rfl, ?_, by rw [hA.over_set ((List.getElem?_eq_some_iff.1 hid).1)]; exact hI'⟩
    have hfc := run_firstCells_some (P := P) w ei.size (Nat.min ys.length len) ⟨b2, o2, none⟩ ys.length c2 (ws.take (Nat.min ys.length len * ei.size)) hlen (fun j u hj => by
      have hlt := (List.getElem?_eq_some_iff.1 hj).1
      rw [hlen] at hlt
      rw [List.getElem?_take_of_lt hlt] at hj
      exact hwc j u hj)
    simp only [Builtin.copy_, Sem.run_bind, run_underlying hu, Result.andThen_ok, List.getElem?_toArray, List.getElem?_cons_zero, Builtin.lenOf, Sem.run_pure, hz, List.getElem?_cons_succ, hfc, hst]
    rfl
  · cases h
end
end Go.Av
set_option linter.unusedVariables false
set_option linter.unusedSectionVars false
set_option linter.unusedSimpArgs false
namespace Go.Av
open Go.RowKit

/-- A frame: how many slots there are; what is known of some, the last word first. -/
structure AFr where
  n : Nat
  l : List (Nat × AV)
def aundef : AV := .tuple []

def alook (t : Nat) : List (Nat × AV) → Option AV
  | [] => none
  | (k, x) :: l => if k = t then some x else alook t l

def aev [Ground] (fr : AFr) : Operand → AV
  | .tmp t => (alook t fr.l).getD .top
  | .const v => ofConst v
  | .global n => (Ground.gt n).getD .top
  | .func f => .func (.func f) [] []

variable [Ground]
/-- The slots of a frame. -/
def FR (g : G) (fr : AFr) (a : Act) : Prop := fr.n ≤ a.tmps.size ∧ (∀ t x, alook t fr.l = some x → VR g x (a.tmps.getD t undef)) ∧ a.defers = [] ∧ GlobR g
theorem FR.le {g g' : G} {fr : AFr} {a : Act} (h : FR g fr a) (hg : g.le g') : FR g' fr a := ⟨h.1, fun t x hx => (h.2.1 t x hx).le hg, h.2.2.1, h.2.2.2.le hg⟩
theorem FR.eval {g : G} {fr : AFr} {a : Act} (h : FR g fr a) (x : Operand) : VR g (aev fr x) (a.eval x) := by
  cases x with
  | tmp t =>
    simp only [aev, Act.eval]
    cases ht : alook t fr.l with
    | none => exact .top _
    | some x => exact h.2.1 t x ht
  | const v => exact ofConst_ok g v
  | global n =>
    simp only [aev, Act.eval]
    cases ht : Ground.gt n with
    | none => exact .top _
    | some x => exact h.2.2.2 n x ht
  | func f => exact .func .nil .nil
def aput (fr : AFr) (dst : Option Nat) (r : AV) : AFr :=
  match dst with
  | some d => if d < fr.n then ⟨fr.n, (d, r) :: fr.l⟩ else ⟨0, []⟩
  | none => fr
theorem FR.put {g : G} {fr : AFr} {a : Act} (h : FR g fr a) (dst : Option Nat) {r : AV} {v : Value} (hr : VR g r v) : FR g (aput fr dst r) (a.put dst v) := by
  cases dst with
  | none => exact h
  | some d =>
    simp only [aput, Act.put]
    split
    · rename_i hd
      have hd' : d < a.tmps.size := Nat.lt_of_lt_of_le hd h.1
      refine ⟨by simpa using h.1, fun t x hx => ?_, h.2.2⟩
      simp only [alook] at hx
      split at hx
      · rename_i e
        subst e
        injection hx with hx
        subst hx
        simpa [Array.getD_eq_getD_getElem?, hd'] using hr
      · rename_i e
        have := h.2.1 t x hx
        simp only [Array.getD_eq_getD_getElem?] at this ⊢
        rw [Array.getElem?_setIfInBounds_ne (fun x => e x)]
        exact this
    · exact ⟨Nat.zero_le _, fun t x hx => by simp [alook] at hx, h.2.2⟩
/-- Less may be known of a frame. -/
theorem FR.less {g : G} {fr fr' : AFr} {a : Act} (h : FR g fr a) (hn : fr'.n ≤ fr.n) (hl : ∀ t x, alook t fr'.l = some x → alook t fr.l = some x) : FR g fr' a :=
  ⟨Nat.le_trans hn h.1, fun t x hx => h.2.1 t x (hl t x hx), h.2.2⟩

def ameta (xs : Array Operand) (fr : AFr) : List AV := xs.toList.map (aev fr)
theorem FR.evals {g : G} {fr : AFr} {a : Act} (h : FR g fr a) (xs : List Operand) : VRs g (xs.map (aev fr)) (xs.map a.eval) := by
  induction xs with
  | nil => exact .nil
  | cons x xs ih => exact .cons (h.eval x) ih
theorem FR.parts {g : G} {fr : AFr} {a : Act} (h : FR g fr a) (ps : List (Nat × Operand)) : PartsR g (ps.map fun p => (p.1, aev fr p.2)) (ps.map fun p => (p.1, a.eval p.2)) := by
  induction ps with
  | nil => exact .nil
  | cons p ps ih => exact .cons (h.eval p.2) ih
theorem FR.opt {g : G} {fr : AFr} {a : Act} (h : FR g fr a) (x : Option Operand) : OptR g (x.map (aev fr)) (x.map a.eval) := by
  cases x with
  | none => trivial
  | some x => exact h.eval x

/-- An operation that calls no function of the program. -/
def alocal (E : Env) (fr : AFr) (H : AHeap) (op : Op) : Option (AV × AHeap) :=
  match op with
  | .move x => some (aev fr x, H)
  | .assign x => some (aev fr x, H)
  | .pick c a b => match aev fr c with | .bool t => some (if t then aev fr a else aev fr b, H) | _ => none
  | .alloc t => aalloc E t H
  | .box _ x => abox (aev fr x) H
  | .build t ps => (abuild E t (ps.toList.map fun p => (p.1, aev fr p.2))).map (·, H)
  | .buildSlice t n ps => abuildSlice E t n (ps.toList.map fun p => (p.1, aev fr p.2)) H
  | .load t p => (aload E t (aev fr p) H).map (·, H)
  | .store t p x => (astore E t (aev fr p) (aev fr x) H).map (aundef, ·)
  | .nilCheck x => match aev fr x with | .vptr i o => some (.vptr i o, H) | .cptr cs => some (.cptr cs, H) | .eptr i v o => some (.eptr i v o, H) | .func (.func f) a b => some (.func (.func f) a b, H) | _ => none
  | .binOp o t x y _ => match aifc E o t (aev fr x) (aev fr y) with
    | some r => some (r, H)
    | none => (abin o t (E t) (isNilConst x || isNilConst y) (aev fr x) (aev fr y)).map (·, H)
  | .unOp o _ x => (aun o (aev fr x)).map (·, H)
  | .convert s d x => match aconvB E s d (aev fr x) with
    | some r => some (r, H)
    | none => (aconv E s d (aev fr x)).map (·, H)
  | .makeInterface t x => match E t with
    | some i => match i.k with
      | .iface => none
      | _ => some (.iface t (aev fr x), H)
    | none => none
  | .makeFunc fn first cap => some (.func fn (first.toList.map (aev fr)) (cap.toList.map (aev fr)), H)
  | .slice t x lo hi mx => (aslice E t (aev fr x) (lo.map (aev fr)) (hi.map (aev fr)) (mx.map (aev fr))).map (·, H)
  | .fieldAddr t x f => (afieldAddr E t (aev fr x) f).map (·, H)
  | .field t x f => (afield E t (aev fr x) f).map (·, H)
  | .indexAddr t x i => (aindexAddr E t (aev fr x) (aev fr i)).map (·, H)
  | .index t x i => (aindex E t (aev fr x) (aev fr i)).map (·, H)
  | .extract x i => (aextract (aev fr x) i).map (·, H)
  | .call c => match c.callee with
    | .builtin b => match b, c.argTypes.toList, c.args.toList with
      | .append, [t, t'], [x, y] => if t = t' then aappend E t (aev fr x) (aev fr y) H else none
      | .append, _, _ => none
      | .clear, t :: _, [x] => (aclear E t (aev fr x) H).map (.tuple [], ·)
      | .copy, t :: _, [x, y] => acopy E t (aev fr x) (aev fr y) H
      | b, ts, xs => (abuiltin E b ts (xs.map (aev fr))).map (·, H)
    | _ => none
  | _ => none

/-- What an operation comes to, for the walk. -/
def OpSound (P : Program) (o : Oper) (fr : AFr) (H : AHeap) (r : AV) (H' : AHeap) : Prop :=
  H.length ≤ H'.length ∧ ∀ (B0 : Nat) (W0 : World) (g : G) (S : Ghost) (w : World) (a : Act) (next : Act → World → Prop) (Q : Exit → Act → World → Prop),
    Agree H S → Inv P B0 W0 g S w → FR g fr a → Free g H.length →
    (∀ v w' g', VR g' r v → Ext g g' H.length H'.length → Inv P B0 W0 g' (S.over H') w' → next (a.put o.dst v) w') → o.wp P a w next Q

section
variable {P : Program} {E : Env}
theorem OpSound.of_value {o : Oper} {fr : AFr} {H H' : AHeap} {r : AV} (hl : H.length ≤ H'.length)
    (h : ∀ (B0 : Nat) (W0 : World) (g : G) (S : Ghost) (w : World) (a : Act), Agree H S → Inv P B0 W0 g S w → FR g fr a → Fresh g H.length H'.length →
      ∃ s : Sem Value, (execOp a.eval o).run P w = ((do pure (.value (← s)) : Sem Next)).run P w ∧ Post P B0 W0 g S H H' r (s.run P w)) : OpSound P o fr H r H' := by
  refine ⟨hl, fun B0 W0 g S w a next Q hA hI hF hfr k => ?_⟩
  obtain ⟨s, h1, v, w', g', h2, h3, h4, h5⟩ := h B0 W0 g S w a hA hI hF (hfr.fresh _)
  unfold Oper.wp
  rw [h1]
  simp only [Sem.run_bind, h2, Result.andThen_ok, Sem.run_pure]
  exact k v w' g' h3 h4 h5
theorem OpSound.of_pure {o : Oper} {fr : AFr} {H : AHeap} {r : AV}
    (h : ∀ (B0 : Nat) (W0 : World) (g : G) (S : Ghost) (w : World) (a : Act), Agree H S → Inv P B0 W0 g S w → FR g fr a →
      ∃ v, (execOp a.eval o).run P w = .ok (.value v) w ∧ VR g r v) : OpSound P o fr H r H := by
  refine ⟨Nat.le_refl _, fun B0 W0 g S w a next Q hA hI hF hfr k => ?_⟩
  obtain ⟨v, h1, h2⟩ := h B0 W0 g S w a hA hI hF
  unfold Oper.wp
  rw [h1]
  exact k v w g h2 (.refl _ _ _) (by rw [hA.over_self]; exact hI)

theorem map_some {α β : Type} {o : Option α} {f : α → β} {b : β} (h : o.map f = some b) : ∃ a, o = some a ∧ f a = b := by
  cases o with
  | none => cases h
  | some a => exact ⟨a, rfl, by injection h⟩

theorem aappend_length {t : TypeId} {x y r : AV} {H H' : AHeap} (h : aappend E t x y H = some (r, H')) : H.length ≤ H'.length := by
  unfold aappend at h
  repeat' split at h
  all_goals first | (cases h; done) | (injection h with h; injection h with h1 h2; subst h2; simp)
theorem abuildSlice_same {t : TypeId} {n : Nat} {ps : List (Nat × AV)} {r : AV} {H H' : AHeap} (h : abuildSlice E t n ps H = some (r, H')) : H' = H := by
  unfold abuildSlice at h
  repeat' split at h
  all_goals first | (cases h; done) | (obtain ⟨a, _, h⟩ := map_some h; injection h with h1 h2; exact h2.symm)
theorem aalloc_length {t : TypeId} {r : AV} {H H' : AHeap} (h : aalloc E t H = some (r, H')) : H.length ≤ H'.length := by
  unfold aalloc at h
  cases hi : E t with
  | none => rw [hi] at h; cases h
  | some i =>
    rw [hi] at h
    simp only [Option.bind_some] at h
    split at h
    · injection h with h; injection h with h1 h2; subst h2; simp
    · cases h
theorem abox_length {x r : AV} {H H' : AHeap} (h : abox x H = some (r, H')) : H.length ≤ H'.length := by
  unfold abox at h
  split at h
  · injection h with h; injection h with h1 h2; subst h2; simp
  · cases h
theorem astore_length {t : TypeId} {p x : AV} {H H' : AHeap} (h : astore E t p x H = some H') : H'.length = H.length := by
  unfold astore at h
  repeat' split at h
  all_goals first | (cases h; done) | (injection h with h; subst h; simp)

theorem aclear_length {t : TypeId} {x : AV} {H H' : AHeap} (h : aclear E t x H = some H') : H'.length = H.length := by
  unfold aclear at h
  repeat' split at h
  all_goals first | (cases h; done) | (injection h with h; subst h; simp)
theorem acopy_length {t : TypeId} {x y r : AV} {H H' : AHeap} (h : acopy E t x y H = some (r, H')) : H'.length = H.length := by
  unfold acopy at h
  simp only at h
  repeat' split at h
  all_goals first | (cases h; done) | (injection h with h; injection h with h1 h2; subst h2; simp)

theorem alocal_call (hE : EnvOK P E) {dst : Option Tmp} {ty : TypeId} {pos : String} {after : Array Edge} {guard : Option (Nat × Bool)} {c : Call} {fr : AFr} {H H' : AHeap} {r : AV} (h : alocal E fr H (.call c) = some (r, H')) :
    OpSound P ⟨dst, .call c, ty, pos, after, guard⟩ fr H r H' := by
  obtain ⟨callee, ⟨args⟩, ⟨argTypes⟩⟩ := c
  cases callee with
  | value f => cases h
  | invoke f m => cases h
  | builtin b =>
    simp only [alocal] at h
    split at h
    · rename_i p q t t' x y
      split at h
      · rename_i htt
        subst htt
        refine .of_value (aappend_length h) fun B0 W0 g S w a hA hI hF hfr => ⟨_, ?_, aappend_ok hE (ty := ty) h (hF.eval x) (hF.eval y) hA hI hfr⟩
        have e1 : (⟨[x, y]⟩ : Array Operand).map a.eval = #[a.eval x, a.eval y] := by apply Array.toList_inj.1; simp
        simp only [execOp, resolve, invoke, builtin, Sem.run_bind, Sem.run_pure, Result.andThen_ok, e1]
      · cases h
    · cases h
    · rename_i p q t ts x
      obtain ⟨H2, hh, he⟩ := map_some h
      injection he with h1 h2; subst h1; subst h2
      obtain ⟨hl, _⟩ : H2.length = H.length ∧ True := ⟨aclear_length hh, trivial⟩
      refine .of_value (by rw [hl]; exact Nat.le_refl _) fun B0 W0 g S w a hA hI hF hfr => ⟨(Builtin.clear_ ⟨t :: ts⟩ ty #[a.eval x]), ?_, ?_⟩
      · have e1 : (⟨[x]⟩ : Array Operand).map a.eval = #[a.eval x] := by apply Array.toList_inj.1; simp
        simp only [execOp, resolve, invoke, builtin, Sem.run_bind, Sem.run_pure, Result.andThen_ok, e1]
      · obtain ⟨_, w', hr, hI'⟩ := aclear_ok hE (ty := ty) (ts := ts) hh (hF.eval x) hA hI
        exact ⟨_, w', g, hr, .tuple .nil, by rw [hl]; exact .refl _ _ _, hI'⟩
    · rename_i p q t ts x y
      have hl := acopy_length h
      refine .of_value (by rw [hl]; exact Nat.le_refl _) fun B0 W0 g S w a hA hI hF hfr => ⟨(Builtin.copy_ ⟨t :: ts⟩ ty #[a.eval x, a.eval y]), ?_, ?_⟩
      · have e1 : (⟨[x, y]⟩ : Array Operand).map a.eval = #[a.eval x, a.eval y] := by apply Array.toList_inj.1; simp
        simp only [execOp, resolve, invoke, builtin, Sem.run_bind, Sem.run_pure, Result.andThen_ok, e1]
      · obtain ⟨_, n, w', rfl, hr, hI'⟩ := acopy_ok hE (ty := ty) (ts := ts) h (hF.eval x) (hF.eval y) hA hI
        exact ⟨_, w', g, hr, .int _ _, by rw [hl]; exact .refl _ _ _, hI'⟩
    · obtain ⟨r', hh, he⟩ := map_some h
      clear h
      injection he with h1 h2; subst h1; subst h2
      have h := hh
      clear hh
      refine .of_pure fun B0 W0 g S w a hA hI hF => ?_
      obtain ⟨u, hu, hr⟩ := abuiltin_ok hE (ty := ty) (ts := ⟨argTypes⟩) (cs := (⟨args⟩ : Array Operand).map fun | .const _ => true | _ => false) (hF.evals args) h w
      refine ⟨u, ?_, hr⟩
      have e1 : (⟨args⟩ : Array Operand).map a.eval = ⟨args.map a.eval⟩ := by apply Array.toList_inj.1; simp
      simp only [execOp, resolve, invoke, Sem.run_bind, Sem.run_pure, Result.andThen_ok, e1]
      exact hu

set_option maxHeartbeats 2000000 in
theorem alocal_sound (hE : EnvOK P E) {o : Oper} {fr : AFr} {H H' : AHeap} {r : AV} (h : alocal E fr H o.op = some (r, H')) : OpSound P o fr H r H' := by
  obtain ⟨dst, op, ty, pos, after, guard⟩ := o
  simp only at h
  cases op with
  | move x =>
    simp only [alocal, Option.some.injEq, Prod.mk.injEq] at h
    obtain ⟨rfl, rfl⟩ := h
    exact .of_pure fun B0 W0 g S w a hA hI hF => ⟨_, rfl, hF.eval x⟩
  | assign x =>
    simp only [alocal, Option.some.injEq, Prod.mk.injEq] at h
    obtain ⟨rfl, rfl⟩ := h
    exact .of_pure fun B0 W0 g S w a hA hI hF => ⟨_, rfl, hF.eval x⟩
  | pick c x y =>
    simp only [alocal] at h
    split at h
    · rename_i t ht
      simp only [Option.some.injEq, Prod.mk.injEq] at h
      obtain ⟨rfl, rfl⟩ := h
      refine .of_pure fun B0 W0 g S w a hA hI hF => ⟨if t then a.eval x else a.eval y, ?_, ?_⟩
      · have := hF.eval c
        rw [ht] at this
        cases hc : a.eval c with
        | bool b => rw [hc] at this; cases this; simp [execOp, hc, asBool]
        | _ => rw [hc] at this; cases this
      · cases t
        · exact hF.eval y
        · exact hF.eval x
    · cases h
  | alloc t =>
    simp only [alocal] at h
    exact .of_value (aalloc_length h) fun B0 W0 g S w a hA hI hF hfr => ⟨_, rfl, aalloc_ok hE h hA hI hfr⟩
  | box t x =>
    simp only [alocal] at h
    exact .of_value (abox_length h) fun B0 W0 g S w a hA hI hF hfr => ⟨_, rfl, abox_ok h (hF.eval x) hA hI hfr⟩
  | build t ps =>
    simp only [alocal] at h
    obtain ⟨r', hh, he⟩ := map_some h
    clear h
    injection he with h1 h2; subst h1; subst h2
    have h := hh
    clear hh
    refine .of_pure fun B0 W0 g S w a hA hI hF => ?_
    obtain ⟨u, hu, hr⟩ := abuild_ok hE (qs := ps.map fun p => (p.1, a.eval p.2)) (by simpa using hF.parts ps.toList) h w
    exact ⟨u, by simp only [execOp, Sem.run_bind]; rw [hu]; rfl, hr⟩
  | buildSlice t n ps =>
    simp only [alocal] at h
    have hs := abuildSlice_same h
    refine .of_value (by rw [hs]; exact Nat.le_refl _) fun B0 W0 g S w a hA hI hF hfr => ?_
    have hp : PartsR g (ps.toList.map fun p => (p.1, aev fr p.2)) (ps.map fun p => (p.1, a.eval p.2)).toList := by
      rw [Array.toList_map]
      exact hF.parts ps.toList
    have hr := abuildSlice_ok (w := w) hE h hp hA hI
    exact ⟨Instr.buildSlice t n (ps.map fun p => (p.1, a.eval p.2)), rfl, hr⟩
  | load t p =>
    simp only [alocal] at h
    obtain ⟨r', hh, he⟩ := map_some h
    clear h
    injection he with h1 h2; subst h1; subst h2
    have h := hh
    clear hh
    refine .of_pure fun B0 W0 g S w a hA hI hF => ?_
    obtain ⟨u, hu, hr⟩ := aload_ok hE h (hF.eval p) hA hI
    exact ⟨u, by simp only [execOp, Sem.run_bind, hu]; rfl, hr⟩
  | store t p x =>
    simp only [alocal] at h
    obtain ⟨H2, hh, he⟩ := map_some h
    clear h
    injection he with h1 h2; subst h1; subst h2
    have h := hh
    clear hh
    have hl := astore_length h
    refine ⟨by rw [hl]; exact Nat.le_refl _, fun B0 W0 g S w a next Q hA hI hF hfr k => ?_⟩
    obtain ⟨_, w', hw, hI'⟩ := astore_ok hE h (hF.eval p) (hF.eval x) hA hI
    unfold Oper.wp
    simp only [execOp, Sem.run_bind, hw, Result.andThen_ok, Sem.run_pure]
    exact k undef w' g (.tuple .nil) (.refl _ _ _) hI'
  | nilCheck x =>
    simp only [alocal] at h
    split at h
    · rename_i i off hx
      simp only [Option.some.injEq, Prod.mk.injEq] at h
      obtain ⟨rfl, rfl⟩ := h
      refine .of_pure fun B0 W0 g S w a hA hI hF => ⟨a.eval x, ?_, by rw [← hx]; exact hF.eval x⟩
      have := hF.eval x
      rw [hx] at this
      generalize hv : a.eval x = v at this
      cases this
      simp [execOp, hv]
    · rename_i cs hx
      simp only [Option.some.injEq, Prod.mk.injEq] at h
      obtain ⟨rfl, rfl⟩ := h
      refine .of_pure fun B0 W0 g S w a hA hI hF => ⟨a.eval x, ?_, by rw [← hx]; exact hF.eval x⟩
      have := hF.eval x
      rw [hx] at this
      generalize hv : a.eval x = v at this
      cases this
      simp [execOp, hv]
    · rename_i i v0 off hx
      simp only [Option.some.injEq, Prod.mk.injEq] at h
      obtain ⟨rfl, rfl⟩ := h
      refine .of_pure fun B0 W0 g S w a hA hI hF => ⟨a.eval x, ?_, by rw [← hx]; exact hF.eval x⟩
      have := hF.eval x
      rw [hx] at this
      generalize hv : a.eval x = v at this
      cases this
      simp [execOp, hv]
    · rename_i f p q hx
      simp only [Option.some.injEq, Prod.mk.injEq] at h
      obtain ⟨rfl, rfl⟩ := h
      refine .of_pure fun B0 W0 g S w a hA hI hF => ⟨a.eval x, ?_, by rw [← hx]; exact hF.eval x⟩
      have := hF.eval x
      rw [hx] at this
      generalize hv : a.eval x = v at this
      cases this
      simp [execOp, hv]
    · cases h
  | binOp op t x y yt =>
    simp only [alocal] at h
    split at h
    · rename_i r' hb
      injection h with h
      injection h with h1 h2
      subst h1; subst h2
      refine .of_pure fun B0 W0 g S w a hA hI hF => ?_
      obtain ⟨u, hu, hr⟩ := aifc_ok hE (x := x) (y := y) (hF.eval x) (hF.eval y) hb w
      exact ⟨u, by simp only [execOp]; rw [Sem.run_bind, hu]; rfl, hr⟩
    obtain ⟨r', hh, he⟩ := map_some h
    clear h
    injection he with h1 h2; subst h1; subst h2
    have h := hh
    clear hh
    refine .of_pure fun B0 W0 g S w a hA hI hF => ?_
    obtain ⟨u, hu, hr⟩ := abin_ok hE (x := x) (y := y) (hF.eval x) (hF.eval y) h w
    exact ⟨u, by simp only [execOp]; rw [Sem.run_bind, hu]; rfl, hr⟩
  | unOp op t x =>
    simp only [alocal] at h
    obtain ⟨r', hh, he⟩ := map_some h
    clear h
    injection he with h1 h2; subst h1; subst h2
    have h := hh
    clear hh
    refine .of_pure fun B0 W0 g S w a hA hI hF => ?_
    obtain ⟨u, hu, hr⟩ := aun_ok (P := P) (hF.eval x) h w
    exact ⟨u, by simp only [execOp, Sem.run_bind, hu]; rfl, hr⟩
  | convert s d x =>
    simp only [alocal] at h
    split at h
    · rename_i r' hb
      injection h with h
      injection h with h1 h2
      subst h1; subst h2
      exact .of_value (Nat.le_refl _) fun B0 W0 g S w a hA hI hF hfr => ⟨_, rfl, aconvB_ok hE hb (hF.eval x) hA hI⟩
    · obtain ⟨r', hh, he⟩ := map_some h
      clear h
      injection he with h1 h2; subst h1; subst h2
      have h := hh
      clear hh
      refine .of_pure fun B0 W0 g S w a hA hI hF => ?_
      obtain ⟨u, hu, hr⟩ := aconv_ok hE (hF.eval x) h (w := w) hI.im
      exact ⟨u, by simp only [execOp, Sem.run_bind, hu]; rfl, hr⟩
  | makeInterface t x =>
    simp only [alocal] at h
    split at h
    · rename_i i hi
      split at h
      · cases h
      · rename_i hk
        simp only [Option.some.injEq, Prod.mk.injEq] at h
        obtain ⟨rfl, rfl⟩ := h
        refine .of_pure fun B0 W0 g S w a hA hI hF => ⟨.iface t (a.eval x), ?_, .iface (hF.eval x)⟩
        obtain ⟨_, _, _, _, hks, _⟩ := hE _ _ hi
        have key : ∀ d, P.underlying t = some d → (match d with | .interface _ => false | _ => true) = true → (Instr.makeInterface t (a.eval x)).run P w = .ok (.iface t (a.eval x)) w := by
          intro d hd hn
          cases d <;> simp_all [Instr.makeInterface, run_underlying hd]
        have : (Instr.makeInterface t (a.eval x)).run P w = .ok (.iface t (a.eval x)) w := by
          cases hkk : i.k with
          | iface => exact absurd hkk hk
          | struct fs => rw [hkk] at hks; obtain ⟨f, hks, _⟩ := hks; exact key _ hks rfl
          | func => rw [hkk] at hks; obtain ⟨p, q, s, hks⟩ := hks; exact key _ hks rfl
          | other =>
            rw [hkk] at hks
            obtain ⟨d, hks, hd⟩ := hks
            refine key _ hks ?_
            cases d <;> simp_all
          | _ => rw [hkk] at hks; exact key _ hks rfl
        simp only [execOp, Sem.run_bind, this]; rfl
    · cases h
  | makeFunc fn first cap =>
    simp only [alocal, Option.some.injEq, Prod.mk.injEq] at h
    obtain ⟨rfl, rfl⟩ := h
    refine .of_pure fun B0 W0 g S w a hA hI hF => ⟨.func fn (first.map a.eval) (cap.map a.eval), rfl, ?_⟩
    have e1 : first.map a.eval = ⟨first.toList.map a.eval⟩ := by apply Array.toList_inj.1; simp
    have e2 : cap.map a.eval = ⟨cap.toList.map a.eval⟩ := by apply Array.toList_inj.1; simp
    rw [e1, e2]
    exact .func (hF.evals _) (hF.evals _)
  | slice t x lo hi mx =>
    simp only [alocal] at h
    obtain ⟨r', hh, he⟩ := map_some h
    clear h
    injection he with h1 h2; subst h1; subst h2
    have h := hh
    clear hh
    refine .of_pure fun B0 W0 g S w a hA hI hF => ?_
    obtain ⟨u, hu, hr⟩ := aslice_ok hE (hF.eval x) (hF.opt lo) (hF.opt hi) (hF.opt mx) h w
    exact ⟨u, by simp only [execOp, Sem.run_bind, hu]; rfl, hr⟩
  | fieldAddr t x f =>
    simp only [alocal] at h
    obtain ⟨r', hh, he⟩ := map_some h
    clear h
    injection he with h1 h2; subst h1; subst h2
    have h := hh
    clear hh
    refine .of_pure fun B0 W0 g S w a hA hI hF => ?_
    obtain ⟨u, hu, hr⟩ := afieldAddr_ok hE (hF.eval x) h w
    exact ⟨u, by simp only [execOp, Sem.run_bind, hu]; rfl, hr⟩
  | field t x f =>
    simp only [alocal] at h
    obtain ⟨r', hh, he⟩ := map_some h
    clear h
    injection he with h1 h2; subst h1; subst h2
    have h := hh
    clear hh
    refine .of_pure fun B0 W0 g S w a hA hI hF => ?_
    obtain ⟨u, hu, hr⟩ := afield_ok hE (hF.eval x) h w
    exact ⟨u, by simp only [execOp, Sem.run_bind, hu]; rfl, hr⟩
  | indexAddr t x i =>
    simp only [alocal] at h
    obtain ⟨r', hh, he⟩ := map_some h
    clear h
    injection he with h1 h2; subst h1; subst h2
    have h := hh
    clear hh
    refine .of_pure fun B0 W0 g S w a hA hI hF => ?_
    obtain ⟨u, hu, hr⟩ := aindexAddr_ok hE (hF.eval x) (hF.eval i) h w
    exact ⟨u, by simp only [execOp, Sem.run_bind, hu]; rfl, hr⟩
  | index t x i =>
    simp only [alocal] at h
    obtain ⟨r', hh, he⟩ := map_some h
    clear h
    injection he with h1 h2; subst h1; subst h2
    have h := hh
    clear hh
    refine .of_pure fun B0 W0 g S w a hA hI hF => ?_
    obtain ⟨u, hu, hr⟩ := aindex_ok hE (hF.eval x) (hF.eval i) h w
    exact ⟨u, by simp only [execOp, Sem.run_bind, hu]; rfl, hr⟩
  | extract x i =>
    simp only [alocal] at h
    obtain ⟨r', hh, he⟩ := map_some h
    clear h
    injection he with h1 h2; subst h1; subst h2
    have h := hh
    clear hh
    refine .of_pure fun B0 W0 g S w a hA hI hF => ?_
    obtain ⟨u, hu, hr⟩ := aextract_ok (hF.eval x) h w (P := P)
    exact ⟨u, by simp only [execOp, Sem.run_bind, hu]; rfl, hr⟩
  | call c => exact alocal_call hE h
  | _ => cases h
end
end Go.Av
set_option linter.unusedVariables false
set_option linter.unusedSectionVars false
set_option linter.unusedSimpArgs false
namespace Go.Av
open Go.RowKit
variable [Ground]

/-- The slots that a call begins with. -/
def aargs (k : Nat) : List AV → List (Nat × AV)
  | [] => []
  | x :: xs => (k, x) :: aargs (k + 1) xs

/-- A frame's slots, the heap, and which objects have been written. -/
structure St where
  fr : AFr
  H : AHeap
  wr : List Nat

inductive AExit where
  | normal
  | exit (id : Nat)
  | goto (l : Nat)
  | ret
  deriving DecidableEq

abbrev CallF := FuncId → List AV → AHeap → Option (AV × AHeap × List Nat)

/-- Is an operation wanted? none: it is not known. -/
def awanted (ops : List Oper) (fr : AFr) (o : Oper) : Option Bool :=
  match o.guard with
  | none => some true
  | some (j, want) => match ops[j]? with
    | some oj => match oj.dst with
      | some d => match alook d fr.l with
        | some (.bool b) => some (b == want)
        | some (.tuple _) => some false
        | some .top => none
        | some _ => some false
        | none => none
      | none => some false
    | none => some false

/-- What an operation writes of what was there. -/
def awrites (fr : AFr) (op : Op) : List Nat :=
  match op with
  | .store _ p _ => match aev fr p with | .vptr id _ => [id] | .eptr id _ _ => [id] | _ => []
  | .call c => match c.callee, c.args.toList with
    | .builtin .append, [x, _] => match aev fr x with | .slice _ (.tip t _) => [t] | .sref t _ _ _ => [t] | _ => []
    | .builtin .clear, [x] => match aev fr x with | .sref t _ _ _ => [t] | _ => []
    | .builtin .copy, [x, _] => match aev fr x with | .sref t _ _ _ => [t] | _ => []
    | _, _ => []
  | _ => []

/-- An operation. -/
def aop (E : Env) (C : CallF) (fr : AFr) (H : AHeap) (op : Op) : Option (AV × AHeap × List Nat) :=
  match op with
  | .call c => match c.callee with
    | .value f => match aev fr f with
      | .func (.func k) first cap => C k (first ++ (c.args.toList.map (aev fr)) ++ cap) H
      | _ => none
    | _ => (alocal E fr H op).map fun p => (p.1, p.2, awrites fr op)
  | _ => (alocal E fr H op).map fun p => (p.1, p.2, awrites fr op)

def aops (E : Env) (C : CallF) (all : List Oper) : List Oper → St → Option St
  | [], s => some s
  | o :: rest, s => match awanted all s.fr o with
    | some true => match aop E C s.fr s.H o.op with
      | some (r, H', w) => aops E C all rest ⟨aput s.fr o.dst r, H', w ++ s.wr⟩
      | none => none
    | some false => aops E C all rest ⟨aput s.fr o.dst aundef, s.H, s.wr⟩
    | none => none

inductive Task where
  | code (c : Code)
  | scope (whole cur : Code)

structure AFn where
  body : Code
  ntmps : Nat
  results : List ResultVar

abbrev FTab := FuncId → Option AFn

def aresult (E : Env) (fr : AFr) (H : AHeap) : ResultVar → Option AV
  | .tmp t => alook t fr.l
  | .cell a t => (alook a fr.l).bind fun p => aload E t p H
def aresults (E : Env) (fr : AFr) (H : AHeap) (rs : List ResultVar) : Option AV :=
  match rs with
  | [r] => aresult E fr H r
  | rs => (rs.mapM (aresult E fr H)).map .tuple

mutual
/-- Does a value speak of objects below n alone? -/
def AV.low (n : Nat) : AV → Bool
  | .vptr id _ => id < n
  | .map id => id < n
  | .cptr cs => AV.lows n cs
  | .slice xs tok => (match tok with | .tip t _ => t < n | _ => true) && AV.lows n xs
  | .sref t _ _ _ => t < n
  | .eptr t _ _ => t < n
  | .func _ a b => AV.lows n a && AV.lows n b
  | .iface _ v => AV.low n v
  | .agg cs => AV.lows n cs
  | .tuple cs => AV.lows n cs
  | _ => true
def AV.lows (n : Nat) : List AV → Bool
  | [] => true
  | x :: xs => AV.low n x && AV.lows n xs
end
def AObj.low (n : Nat) : AObj → Bool
  | .var cs => AV.lows n cs
  | .lin _ _ => true
  | .row _ _ cs => AV.lows n cs
  | .dead _ => true
  | .map es => es.all fun p => p.1.low n && p.2.low n

/-- What is new and of no use is left behind. -/
def atrim (n : Nat) (r : AV) (H : AHeap) : AHeap :=
  if H.length = n then H else if r.low n && (H.take n).all (AObj.low n) then H.take n else H

/-- The interpreter: n bounds the depth. -/
def aexec (E : Env) (F : FTab) (hook : CallF) (isHook : FuncId → Bool) : Nat → Task → St → Option (AExit × St)
  | 0, _, _ => none
  | n + 1, .scope whole cur, s =>
    match aexec E F hook isHook n (.code cur) s with
    | some (.goto l, s') => match findLabel whole l with
      | some rest => aexec E F hook isHook n (.scope whole rest) s'
      | none => some (.goto l, s')
    | r => r
  | n + 1, .code c, s =>
    match c with
    | .skip => some (.normal, s)
    | .label _ => some (.normal, s)
    | .region _ ops _ =>
      (aops E (fun f args H => if isHook f then hook f args H else
        match F f with
        | some fn => match aexec E F hook isHook n (.code fn.body) ⟨⟨fn.ntmps, aargs 0 args⟩, H, []⟩ with
          | some (.normal, s') | some (.ret, s') => (aresults E s'.fr s'.H fn.results).map fun r => (r, atrim H.length r s'.H, s'.wr.filter (· < H.length))
          | _ => none
        | none => none) ops.toList ops.toList s).map (AExit.normal, ·)
    | .seq a b => match aexec E F hook isHook n (.code a) s with
      | some (.normal, s') => aexec E F hook isHook n (.code b) s'
      | r => r
    | .cond c x y => match aev s.fr c with
      | .bool true => aexec E F hook isHook n (.code x) s
      | .bool false => aexec E F hook isHook n (.code y) s
      | _ => none
    | .block id b => match aexec E F hook isHook n (.code b) s with
      | some (.exit id', s') => if id' = id then some (.normal, s') else some (.exit id', s')
      | r => r
    | .loop b => match aexec E F hook isHook n (.code b) s with
      | some (.normal, s') => aexec E F hook isHook n (.code (.loop b)) s'
      | r => r
    | .exit id => some (.exit id, s)
    | .ret => some (.ret, s)
    | .goto l => some (.goto l, s)
    | .scope b => aexec E F hook isHook n (.scope b b) s
    | _ => none
end Go.Av
