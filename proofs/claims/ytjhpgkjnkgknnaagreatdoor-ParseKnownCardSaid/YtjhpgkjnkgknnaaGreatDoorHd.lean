/-
  Regions whose order is drawn: whatever order is drawn, they come to what the order of the text comes to.
-/
import Derived.Test.YtjhpgkjnkgknnaaGreatDoorHc
import Derived.Orders
set_option linter.unusedVariables false
set_option linter.unusedSectionVars false
set_option linter.unusedSimpArgs false
namespace Go.Av
open Go.RowKit
variable [Ground]

/-- The slots that an operation looks at. -/
def alooks (all : List Oper) (o : Oper) : List Nat :=
  (o.op.operands.toList.filterMap fun | .tmp t => some t | _ => none) ++
  (match o.guard with
   | some (j, _) => (match all[j]? with | some oj => oj.dst.toList | none => [])
   | none => [])
/-- A frame, but only the slots of a list. -/
def akeep (ts : List Nat) (fr : AFr) : AFr := ⟨fr.n, ts.filterMap fun t => (alook t fr.l).map (t, ·)⟩
theorem alook_keep {t : Nat} {x : AV} {fr : AFr} : ∀ {ts : List Nat}, alook t (akeep ts fr).l = some x → t ∈ ts ∧ alook t fr.l = some x
  | [], h => by simp [akeep, alook] at h
  | u :: ts, h => by
    have ih := @alook_keep t x fr ts
    simp only [akeep, List.filterMap_cons] at h ih
    cases hu : alook u fr.l with
    | none =>
      rw [hu] at h
      simp only [Option.map_none] at h
      exact ⟨List.mem_cons_of_mem _ (ih h).1, (ih h).2⟩
    | some y =>
      rw [hu] at h
      simp only [Option.map_some, alook] at h
      split at h
      · rename_i e
        subst e
        injection h with h
        subst h
        exact ⟨by simp, hu⟩
      · exact ⟨List.mem_cons_of_mem _ (ih h).1, (ih h).2⟩

/-- Operations that do not look at the heap. -/
def ains : Op → Bool
  | .move _ | .assign _ | .pick .. | .build .. | .nilCheck _ | .binOp .. | .unOp .. | .convert .. | .makeInterface .. | .makeFunc .. | .slice .. | .fieldAddr .. | .field .. | .indexAddr .. | .index .. | .extract .. | .buildSlice .. => true
  | .call { callee := .builtin b, .. } => (match b with | .append | .clear | .copy => false | _ => true)
  | _ => false
theorem ains_ok {E : Env} {fr : AFr} {H H' : AHeap} {op : Op} {r : AV} (hi : ains op = true) (h : alocal E fr H op = some (r, H')) : H' = H ∧ ∀ H2, alocal E fr H2 op = some (r, H2) := by
  have key : ∀ o : Option AV, o.map (·, H) = some (r, H') → H' = H ∧ ∀ H2 : AHeap, o.map (·, H2) = some (r, H2) := by
    intro o h
    obtain ⟨a, h1, h2⟩ := map_some h
    injection h2 with h2 h3
    subst h2
    exact ⟨h3.symm, fun H2 => by rw [h1]; rfl⟩
  have key2 : ∀ x : AV, some (x, H) = some (r, H') → H' = H ∧ ∀ H2 : AHeap, some (x, H2) = some (r, H2) := by
    intro x h
    injection h with h
    injection h with h1 h2
    subst h1
    exact ⟨h2.symm, fun _ => rfl⟩
  cases op <;> simp only [ains] at hi <;> try (cases hi; done)
  case move x => simp only [alocal] at h ⊢; exact key2 _ h
  case assign x => simp only [alocal] at h ⊢; exact key2 _ h
  case pick c a b =>
    simp only [alocal] at h ⊢
    split at h
    · exact key2 _ h
    · cases h
  case build t ps => simp only [alocal] at h ⊢; exact key _ h
  case buildSlice t n ps =>
    simp only [alocal] at h ⊢
    have e := abuildSlice_same h
    refine ⟨e, fun H2 => ?_⟩
    subst e
    unfold abuildSlice at h ⊢
    split at h
    · split at h
      · split at h
        · split at h
          · rename_i hc
            obtain ⟨xs, h1, h2⟩ := map_some h
            injection h2 with h2 _
            rw [if_pos hc]
            simp only [h1, Option.map_some, ← h2]
          · cases h
        · cases h
      · cases h
    · cases h
  case nilCheck x =>
    simp only [alocal] at h ⊢
    split at h
    · exact key2 _ h
    · exact key2 _ h
    · exact key2 _ h
    · exact key2 _ h
    · cases h
  case binOp o t x y yt =>
    simp only [alocal] at h ⊢
    cases hb : aifc E o t (aev fr x) (aev fr y) with
    | some r' => rw [hb] at h; simp only at h ⊢; exact key2 _ h
    | none => rw [hb] at h; simp only at h ⊢; exact key _ h
  case unOp o t x => simp only [alocal] at h ⊢; exact key _ h
  case convert s d x =>
    simp only [alocal] at h ⊢
    cases hb : aconvB E s d (aev fr x) with
    | some r' => rw [hb] at h; simp only at h ⊢; exact key2 _ h
    | none => rw [hb] at h; simp only at h ⊢; exact key _ h
  case makeInterface t x =>
    simp only [alocal] at h ⊢
    split at h
    · split at h
      · cases h
      · exact key2 _ h
    · cases h
  case makeFunc fn a b => simp only [alocal] at h ⊢; exact key2 _ h
  case slice t x lo hi' mx => simp only [alocal] at h ⊢; exact key _ h
  case fieldAddr t x f => simp only [alocal] at h ⊢; exact key _ h
  case field t x f => simp only [alocal] at h ⊢; exact key _ h
  case indexAddr t x i => simp only [alocal] at h ⊢; exact key _ h
  case index t x i => simp only [alocal] at h ⊢; exact key _ h
  case extract x i => simp only [alocal] at h ⊢; exact key _ h
  case call c =>
    obtain ⟨callee, args, ats⟩ := c
    cases callee with
    | value f => cases hi
    | invoke f m => cases hi
    | builtin b =>
      cases b <;> simp only at hi <;> try (cases hi; done)
      all_goals
        simp only [alocal] at h ⊢
        exact key _ h

/-- One operation of the text's order. -/
structure Step where
  o : Oper
  want : Bool
  nz : Bool
  fr : AFr
  H : AHeap
  r : AV
  H' : AHeap

structure StepOK (P : Program) (all : List Oper) (s : Step) : Prop where
  want : awanted all (akeep (alooks all s.o) s.fr) s.o = some s.want
  quiet : s.nz = false → s.H' = s.H
  run : s.want = true → OpSound P s.o (akeep (alooks all s.o) s.fr) s.H s.r s.H'
  ins : s.want = true → s.nz = false → ains s.o.op = true → ∀ H, OpSound P s.o (akeep (alooks all s.o) s.fr) H s.r H
  skip : s.want = false → s.r = aundef ∧ s.H' = s.H

inductive Trace (P : Program) (all : List Oper) : List Oper → AFr → AHeap → List Step → AFr → AHeap → Prop
  | nil {fr : AFr} {H : AHeap} : Trace P all [] fr H [] fr H
  | cons {o : Oper} {rest : List Oper} {s : Step} {ss : List Step} {fr2 : AFr} {H2 : AHeap} (h : StepOK P all s) (ho : s.o = o) (t : Trace P all rest (aput s.fr o.dst s.r) s.H' ss fr2 H2) : Trace P all (o :: rest) s.fr s.H (s :: ss) fr2 H2

/-- As the walk, each operation told whether it turns the heap. -/
def wdraw (P : Program) (E : Env) (all : List Oper) : List (Oper × Bool) → AFr → AHeap → (AFr → AHeap → Prop) → Prop
  | [], fr, H, Q => Q fr H
  | (o, nz) :: rest, fr, H, Q =>
    match awanted all (akeep (alooks all o) fr) o with
    | some true => match acallee (akeep (alooks all o) fr) o.op with
      | some none => match alocal E (akeep (alooks all o) fr) H o.op with
        | some (r, H') => (nz = false → H' = H) ∧ wdraw P E all rest (aput fr o.dst r) H' Q
        | none => False
      | some (some (k, args)) => ∃ r H' W, Con P k args H r H' W ∧ (nz = false → H' = H) ∧ wdraw P E all rest (aput fr o.dst r) H' Q
      | none => False
    | some false => wdraw P E all rest (aput fr o.dst aundef) H Q
    | none => False

theorem wdraw_trace {P : Program} {E : Env} (hE : EnvOK P E) {all : List Oper} : ∀ {l : List (Oper × Bool)} {fr : AFr} {H : AHeap} {Q : AFr → AHeap → Prop}, wdraw P E all l fr H Q →
    ∃ ss fr2 H2, Trace P all (l.map (·.1)) fr H ss fr2 H2 ∧ ss.map (·.nz) = l.map (·.2) ∧ Q fr2 H2
  | [], fr, H, Q, h => ⟨[], fr, H, .nil, rfl, h⟩
  | (o, nz) :: rest, fr, H, Q, h => by
    simp only [wdraw] at h
    split at h
    · rename_i hw
      split at h
      · split at h
        · rename_i r H' ha
          obtain ⟨hq, h⟩ := h
          obtain ⟨ss, fr2, H2, h1, h2, h3⟩ := wdraw_trace hE h
          refine ⟨⟨o, true, nz, fr, H, r, H'⟩ :: ss, fr2, H2, .cons (s := ⟨o, true, nz, fr, H, r, H'⟩) ⟨hw, hq, fun _ => alocal_sound hE ha, fun _ _ hi H3 => alocal_sound hE ((ains_ok hi ha).2 H3), fun h => by cases h⟩ rfl h1, by simp [h2], h3⟩
        · exact h.elim
      · rename_i k args hc
        obtain ⟨r, H', W, hcon, hq, h⟩ := h
        obtain ⟨ss, fr2, H2, h1, h2, h3⟩ := wdraw_trace hE h
        obtain ⟨⟨c, n, rs, hfn⟩, hac⟩ := hcon
        have hop : OpSound P o (akeep (alooks all o) fr) H r H' ∧ ains o.op = false := by
          unfold acallee at hc
          split at hc
          · rename_i cl hop
            split at hc
            · rename_i f hcal
              split at hc
              · rename_i k' first cap hf
                simp only [Option.some.injEq, Prod.mk.injEq] at hc
                obtain ⟨rfl, rfl⟩ := hc
                refine ⟨OpSound.call (args := cl.args) (ats := cl.argTypes) (by rw [hop]; cases cl; simp_all) hf hfn hac, ?_⟩
                rw [hop]
                obtain ⟨callee, args, ats⟩ := cl
                simp only at hcal
                subst hcal
                rfl
              · cases hc
            · simp at hc
          · simp at hc
        refine ⟨⟨o, true, nz, fr, H, r, H'⟩ :: ss, fr2, H2, .cons (s := ⟨o, true, nz, fr, H, r, H'⟩) ⟨hw, hq, fun _ => hop.1, fun _ _ hi _ => (by rw [hop.2] at hi; cases hi), fun h => by cases h⟩ rfl h1, by simp [h2], h3⟩
      · exact h.elim
    · rename_i hw
      obtain ⟨ss, fr2, H2, h1, h2, h3⟩ := wdraw_trace hE h
      exact ⟨⟨o, false, nz, fr, H, aundef, H⟩ :: ss, fr2, H2, .cons (s := ⟨o, false, nz, fr, H, aundef, H⟩) ⟨hw, fun _ => rfl, (fun h => by cases h), (fun h => by cases h), fun _ => ⟨rfl, rfl⟩⟩ rfl h1, by simp [h2], h3⟩
    · exact h.elim
end Go.Av
set_option linter.unusedVariables false
set_option linter.unusedSectionVars false
set_option linter.unusedSimpArgs false
namespace Go.Av
open Go.RowKit
variable [Ground]

/-- What the steps of a set come to, the last of them having the last word. -/
def pick {σ β : Type} (f : σ → Option β) (D : Nat → Bool) : Nat → List σ → β → β
  | _, [], b => b
  | k, s :: ss, b => pick f D (k + 1) ss (if D k then (f s).getD b else b)

theorem pick_congr {σ β : Type} {f : σ → Option β} {D D' : Nat → Bool} : ∀ {ss : List σ} {k : Nat} {b : β}, (∀ (j : Nat) (s : σ), ss[j]? = some s → (f s).isSome = true → D (k + j) = D' (k + j)) → pick f D k ss b = pick f D' k ss b
  | [], _, _, _ => rfl
  | s :: ss, k, b, h => by
    simp only [pick]
    have h0 := h 0 s rfl
    have e : (if D k then (f s).getD b else b) = (if D' k then (f s).getD b else b) := by
      cases hf : f s with
      | none => simp
      | some x =>
        have := h0 (by rw [hf]; rfl)
        simp only [Nat.add_zero] at this
        rw [this]
    rw [e]
    refine pick_congr fun j s' hj hs' => ?_
    have := h (j + 1) s' (by simpa using hj) hs'
    rw [show k + 1 + j = k + (j + 1) by omega]
    exact this
theorem pick_none {σ β : Type} {f : σ → Option β} {D : Nat → Bool} : ∀ {ss : List σ} {k : Nat} {b : β}, (∀ (j : Nat) (s : σ), ss[j]? = some s → (f s).isSome = true → D (k + j) = false) → pick f D k ss b = b
  | [], _, _, _ => rfl
  | s :: ss, k, b, h => by
    simp only [pick]
    have e : (if D k then (f s).getD b else b) = b := by
      cases hf : f s with
      | none => simp
      | some x =>
        have := h 0 s rfl (by rw [hf]; rfl)
        simp only [Nat.add_zero] at this
        rw [this]
        rfl
    rw [e]
    refine pick_none fun j s' hj hs' => ?_
    have := h (j + 1) s' (by simpa using hj) hs'
    rw [show k + 1 + j = k + (j + 1) by omega]
    exact this
/-- One step more, none of those behind it being there. -/
theorem pick_add {σ β : Type} {f : σ → Option β} {D D' : Nat → Bool} : ∀ {ss : List σ} {k i : Nat} {b : β} {s : σ}, ss[i]? = some s → D' (k + i) = true → D (k + i) = false → (∀ j, j ≠ k + i → D' j = D j) →
    (∀ (j : Nat) (s' : σ), i < j → ss[j]? = some s' → (f s').isSome = true → D (k + j) = false) → pick f D' k ss b = (f s).getD (pick f D k ss b)
  | [], _, i, _, _, h, _, _, _, _ => by simp at h
  | s0 :: ss, k, 0, b, s, h, h1, h2, h3, h4 => by
    simp only [List.getElem?_cons_zero, Option.some.injEq] at h
    subst h
    simp only [Nat.add_zero] at h1 h2 h3
    simp only [pick, h1, h2, if_true, Bool.false_eq_true, if_false]
    have e1 : ∀ b' : β, pick f D' (k + 1) ss b' = b' := fun b' => pick_none fun j s' hj hs' => by
      rw [h3 _ (by omega)]
      have := h4 (j + 1) s' (by omega) (by simpa using hj) hs'
      rw [show k + 1 + j = k + (j + 1) by omega]
      exact this
    have e2 : ∀ b' : β, pick f D (k + 1) ss b' = b' := fun b' => pick_none fun j s' hj hs' => by
      have := h4 (j + 1) s' (by omega) (by simpa using hj) hs'
      rw [show k + 1 + j = k + (j + 1) by omega]
      exact this
    rw [e1, e2]
  | s0 :: ss, k, i + 1, b, s, h, h1, h2, h3, h4 => by
    simp only [List.getElem?_cons_succ] at h
    simp only [pick]
    rw [h3 k (by omega)]
    exact pick_add (k := k + 1) (i := i) h (by rw [show k + 1 + i = k + (i + 1) by omega]; exact h1) (by rw [show k + 1 + i = k + (i + 1) by omega]; exact h2) (fun j hj => h3 j (by omega))
      (fun j s' hj hs hf => by rw [show k + 1 + j = k + (j + 1) by omega]; exact h4 (j + 1) s' (by omega) (by simpa using hs) hf)

/-- The slots by a set of steps; the heap. -/
def fslot (t : Nat) (s : Step) : Option (Option AV) := if s.o.dst = some t then some (some s.r) else none
def fheap (s : Step) : Option AHeap := if s.nz then some s.H' else none

theorem Trace.length {P : Program} {all l : List Oper} {fr fr2 : AFr} {H H2 : AHeap} {ss : List Step} (h : Trace P all l fr H ss fr2 H2) : ss.length = l.length := by
  induction h with
  | nil => rfl
  | cons _ _ _ ih => simp [ih]
theorem Trace.op {P : Program} {all l : List Oper} {fr fr2 : AFr} {H H2 : AHeap} {ss : List Step} (h : Trace P all l fr H ss fr2 H2) : ∀ (i : Nat) (s : Step), ss[i]? = some s → l[i]? = some s.o ∧ StepOK P all s := by
  induction h with
  | nil => intro i s hs; simp at hs
  | cons h ho t ih =>
    intro i s hs
    cases i with
    | zero => simp at hs; subst hs; exact ⟨by simp [ho], h⟩
    | succ i => simpa using ih i s (by simpa using hs)
theorem Trace.size {P : Program} {all l : List Oper} {fr fr2 : AFr} {H H2 : AHeap} {ss : List Step} (h : Trace P all l fr H ss fr2 H2) (hd : ∀ o ∈ l, ∀ d, o.dst = some d → d < fr.n) : fr2.n = fr.n ∧ ∀ s ∈ ss, s.fr.n = fr.n := by
  induction h with
  | nil => exact ⟨rfl, fun s hs => by cases hs⟩
  | @cons o rest s ss fr2 H2 h ho t ih =>
    have e : (aput s.fr o.dst s.r).n = s.fr.n := by
      unfold aput
      cases hdd : o.dst with
      | none => rfl
      | some d => simp only [if_pos (hd o (by simp) d hdd)]
    rw [e] at ih
    obtain ⟨h1, h2⟩ := ih fun o' ho' d hd' => hd o' (by simp [ho']) d hd'
    refine ⟨h1, fun s' hs' => ?_⟩
    rcases List.mem_cons.1 hs' with rfl | hs'
    · rfl
    · exact h2 s' hs'
theorem alook_aput {fr : AFr} {dst : Option Nat} {r : AV} {t : Nat} (hd : ∀ d, dst = some d → d < fr.n) : alook t (aput fr dst r).l = if dst = some t then some r else alook t fr.l := by
  unfold aput
  cases dst with
  | none => simp
  | some d =>
    simp only [if_pos (hd d rfl)]
    simp only [alook]
    by_cases e : d = t
    · subst e; simp
    · rw [if_neg e, if_neg (fun h => e (by injection h))]
theorem Trace.slots {P : Program} {all l : List Oper} {fr fr2 : AFr} {H H2 : AHeap} {ss : List Step} (h : Trace P all l fr H ss fr2 H2) (hd : ∀ o ∈ l, ∀ d, o.dst = some d → d < fr.n) (t : Nat) :
    (∀ k, pick (fslot t) (fun _ => true) k ss (alook t fr.l) = alook t fr2.l) ∧ ∀ (i : Nat) (s : Step) (k : Nat), ss[i]? = some s → pick (fslot t) (fun j => decide (j < k + i)) k ss (alook t fr.l) = alook t s.fr.l := by
  induction h with
  | nil => exact ⟨fun _ => rfl, fun i s k hs => by simp at hs⟩
  | @cons o rest s ss fr2 H2 h ho t' ih =>
    have hn : (aput s.fr o.dst s.r).n = s.fr.n := by
      unfold aput
      cases hdd : o.dst with
      | none => rfl
      | some d => simp only [if_pos (hd o (by simp) d hdd)]
    rw [hn] at ih
    obtain ⟨h1, h2⟩ := ih fun o' ho' d hd' => hd o' (by simp [ho']) d hd'
    have e := alook_aput (fr := s.fr) (dst := o.dst) (r := s.r) (t := t) (hd o (by simp))
    have e2 : (fslot t s).getD (alook t s.fr.l) = alook t (aput s.fr o.dst s.r).l := by
      rw [e]
      unfold fslot
      rw [ho]
      split <;> rfl
    refine ⟨fun k => by simp only [pick, if_true, e2]; exact h1 (k + 1), fun i s' k hs => ?_⟩
    cases i with
    | zero =>
      simp at hs
      subst hs
      exact pick_none fun j s' _ _ => by simp
    | succ i =>
      simp only [pick]
      rw [if_pos (by simp), e2]
      have := h2 i s' (k + 1) (by simpa using hs)
      rw [show k + 1 + i = k + (i + 1) by omega] at this
      exact this
theorem Trace.heap {P : Program} {all l : List Oper} {fr fr2 : AFr} {H H2 : AHeap} {ss : List Step} (h : Trace P all l fr H ss fr2 H2) :
    (∀ k, pick fheap (fun _ => true) k ss H = H2) ∧ ∀ (i : Nat) (s : Step) (k : Nat), ss[i]? = some s → pick fheap (fun j => decide (j < k + i)) k ss H = s.H := by
  induction h with
  | nil => exact ⟨fun _ => rfl, fun i s k hs => by simp at hs⟩
  | @cons o rest s ss fr2 H2 h ho t' ih =>
    obtain ⟨h1, h2⟩ := ih
    have e2 : (fheap s).getD s.H = s.H' := by
      unfold fheap
      cases hz : s.nz with
      | true => rfl
      | false => simp [h.quiet hz]
    refine ⟨fun k => by simp only [pick, if_true, e2]; exact h1 (k + 1), fun i s' k hs => ?_⟩
    cases i with
    | zero =>
      simp at hs
      subst hs
      exact pick_none fun j s' _ _ => by simp
    | succ i =>
      simp only [pick]
      rw [if_pos (by simp), e2]
      have := h2 i s' (k + 1) (by simpa using hs)
      rw [show k + 1 + i = k + (i + 1) by omega] at this
      exact this

/-- Does one operation stand ahead of another one in every order? -/
def befB (ops : List Oper) : Nat → Nat → Nat → Bool
  | 0, _, _ => false
  | n + 1, i, j => match ops[i]? with
    | some o => o.after.any fun e => Region.binds .any e && (e.on == j || befB ops n e.on j)
    | none => false
/-- A set in which with each operation those stand that stand ahead of it. -/
def Shut (ops : List Oper) (D : Nat → Bool) : Prop := ∀ i o, D i = true → ops[i]? = some o → ∀ e ∈ o.after, Region.binds .any e = true → D e.on = true
theorem befB_ok {ops : List Oper} {D : Nat → Bool} (hD : Shut ops D) : ∀ {n i j : Nat}, befB ops n i j = true → (∀ o, ops[i]? = some o → ∀ e ∈ o.after, Region.binds .any e = true → D e.on = true) → D j = true
  | 0, _, _, h, _ => by cases h
  | n + 1, i, j, h, hi => by
    simp only [befB] at h
    split at h
    · rename_i o ho
      rw [Array.any_eq_true'] at h
      obtain ⟨e, he, hc⟩ := h
      simp only [Bool.and_eq_true, Bool.or_eq_true, beq_iff_eq] at hc
      have hon := hi o ho e he hc.1
      rcases hc.2 with h1 | h1
      · rw [← h1]; exact hon
      · exact befB_ok hD h1 (fun o' ho' e' he' hb' => hD e.on o' hon ho' e' he' hb')
    · cases h
def cmpB (ops : List Oper) (i j : Nat) : Bool := if i < j then befB ops 8 j i else befB ops 8 i j

def drawOK (ops : List Oper) (nzs : List Bool) (n : Nat) : Bool :=
  let N := ops.length
  decide (nzs.length = N) &&
  (List.range N).all fun i => match ops[i]? with
    | some o =>
      (o.after.all fun e => !Region.binds .any e || decide (e.on < i)) &&
      (match o.dst with | some d => decide (d < n) | none => true) &&
      (List.range N).all fun j => i == j || (match ops[j]? with
        | some p =>
          (match p.dst with | some d => !((alooks ops o).contains d || o.dst == some d) || cmpB ops i j | none => true) &&
          (!(nzs.getD j false && (nzs.getD i false || !ains o.op)) || cmpB ops i j)
        | none => true)
    | none => true
end Go.Av
set_option linter.unusedVariables false
set_option linter.unusedSectionVars false
set_option linter.unusedSimpArgs false
namespace Go.Av
open Go.RowKit
variable [Ground]

structure DrawFit (ops : List Oper) (nzs : List Bool) (n : Nat) : Prop where
  len : nzs.length = ops.length
  back : ∀ (i : Nat) (o : Oper), ops[i]? = some o → ∀ e ∈ o.after, Region.binds .any e = true → e.on < i
  dst : ∀ (i : Nat) (o : Oper), ops[i]? = some o → ∀ d, o.dst = some d → d < n
  slot : ∀ (i j : Nat) (o p : Oper), i ≠ j → ops[i]? = some o → ops[j]? = some p → ∀ d, p.dst = some d → (d ∈ alooks ops o ∨ o.dst = some d) → cmpB ops i j = true
  heap : ∀ (i j : Nat) (o p : Oper), i ≠ j → ops[i]? = some o → ops[j]? = some p → nzs.getD j false = true → (nzs.getD i false = true ∨ ains o.op = false) → cmpB ops i j = true
theorem DrawFit.of {ops : List Oper} {nzs : List Bool} {n : Nat} (h : drawOK ops nzs n = true) : DrawFit ops nzs n := by
  unfold drawOK at h
  simp only [Bool.and_eq_true, decide_eq_true_eq] at h
  obtain ⟨h1, h2⟩ := h
  have lt : ∀ {i : Nat} {o : Oper}, ops[i]? = some o → i < ops.length := fun h => (List.getElem?_eq_some_iff.1 h).1
  have key : ∀ (i : Nat) (o : Oper), ops[i]? = some o → _ := fun i o ho => by
    have := List.all_eq_true.1 h2 i (List.mem_range.2 (lt ho))
    rw [ho] at this
    simp only [Bool.and_eq_true] at this
    exact this
  refine ⟨h1, fun i o ho e he hb => ?_, fun i o ho d hd => ?_, fun i j o p hij ho hp d hd hx => ?_, fun i j o p hij ho hp hj hi => ?_⟩
  · have := Array.all_eq_true_iff_forall_mem.1 (key i o ho).1.1 e he
    simp only [hb, Bool.not_true, Bool.false_or, decide_eq_true_eq] at this
    exact this
  · have := (key i o ho).1.2
    rw [hd] at this
    simpa using this
  · have := List.all_eq_true.1 (key i o ho).2 j (List.mem_range.2 (lt hp))
    rw [hp] at this
    simp only [hd] at this
    simp only [Bool.or_eq_true (i == j), Bool.and_eq_true, beq_iff_eq] at this
    rcases this with h | h
    · exact absurd h hij
    · rcases Bool.or_eq_true _ _ |>.mp h.1 with h | h
      · rw [Bool.not_eq_true', Bool.or_eq_false_iff] at h
        rcases hx with hx | hx
        · have : (alooks ops o).contains d = true := by simpa using hx
          rw [h.1] at this; cases this
        · have : (o.dst == some d) = true := by rw [hx]; simp
          rw [h.2] at this; cases this
      · exact h
  · have := List.all_eq_true.1 (key i o ho).2 j (List.mem_range.2 (lt hp))
    rw [hp] at this
    rcases (Bool.or_eq_true _ _).mp this with h | h
    · exact absurd (by simpa using h) hij
    · rcases (Bool.or_eq_true _ _).mp ((Bool.and_eq_true _ _).mp h).2 with h | h
      · rw [Bool.not_eq_true', Bool.and_eq_false_iff] at h
        rcases h with h | h
        · rw [hj] at h; cases h
        · rw [Bool.or_eq_false_iff] at h
          rcases hi with hi | hi
          · rw [h.1] at hi; cases hi
          · rw [hi] at h; cases h.2
      · exact h

theorem cmpB_ok {ops : List Oper} {D : Nat → Bool} {i j : Nat} {o : Oper} (hD : Shut ops D) (ho : ops[i]? = some o) (hr : ∀ e ∈ o.after, Region.binds .any e = true → D e.on = true) (hi : D i = false) (hij : i ≠ j) (h : cmpB ops i j = true) : D j = decide (j < i) := by
  unfold cmpB at h
  split at h
  · rename_i hlt
    have : ¬ j < i := by omega
    simp only [this, decide_false]
    cases hj : D j with
    | false => rfl
    | true =>
      have := befB_ok hD h (fun o' ho' e he hb => hD j o' hj ho' e he hb)
      rw [hi] at this
      cases this
  · rename_i hlt
    have : j < i := by omega
    simp only [this, decide_true]
    exact befB_ok hD h (fun o' ho' e he hb => by rw [ho] at ho'; injection ho' with ho'; subst ho'; exact hr e he hb)

/-- How the world stands when a set of steps is done. -/
structure Drawn (P : Program) (B0 : Nat) (W0 : World) (g0 : G) (S : Ghost) (H : AHeap) (fr : AFr) (ss : List Step) (D : Nat → Bool) (g : G) (a : Act) (w : World) : Prop where
  ext : Ext g0 g H.length (pick fheap D 0 ss H).length
  inv : Inv P B0 W0 g (S.over (pick fheap D 0 ss H)) w
  len : H.length ≤ (pick fheap D 0 ss H).length
  size : fr.n ≤ a.tmps.size
  slot : ∀ t x, pick (fslot t) D 0 ss (alook t fr.l) = some x → VR g x (a.tmps.getD t undef)
  defers : a.defers = []

theorem getD_put {a : Act} {dst : Option Nat} {v : Value} {t : Nat} (hd : ∀ d, dst = some d → d < a.tmps.size) : (a.put dst v).tmps.getD t undef = if dst = some t then v else a.tmps.getD t undef := by
  cases dst with
  | none => simp [Act.put]
  | some d =>
    have hd' := hd d rfl
    simp only [Act.put, Array.getD_eq_getD_getElem?]
    by_cases e : d = t
    · subst e; simp [hd']
    · rw [if_neg (fun h => e (by injection h)), Array.getElem?_setIfInBounds_ne (fun x => e x)]

section
variable {P : Program} {B0 : Nat} {W0 : World} {g0 : G} {S : Ghost} {H H2 : AHeap} {fr fr2 : AFr} {ss : List Step} {ops : Array Oper} {nzs : List Bool}

theorem Drawn.step {D D' : Nat → Bool} {g : G} {a : Act} {w : World} {i : Nat} {Q : Exit → Act → World → Prop} {K : Act → World → Prop} (tr : Trace P ops.toList ops.toList fr H ss fr2 H2) (hz : ss.map (·.nz) = nzs) (fit : DrawFit ops.toList nzs fr.n) (hfr0 : Free g0 H.length)
    (hi : i < ops.size) (hD : Shut ops.toList D) (hDi : D i = false) (hr : ∀ o, ops.toList[i]? = some o → ∀ e ∈ o.after, Region.binds .any e = true → D e.on = true) (hDi' : D' i = true) (hDo : ∀ j, j ≠ i → D' j = D j)
    (h : Drawn P B0 W0 g0 S H fr ss D g a w) (k : ∀ g' a' w', Drawn P B0 W0 g0 S H fr ss D' g' a' w' → K a' w') : wpOp P ops Q i K a w := by
  have hil : i < ss.length := by rw [tr.length]; simpa using hi
  obtain ⟨s, hs⟩ : ∃ s, ss[i]? = some s := ⟨ss[i], by simp [hil]⟩
  obtain ⟨ho, ok⟩ := tr.op i s hs
  have hnz : ∀ {j : Nat} {s' : Step}, ss[j]? = some s' → nzs.getD j false = s'.nz := fun {j s'} hj => by
    rw [← hz]; simp [hj]
  have hdst : ∀ o ∈ ops.toList, ∀ d, o.dst = some d → d < fr.n := fun o hm d hd => by
    obtain ⟨j, hj⟩ := List.getElem?_of_mem hm
    exact fit.dst j o hj d hd
  have hdi : ∀ d, s.o.dst = some d → d < a.tmps.size := fun d hd => Nat.lt_of_lt_of_le (fit.dst i s.o ho d hd) h.size
  have cmp : ∀ {j : Nat}, i ≠ j → cmpB ops.toList i j = true → D j = decide (j < i) := fun hij hc => cmpB_ok hD ho (hr _ ho) hDi hij hc
  -- slots looked at
  have slots : ∀ t, t ∈ alooks ops.toList s.o → pick (fslot t) D 0 ss (alook t fr.l) = alook t s.fr.l := fun t ht => by
    rw [← (tr.slots hdst t).2 i s 0 hs]
    refine pick_congr fun j s' hj hs' => ?_
    simp only [Nat.zero_add]
    by_cases e : i = j
    · subst e; simp [hDi]
    · obtain ⟨hp, _⟩ := tr.op j s' hj
      have hd' : s'.o.dst = some t := by
        unfold fslot at hs'
        split at hs'
        · assumption
        · cases hs'
      exact cmp e (fit.slot i j s.o s'.o e ho hp t hd' (.inl ht))
  have frk : FR g (akeep (alooks ops.toList s.o) s.fr) a := by
    refine ⟨?_, fun t x hx => ?_, h.defers, h.inv.glob⟩
    · show s.fr.n ≤ _
      rw [(tr.size hdst).2 s (List.mem_of_getElem? hs)]
      exact h.size
    · obtain ⟨h1, h2⟩ := alook_keep hx
      exact h.slot t x (by rw [slots t h1]; exact h2)
  -- the heap
  have heapq : (s.nz = true ∨ ains s.o.op = false) → pick fheap D 0 ss H = s.H := fun hc => by
    rw [← tr.heap.2 i s 0 hs]
    refine pick_congr fun j s' hj hs' => ?_
    simp only [Nat.zero_add]
    by_cases e : i = j
    · subst e; simp [hDi]
    · obtain ⟨hp, _⟩ := tr.op j s' hj
      have hn' : s'.nz = true := by
        unfold fheap at hs'
        split at hs'
        · assumption
        · cases hs'
      exact cmp e (fit.heap i j s.o s'.o e ho hp (by rw [hnz hj]; exact hn') (by rw [hnz hs]; exact hc))
  have heapn : pick fheap D' 0 ss H = if s.nz then s.H' else pick fheap D 0 ss H := by
    cases hn : s.nz with
    | true =>
      have := pick_add (f := fheap) (D := D) (D' := D') (k := 0) (b := H) hs (by simpa using hDi') (by simpa using hDi) (by simpa using hDo) (fun j s' hij hj hs' => by
        simp only [Nat.zero_add]
        obtain ⟨hp, _⟩ := tr.op j s' hj
        have hn' : s'.nz = true := by
          unfold fheap at hs'
          split at hs'
          · assumption
          · cases hs'
        rw [cmp (by omega) (fit.heap i j s.o s'.o (by omega) ho hp (by rw [hnz hj]; exact hn') (.inl (by rw [hnz hs]; exact hn)))]
        simp; omega)
      rw [this]
      simp [fheap, hn]
    | false =>
      simp only [Bool.false_eq_true, if_false]
      refine pick_congr fun j s' hj hs' => ?_
      simp only [Nat.zero_add]
      refine hDo j fun e => ?_
      subst e
      rw [hs] at hj
      injection hj with hj
      subst hj
      simp [fheap, hn] at hs'
  have slotn : ∀ t, pick (fslot t) D' 0 ss (alook t fr.l) = if s.o.dst = some t then some s.r else pick (fslot t) D 0 ss (alook t fr.l) := fun t => by
    by_cases hd : s.o.dst = some t
    · have := pick_add (f := fslot t) (D := D) (D' := D') (k := 0) (b := alook t fr.l) hs (by simpa using hDi') (by simpa using hDi) (by simpa using hDo) (fun j s' hij hj hs' => by
        simp only [Nat.zero_add]
        obtain ⟨hp, _⟩ := tr.op j s' hj
        have hd' : s'.o.dst = some t := by
          unfold fslot at hs'
          split at hs'
          · assumption
          · cases hs'
        rw [cmp (by omega) (fit.slot i j s.o s'.o (by omega) ho hp t hd' (.inr hd))]
        simp; omega)
      rw [this]
      simp [fslot, hd]
    · rw [if_neg hd]
      refine pick_congr fun j s' hj hs' => ?_
      simp only [Nat.zero_add]
      refine hDo j fun e => ?_
      subst e
      rw [hs] at hj
      injection hj with hj
      subst hj
      simp [fslot, hd] at hs'
  have hgo : ops[i]? = some s.o := by simpa using ho
  have hwant := awanted_ok frk ok.want
  unfold wpOp
  rw [hgo]
  simp only [hwant]
  cases hw : s.want with
  | false =>
    simp only [Bool.false_eq_true, if_false]
    obtain ⟨e1, e2⟩ := ok.skip hw
    have eH : pick fheap D' 0 ss H = pick fheap D 0 ss H := by
      rw [heapn]
      cases hn : s.nz with
      | true => simp only [if_true]; rw [e2, heapq (.inl hn)]
      | false => rfl
    refine k g _ w ⟨by rw [eH]; exact h.ext, by rw [eH]; exact h.inv, by rw [eH]; exact h.len, ?_, fun t x hx => ?_, ?_⟩
    · cases hd : s.o.dst <;> simp only [Act.put] <;> simpa using h.size
    · rw [getD_put hdi]
      rw [slotn] at hx
      split at hx
      · rename_i hd
        rw [if_pos hd]
        injection hx with hx
        subst hx
        rw [e1]
        exact .tuple .nil
      · rename_i hd
        rw [if_neg hd]
        exact h.slot t x hx
    · cases hd : s.o.dst <;> exact h.defers
  | true =>
    simp only [if_true]
    have hop : OpSound P s.o (akeep (alooks ops.toList s.o) s.fr) (pick fheap D 0 ss H) s.r (pick fheap D' 0 ss H) := by
      rw [heapn]
      cases hn : s.nz with
      | true =>
        simp only [if_true]
        rw [heapq (.inl hn)]
        exact ok.run hw
      | false =>
        simp only [Bool.false_eq_true, if_false]
        cases ha : ains s.o.op with
        | true => exact ok.ins hw hn ha _
        | false =>
          rw [heapq (.inr ha)]
          have := ok.run hw
          rw [ok.quiet hn] at this
          exact this
    obtain ⟨hl, hop⟩ := hop
    refine .inl (hop B0 W0 g (S.over (pick fheap D 0 ss H)) w a _ Q (Agree.over _ _) h.inv frk (h.ext.free hfr0 h.len) fun v w' g' hv hx hI' => ?_)
    rw [Ghost.over_over hl] at hI'
    refine k g' _ w' ⟨h.ext.trans hx h.len hl, hI', Nat.le_trans h.len hl, ?_, fun t x hx' => ?_, ?_⟩
    · cases hd : s.o.dst <;> simp only [Act.put] <;> simpa using h.size
    · rw [getD_put hdi]
      rw [slotn] at hx'
      split at hx'
      · rename_i hd
        rw [if_pos hd]
        injection hx' with hx'
        subst hx'
        exact hv
      · rename_i hd
        rw [if_neg hd]
        exact (h.slot t x hx').le hx.1
    · cases hd : s.o.dst <;> exact h.defers

/-- How many are left. -/
def left (D : Nat → Bool) : Nat → Nat
  | 0 => 0
  | n + 1 => left D n + if D n then 0 else 1
theorem left_zero {D : Nat → Bool} : ∀ {n : Nat}, left D n = 0 → ∀ i, i < n → D i = true
  | 0, _, i, h => by omega
  | n + 1, h, i, hi => by
    simp only [left] at h
    by_cases e : i = n
    · subst e
      cases hd : D i with
      | true => rfl
      | false => simp [hd] at h
    · exact left_zero (n := n) (by omega) i (by omega)
theorem left_same {D D' : Nat → Bool} : ∀ {n : Nat}, (∀ j, j < n → D' j = D j) → left D' n = left D n
  | 0, _ => rfl
  | n + 1, h => by simp only [left]; rw [left_same (n := n) fun j hj => h j (by omega), h n (by omega)]
theorem left_less {D D' : Nat → Bool} {i : Nat} (hi : D i = false) (hi' : D' i = true) (h : ∀ j, j ≠ i → D' j = D j) : ∀ {n : Nat}, i < n → left D' n + 1 = left D n
  | 0, hn => by omega
  | n + 1, hn => by
    simp only [left]
    by_cases e : i = n
    · subst e
      rw [left_same (n := i) fun j hj => h j (by omega), hi, hi']
      simp
    · have := left_less hi hi' h (n := n) (by omega)
      rw [h n (by omega)]
      omega
theorem left_all (n : Nat) : left (fun _ => false) n = n := by
  induction n with
  | zero => rfl
  | succ n ih => simp [left, ih]

theorem Drawn.all {Q : Exit → Act → World → Prop} (tr : Trace P ops.toList ops.toList fr H ss fr2 H2) (hz : ss.map (·.nz) = nzs) (fit : DrawFit ops.toList nzs fr.n) (hfr0 : Free g0 H.length)
    (k : ∀ g' a' w', Drawn P B0 W0 g0 S H fr ss (fun _ => true) g' a' w' → Q .normal a' w') : ∀ (fuel : Nat) (listed : Array Bool) (g : G) (a : Act) (w : World), listed.size = ops.size → Shut ops.toList (fun i => listed.getD i false) →
      left (fun i => listed.getD i false) ops.size ≤ fuel → Drawn P B0 W0 g0 S H fr ss (fun i => listed.getD i false) g a w → wpAny P .any ops Q fuel listed a w := by
  have fin : ∀ (listed : Array Bool) (g : G) (a : Act) (w : World), (∀ i, i < ops.size → listed.getD i false = true) → Drawn P B0 W0 g0 S H fr ss (fun i => listed.getD i false) g a w → Q .normal a w := fun listed g a w hall h => by
    have hlt : ∀ {j : Nat} {s : Step}, ss[j]? = some s → j < ops.size := fun hj => by
      have := (List.getElem?_eq_some_iff.1 hj).1
      rw [tr.length] at this
      simpa using this
    have e1 : ∀ {β : Type} (f : Step → Option β) (b : β), pick f (fun i => listed.getD i false) 0 ss b = pick f (fun _ => true) 0 ss b := fun f b => pick_congr fun j s hj _ => by
      simp only [Nat.zero_add]
      exact hall j (hlt hj)
    exact k g a w ⟨by rw [← e1]; exact h.ext, by rw [← e1]; exact h.inv, by rw [← e1]; exact h.len, h.size, fun t x hx => h.slot t x (by rw [e1]; exact hx), h.defers⟩
  have rdy : ∀ (listed : Array Bool), listed.size = ops.size → Region.ready .any ops listed = [] → ∀ i, i < ops.size → listed.getD i false = true := fun listed hsz hnil i => by
    induction i using Nat.strongRecOn with
    | _ i ih =>
      intro hi
      cases hd : listed.getD i false with
      | true => rfl
      | false =>
        exfalso
        have hmem : i ∈ Region.ready .any ops listed := by
          unfold Region.ready
          refine List.mem_filter.2 ⟨List.mem_range.2 hi, ?_⟩
          have h1 : listed.getD i true = false := by
            have hi' : i < listed.size := by omega
            simp only [Array.getD_eq_getD_getElem?, Array.getElem?_eq_getElem hi', Option.getD_some] at hd ⊢
            exact hd
          have h2 : ops[i]? = some ops[i] := by simp [hi]
          rw [h1, h2]
          simp only [Bool.not_false, Bool.true_and, Option.map_some, Option.getD_some]
          refine Array.all_eq_true_iff_forall_mem.2 fun e he => ?_
          cases hb : Region.binds .any e with
          | false => rfl
          | true =>
            have := fit.back i ops[i] (by simp [hi]) e he hb
            simp only [Bool.not_true, Bool.false_or]
            exact ih e.on this (by omega)
        rw [hnil] at hmem
        cases hmem
  intro fuel
  induction fuel with
  | zero =>
    intro listed g a w hsz hsh hlf h
    have hall := left_zero (D := fun i => listed.getD i false) (n := ops.size) (by omega)
    refine ⟨?_, fin listed g a w hall h⟩
    unfold Region.ready
    refine List.filter_eq_nil_iff.2 fun i hi => ?_
    have hi' : i < listed.size := by rw [hsz]; exact List.mem_range.1 hi
    have := hall i (by omega)
    simp only [Array.getD_eq_getD_getElem?, Array.getElem?_eq_getElem hi', Option.getD_some] at this ⊢
    simp [this]
  | succ fuel ih =>
    intro listed g a w hsz hsh hlf h
    refine ⟨fun hnil => fin listed g a w (rdy listed hsz hnil) h, fun i hi => ?_⟩
    unfold Region.ready at hi
    obtain ⟨hi1, hi2⟩ := List.mem_filter.1 hi
    have hi1 := List.mem_range.1 hi1
    have hil : i < listed.size := by omega
    have h2 : ops[i]? = some ops[i] := by simp [hi1]
    rw [h2] at hi2
    simp only [Bool.and_eq_true, Option.map_some, Option.getD_some] at hi2
    have hDi : listed.getD i false = false := by
      have := hi2.1
      simp only [Array.getD_eq_getD_getElem?, Array.getElem?_eq_getElem hil, Option.getD_some] at this ⊢
      simpa using this
    have hr : ∀ o, ops.toList[i]? = some o → ∀ e ∈ o.after, Region.binds .any e = true → listed.getD e.on false = true := fun o ho e he hb => by
      have ho' : ops[i] = o := by
        have : ops[i]? = some o := by simpa using ho
        rw [h2] at this
        injection this
      subst ho'
      have := Array.all_eq_true_iff_forall_mem.1 hi2.2 e he
      simpa [hb] using this
    have hDi' : (listed.setIfInBounds i true).getD i false = true := by simp [Array.getD_eq_getD_getElem?, hil]
    have hDo : ∀ j, j ≠ i → (listed.setIfInBounds i true).getD j false = listed.getD j false := fun j hj => by
      simp only [Array.getD_eq_getD_getElem?]
      rw [Array.getElem?_setIfInBounds_ne (fun x => hj x.symm)]
    refine Drawn.step (D := fun i => listed.getD i false) (D' := fun j => (listed.setIfInBounds i true).getD j false) tr hz fit hfr0 hi1 hsh hDi hr hDi' hDo h fun g' a' w' h' => ih _ g' a' w' (by simpa using hsz) ?_ ?_ h'
    · intro j o hj ho e he hb
      by_cases e1 : j = i
      · subst e1
        have := hr o ho e he hb
        by_cases e2 : e.on = j
        · show (listed.setIfInBounds j true).getD e.on false = true
          rw [e2]; exact hDi'
        · show (listed.setIfInBounds j true).getD e.on false = true
          rw [hDo _ e2]; exact this
      · have hj' : listed.getD j false = true := by rw [← hDo j e1]; exact hj
        have := hsh j o hj' ho e he hb
        by_cases e2 : e.on = i
        · show (listed.setIfInBounds i true).getD e.on false = true
          rw [e2]; exact hDi'
        · show (listed.setIfInBounds i true).getD e.on false = true
          rw [hDo _ e2]; exact this
    · have := left_less (D := fun j => listed.getD j false) (D' := fun j => (listed.setIfInBounds i true).getD j false) hDi hDi' hDo (n := ops.size) hi1
      omega
end

section
variable {P : Program} {E : Env} {fr : AFr} {H : AHeap} {Q : AExit → AFr → AHeap → Prop}
theorem SItems.draw (hE : EnvOK P E) (hm : P.follows .mixedOrders = true) {id : Nat} {ops : Array Oper} (nzs : List Bool) (hok : drawOK ops.toList nzs fr.n = true)
    (h : wdraw P E ops.toList (ops.toList.zip nzs) fr H fun fr' H' => Q .normal fr' H') : SCode P (.region id ops true) fr H Q := by
  have fit := DrawFit.of hok
  obtain ⟨ss, fr2, H2, tr, hz, hq⟩ := wdraw_trace hE h
  have e1 : (ops.toList.zip nzs).map (·.1) = ops.toList := List.map_fst_zip (by rw [fit.len]; exact Nat.le_refl _)
  have e2 : (ops.toList.zip nzs).map (·.2) = nzs := List.map_snd_zip (by rw [fit.len]; exact Nat.le_refl _)
  rw [e1] at tr
  rw [e2] at hz
  have hdst : ∀ o ∈ ops.toList, ∀ d, o.dst = some d → d < fr.n := fun o hm d hd => by
    obtain ⟨j, hj⟩ := List.getElem?_of_mem hm
    exact fit.dst j o hj d hd
  have hlen : H.length ≤ H2.length := by
    have : ∀ {l : List Oper} {fr fr2 : AFr} {H H2 : AHeap} {ss : List Step}, Trace P ops.toList l fr H ss fr2 H2 → H.length ≤ H2.length := by
      intro l fr fr2 H H2 ss t
      induction t with
      | nil => exact Nat.le_refl _
      | @cons o rest s ss fr2 H2 h ho t ih =>
        refine Nat.le_trans ?_ ih
        cases hw : s.want with
        | true => exact (h.run hw).1
        | false => rw [(h.skip hw).2]; exact Nat.le_refl _
    exact this tr
  refine ⟨.normal, fr2, H2, hq, hlen, fun B0 W0 g S w a hA hI hF hfr => ?_⟩
  refine wp_region_any hm ?_
  have zero : ∀ {β : Type} (f : Step → Option β) (b : β), pick f (fun i => (Array.replicate ops.size false).getD i false) 0 ss b = b := fun f b => pick_none fun j s _ _ => by
    simp only [Array.getD_eq_getD_getElem?, Array.getElem?_replicate]
    split <;> rfl
  have hz0 : ∀ i, (Array.replicate ops.size false).getD i false = false := fun i => by
    simp only [Array.getD_eq_getD_getElem?, Array.getElem?_replicate]
    split <;> rfl
  refine Drawn.all (B0 := B0) (W0 := W0) (g0 := g) (S := S) (H := H) (fr := fr) tr hz fit hfr (fun g' a' w' h' => ?_) ops.size _ g a { w with drawn := w.drawn + 1 } (by simp) ?_ ?_ ?_
  · have eh : pick fheap (fun _ => true) 0 ss H = H2 := tr.heap.1 0
    obtain ⟨h1, h2, h3, h4, h5, h6⟩ := h'
    rw [eh] at h1 h2 h3
    refine ⟨rfl, g', h1, h2, by rw [(tr.size hdst).1]; exact h4, fun t x hx => h5 t x ?_, h6, h2.glob⟩
    rw [(tr.slots hdst t).1 0]
    exact hx
  · intro i o hi
    have hi : (Array.replicate ops.size false).getD i false = true := hi
    rw [hz0] at hi
    cases hi
  · have : left (fun i => (Array.replicate ops.size false).getD i false) ops.size = ops.size := by
      rw [left_same (D := fun _ => false) fun j _ => hz0 j, left_all]
    omega
  · refine ⟨by rw [zero]; exact .refl _ _ _, ?_, by rw [zero]; exact Nat.le_refl _, hF.1, fun t x hx => hF.2.1 t x (by rw [zero] at hx; exact hx), hF.2.2.1⟩
    rw [zero, hA.over_self]
    exact ⟨hI.below.drew, hI.base, hI.im, hI.phi, hI.lin, hI.row, hI.lb, hI.inj, hI.glob⟩
end
end Go.Av
set_option linter.unusedVariables false
set_option linter.unusedSectionVars false
set_option linter.unusedSimpArgs false
namespace Go.Av
open Go.RowKit
variable [Ground]

/-! A frame cut to some slots answers of these as the whole one. -/
theorem alook_akeep {t : Nat} {fr : AFr} : ∀ {ts : List Nat}, t ∈ ts → alook t (akeep ts fr).l = alook t fr.l
  | [], h => by cases h
  | u :: ts, h => by
    have ih := @alook_akeep t fr ts
    simp only [akeep, List.filterMap_cons] at ih ⊢
    by_cases e : u = t
    · subst e
      cases hu : alook u fr.l with
      | none =>
        simp only [Option.map_none]
        cases hk : alook u (ts.filterMap fun t => (alook t fr.l).map (t, ·)) with
        | none => rfl
        | some x =>
          have := alook_keep (ts := ts) (fr := fr) (t := u) (x := x) hk
          rw [hu] at this
          cases this.2
      | some x => simp only [Option.map_some, alook, if_true]
    · have hm : t ∈ ts := by
        rcases List.mem_cons.1 h with h | h
        · exact absurd h.symm e
        · exact h
      cases hu : alook u fr.l with
      | none => simp only [Option.map_none]; exact ih hm
      | some x => simp only [Option.map_some, alook, if_neg e]; exact ih hm

/-- Operands that a frame cut to some slots still knows. -/
def Knows (ts : List Nat) (xs : List Operand) : Prop := ∀ t, Operand.tmp t ∈ xs → t ∈ ts
theorem aev_akeep {ts : List Nat} {fr : AFr} {xs : List Operand} (h : Knows ts xs) {x : Operand} (hx : x ∈ xs) : aev (akeep ts fr) x = aev fr x := by
  cases x with
  | tmp t => simp only [aev]; rw [alook_akeep (h t hx)]
  | _ => rfl
theorem aevs_akeep {ts : List Nat} {fr : AFr} {xs : List Operand} (h : Knows ts xs) : ∀ {ys : List Operand}, (∀ y ∈ ys, y ∈ xs) → ys.map (aev (akeep ts fr)) = ys.map (aev fr)
  | [], _ => rfl
  | y :: ys, hy => by
    simp only [List.map_cons]
    rw [aev_akeep h (hy y (by simp)), aevs_akeep h fun z hz => hy z (by simp [hz])]
theorem aparts_akeep {ts : List Nat} {fr : AFr} {xs : List Operand} (h : Knows ts xs) : ∀ {ps : List (Nat × Operand)}, (∀ p ∈ ps, p.2 ∈ xs) → (ps.map fun p => (p.1, aev (akeep ts fr) p.2)) = ps.map fun p => (p.1, aev fr p.2)
  | [], _ => rfl
  | p :: ps, hp => by
    simp only [List.map_cons]
    rw [aev_akeep h (hp p (by simp)), aparts_akeep h fun z hz => hp z (by simp [hz])]
theorem aopt_akeep {ts : List Nat} {fr : AFr} {xs : List Operand} (h : Knows ts xs) {o : Option Operand} (ho : ∀ y, o = some y → y ∈ xs) : o.map (aev (akeep ts fr)) = o.map (aev fr) := by
  cases o with
  | none => rfl
  | some y => simp only [Option.map_some]; rw [aev_akeep h (ho y rfl)]

theorem knows_alooks {all : List Oper} {o : Oper} : Knows (alooks all o) o.op.operands.toList := by
  intro t ht
  unfold alooks
  refine List.mem_append_left _ (List.mem_filterMap.2 ⟨_, ht, rfl⟩)

theorem alocal_akeep {E : Env} {fr : AFr} {H : AHeap} {ts : List Nat} {op : Op} (h : Knows ts op.operands.toList) : alocal E (akeep ts fr) H op = alocal E fr H op := by
  have k1 : ∀ x : Operand, x ∈ op.operands.toList → aev (akeep ts fr) x = aev fr x := fun x hx => aev_akeep h hx
  cases op with
  | move x => simp only [alocal]; rw [k1 x (by simp [Op.operands])]
  | assign x => simp only [alocal]; rw [k1 x (by simp [Op.operands])]
  | pick c a b => simp only [alocal]; rw [k1 c (by simp [Op.operands]), k1 a (by simp [Op.operands]), k1 b (by simp [Op.operands])]
  | alloc t => rfl
  | box t x => simp only [alocal]; rw [k1 x (by simp [Op.operands])]
  | build t ps => simp only [alocal]; rw [aparts_akeep h (ps := ps.toList) fun p hp => by simp only [Op.operands]; simp; exact ⟨p.1, by simpa using hp⟩]
  | buildSlice t n ps => simp only [alocal]; rw [aparts_akeep h (ps := ps.toList) fun p hp => by simp only [Op.operands]; simp; exact ⟨p.1, by simpa using hp⟩]
  | load t p => simp only [alocal]; rw [k1 p (by simp [Op.operands])]
  | store t p x => simp only [alocal]; rw [k1 p (by simp [Op.operands]), k1 x (by simp [Op.operands])]
  | nilCheck x => simp only [alocal]; rw [k1 x (by simp [Op.operands])]
  | binOp o t x y yt => simp only [alocal]; rw [k1 x (by simp [Op.operands]), k1 y (by simp [Op.operands])]
  | unOp o t x => simp only [alocal]; rw [k1 x (by simp [Op.operands])]
  | convert s d x => simp only [alocal]; rw [k1 x (by simp [Op.operands])]
  | makeInterface t x => simp only [alocal]; rw [k1 x (by simp [Op.operands])]
  | makeFunc fn a b =>
    simp only [alocal]
    rw [aevs_akeep h (ys := a.toList) fun y hy => by simp only [Op.operands]; simp; exact .inl (by simpa using hy), aevs_akeep h (ys := b.toList) fun y hy => by simp only [Op.operands]; simp; exact .inr (by simpa using hy)]
  | slice t x lo hi mx =>
    simp only [alocal]
    rw [k1 x (by simp [Op.operands]), aopt_akeep h (o := lo) fun y hy => by subst hy; simp [Op.operands], aopt_akeep h (o := hi) fun y hy => by subst hy; simp [Op.operands], aopt_akeep h (o := mx) fun y hy => by subst hy; simp [Op.operands]]
  | fieldAddr t x f => simp only [alocal]; rw [k1 x (by simp [Op.operands])]
  | field t x f => simp only [alocal]; rw [k1 x (by simp [Op.operands])]
  | indexAddr t x i => simp only [alocal]; rw [k1 x (by simp [Op.operands]), k1 i (by simp [Op.operands])]
  | index t x i => simp only [alocal]; rw [k1 x (by simp [Op.operands]), k1 i (by simp [Op.operands])]
  | extract x i => simp only [alocal]; rw [k1 x (by simp [Op.operands])]
  | call c =>
    obtain ⟨callee, args, ats⟩ := c
    cases callee with
    | builtin b =>
      have ka : ∀ x, x ∈ args.toList → aev (akeep ts fr) x = aev fr x := fun x hx => k1 x (by simp [Op.operands, Call.operands]; simpa using hx)
      have kb : ∀ ys : List Operand, (∀ y ∈ ys, y ∈ args.toList) → ys.map (aev (akeep ts fr)) = ys.map (aev fr) := fun ys hy => List.map_congr_left fun y h => ka y (hy y h)
      simp only [alocal]
      split
      · rename_i x y hats hargs
        rw [ka x (by rw [hargs]; simp), ka y (by rw [hargs]; simp)]
      · rfl
      · rename_i t ts x hats hargs
        rw [ka x (by rw [hargs]; simp)]
      · rename_i t ts x y hats hargs
        rw [ka x (by rw [hargs]; simp), ka y (by rw [hargs]; simp)]
      · rw [kb args.toList fun _ h => h]
    | value f => rfl
    | invoke f m => rfl
  | _ => rfl

theorem awanted_akeep {all : List Oper} {fr : AFr} {o : Oper} : awanted all (akeep (alooks all o) fr) o = awanted all fr o := by
  unfold awanted
  cases hg : o.guard with
  | none => rfl
  | some p =>
    obtain ⟨j, want⟩ := p
    simp only
    cases hj : all[j]? with
    | none => rfl
    | some oj =>
      simp only
      cases hd : oj.dst with
      | none => rfl
      | some d =>
        simp only
        rw [alook_akeep]
        unfold alooks
        refine List.mem_append_right _ ?_
        simp [hg, hj, hd]
theorem acallee_akeep {ts : List Nat} {fr : AFr} {op : Op} (h : Knows ts op.operands.toList) : acallee (akeep ts fr) op = acallee fr op := by
  cases op with
  | call c =>
    obtain ⟨callee, args, ats⟩ := c
    cases callee with
    | value f =>
      simp only [acallee]
      rw [aev_akeep h (x := f) (by simp [Op.operands, Call.operands]), aevs_akeep h (ys := args.toList) fun y hy => by simp [Op.operands, Call.operands]; exact .inr (by simpa using hy)]
    | _ => rfl
  | _ => rfl
end Go.Av
set_option linter.unusedVariables false
set_option linter.unusedSectionVars false
set_option linter.unusedSimpArgs false
namespace Go.Av
open Go.RowKit
variable [Ground]

/-- One operation of the text's order: what it looks at of the heap (none: all), which objects it turns. -/
structure FStep where
  o : Oper
  want : Bool
  fr : AFr
  H : AHeap
  r : AV
  H' : AHeap
  F : Option (List Nat)
  W : List Nat

def Looks (F : Option (List Nat)) (H Hc : AHeap) : Prop := match F with | none => Hc = H | some f => ∀ id, id ∈ f → Hc[id]? = H[id]?
def Wrote (W : List Nat) (H' Hc Hc' : AHeap) : Prop := ∀ id, Hc'[id]? = if id ∈ W then H'[id]? else Hc[id]?

structure FStepOK (P : Program) (all : List Oper) (s : FStep) : Prop where
  want : awanted all (akeep (alooks all s.o) s.fr) s.o = some s.want
  frame : ∀ id, id ∉ s.W → s.H'[id]? = s.H[id]?
  len : s.H.length ≤ s.H'.length
  sub : ∀ f, s.F = some f → ∀ id, id ∈ s.W → id ∈ f
  run : s.want = true → ∀ Hc, Looks s.F s.H Hc → ∃ Hc', Wrote s.W s.H' Hc Hc' ∧ OpSound P s.o (akeep (alooks all s.o) s.fr) Hc s.r Hc'
  skip : s.want = false → s.r = aundef ∧ s.W = []

inductive FTrace (P : Program) (all : List Oper) : List Oper → AFr → AHeap → List FStep → AFr → AHeap → Prop
  | nil {fr : AFr} {H : AHeap} : FTrace P all [] fr H [] fr H
  | cons {o : Oper} {rest : List Oper} {s : FStep} {ss : List FStep} {fr2 : AFr} {H2 : AHeap} (h : FStepOK P all s) (ho : s.o = o) (t : FTrace P all rest (aput s.fr o.dst s.r) s.H' ss fr2 H2) : FTrace P all (o :: rest) s.fr s.H (s :: ss) fr2 H2

def gslot (t : Nat) (s : FStep) : Option (Option AV) := if s.o.dst = some t then some (some s.r) else none
def gcell (id : Nat) (s : FStep) : Option (Option AObj) := if id ∈ s.W then some (s.H'[id]?) else none

section
variable {P : Program} {all l : List Oper} {fr fr2 : AFr} {H H2 : AHeap} {ss : List FStep}
theorem FTrace.length (h : FTrace P all l fr H ss fr2 H2) : ss.length = l.length := by
  induction h with
  | nil => rfl
  | cons _ _ _ ih => simp [ih]
theorem FTrace.le (h : FTrace P all l fr H ss fr2 H2) : H.length ≤ H2.length := by
  induction h with
  | nil => exact Nat.le_refl _
  | cons h _ _ ih => exact Nat.le_trans h.len ih
theorem FTrace.op (h : FTrace P all l fr H ss fr2 H2) : ∀ (i : Nat) (s : FStep), ss[i]? = some s → l[i]? = some s.o ∧ FStepOK P all s := by
  induction h with
  | nil => intro i s hs; simp at hs
  | cons h ho t ih =>
    intro i s hs
    cases i with
    | zero => simp at hs; subst hs; exact ⟨by simp [ho], h⟩
    | succ i => simpa using ih i s (by simpa using hs)
theorem FTrace.size (h : FTrace P all l fr H ss fr2 H2) (hd : ∀ o ∈ l, ∀ d, o.dst = some d → d < fr.n) : fr2.n = fr.n ∧ ∀ s ∈ ss, s.fr.n = fr.n := by
  induction h with
  | nil => exact ⟨rfl, fun s hs => by cases hs⟩
  | @cons o rest s ss fr2 H2 h ho t ih =>
    have e : (aput s.fr o.dst s.r).n = s.fr.n := by
      unfold aput
      cases hdd : o.dst with
      | none => rfl
      | some d => simp only [if_pos (hd o (by simp) d hdd)]
    rw [e] at ih
    obtain ⟨h1, h2⟩ := ih fun o' ho' d hd' => hd o' (by simp [ho']) d hd'
    refine ⟨h1, fun s' hs' => ?_⟩
    rcases List.mem_cons.1 hs' with rfl | hs'
    · rfl
    · exact h2 s' hs'
theorem FTrace.slots (h : FTrace P all l fr H ss fr2 H2) (hd : ∀ o ∈ l, ∀ d, o.dst = some d → d < fr.n) (t : Nat) :
    (∀ k, pick (gslot t) (fun _ => true) k ss (alook t fr.l) = alook t fr2.l) ∧ ∀ (i : Nat) (s : FStep) (k : Nat), ss[i]? = some s → pick (gslot t) (fun j => decide (j < k + i)) k ss (alook t fr.l) = alook t s.fr.l := by
  induction h with
  | nil => exact ⟨fun _ => rfl, fun i s k hs => by simp at hs⟩
  | @cons o rest s ss fr2 H2 h ho t' ih =>
    have hn : (aput s.fr o.dst s.r).n = s.fr.n := by
      unfold aput
      cases hdd : o.dst with
      | none => rfl
      | some d => simp only [if_pos (hd o (by simp) d hdd)]
    rw [hn] at ih
    obtain ⟨h1, h2⟩ := ih fun o' ho' d hd' => hd o' (by simp [ho']) d hd'
    have e := alook_aput (fr := s.fr) (dst := o.dst) (r := s.r) (t := t) (hd o (by simp))
    have e2 : (gslot t s).getD (alook t s.fr.l) = alook t (aput s.fr o.dst s.r).l := by
      rw [e]
      unfold gslot
      rw [ho]
      split <;> rfl
    refine ⟨fun k => by simp only [pick, if_true, e2]; exact h1 (k + 1), fun i s' k hs => ?_⟩
    cases i with
    | zero =>
      simp at hs
      subst hs
      exact pick_none fun j s' _ _ => by simp
    | succ i =>
      simp only [pick]
      rw [if_pos (by simp), e2]
      have := h2 i s' (k + 1) (by simpa using hs)
      rw [show k + 1 + i = k + (i + 1) by omega] at this
      exact this
theorem FTrace.cells (h : FTrace P all l fr H ss fr2 H2) (id : Nat) :
    (∀ k, pick (gcell id) (fun _ => true) k ss (H[id]?) = H2[id]?) ∧ ∀ (i : Nat) (s : FStep) (k : Nat), ss[i]? = some s → pick (gcell id) (fun j => decide (j < k + i)) k ss (H[id]?) = s.H[id]? := by
  induction h with
  | nil => exact ⟨fun _ => rfl, fun i s k hs => by simp at hs⟩
  | @cons o rest s ss fr2 H2 h ho t' ih =>
    obtain ⟨h1, h2⟩ := ih
    have e2 : (gcell id s).getD (s.H[id]?) = s.H'[id]? := by
      unfold gcell
      split
      · rfl
      · rename_i hw; rw [h.frame id hw]; rfl
    refine ⟨fun k => by simp only [pick, if_true, e2]; exact h1 (k + 1), fun i s' k hs => ?_⟩
    cases i with
    | zero =>
      simp at hs
      subst hs
      exact pick_none fun j s' _ _ => by simp
    | succ i =>
      simp only [pick]
      rw [if_pos (by simp), e2]
      have := h2 i s' (k + 1) (by simpa using hs)
      rw [show k + 1 + i = k + (i + 1) by omega] at this
      exact this
end

/-- May two that no order keeps apart stand in either order? -/
def Apart (s s' : FStep) : Prop := s'.W = [] ∨ ∃ f, s.F = some f ∧ ∀ id, id ∈ f → id ∉ s'.W

structure FootFit (ops : List Oper) (ss : List FStep) (n : Nat) : Prop where
  back : ∀ (i : Nat) (o : Oper), ops[i]? = some o → ∀ e ∈ o.after, Region.binds .any e = true → e.on < i
  dst : ∀ (i : Nat) (o : Oper), ops[i]? = some o → ∀ d, o.dst = some d → d < n
  slot : ∀ (i j : Nat) (o p : Oper), i ≠ j → ops[i]? = some o → ops[j]? = some p → ∀ d, p.dst = some d → (d ∈ alooks ops o ∨ o.dst = some d) → cmpB ops i j = true
  heap : ∀ (i j : Nat) (s s' : FStep), i ≠ j → ss[i]? = some s → ss[j]? = some s' → cmpB ops i j = true ∨ Apart s s'

/-- How the world stands when a set of steps is done. -/
structure FDrawn (P : Program) (B0 : Nat) (W0 : World) (g0 : G) (S : Ghost) (H : AHeap) (fr : AFr) (ss : List FStep) (D : Nat → Bool) (Hc : AHeap) (g : G) (a : Act) (w : World) : Prop where
  cells : ∀ id : Nat, Hc[id]? = pick (gcell id) D 0 ss (H[id]?)
  ext : Ext g0 g H.length Hc.length
  inv : Inv P B0 W0 g (S.over Hc) w
  len : H.length ≤ Hc.length
  size : fr.n ≤ a.tmps.size
  slot : ∀ t x, pick (gslot t) D 0 ss (alook t fr.l) = some x → VR g x (a.tmps.getD t undef)
  defers : a.defers = []

section
variable {P : Program} {B0 : Nat} {W0 : World} {g0 : G} {S : Ghost} {H H2 : AHeap} {fr fr2 : AFr} {ss : List FStep} {ops : Array Oper}

theorem FDrawn.step {D D' : Nat → Bool} {Hc : AHeap} {g : G} {a : Act} {w : World} {i : Nat} {Q : Exit → Act → World → Prop} {K : Act → World → Prop} (tr : FTrace P ops.toList ops.toList fr H ss fr2 H2) (fit : FootFit ops.toList ss fr.n) (hfr0 : Free g0 H.length)
    (hi : i < ops.size) (hD : Shut ops.toList D) (hDi : D i = false) (hr : ∀ o, ops.toList[i]? = some o → ∀ e ∈ o.after, Region.binds .any e = true → D e.on = true) (hDi' : D' i = true) (hDo : ∀ j, j ≠ i → D' j = D j)
    (h : FDrawn P B0 W0 g0 S H fr ss D Hc g a w) (k : ∀ Hc' g' a' w', FDrawn P B0 W0 g0 S H fr ss D' Hc' g' a' w' → K a' w') : wpOp P ops Q i K a w := by
  have hil : i < ss.length := by rw [tr.length]; simpa using hi
  obtain ⟨s, hs⟩ : ∃ s, ss[i]? = some s := ⟨ss[i], by simp [hil]⟩
  obtain ⟨ho, ok⟩ := tr.op i s hs
  have hdst : ∀ o ∈ ops.toList, ∀ d, o.dst = some d → d < fr.n := fun o hm d hd => by
    obtain ⟨j, hj⟩ := List.getElem?_of_mem hm
    exact fit.dst j o hj d hd
  have hdi : ∀ d, s.o.dst = some d → d < a.tmps.size := fun d hd => Nat.lt_of_lt_of_le (fit.dst i s.o ho d hd) h.size
  have cmp : ∀ {j : Nat}, i ≠ j → cmpB ops.toList i j = true → D j = decide (j < i) := fun hij hc => cmpB_ok hD ho (hr _ ho) hDi hij hc
  have slots : ∀ t, t ∈ alooks ops.toList s.o → pick (gslot t) D 0 ss (alook t fr.l) = alook t s.fr.l := fun t ht => by
    rw [← (tr.slots hdst t).2 i s 0 hs]
    refine pick_congr fun j s' hj hs' => ?_
    simp only [Nat.zero_add]
    by_cases e : i = j
    · subst e; simp [hDi]
    · obtain ⟨hp, _⟩ := tr.op j s' hj
      have hd' : s'.o.dst = some t := by
        unfold gslot at hs'
        split at hs'
        · assumption
        · cases hs'
      exact cmp e (fit.slot i j s.o s'.o e ho hp t hd' (.inl ht))
  have frk : FR g (akeep (alooks ops.toList s.o) s.fr) a := by
    refine ⟨?_, fun t x hx => ?_, h.defers, h.inv.glob⟩
    · show s.fr.n ≤ _
      rw [(tr.size hdst).2 s (List.mem_of_getElem? hs)]
      exact h.size
    · obtain ⟨h1, h2⟩ := alook_keep hx
      exact h.slot t x (by rw [slots t h1]; exact h2)
  have inW : ∀ {id : Nat} {s' : FStep}, (gcell id s').isSome = true → id ∈ s'.W := fun {id s'} hc => by
    unfold gcell at hc
    split at hc
    · assumption
    · cases hc
  -- what is looked at is as it was
  have cellq : ∀ id : Nat, (s.F = none ∨ ∃ f, s.F = some f ∧ id ∈ f) → Hc[id]? = s.H[id]? := fun id hc => by
    rw [h.cells, ← (tr.cells id).2 i s 0 hs]
    refine pick_congr fun j s' hj hs' => ?_
    simp only [Nat.zero_add]
    by_cases e : i = j
    · subst e; simp [hDi]
    · have hw := inW hs'
      rcases fit.heap i j s s' e hs hj with hx | hx
      · exact cmp e hx
      · exfalso
        rcases hx with hx | ⟨f, hf, hx⟩
        · rw [hx] at hw; cases hw
        · rcases hc with hc | ⟨f', hf', hid⟩
          · rw [hc] at hf; cases hf
          · rw [hf] at hf'
            injection hf' with hf'
            subst hf'
            exact hx id hid hw
  have looks : Looks s.F s.H Hc := by
    unfold Looks
    cases hF : s.F with
    | none =>
      simp only
      exact List.ext_getElem? fun id => cellq id (.inl hF)
    | some f => exact fun id hid => cellq id (.inr ⟨f, hF, hid⟩)
  have celln : ∀ id : Nat, pick (gcell id) D' 0 ss (H[id]?) = if id ∈ s.W then s.H'[id]? else Hc[id]? := fun id => by
    by_cases hw : id ∈ s.W
    · have := pick_add (f := gcell id) (D := D) (D' := D') (k := 0) (b := H[id]?) hs (by simpa using hDi') (by simpa using hDi) (by simpa using hDo) (fun j s' hij hj hs' => by
        simp only [Nat.zero_add]
        have hw' := inW hs'
        have hc : cmpB ops.toList i j = true := by
          rcases fit.heap i j s s' (by omega) hs hj with hx | hx
          · exact hx
          · exfalso
            rcases hx with hx | ⟨f, hf, hx⟩
            · rw [hx] at hw'; cases hw'
            · exact hx id (ok.sub f hf id hw) hw'
        rw [cmp (by omega) hc]
        simp; omega)
      rw [this, if_pos hw]
      simp [gcell, hw]
    · rw [if_neg hw, h.cells]
      refine pick_congr fun j s' hj hs' => ?_
      simp only [Nat.zero_add]
      refine hDo j fun e => ?_
      subst e
      rw [hs] at hj
      injection hj with hj
      subst hj
      exact hw (inW hs')
  have slotn : ∀ t, pick (gslot t) D' 0 ss (alook t fr.l) = if s.o.dst = some t then some s.r else pick (gslot t) D 0 ss (alook t fr.l) := fun t => by
    by_cases hd : s.o.dst = some t
    · have := pick_add (f := gslot t) (D := D) (D' := D') (k := 0) (b := alook t fr.l) hs (by simpa using hDi') (by simpa using hDi) (by simpa using hDo) (fun j s' hij hj hs' => by
        simp only [Nat.zero_add]
        obtain ⟨hp, _⟩ := tr.op j s' hj
        have hd' : s'.o.dst = some t := by
          unfold gslot at hs'
          split at hs'
          · assumption
          · cases hs'
        rw [cmp (by omega) (fit.slot i j s.o s'.o (by omega) ho hp t hd' (.inr hd))]
        simp; omega)
      rw [this]
      simp [gslot, hd]
    · rw [if_neg hd]
      refine pick_congr fun j s' hj hs' => ?_
      simp only [Nat.zero_add]
      refine hDo j fun e => ?_
      subst e
      rw [hs] at hj
      injection hj with hj
      subst hj
      simp [gslot, hd] at hs'
  have hgo : ops[i]? = some s.o := by simpa using ho
  have hwant := awanted_ok frk ok.want
  unfold wpOp
  rw [hgo]
  simp only [hwant]
  cases hw : s.want with
  | false =>
    simp only [Bool.false_eq_true, if_false]
    obtain ⟨e1, e2⟩ := ok.skip hw
    refine k Hc g _ w ⟨fun id => by rw [celln, e2]; simp, h.ext, h.inv, h.len, ?_, fun t x hx => ?_, ?_⟩
    · cases hd : s.o.dst <;> simp only [Act.put] <;> simpa using h.size
    · rw [getD_put hdi]
      rw [slotn] at hx
      split at hx
      · rename_i hd
        rw [if_pos hd]
        injection hx with hx
        subst hx
        rw [e1]
        exact .tuple .nil
      · rename_i hd
        rw [if_neg hd]
        exact h.slot t x hx
    · cases hd : s.o.dst <;> exact h.defers
  | true =>
    simp only [if_true]
    obtain ⟨Hc', hwr, hl, hop⟩ := ok.run hw Hc looks
    refine .inl (hop B0 W0 g (S.over Hc) w a _ Q (Agree.over _ _) h.inv frk (h.ext.free hfr0 h.len) fun v w' g' hv hx hI' => ?_)
    rw [Ghost.over_over hl] at hI'
    refine k Hc' g' _ w' ⟨fun id => by rw [celln]; exact hwr id, h.ext.trans hx h.len hl, hI', Nat.le_trans h.len hl, ?_, fun t x hx' => ?_, ?_⟩
    · cases hd : s.o.dst <;> simp only [Act.put] <;> simpa using h.size
    · rw [getD_put hdi]
      rw [slotn] at hx'
      split at hx'
      · rename_i hd
        rw [if_pos hd]
        injection hx' with hx'
        subst hx'
        exact hv
      · rename_i hd
        rw [if_neg hd]
        exact (h.slot t x hx').le hx.1
    · cases hd : s.o.dst <;> exact h.defers

theorem FDrawn.all {Q : Exit → Act → World → Prop} (tr : FTrace P ops.toList ops.toList fr H ss fr2 H2) (fit : FootFit ops.toList ss fr.n) (hfr0 : Free g0 H.length)
    (k : ∀ Hc' g' a' w', FDrawn P B0 W0 g0 S H fr ss (fun _ => true) Hc' g' a' w' → Q .normal a' w') : ∀ (fuel : Nat) (listed : Array Bool) (Hc : AHeap) (g : G) (a : Act) (w : World), listed.size = ops.size → Shut ops.toList (fun i => listed.getD i false) →
      left (fun i => listed.getD i false) ops.size ≤ fuel → FDrawn P B0 W0 g0 S H fr ss (fun i => listed.getD i false) Hc g a w → wpAny P .any ops Q fuel listed a w := by
  have fin : ∀ (listed : Array Bool) (Hc : AHeap) (g : G) (a : Act) (w : World), (∀ i, i < ops.size → listed.getD i false = true) → FDrawn P B0 W0 g0 S H fr ss (fun i => listed.getD i false) Hc g a w → Q .normal a w := fun listed Hc g a w hall h => by
    have hlt : ∀ {j : Nat} {s : FStep}, ss[j]? = some s → j < ops.size := fun hj => by
      have := (List.getElem?_eq_some_iff.1 hj).1
      rw [tr.length] at this
      simpa using this
    have e1 : ∀ {β : Type} (f : FStep → Option β) (b : β), pick f (fun i => listed.getD i false) 0 ss b = pick f (fun _ => true) 0 ss b := fun f b => pick_congr fun j s hj _ => by
      simp only [Nat.zero_add]
      exact hall j (hlt hj)
    exact k Hc g a w ⟨fun id => by rw [← e1]; exact h.cells id, h.ext, h.inv, h.len, h.size, fun t x hx => h.slot t x (by rw [e1]; exact hx), h.defers⟩
  have rdy : ∀ (listed : Array Bool), listed.size = ops.size → Region.ready .any ops listed = [] → ∀ i, i < ops.size → listed.getD i false = true := fun listed hsz hnil i => by
    induction i using Nat.strongRecOn with
    | _ i ih =>
      intro hi
      cases hd : listed.getD i false with
      | true => rfl
      | false =>
        exfalso
        have hmem : i ∈ Region.ready .any ops listed := by
          unfold Region.ready
          refine List.mem_filter.2 ⟨List.mem_range.2 hi, ?_⟩
          have h1 : listed.getD i true = false := by
            have hi' : i < listed.size := by omega
            simp only [Array.getD_eq_getD_getElem?, Array.getElem?_eq_getElem hi', Option.getD_some] at hd ⊢
            exact hd
          have h2 : ops[i]? = some ops[i] := by simp [hi]
          rw [h1, h2]
          simp only [Bool.not_false, Bool.true_and, Option.map_some, Option.getD_some]
          refine Array.all_eq_true_iff_forall_mem.2 fun e he => ?_
          cases hb : Region.binds .any e with
          | false => rfl
          | true =>
            have := fit.back i ops[i] (by simp [hi]) e he hb
            simp only [Bool.not_true, Bool.false_or]
            exact ih e.on this (by omega)
        rw [hnil] at hmem
        cases hmem
  intro fuel
  induction fuel with
  | zero =>
    intro listed Hc g a w hsz hsh hlf h
    have hall := left_zero (D := fun i => listed.getD i false) (n := ops.size) (by omega)
    refine ⟨?_, fin listed Hc g a w hall h⟩
    unfold Region.ready
    refine List.filter_eq_nil_iff.2 fun i hi => ?_
    have hi' : i < listed.size := by rw [hsz]; exact List.mem_range.1 hi
    have := hall i (by omega)
    simp only [Array.getD_eq_getD_getElem?, Array.getElem?_eq_getElem hi', Option.getD_some] at this ⊢
    simp [this]
  | succ fuel ih =>
    intro listed Hc g a w hsz hsh hlf h
    refine ⟨fun hnil => fin listed Hc g a w (rdy listed hsz hnil) h, fun i hi => ?_⟩
    unfold Region.ready at hi
    obtain ⟨hi1, hi2⟩ := List.mem_filter.1 hi
    have hi1 := List.mem_range.1 hi1
    have hil : i < listed.size := by omega
    have h2 : ops[i]? = some ops[i] := by simp [hi1]
    rw [h2] at hi2
    simp only [Bool.and_eq_true, Option.map_some, Option.getD_some] at hi2
    have hDi : listed.getD i false = false := by
      have := hi2.1
      simp only [Array.getD_eq_getD_getElem?, Array.getElem?_eq_getElem hil, Option.getD_some] at this ⊢
      simpa using this
    have hr : ∀ o, ops.toList[i]? = some o → ∀ e ∈ o.after, Region.binds .any e = true → listed.getD e.on false = true := fun o ho e he hb => by
      have ho' : ops[i] = o := by
        have : ops[i]? = some o := by simpa using ho
        rw [h2] at this
        injection this
      subst ho'
      have := Array.all_eq_true_iff_forall_mem.1 hi2.2 e he
      simpa [hb] using this
    have hDi' : (listed.setIfInBounds i true).getD i false = true := by simp [Array.getD_eq_getD_getElem?, hil]
    have hDo : ∀ j, j ≠ i → (listed.setIfInBounds i true).getD j false = listed.getD j false := fun j hj => by
      simp only [Array.getD_eq_getD_getElem?]
      rw [Array.getElem?_setIfInBounds_ne (fun x => hj x.symm)]
    refine FDrawn.step (D := fun i => listed.getD i false) (D' := fun j => (listed.setIfInBounds i true).getD j false) tr fit hfr0 hi1 hsh hDi hr hDi' hDo h fun Hc' g' a' w' h' => ih _ Hc' g' a' w' (by simpa using hsz) ?_ ?_ h'
    · intro j o hj ho e he hb
      by_cases e1 : j = i
      · subst e1
        have := hr o ho e he hb
        by_cases e2 : e.on = j
        · show (listed.setIfInBounds j true).getD e.on false = true
          rw [e2]; exact hDi'
        · show (listed.setIfInBounds j true).getD e.on false = true
          rw [hDo _ e2]; exact this
      · have hj' : listed.getD j false = true := by rw [← hDo j e1]; exact hj
        have := hsh j o hj' ho e he hb
        by_cases e2 : e.on = i
        · show (listed.setIfInBounds i true).getD e.on false = true
          rw [e2]; exact hDi'
        · show (listed.setIfInBounds i true).getD e.on false = true
          rw [hDo _ e2]; exact this
    · have := left_less (D := fun j => listed.getD j false) (D' := fun j => (listed.setIfInBounds i true).getD j false) hDi hDi' hDo (n := ops.size) hi1
      omega

/-- A region whose order is drawn. -/
theorem SItems.foot (hm : P.follows .mixedOrders = true) {id : Nat} {Q : AExit → AFr → AHeap → Prop} (tr : FTrace P ops.toList ops.toList fr H ss fr2 H2) (fit : FootFit ops.toList ss fr.n) (hq : Q .normal fr2 H2) : SCode P (.region id ops true) fr H Q := by
  have hdst : ∀ o ∈ ops.toList, ∀ d, o.dst = some d → d < fr.n := fun o hm d hd => by
    obtain ⟨j, hj⟩ := List.getElem?_of_mem hm
    exact fit.dst j o hj d hd
  refine ⟨.normal, fr2, H2, hq, tr.le, fun B0 W0 g S w a hA hI hF hfr => ?_⟩
  refine wp_region_any hm ?_
  have zero : ∀ {β : Type} (f : FStep → Option β) (b : β), pick f (fun i => (Array.replicate ops.size false).getD i false) 0 ss b = b := fun f b => pick_none fun j s _ _ => by
    simp only [Array.getD_eq_getD_getElem?, Array.getElem?_replicate]
    split <;> rfl
  have hz0 : ∀ i, (Array.replicate ops.size false).getD i false = false := fun i => by
    simp only [Array.getD_eq_getD_getElem?, Array.getElem?_replicate]
    split <;> rfl
  refine FDrawn.all (B0 := B0) (W0 := W0) (g0 := g) (S := S) (H := H) (fr := fr) tr fit hfr (fun Hc' g' a' w' h' => ?_) ops.size _ H g a { w with drawn := w.drawn + 1 } (by simp) ?_ ?_ ?_
  · have eh : Hc' = H2 := List.ext_getElem? fun id => by rw [h'.cells id]; exact (tr.cells id).1 0
    obtain ⟨_, h1, h2, h3, h4, h5, h6⟩ := h'
    rw [eh] at h1 h2 h3
    refine ⟨rfl, g', h1, h2, by rw [(tr.size hdst).1]; exact h4, fun t x hx => h5 t x ?_, h6, h2.glob⟩
    rw [(tr.slots hdst t).1 0]
    exact hx
  · intro i o hi
    have hi : (Array.replicate ops.size false).getD i false = true := hi
    rw [hz0] at hi
    cases hi
  · have : left (fun i => (Array.replicate ops.size false).getD i false) ops.size = ops.size := by
      rw [left_same (D := fun _ => false) fun j _ => hz0 j, left_all]
    omega
  · refine ⟨fun id => by rw [zero], .refl _ _ _, ?_, Nat.le_refl _, hF.1, fun t x hx => hF.2.1 t x (by rw [zero] at hx; exact hx), hF.2.2.1⟩
    rw [hA.over_self]
    exact ⟨hI.below.drew, hI.base, hI.im, hI.phi, hI.lin, hI.row, hI.lb, hI.inj, hI.glob⟩
end
end Go.Av
