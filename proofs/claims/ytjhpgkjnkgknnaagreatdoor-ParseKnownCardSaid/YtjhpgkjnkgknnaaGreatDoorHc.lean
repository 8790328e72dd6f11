/-
  Code by the abstract values: rules, each proved against the model's own steps.
-/
import Derived.Test.YtjhpgkjnkgknnaaGreatDoorHb
import Derived.Tactics
set_option linter.unusedVariables false
set_option linter.unusedSectionVars false
set_option linter.unusedSimpArgs false
namespace Go.Av
open Go.RowKit
variable [Ground]

/-- What a call comes to: a value; the heap; what was there and is not in W has not turned. -/
def AC (P : Program) (f : FuncId) (args : List AV) (H : AHeap) (r : AV) (H' : AHeap) (W : List Nat) : Prop :=
  H.length ≤ H'.length ∧ (∀ id o, H[id]? = some o → id ∉ W → H'[id]? = some o) ∧
  ∀ (B0 : Nat) (W0 : World) (g : G) (S : Ghost) (w : World) (vs : List Value), Agree H S → Inv P B0 W0 g S w → VRs g args vs → Free g H.length →
    Calls P f ⟨vs⟩ w fun e w' => ∃ v g', e = .returned v ∧ VR g' r v ∧ Ext g g' H.length H'.length ∧ Inv P B0 W0 g' (S.over H') w'

/-- A function with a body. -/
def FnAt (P : Program) (k : FuncId) (c : Code) (n : Nat) (rs : List ResultVar) : Prop :=
  ∃ fn, P.funcs[k]? = some fn ∧ fn.body = some c ∧ fn.ntmps = n ∧ fn.results.toList = rs ∧ (fn.name == "runtime.NumGoroutine") = false

section
variable {P : Program}

theorem OpSound.call {o : Oper} {fr : AFr} {H H' : AHeap} {r : AV} {W : List Nat} {f : Operand} {args : Array Operand} {ats : Array TypeId} {k : FuncId} {first cap : List AV} {c : Code} {n : Nat} {rs : List ResultVar}
    (ho : o.op = .call { callee := .value f, args := args, argTypes := ats }) (hf : aev fr f = .func (.func k) first cap) (hfn : FnAt P k c n rs) (h : AC P k (first ++ args.toList.map (aev fr) ++ cap) H r H' W) : OpSound P o fr H r H' := by
  obtain ⟨hl, _, h⟩ := h
  refine ⟨hl, fun B0 W0 g S w a next Q hA hI hF hfr kk => ?_⟩
  obtain ⟨fn, h1, h2, _, _, h3⟩ := hfn
  have hfv := hF.eval f
  rw [hf] at hfv
  generalize hv : a.eval f = v at hfv
  cases hfv with
  | @func _ _ _ vf vc e1 e2 =>
    have hargs : VRs g (first ++ args.toList.map (aev fr) ++ cap) (vf ++ args.toList.map a.eval ++ vc) := (e1.append (hF.evals _)).append e2
    have hc := h B0 W0 g S w _ hA hI hargs hfr
    have earr : (⟨vf⟩ : Array Value) ++ args.map a.eval ++ ⟨vc⟩ = ⟨vf ++ args.toList.map a.eval ++ vc⟩ := by apply Array.toList_inj.1; simp
    have hb : fn.body.isNone = false := by rw [h2]; rfl
    unfold Oper.wp
    have hrun : (execOp a.eval o).run P w = .ok (.enter k ⟨vf ++ args.toList.map a.eval ++ vc⟩) w := by
      unfold execOp
      simp only [ho, resolve, hv, Deferred.ofValue, invoke, callFunc, Sem.run_bind, Sem.run_pure, Result.andThen_ok, run_program, h1, h3, hb, Bool.false_eq_true, if_false, earr]
    rw [hrun]
    refine Calls.mono hc ?_
    rintro e w' ⟨v, g', rfl, q1, q2, q3⟩
    exact kk v w' g' q1 q2 q3

/-- Operations one behind the other. -/
def SOps (P : Program) (ops : Array Oper) (l : List Oper) (fr : AFr) (H : AHeap) (Q : AFr → AHeap → Prop) : Prop :=
  ∃ fr' H', Q fr' H' ∧ H.length ≤ H'.length ∧ ∀ (B0 : Nat) (W0 : World) (g : G) (S : Ghost) (w : World) (a : Act) (Qc : Exit → Act → World → Prop), Agree H S → Inv P B0 W0 g S w → FR g fr a → Free g H.length →
    (∀ g' a' w', Ext g g' H.length H'.length → Inv P B0 W0 g' (S.over H') w' → FR g' fr' a' → Qc .normal a' w') → wpList P ops Qc l a w

theorem SOps.nil {ops : Array Oper} {fr : AFr} {H : AHeap} {Q : AFr → AHeap → Prop} (h : Q fr H) : SOps P ops [] fr H Q :=
  ⟨fr, H, h, Nat.le_refl _, fun B0 W0 g S w a Qc hA hI hF _ k => k g a w (.refl _ _ _) (by rw [hA.over_self]; exact hI) hF⟩

theorem awanted_ok {ops : Array Oper} {g : G} {fr : AFr} {a : Act} {o : Oper} {b : Bool} (hF : FR g fr a) (h : awanted ops.toList fr o = some b) : Region.wanted o (yielded ops a.tmps) = b := by
  unfold awanted at h
  unfold Region.wanted
  split at h
  · rename_i hg
    injection h with h
    subst h
    simp [hg]
  · rename_i j want hg
    simp only [hg]
    unfold yielded
    split at h
    · rename_i oj hj
      have hj' : ops[j]? = some oj := by simpa using hj
      rw [hj']
      split at h
      · rename_i d hd
        simp only [Option.bind_some, hd]
        have key : ∀ x, alook d fr.l = some x → VR g x (a.tmps.getD d undef) := hF.2.1 d
        split at h
        · rename_i c hx
          have := key _ hx
          injection h with h
          subst h
          cases ht : a.tmps[d]? with
          | none => rw [Array.getD_eq_getD_getElem?, ht] at this; cases this
          | some v =>
            rw [Array.getD_eq_getD_getElem?, ht] at this
            simp only [Option.getD_some] at this
            cases this
            cases c <;> cases want <;> rfl
        · rename_i vs hx
          have := key _ hx
          injection h with h
          subst h
          cases ht : a.tmps[d]? with
          | none => simp
          | some v =>
            rw [Array.getD_eq_getD_getElem?, ht] at this
            simp only [Option.getD_some] at this
            cases this
            simp
        · cases h
        · rename_i x hnb hnt hntop hx
          have := key _ hx
          injection h with h
          subst h
          cases ht : a.tmps[d]? with
          | none => simp
          | some v =>
            rw [Array.getD_eq_getD_getElem?, ht] at this
            simp only [Option.getD_some] at this
            cases v with
            | bool b =>
              cases this with
              | top => exact absurd rfl hntop
              | bool => exact absurd rfl (hnb b)
            | _ => simp
        · cases h
      · injection h with h; subst h; simp [*]
    · rename_i hj
      have hj' : ops[j]? = none := by simpa using hj
      injection h with h; subst h; simp [hj']

theorem SOps.want {ops : Array Oper} {o : Oper} {l : List Oper} {fr : AFr} {H H1 : AHeap} {r : AV} {Q : AFr → AHeap → Prop} (hw : awanted ops.toList fr o = some true) (ho : OpSound P o fr H r H1)
    (h : SOps P ops l (aput fr o.dst r) H1 Q) : SOps P ops (o :: l) fr H Q := by
  obtain ⟨fr', H', hq, hl2, h⟩ := h
  obtain ⟨hl1, ho⟩ := ho
  refine ⟨fr', H', hq, Nat.le_trans hl1 hl2, fun B0 W0 g S w a Qc hA hI hF hfr k => ?_⟩
  have hw' := awanted_ok hF hw
  simp only [wpList, hw', if_true]
  refine .inl (ho B0 W0 g S w a _ Qc hA hI hF hfr fun v w' g' hv hx hI' => ?_)
  refine h B0 W0 g' (S.over H1) w' (a.put o.dst v) Qc (Agree.over H1 S) hI' ((hF.le hx.1).put o.dst hv) (hx.free hfr hl1) fun g2 a2 w2 hx2 hI2 hF2 => ?_
  rw [Ghost.over_over hl2] at hI2
  exact k g2 a2 w2 (hx.trans hx2 hl1 hl2) hI2 hF2
theorem SOps.skip {ops : Array Oper} {o : Oper} {l : List Oper} {fr : AFr} {H : AHeap} {Q : AFr → AHeap → Prop} (hw : awanted ops.toList fr o = some false)
    (h : SOps P ops l (aput fr o.dst aundef) H Q) : SOps P ops (o :: l) fr H Q := by
  obtain ⟨fr', H', hq, hl2, h⟩ := h
  refine ⟨fr', H', hq, hl2, fun B0 W0 g S w a Qc hA hI hF hfr k => ?_⟩
  have hw' := awanted_ok hF hw
  simp only [wpList, hw', Bool.false_eq_true, if_false]
  exact h B0 W0 g S w (a.put o.dst undef) Qc hA hI (hF.put o.dst (.tuple .nil)) hfr k

/-- What is to be run: code; a loop's next round; the rest of a scope. -/
def Task.pre : Task → List Item
  | .code c => [.code c]
  | .scope whole cur => [.code cur, .inScope whole]

def AExit.to : AExit → Exit
  | .normal => .normal
  | .exit id => .exit id
  | .goto l => .goto l
  | .ret => .ret

/-- Items on the stack, run to a way out. -/
def Items (P : Program) (pre : List Item) (Q : Exit → Act → World → Prop) (a : Act) (w : World) : Prop :=
  ∀ (b : Frame) (k : List Item) (cs : List Frame), ∃ e a' w', Q e a' w' ∧ Arrives P (lone (b.at a (pre ++ k)) cs w) b k cs e a' w'

theorem Items.code {c : Code} {Q : Exit → Act → World → Prop} {a : Act} {w : World} (h : c.wp P Q a w) : Items P [.code c] Q a w := h
theorem Items.wp {c : Code} {Q : Exit → Act → World → Prop} {a : Act} {w : World} (h : Items P [.code c] Q a w) : c.wp P Q a w := h
theorem Items.mono {pre : List Item} {Q Q' : Exit → Act → World → Prop} {a : Act} {w : World} (h : Items P pre Q a w) (hq : ∀ e a w, Q e a w → Q' e a w) : Items P pre Q' a w :=
  fun b k cs => let ⟨e, a', w', q, r⟩ := h b k cs; ⟨e, a', w', hq _ _ _ q, r⟩

theorem Items.seq {x y : Code} {Q : Exit → Act → World → Prop} {a : Act} {w : World} (h : Items P [.code x] (Exit.then (Items P [.code y] Q) Q) a w) : Items P [.code (.seq x y)] Q a w := wp_seq h
theorem Items.loop {c : Code} {Q : Exit → Act → World → Prop} {a : Act} {w : World} (h : Items P [.code c] (Exit.then (Items P [.inLoop c] Q) Q) a w) :
    ∀ (b : Frame) (k : List Item) (cs : List Frame), ∃ e a' w', Q e a' w' ∧ Arrives P (lone (b.at a (.code c :: .inLoop c :: k)) cs w) b k cs e a' w' := by
  intro b k cs
  obtain ⟨e, a₁, w₁, hq, harr⟩ := h b (.inLoop c :: k) cs
  cases e with
  | normal =>
    obtain ⟨e₂, a₂, w₂, hq₂, harr₂⟩ := hq b k cs
    exact ⟨e₂, a₂, w₂, hq₂, .of_steps harr harr₂⟩
  | exit id => exact ⟨_, a₁, w₁, hq, .pass (x := .inLoop c) rfl (fun _ _ => .inl (by simp)) harr⟩
  | goto l => exact ⟨_, a₁, w₁, hq, .pass (x := .inLoop c) rfl (fun _ _ => .inl (by simp)) harr⟩
  | ret => exact ⟨_, a₁, w₁, hq, .pass (x := .inLoop c) rfl (fun _ _ => .inl (by simp)) harr⟩
  | panic ch => exact ⟨_, a₁, w₁, hq, .pass (x := .inLoop c) rfl (fun _ _ => .inl (by simp)) harr⟩
  | outgrown => exact ⟨_, a₁, w₁, hq, .pass (x := .inLoop c) rfl (fun _ _ => .inl (by simp)) harr⟩
theorem Items.loop_in {c : Code} {Q : Exit → Act → World → Prop} {a : Act} {w : World} (h : Items P [.code c] (Exit.then (Items P [.inLoop c] Q) Q) a w) : Items P [.inLoop c] Q a w := by
  intro b k cs
  obtain ⟨e, a', w', hq, harr⟩ := Items.loop h b k cs
  exact ⟨e, a', w', hq, .of_steps (.one step_inLoop) harr⟩
theorem Items.loop_code {c : Code} {Q : Exit → Act → World → Prop} {a : Act} {w : World} (h : Items P [.code c] (Exit.then (Items P [.inLoop c] Q) Q) a w) : Items P [.code (.loop c)] Q a w := by
  intro b k cs
  obtain ⟨e, a', w', hq, harr⟩ := Items.loop h b k cs
  exact ⟨e, a', w', hq, .of_steps (.one step_loop) harr⟩

/-- Out of a scope's rest: a goto to one of its labels goes on there. -/
def Exit.inScope (P : Program) (whole : Code) (Q : Exit → Act → World → Prop) : Exit → Act → World → Prop
  | .goto l, a, w => match findLabel whole l with
    | some rest => Items P [.code rest, .inScope whole] Q a w
    | none => Q (.goto l) a w
  | e, a, w => Q e a w
theorem Items.scope {whole cur : Code} {Q : Exit → Act → World → Prop} {a : Act} {w : World} (h : Items P [.code cur] (Exit.inScope P whole Q) a w) : Items P [.code cur, .inScope whole] Q a w := by
  intro b k cs
  obtain ⟨e, a₁, w₁, hq, harr⟩ := h b (.inScope whole :: k) cs
  cases e with
  | normal => exact ⟨.normal, a₁, w₁, hq, Steps.trans harr (.one step_inScope)⟩
  | exit id => exact ⟨.exit id, a₁, w₁, hq, fun k' hk => harr k' (by simp [exitTo, hk])⟩
  | goto l =>
    simp only [Exit.inScope] at hq
    split at hq
    · rename_i rest hf
      obtain ⟨e₂, a₂, w₂, hq₂, harr₂⟩ := hq b k cs
      exact ⟨e₂, a₂, w₂, hq₂, .of_steps (harr _ (by simp [gotoIn, hf])) harr₂⟩
    · rename_i hf
      exact ⟨.goto l, a₁, w₁, hq, fun k' hk => harr k' (by simp [gotoIn, hf, hk])⟩
  | ret => exact ⟨_, a₁, w₁, hq, harr⟩
  | panic ch => exact ⟨_, a₁, w₁, hq, harr⟩
  | outgrown => exact ⟨_, a₁, w₁, hq, harr⟩
theorem Items.scope_code {c : Code} {Q : Exit → Act → World → Prop} {a : Act} {w : World} (h : Items P [.code c, .inScope c] Q a w) : Items P [.code (.scope c)] Q a w := by
  intro b k cs
  obtain ⟨e, a', w', hq, harr⟩ := h b k cs
  exact ⟨e, a', w', hq, .of_steps (.one step_scope) harr⟩
end
end Go.Av
set_option linter.unusedVariables false
set_option linter.unusedSectionVars false
set_option linter.unusedSimpArgs false
namespace Go.Av
open Go.RowKit
variable [Ground]

/-- Where a run stands behind it, as the world has it. -/
def Ends (P : Program) (B0 : Nat) (W0 : World) (g : G) (S : Ghost) (H H' : AHeap) (ex : AExit) (fr' : AFr) (e : Exit) (a' : Act) (w' : World) : Prop :=
  e = ex.to ∧ ∃ g', Ext g g' H.length H'.length ∧ Inv P B0 W0 g' (S.over H') w' ∧ FR g' fr' a'

def SItems (P : Program) (pre : List Item) (fr : AFr) (H : AHeap) (Q : AExit → AFr → AHeap → Prop) : Prop :=
  ∃ ex fr' H', Q ex fr' H' ∧ H.length ≤ H'.length ∧ ∀ (B0 : Nat) (W0 : World) (g : G) (S : Ghost) (w : World) (a : Act), Agree H S → Inv P B0 W0 g S w → FR g fr a → Free g H.length →
    Items P pre (Ends P B0 W0 g S H H' ex fr') a w

abbrev SCode (P : Program) (c : Code) (fr : AFr) (H : AHeap) (Q : AExit → AFr → AHeap → Prop) : Prop := SItems P [.code c] fr H Q

section
variable {P : Program} {pre : List Item} {fr : AFr} {H : AHeap} {Q : AExit → AFr → AHeap → Prop}

theorem SItems.mono {Q' : AExit → AFr → AHeap → Prop} (h : SItems P pre fr H Q) (hq : ∀ ex fr' H', Q ex fr' H' → Q' ex fr' H') : SItems P pre fr H Q' := by
  obtain ⟨ex, fr', H', q, hl, hs⟩ := h
  exact ⟨ex, fr', H', hq _ _ _ q, hl, hs⟩

theorem Ends.now {B0 : Nat} {W0 : World} {g : G} {S : Ghost} {ex : AExit} {a : Act} {w : World} (hA : Agree H S) (hI : Inv P B0 W0 g S w) (hF : FR g fr a) : Ends P B0 W0 g S H H ex fr ex.to a w :=
  ⟨rfl, g, .refl _ _ _, by rw [hA.over_self]; exact hI, hF⟩

theorem SItems.skip (h : Q .normal fr H) : SCode P .skip fr H Q :=
  ⟨.normal, fr, H, h, Nat.le_refl _, fun _ _ _ _ _ _ hA hI hF _ => wp_skip (.now (ex := .normal) hA hI hF)⟩
theorem SItems.label {l : Nat} (h : Q .normal fr H) : SCode P (.label l) fr H Q :=
  ⟨.normal, fr, H, h, Nat.le_refl _, fun _ _ _ _ _ _ hA hI hF _ => wp_label (.now (ex := .normal) hA hI hF)⟩
theorem SItems.exit {id : Nat} (h : Q (.exit id) fr H) : SCode P (.exit id) fr H Q :=
  ⟨.exit id, fr, H, h, Nat.le_refl _, fun _ _ _ _ _ _ hA hI hF _ => wp_exit (.now (ex := .exit id) hA hI hF)⟩
theorem SItems.goto {l : Nat} (h : Q (.goto l) fr H) : SCode P (.goto l) fr H Q :=
  ⟨.goto l, fr, H, h, Nat.le_refl _, fun _ _ _ _ _ _ hA hI hF _ => wp_goto (.now (ex := .goto l) hA hI hF)⟩
theorem SItems.ret (h : Q .ret fr H) : SCode P .ret fr H Q :=
  ⟨.ret, fr, H, h, Nat.le_refl _, fun _ _ _ _ _ _ hA hI hF _ => wp_ret (.now (ex := .ret) hA hI hF)⟩

theorem SItems.region {id : Nat} {ops : Array Oper} (h : SOps P ops ops.toList fr H fun fr' H' => Q .normal fr' H') : SCode P (.region id ops false) fr H Q := by
  obtain ⟨fr', H', hq, hl, hs⟩ := h
  refine ⟨.normal, fr', H', hq, hl, fun B0 W0 g S w a hA hI hF hfr => ?_⟩
  refine wp_region ?_
  have e := wpOps_eq_wpList (P := P) (ops := ops) (Q := Ends P B0 W0 g S H H' .normal fr') ops.toList 0 (fun j => by simp)
  have hr : List.range ops.size = List.range' 0 ops.toList.length := by rw [List.range_eq_range', Array.length_toList]
  rw [hr, e]
  exact hs B0 W0 g S w a _ hA hI hF hfr fun g' a' w' hx hI' hF' => ⟨rfl, g', hx, hI', hF'⟩

/-- Two runs one behind the other. -/
theorem Ends.trans {B0 : Nat} {W0 : World} {g g1 : G} {S : Ghost} {H1 H2 : AHeap} {ex : AExit} {fr2 : AFr} {e : Exit} {a : Act} {w : World} (hx : Ext g g1 H.length H1.length) (h1 : H.length ≤ H1.length) (h2 : H1.length ≤ H2.length)
    (h : Ends P B0 W0 g1 (S.over H1) H1 H2 ex fr2 e a w) : Ends P B0 W0 g S H H2 ex fr2 e a w := by
  obtain ⟨he, g2, hx2, hI, hF⟩ := h
  rw [Ghost.over_over h2] at hI
  exact ⟨he, g2, hx.trans hx2 h1 h2, hI, hF⟩

theorem SItems.seq {x y : Code} (h : SCode P x fr H fun ex fr1 H1 => match ex with | .normal => SCode P y fr1 H1 Q | ex => Q ex fr1 H1) : SCode P (.seq x y) fr H Q := by
  obtain ⟨ex, fr1, H1, hq, hl, hs⟩ := h
  cases ex with
  | normal =>
    obtain ⟨ex2, fr2, H2, hq2, hl2, hs2⟩ := hq
    refine ⟨ex2, fr2, H2, hq2, Nat.le_trans hl hl2, fun B0 W0 g S w a hA hI hF hfr => Items.seq ?_⟩
    refine (hs B0 W0 g S w a hA hI hF hfr).mono ?_
    rintro e a1 w1 ⟨rfl, g1, hx, hI1, hF1⟩
    exact (hs2 B0 W0 g1 (S.over H1) w1 a1 (Agree.over _ _) hI1 hF1 (hx.free hfr hl)).mono fun e a w h => h.trans hx hl hl2
  | exit id =>
    refine ⟨.exit id, fr1, H1, hq, hl, fun B0 W0 g S w a hA hI hF hfr => Items.seq ?_⟩
    refine (hs B0 W0 g S w a hA hI hF hfr).mono ?_
    rintro e a1 w1 ⟨rfl, h⟩
    exact ⟨rfl, h⟩
  | goto l =>
    refine ⟨.goto l, fr1, H1, hq, hl, fun B0 W0 g S w a hA hI hF hfr => Items.seq ?_⟩
    refine (hs B0 W0 g S w a hA hI hF hfr).mono ?_
    rintro e a1 w1 ⟨rfl, h⟩
    exact ⟨rfl, h⟩
  | ret =>
    refine ⟨.ret, fr1, H1, hq, hl, fun B0 W0 g S w a hA hI hF hfr => Items.seq ?_⟩
    refine (hs B0 W0 g S w a hA hI hF hfr).mono ?_
    rintro e a1 w1 ⟨rfl, h⟩
    exact ⟨rfl, h⟩

theorem SItems.cond_true {c : Operand} {x y : Code} (hc : aev fr c = .bool true) (h : SCode P x fr H Q) : SCode P (.cond c x y) fr H Q := by
  obtain ⟨ex, fr1, H1, hq, hl, hs⟩ := h
  refine ⟨ex, fr1, H1, hq, hl, fun B0 W0 g S w a hA hI hF hfr => wp_cond_true ?_ (hs B0 W0 g S w a hA hI hF hfr)⟩
  have := hF.eval c
  rw [hc] at this
  generalize a.eval c = v at this
  cases this
  rfl
theorem SItems.cond_false {c : Operand} {x y : Code} (hc : aev fr c = .bool false) (h : SCode P y fr H Q) : SCode P (.cond c x y) fr H Q := by
  obtain ⟨ex, fr1, H1, hq, hl, hs⟩ := h
  refine ⟨ex, fr1, H1, hq, hl, fun B0 W0 g S w a hA hI hF hfr => wp_cond_false ?_ (hs B0 W0 g S w a hA hI hF hfr)⟩
  have := hF.eval c
  rw [hc] at this
  generalize a.eval c = v at this
  cases this
  rfl
theorem SItems.cond {c : Operand} {x y : Code} {b : Bool} (hc : aev fr c = .bool b) (h : SCode P (if b then x else y) fr H Q) : SCode P (.cond c x y) fr H Q := by
  cases b
  · exact .cond_false hc h
  · exact .cond_true hc h

theorem SItems.block {id : Nat} {c : Code} (h : SCode P c fr H fun ex fr1 H1 => match ex with | .exit id' => if id' = id then Q .normal fr1 H1 else Q (.exit id') fr1 H1 | ex => Q ex fr1 H1) : SCode P (.block id c) fr H Q := by
  obtain ⟨ex, fr1, H1, hq, hl, hs⟩ := h
  cases ex with
  | exit id' =>
    simp only at hq
    split at hq
    · rename_i he
      refine ⟨.normal, fr1, H1, hq, hl, fun B0 W0 g S w a hA hI hF hfr => wp_block ?_⟩
      refine wp_mono (hs B0 W0 g S w a hA hI hF hfr) ?_
      rintro e a1 w1 ⟨rfl, h⟩
      show Exit.inBlock id _ (.exit id') a1 w1
      simp only [Exit.inBlock, he, if_true]
      exact ⟨rfl, h⟩
    · rename_i he
      refine ⟨.exit id', fr1, H1, hq, hl, fun B0 W0 g S w a hA hI hF hfr => wp_block ?_⟩
      refine wp_mono (hs B0 W0 g S w a hA hI hF hfr) ?_
      rintro e a1 w1 ⟨rfl, h⟩
      show Exit.inBlock id _ (.exit id') a1 w1
      simp only [Exit.inBlock, he, if_false]
      exact ⟨rfl, h⟩
  | normal =>
    refine ⟨.normal, fr1, H1, hq, hl, fun B0 W0 g S w a hA hI hF hfr => wp_block (wp_mono (hs B0 W0 g S w a hA hI hF hfr) ?_)⟩
    rintro e a1 w1 ⟨rfl, h⟩
    exact ⟨rfl, h⟩
  | goto l =>
    refine ⟨.goto l, fr1, H1, hq, hl, fun B0 W0 g S w a hA hI hF hfr => wp_block (wp_mono (hs B0 W0 g S w a hA hI hF hfr) ?_)⟩
    rintro e a1 w1 ⟨rfl, h⟩
    exact ⟨rfl, h⟩
  | ret =>
    refine ⟨.ret, fr1, H1, hq, hl, fun B0 W0 g S w a hA hI hF hfr => wp_block (wp_mono (hs B0 W0 g S w a hA hI hF hfr) ?_)⟩
    rintro e a1 w1 ⟨rfl, h⟩
    exact ⟨rfl, h⟩

/-- One round of a loop, and what comes behind it. -/
theorem SItems.loop_core {c : Code} (h : SCode P c fr H fun ex fr1 H1 => match ex with | .normal => SItems P [.inLoop c] fr1 H1 Q | ex => Q ex fr1 H1) :
    ∃ ex fr' H', Q ex fr' H' ∧ H.length ≤ H'.length ∧ ∀ (B0 : Nat) (W0 : World) (g : G) (S : Ghost) (w : World) (a : Act), Agree H S → Inv P B0 W0 g S w → FR g fr a → Free g H.length →
      Items P [.code c] (Exit.then (Items P [.inLoop c] (Ends P B0 W0 g S H H' ex fr')) (Ends P B0 W0 g S H H' ex fr')) a w := by
  obtain ⟨ex, fr1, H1, hq, hl, hs⟩ := h
  cases ex with
  | normal =>
    obtain ⟨ex2, fr2, H2, hq2, hl2, hs2⟩ := hq
    refine ⟨ex2, fr2, H2, hq2, Nat.le_trans hl hl2, fun B0 W0 g S w a hA hI hF hfr => ?_⟩
    refine (hs B0 W0 g S w a hA hI hF hfr).mono ?_
    rintro e a1 w1 ⟨rfl, g1, hx, hI1, hF1⟩
    exact (hs2 B0 W0 g1 (S.over H1) w1 a1 (Agree.over _ _) hI1 hF1 (hx.free hfr hl)).mono fun e a w h => h.trans hx hl hl2
  | exit id =>
    refine ⟨.exit id, fr1, H1, hq, hl, fun B0 W0 g S w a hA hI hF hfr => (hs B0 W0 g S w a hA hI hF hfr).mono ?_⟩
    rintro e a1 w1 ⟨rfl, h⟩
    exact ⟨rfl, h⟩
  | goto l =>
    refine ⟨.goto l, fr1, H1, hq, hl, fun B0 W0 g S w a hA hI hF hfr => (hs B0 W0 g S w a hA hI hF hfr).mono ?_⟩
    rintro e a1 w1 ⟨rfl, h⟩
    exact ⟨rfl, h⟩
  | ret =>
    refine ⟨.ret, fr1, H1, hq, hl, fun B0 W0 g S w a hA hI hF hfr => (hs B0 W0 g S w a hA hI hF hfr).mono ?_⟩
    rintro e a1 w1 ⟨rfl, h⟩
    exact ⟨rfl, h⟩
theorem SItems.loop {c : Code} (h : SCode P c fr H fun ex fr1 H1 => match ex with | .normal => SItems P [.inLoop c] fr1 H1 Q | ex => Q ex fr1 H1) : SCode P (.loop c) fr H Q := by
  obtain ⟨ex, fr', H', hq, hl, hs⟩ := SItems.loop_core h
  exact ⟨ex, fr', H', hq, hl, fun B0 W0 g S w a hA hI hF hfr => Items.loop_code (hs B0 W0 g S w a hA hI hF hfr)⟩
theorem SItems.inLoop {c : Code} (h : SCode P c fr H fun ex fr1 H1 => match ex with | .normal => SItems P [.inLoop c] fr1 H1 Q | ex => Q ex fr1 H1) : SItems P [.inLoop c] fr H Q := by
  obtain ⟨ex, fr', H', hq, hl, hs⟩ := SItems.loop_core h
  exact ⟨ex, fr', H', hq, hl, fun B0 W0 g S w a hA hI hF hfr => Items.loop_in (hs B0 W0 g S w a hA hI hF hfr)⟩
theorem SItems.scope_at {whole cur : Code} (h : SCode P cur fr H fun ex fr1 H1 => match ex with
    | .goto l => (match findLabel whole l with | some rest => SItems P [.code rest, .inScope whole] fr1 H1 Q | none => Q (.goto l) fr1 H1)
    | ex => Q ex fr1 H1) : SItems P [.code cur, .inScope whole] fr H Q := by
  obtain ⟨ex, fr1, H1, hq, hl, hs⟩ := h
  cases ex with
  | goto l =>
    simp only at hq
    cases hf : findLabel whole l with
    | some rest =>
      rw [hf] at hq
      obtain ⟨ex2, fr2, H2, hq2, hl2, hs2⟩ := hq
      refine ⟨ex2, fr2, H2, hq2, Nat.le_trans hl hl2, fun B0 W0 g S w a hA hI hF hfr => Items.scope ?_⟩
      refine (hs B0 W0 g S w a hA hI hF hfr).mono ?_
      rintro e a1 w1 ⟨rfl, g1, hx, hI1, hF1⟩
      show Exit.inScope P whole _ (.goto l) a1 w1
      simp only [Exit.inScope, hf]
      exact (hs2 B0 W0 g1 (S.over H1) w1 a1 (Agree.over _ _) hI1 hF1 (hx.free hfr hl)).mono fun e a w h => h.trans hx hl hl2
    | none =>
      rw [hf] at hq
      refine ⟨.goto l, fr1, H1, hq, hl, fun B0 W0 g S w a hA hI hF hfr => Items.scope ((hs B0 W0 g S w a hA hI hF hfr).mono ?_)⟩
      rintro e a1 w1 ⟨rfl, h⟩
      show Exit.inScope P whole _ (.goto l) a1 w1
      simp only [Exit.inScope, hf]
      exact ⟨rfl, h⟩
  | normal =>
    refine ⟨.normal, fr1, H1, hq, hl, fun B0 W0 g S w a hA hI hF hfr => Items.scope ((hs B0 W0 g S w a hA hI hF hfr).mono ?_)⟩
    rintro e a1 w1 ⟨rfl, h⟩
    exact ⟨rfl, h⟩
  | exit id =>
    refine ⟨.exit id, fr1, H1, hq, hl, fun B0 W0 g S w a hA hI hF hfr => Items.scope ((hs B0 W0 g S w a hA hI hF hfr).mono ?_)⟩
    rintro e a1 w1 ⟨rfl, h⟩
    exact ⟨rfl, h⟩
  | ret =>
    refine ⟨.ret, fr1, H1, hq, hl, fun B0 W0 g S w a hA hI hF hfr => Items.scope ((hs B0 W0 g S w a hA hI hF hfr).mono ?_)⟩
    rintro e a1 w1 ⟨rfl, h⟩
    exact ⟨rfl, h⟩
theorem SItems.scope {c : Code} (h : SItems P [.code c, .inScope c] fr H Q) : SCode P (.scope c) fr H Q := by
  obtain ⟨ex, fr', H', hq, hl, hs⟩ := h
  exact ⟨ex, fr', H', hq, hl, fun B0 W0 g S w a hA hI hF hfr => Items.scope_code (hs B0 W0 g S w a hA hI hF hfr)⟩

/-- Less is known of the frame. -/
theorem SItems.less {fr' : AFr} (h : SItems P pre fr' H Q) (hn : fr'.n ≤ fr.n) (hl : ∀ t x, alook t fr'.l = some x → alook t fr.l = some x) : SItems P pre fr H Q := by
  obtain ⟨ex, fr1, H1, hq, hl1, hs⟩ := h
  exact ⟨ex, fr1, H1, hq, hl1, fun B0 W0 g S w a hA hI hF hfr => hs B0 W0 g S w a hA hI (hF.less hn hl) hfr⟩
end
end Go.Av
set_option linter.unusedVariables false
set_option linter.unusedSectionVars false
set_option linter.unusedSimpArgs false
namespace Go.Av
open Go.RowKit
variable [Ground]

theorem alook_aargs {k t : Nat} {x : AV} : ∀ {args : List AV}, alook t (aargs k args) = some x → k ≤ t ∧ args[t - k]? = some x
  | [], h => by simp [aargs, alook] at h
  | y :: ys, h => by
    simp only [aargs, alook] at h
    split at h
    · rename_i e
      subst e
      injection h with h
      subst h
      simp
    · rename_i e
      obtain ⟨h1, h2⟩ := alook_aargs h
      refine ⟨by omega, ?_⟩
      have : t - k = (t - (k + 1)) + 1 := by omega
      rw [this]
      simpa using h2

/-- What a result variable reads as. -/
def resOf (tmps : Array Value) : ResultVar → Sem Value
  | .tmp t => pure (tmps.getD t undef)
  | .cell a t => do loadVar t (← asAddr (tmps.getD a undef))
theorem results_eq (fn : Func) (tmps : Array Value) : results fn tmps = (do let vs ← fn.results.mapM (resOf tmps); pure (if h : vs.size = 1 then vs[0] else .tuple vs)) := rfl

section
variable {P : Program} {E : Env}

theorem run_aresult (hE : EnvOK P E) {B0 : Nat} {W0 w : World} {g : G} {S : Ghost} {H : AHeap} {fr : AFr} {a : Act} {rv : ResultVar} {r : AV} (hA : Agree H S) (hI : Inv P B0 W0 g S w) (hF : FR g fr a) (h : aresult E fr H rv = some r) :
    ∃ v, (resOf a.tmps rv).run P w = .ok v w ∧ VR g r v := by
  cases rv with
  | tmp t => exact ⟨_, rfl, hF.2.1 t r h⟩
  | cell q t =>
    simp only [aresult] at h
    cases hq : alook q fr.l with
    | none => rw [hq] at h; cases h
    | some p =>
      rw [hq] at h
      simp only [Option.bind_some] at h
      have hp := hF.2.1 q p hq
      obtain ⟨v, hv⟩ : ∃ v, v = a.tmps.getD q undef := ⟨_, rfl⟩
      rw [← hv] at hp
      obtain ⟨u, hu, hr⟩ := aload_ok hE h hp hA hI
      refine ⟨u, ?_, hr⟩
      have hs : ∃ ad, v = .pointer (some ad) := by
        unfold aload at h
        split at h
        · cases hp; exact ⟨_, rfl⟩
        · cases hp; exact ⟨_, rfl⟩
        · cases hp; exact ⟨_, rfl⟩
        · cases h
      obtain ⟨ad, rfl⟩ := hs
      have hu' : (loadVar t ad).run P w = .ok u w := by simpa [Instr.loadAt, Instr.sureAddr] using hu
      simp only [resOf, ← hv, asAddr, Sem.run_bind, Sem.run_pure, Result.andThen_ok]
      exact hu'

theorem run_aresults (hE : EnvOK P E) {B0 : Nat} {W0 w : World} {g : G} {S : Ghost} {H : AHeap} {fr : AFr} {a : Act} (hA : Agree H S) (hI : Inv P B0 W0 g S w) (hF : FR g fr a) :
    ∀ {rs : List ResultVar} {xs : List AV}, rs.mapM (aresult E fr H) = some xs →
    ∃ vs, (rs.mapM (resOf a.tmps)).run P w = .ok vs w ∧ VRs g xs vs
  | [], xs, h => by
    simp at h
    subst h
    exact ⟨[], by simp, .nil⟩
  | rv :: rs, xs, h => by
    simp only [List.mapM_cons, Option.bind_eq_bind, Option.pure_def] at h
    cases h1 : aresult E fr H rv with
    | none => rw [h1] at h; cases h
    | some x =>
      rw [h1] at h
      simp only [Option.bind_some] at h
      cases h2 : rs.mapM (aresult E fr H) with
      | none => rw [h2] at h; cases h
      | some ys =>
        rw [h2] at h
        simp only [Option.bind_some, Option.some.injEq] at h
        subst h
        obtain ⟨v, hv, hr⟩ := run_aresult hE hA hI hF h1
        obtain ⟨vs, hvs, hrs⟩ := run_aresults hE hA hI hF h2
        refine ⟨v :: vs, ?_, .cons hr hrs⟩
        rw [List.mapM_cons, Sem.run_bind]
        rw [hv]
        simp only [Result.andThen_ok, Sem.run_bind]
        rw [hvs]
        rfl

theorem results_ok (hE : EnvOK P E) {B0 : Nat} {W0 w : World} {g : G} {S : Ghost} {H : AHeap} {fr : AFr} {a : Act} {fn : Func} {r : AV} (hA : Agree H S) (hI : Inv P B0 W0 g S w) (hF : FR g fr a) (h : aresults E fr H fn.results.toList = some r) :
    ∃ v, (results fn a.tmps).run P w = .ok v w ∧ VR g r v := by
  have key : ∀ xs, fn.results.toList.mapM (aresult E fr H) = some xs → ∃ vs, (results fn a.tmps).run P w = .ok (if h : vs.length = 1 then vs[0] else .tuple ⟨vs⟩) w ∧ VRs g xs vs := by
    intro xs hx
    obtain ⟨vs, hvs, hrs⟩ := run_aresults hE hA hI hF hx
    refine ⟨vs, ?_, hrs⟩
    rw [results_eq, Array.mapM_eq_mapM_toList]
    simp only [Sem.run_bind, Sem.run_map, hvs, Result.andThen_ok, Sem.run_pure]
    rfl
  unfold aresults at h
  split at h
  · rename_i rv hrv
    have : fn.results.toList.mapM (aresult E fr H) = some [r] := by rw [hrv]; simp [h]
    obtain ⟨vs, h1, h2⟩ := key _ this
    cases h2 with
    | cons h3 h4 => cases h4; exact ⟨_, h1, h3⟩
  · rename_i hne
    obtain ⟨xs, hx, he⟩ := map_some h
    subst he
    obtain ⟨vs, h1, h2⟩ := key _ hx
    have hlen : vs.length ≠ 1 := by
      intro hl
      rw [h2.length] at hl
      have hl2 : fn.results.toList.length = 1 := by
        have : xs.length = fn.results.toList.length := by
          clear h1 h2 hne h hl key
          generalize fn.results.toList = rs at hx
          induction rs generalizing xs with
          | nil => simp at hx; subst hx; rfl
          | cons rv rs ih =>
            simp only [List.mapM_cons, Option.bind_eq_bind, Option.pure_def] at hx
            cases q1 : aresult E fr H rv with
            | none => rw [q1] at hx; cases hx
            | some x =>
              rw [q1] at hx
              simp only [Option.bind_some] at hx
              cases q2 : rs.mapM (aresult E fr H) with
              | none => rw [q2] at hx; cases hx
              | some ys =>
                rw [q2] at hx
                simp only [Option.bind_some, Option.some.injEq] at hx
                subst hx
                simp [ih ys q2]
        omega
      match hrs : fn.results.toList, hl2 with
      | [rv], _ => exact hne rv hrs
    rw [dif_neg hlen] at h1
    exact ⟨_, h1, .tuple h2⟩

/-- A contract out of a body. -/
theorem AC.body (hE : EnvOK P E) {k : FuncId} {c : Code} {n : Nat} {rs : List ResultVar} (hfn : FnAt P k c n rs) {args : List AV} {H H' : AHeap} {r : AV} {W : List Nat}
    (hW : ∀ id o, H[id]? = some o → id ∉ W → H'[id]? = some o)
    (h : SCode P c ⟨n, aargs 0 args⟩ H fun ex fr' H1 => (ex = .normal ∨ ex = .ret) ∧ H1 = H' ∧ aresults E fr' H1 rs = some r) : AC P k args H r H' W := by
  obtain ⟨ex, fr', H1, ⟨hex, rfl, hr⟩, hl, hs⟩ := h
  refine ⟨hl, hW, fun B0 W0 g S w vs hA hI hv hfr => ?_⟩
  obtain ⟨fn, h1, h2, h3, h4, _⟩ := hfn
  refine calls_of_wp h1 h2 ?_
  have hF : FR g ⟨n, aargs 0 args⟩ { tmps := (⟨vs⟩ : Array Value) ++ Array.replicate (fn.ntmps - (⟨vs⟩ : Array Value).size) undef, defers := [] } := by
    refine ⟨?_, fun t x hx => ?_, rfl, hI.glob⟩
    · simp [h3]; omega
    · obtain ⟨_, hx⟩ := alook_aargs hx
      simp only [Nat.sub_zero] at hx
      obtain ⟨u, hu, hr⟩ := hv.at hx
      have hlt : t < vs.length := (List.getElem?_eq_some_iff.1 hu).1
      have : ((⟨vs⟩ : Array Value) ++ Array.replicate (fn.ntmps - (⟨vs⟩ : Array Value).size) undef)[t]? = some u := by
        rw [Array.getElem?_append_left (by simpa using hlt)]
        simpa using hu
      rw [Array.getD_eq_getD_getElem?, this]
      exact hr
  refine wp_mono (hs B0 W0 g S w _ hA hI hF hfr) ?_
  rintro e a' w' ⟨rfl, g', hx, hI', hF'⟩
  rw [← h4] at hr
  obtain ⟨v, hv', hr'⟩ := results_ok hE (Agree.over H1 S) hI' hF' hr
  rcases hex with rfl | rfl
  · exact ⟨hF'.2.2.1, v, hv', v, g', rfl, hr', hx, hI'⟩
  · exact ⟨hF'.2.2.1, v, hv', v, g', rfl, hr', hx, hI'⟩
end
end Go.Av
set_option linter.unusedVariables false
set_option linter.unusedSectionVars false
set_option linter.unusedSimpArgs false
namespace Go.Av
open Go.RowKit
variable [Ground]

def Tok.out (lo hi : Nat) : Tok → Bool
  | .tip t _ => !(decide (lo ≤ t) && decide (t < hi))
  | _ => true
mutual
/-- Does a value speak of no object from lo to hi? -/
def AV.out (lo hi : Nat) : AV → Bool
  | .vptr id _ => !(decide (lo ≤ id) && decide (id < hi))
  | .map id => !(decide (lo ≤ id) && decide (id < hi))
  | .cptr cs => AV.outs lo hi cs
  | .slice xs tok => tok.out lo hi && AV.outs lo hi xs
  | .sref t _ _ _ => !(decide (lo ≤ t) && decide (t < hi))
  | .eptr t _ _ => !(decide (lo ≤ t) && decide (t < hi))
  | .func _ a b => AV.outs lo hi a && AV.outs lo hi b
  | .iface _ v => AV.out lo hi v
  | .agg cs => AV.outs lo hi cs
  | .tuple cs => AV.outs lo hi cs
  | _ => true
def AV.outs (lo hi : Nat) : List AV → Bool
  | [] => true
  | x :: xs => AV.out lo hi x && AV.outs lo hi xs
end
mutual
theorem AV.low_out {n m : Nat} : ∀ {x : AV}, x.low n = true → x.out n m = true
  | .vptr id _, h => by simp only [AV.low, decide_eq_true_eq] at h; simp [AV.out]; omega
  | .map id, h => by simp only [AV.low, decide_eq_true_eq] at h; simp [AV.out]; omega
  | .sref id _ _ _, h => by simp only [AV.low, decide_eq_true_eq] at h; simp [AV.out]; omega
  | .eptr id _ _, h => by simp only [AV.low, decide_eq_true_eq] at h; simp [AV.out]; omega
  | .cptr cs, h => by simp only [AV.low] at h; simp only [AV.out]; exact AV.lows_outs h
  | .slice xs tok, h => by
    simp only [AV.low, Bool.and_eq_true] at h
    simp only [AV.out, Bool.and_eq_true]
    refine ⟨?_, AV.lows_outs h.2⟩
    cases tok with
    | tip t p => have := h.1; simp only [decide_eq_true_eq] at this; simp [Tok.out]; omega
    | _ => rfl
  | .func _ a b, h => by simp only [AV.low, Bool.and_eq_true] at h; simp only [AV.out, Bool.and_eq_true]; exact ⟨AV.lows_outs h.1, AV.lows_outs h.2⟩
  | .iface _ v, h => by simp only [AV.low] at h; simp only [AV.out]; exact AV.low_out h
  | .agg cs, h => by simp only [AV.low] at h; simp only [AV.out]; exact AV.lows_outs h
  | .tuple cs, h => by simp only [AV.low] at h; simp only [AV.out]; exact AV.lows_outs h
  | .top, _ => rfl
  | .bool _, _ => rfl
  | .int _ _, _ => rfl
  | .flt _ _, _ => rfl
  | .cplx _ _ _, _ => rfl
  | .str _, _ => rfl
  | .nilptr, _ => rfl
  | .nilmap, _ => rfl
  | .nilFunc, _ => rfl
  | .nilIface, _ => rfl
theorem AV.lows_outs {n m : Nat} : ∀ {xs : List AV}, AV.lows n xs = true → AV.outs n m xs = true
  | [], _ => rfl
  | x :: xs, h => by simp only [AV.lows, Bool.and_eq_true] at h; simp only [AV.outs, Bool.and_eq_true]; exact ⟨AV.low_out h.1, AV.lows_outs h.2⟩
end

theorem outB {lo hi id : Nat} (h : ¬ (lo ≤ id ∧ id < hi)) : (!(decide (lo ≤ id) && decide (id < hi))) = true := by simp; omega
theorem outB' {lo hi id : Nat} (h : (!(decide (lo ≤ id) && decide (id < hi))) = true) : ¬ (lo ≤ id ∧ id < hi) := by simp at h; omega

theorem TokOK.out {g : G} {lo hi : Nat} (hf : Fresh g lo hi) {base : Option Addr} {len cap : Nat} {tok : Tok} (h : TokOK g base len cap tok) : tok.out lo hi = true := by
  cases tok with
  | tip t p =>
    obtain ⟨_, _, b, hb, _⟩ := h
    refine outB fun hc => ?_
    rw [(hf t hc.1 hc.2).2] at hb
    cases hb
  | _ => rfl
mutual
theorem VR.out {g : G} {lo hi : Nat} (hf : Fresh g lo hi) : ∀ {x : AV} {v : Value}, VR g x v → x.out lo hi = true
  | _, _, .top v => rfl
  | _, _, .bool b => rfl
  | _, _, .int k n => rfl
  | _, _, .flt k n => rfl
  | _, _, .cplx k m n => rfl
  | _, _, .str l => rfl
  | _, _, .nilptr => rfl
  | _, _, .vptr (id := id) h => by
    refine outB fun hc => ?_
    rw [(hf id hc.1 hc.2).1] at h
    cases h
  | _, _, .cptr h hm => by simp only [AV.out]; exact VRs.out hf h
  | _, _, .slice0 ht => by simp only [AV.out, Bool.and_eq_true]; exact ⟨ht.out hf, rfl⟩
  | _, _, .slice (xs := xs) size hp hl hs h hm ht => by
    simp only [AV.out, Bool.and_eq_true]
    refine ⟨ht.out hf, ?_⟩
    have := VRs.out hf h
    clear h hs hl ht
    induction xs with
    | nil => rfl
    | cons x xs ih =>
      rw [flat_cons] at this
      have happ : ∀ {a b : List AV}, AV.outs lo hi (a ++ b) = true → AV.outs lo hi a = true ∧ AV.outs lo hi b = true := by
        intro a b
        induction a with
        | nil => intro h; exact ⟨rfl, h⟩
        | cons y a ih =>
          intro h
          simp only [List.cons_append, AV.outs, Bool.and_eq_true] at h ⊢
          exact ⟨⟨h.1, (ih h.2).1⟩, (ih h.2).2⟩
      obtain ⟨h1, h2⟩ := happ this
      simp only [AV.outs, Bool.and_eq_true]
      refine ⟨?_, ih h2⟩
      cases x <;> simp_all [AV.cells, AV.outs, AV.out]
  | _, _, .nilmap => rfl
  | _, _, .map (id := id) h => by
    refine outB fun hc => ?_
    rw [(hf id hc.1 hc.2).1] at h
    cases h
  | _, _, .sref (t := t) h _ _ => by
    refine outB fun hc => ?_
    rw [(hf t hc.1 hc.2).2] at h
    cases h
  | _, _, .eptr (t := t) h => by
    refine outB fun hc => ?_
    rw [(hf t hc.1 hc.2).2] at h
    cases h
  | _, _, .func h1 h2 => by simp only [AV.out, Bool.and_eq_true]; exact ⟨VRs.out hf h1, VRs.out hf h2⟩
  | _, _, .nilFunc => rfl
  | _, _, .iface h => by simp only [AV.out]; exact VR.out hf h
  | _, _, .nilIface => rfl
  | _, _, .agg h => by simp only [AV.out]; exact VRs.out hf h
  | _, _, .tuple h => by simp only [AV.out]; exact VRs.out hf h
theorem VRs.out {g : G} {lo hi : Nat} (hf : Fresh g lo hi) : ∀ {xs : List AV} {vs : List Value}, VRs g xs vs → AV.outs lo hi xs = true
  | _, _, .nil => rfl
  | _, _, .cons h hs => by simp only [AV.outs, Bool.and_eq_true]; exact ⟨VR.out hf h, VRs.out hf hs⟩
end

/-- What is known, but of the objects from lo to hi. -/
def G.drop (g : G) (lo hi : Nat) : G :=
  { φ := fun id => if lo ≤ id ∧ id < hi then none else g.φ id, im := g.im, lb := fun t p => if lo ≤ t ∧ t < hi then none else g.lb t p }

theorem outs_flat {lo hi : Nat} {xs : List AV} (h : AV.outs lo hi xs = true) : AV.outs lo hi (flat xs) = true := by
  have happ : ∀ {a b : List AV}, AV.outs lo hi a = true → AV.outs lo hi b = true → AV.outs lo hi (a ++ b) = true := by
    intro a b
    induction a with
    | nil => intro _ h; exact h
    | cons y a ih =>
      intro h1 h2
      simp only [List.cons_append, AV.outs, Bool.and_eq_true] at h1 ⊢
      exact ⟨h1.1, ih h1.2 h2⟩
  induction xs with
  | nil => rfl
  | cons x xs ih =>
    simp only [AV.outs, Bool.and_eq_true] at h
    rw [flat_cons]
    refine happ ?_ (ih h.2)
    cases x <;> simp_all [AV.cells, AV.outs, AV.out]
theorem TokOK.dropG {g : G} {lo hi : Nat} {base : Option Addr} {len cap : Nat} {tok : Tok} (h : TokOK g base len cap tok) (ho : tok.out lo hi = true) : TokOK (g.drop lo hi) base len cap tok := by
  cases tok with
  | tip t p =>
    obtain ⟨h1, h2, b, hb, h3⟩ := h
    exact ⟨h1, h2, b, by simp only [G.drop]; rw [if_neg (outB' ho)]; exact hb, h3⟩
  | _ => exact h
mutual
theorem VR.dropG {g : G} {lo hi : Nat} : ∀ {x : AV} {v : Value}, VR g x v → x.out lo hi = true → VR (g.drop lo hi) x v
  | _, _, .top v, _ => .top v
  | _, _, .bool b, _ => .bool b
  | _, _, .int k n, _ => .int k n
  | _, _, .flt k n, _ => .flt k n
  | _, _, .cplx k m n, _ => .cplx k m n
  | _, _, .str l, _ => .str l
  | _, _, .nilptr, _ => .nilptr
  | _, _, .vptr h, ho => .vptr (by simp only [G.drop]; rw [if_neg (outB' ho)]; exact h)
  | _, _, .cptr h hm, ho => .cptr (VRs.dropG h (by simpa only [AV.out] using ho)) hm
  | _, _, .slice0 ht, ho => by simp only [AV.out, Bool.and_eq_true] at ho; exact .slice0 (ht.dropG ho.1)
  | _, _, .slice size hp hl hs h hm ht, ho => by
    simp only [AV.out, Bool.and_eq_true] at ho
    exact .slice size hp hl hs (VRs.dropG h (outs_flat ho.2)) hm (ht.dropG ho.1)
  | _, _, .nilmap, _ => .nilmap
  | _, _, .map h, ho => .map (by simp only [G.drop]; rw [if_neg (outB' ho)]; exact h)
  | _, _, .sref h hl hc, ho => .sref (by simp only [G.drop]; rw [if_neg (outB' ho)]; exact h) hl hc
  | _, _, .eptr h, ho => .eptr (by simp only [G.drop]; rw [if_neg (outB' ho)]; exact h)
  | _, _, .func h1 h2, ho => by simp only [AV.out, Bool.and_eq_true] at ho; exact .func (VRs.dropG h1 ho.1) (VRs.dropG h2 ho.2)
  | _, _, .nilFunc, _ => .nilFunc
  | _, _, .iface h, ho => .iface (VR.dropG h (by simpa only [AV.out] using ho))
  | _, _, .nilIface, _ => .nilIface
  | _, _, .agg h, ho => .agg (VRs.dropG h (by simpa only [AV.out] using ho))
  | _, _, .tuple h, ho => .tuple (VRs.dropG h (by simpa only [AV.out] using ho))
theorem VRs.dropG {g : G} {lo hi : Nat} : ∀ {xs : List AV} {vs : List Value}, VRs g xs vs → AV.outs lo hi xs = true → VRs (g.drop lo hi) xs vs
  | _, _, .nil, _ => .nil
  | _, _, .cons h hs, ho => by simp only [AV.outs, Bool.and_eq_true] at ho; exact .cons (VR.dropG h ho.1) (VRs.dropG hs ho.2)
end

theorem AV.lows_mono_map {n m : Nat} : ∀ {es : List (AV × AV)}, (es.all fun p => p.1.low n && p.2.low n) = true → AV.outs n m (es.map (·.1)) = true ∧ AV.outs n m (es.map (·.2)) = true
  | [], _ => ⟨rfl, rfl⟩
  | (a, b) :: es, h => by
    simp only [List.all_cons, Bool.and_eq_true] at h
    obtain ⟨h1, h2⟩ := AV.lows_mono_map (m := m) h.2
    simp only [List.map_cons, AV.outs, Bool.and_eq_true]
    exact ⟨⟨AV.low_out h.1.1, h1⟩, AV.low_out h.1.2, h2⟩
/-- Does an object speak of no object from lo to hi? -/
def AObj.outO (lo hi : Nat) : AObj → Bool
  | .var cs => AV.outs lo hi cs
  | .row _ _ cs => AV.outs lo hi cs
  | .map es => AV.outs lo hi (es.map (·.1)) && AV.outs lo hi (es.map (·.2))
  | _ => true
theorem AObj.low_out {n m : Nat} {o : AObj} (h : o.low n = true) : o.outO n m = true := by
  cases o with
  | var cs => exact AV.lows_outs h
  | row e v cs => exact AV.lows_outs h
  | map es =>
    obtain ⟨h1, h2⟩ := AV.lows_mono_map (m := m) h
    simp [AObj.outO, h1, h2]
  | lin e p => rfl
  | dead v => rfl
theorem ObjAt.out {g : G} {lo hi : Nat} (hf : Fresh g lo hi) {w : World} {b : Nat} {o : AObj} (h : ObjAt g w b o) : o.outO lo hi = true := by
  cases o with
  | var cs => obtain ⟨_, _, _, h⟩ := h; exact VRs.out hf h
  | map es => obtain ⟨_, _, h1, h2, _⟩ := h; simp only [AObj.outO, Bool.and_eq_true]; exact ⟨VRs.out hf h1, VRs.out hf h2⟩
  | row e v cs => cases h
  | lin e p => rfl
  | dead v => rfl
theorem ObjAt.dropG {g : G} {lo hi : Nat} {w : World} {b : Nat} {o : AObj} (h : ObjAt g w b o) (ho : o.outO lo hi = true) : ObjAt (g.drop lo hi) w b o := by
  cases o with
  | var cs => obtain ⟨vs, e, hh, h⟩ := h; exact ⟨vs, e, hh, VRs.dropG h ho⟩
  | map es =>
    obtain ⟨ents, hh, h1, h2, h3⟩ := h
    simp only [AObj.outO, Bool.and_eq_true] at ho
    exact ⟨ents, hh, VRs.dropG h1 ho.1, VRs.dropG h2 ho.2, h3⟩
  | row e v cs => cases h
  | lin e p => cases h
  | dead v => cases h

section
variable {P : Program}
/-- What is new is forgotten: the result does not speak of it, nor does what has been written. -/
theorem AC.trim {f : FuncId} {args : List AV} {H H1 H' : AHeap} {r : AV} {W : List Nat} (h : AC P f args H r H1 W) (hr : r.low H.length = true) (hlen : H'.length = H.length) (hsame : ∀ (id : Nat) (o : AObj), H'[id]? = some o → H1[id]? = some o)
    (hlow : ∀ (id : Nat) (o : AObj), H'[id]? = some o → id ∈ W → o.low H.length = true) : AC P f args H r H' W := by
  obtain ⟨hl, hW, h⟩ := h
  have hat : ∀ (id : Nat) (o : AObj), id < H.length → H1[id]? = some o → H'[id]? = some o := by
    intro id o hid ho
    have h2 : H'[id]? = some (H'[id]'(by omega)) := List.getElem?_eq_getElem (by omega)
    rw [hsame _ _ h2] at ho
    rw [h2, ho]
  refine ⟨by omega, fun id o ho hn => hat id o (List.getElem?_eq_some_iff.1 ho).1 (hW id o ho hn), fun B0 W0 g S w vs hA hI hv hfr => ?_⟩
  refine Calls.mono (h B0 W0 g S w vs hA hI hv hfr) ?_
  rintro e w' ⟨v, g', rfl, hvr, hx, hI'⟩
  have hfree' := hx.free hfr hl
  have hrange : ∀ id, Unused g' id ∨ id < H1.length := fun id => by
    rcases Nat.lt_or_ge id H1.length with h1 | h1
    · exact .inr h1
    · exact .inl (hfree' id h1)
  have hin : ∀ id, ¬ (H.length ≤ id ∧ id < H1.length) → ¬ Unused g' id → id < H.length := by
    intro id h1 h2
    rcases hrange id with h3 | h3
    · exact absurd h3 h2
    · omega
  have hS : ∀ id, id < H.length → (S.over H') id = (S.over H1) id ∧ ∃ o, H1[id]? = some o ∧ (S.over H1) id = some o := by
    intro id hid
    have h1 : H1[id]? = some (H1[id]'(by omega)) := List.getElem?_eq_getElem (by omega)
    have h2 := hat id _ hid h1
    refine ⟨by simp only [Ghost.over, h1, h2], _, h1, by simp only [Ghost.over, h1]⟩
  have hphi : ∀ id b, (g'.drop H.length H1.length).φ id = some b → id < H.length ∧ g'.φ id = some b := by
    intro id b hb
    simp only [G.drop] at hb
    split at hb
    · cases hb
    · rename_i hn
      exact ⟨hin id hn (fun hu => by rw [hu.1] at hb; cases hb), hb⟩
  have hlb : ∀ t p x, (g'.drop H.length H1.length).lb t p = some x → t < H.length ∧ g'.lb t p = some x := by
    intro t p x hb
    simp only [G.drop] at hb
    split at hb
    · cases hb
    · rename_i hn
      exact ⟨hin t hn (fun hu => by rw [hu.2] at hb; cases hb), hb⟩
  have hkeepφ : ∀ id, id < H.length → (g'.drop H.length H1.length).φ id = g'.φ id := by
    intro id hid
    simp only [G.drop]
    rw [if_neg (by omega)]
  have hkeeplb : ∀ t p, t < H.length → (g'.drop H.length H1.length).lb t p = g'.lb t p := by
    intro t p hid
    simp only [G.drop]
    rw [if_neg (by omega)]
  refine ⟨v, g'.drop H.length H1.length, rfl, hvr.dropG (AV.low_out hr), ⟨⟨fun id b hb => ?_, fun b o u hb => hx.1.2.1 b o u hb, fun t p x hb => ?_⟩, fun id hu _ => ?_⟩, ?_⟩
  · have hid : id < H.length := by
      rcases Nat.lt_or_ge id H.length with h1 | h1
      · exact h1
      · rw [(hfr id h1).1] at hb; cases hb
    rw [hkeepφ id hid]
    exact hx.1.1 id b hb
  · have hid : t < H.length := by
      rcases Nat.lt_or_ge t H.length with h1 | h1
      · exact h1
      · rw [(hfr t h1).2] at hb; cases hb
    rw [hkeeplb t p hid]
    exact hx.1.2.2 t p x hb
  · by_cases hc : H.length ≤ id ∧ id < H1.length
    · exact ⟨by simp [G.drop, hc], fun p => by simp [G.drop, hc]⟩
    · have := hx.2 id hu hc
      exact ⟨by simp only [G.drop]; rw [if_neg hc]; exact this.1, fun p => by simp only [G.drop]; rw [if_neg hc]; exact this.2 p⟩
  · -- what an object that is kept is made of speaks of nothing that is dropped
    have kept : ∀ (id : Nat) (o : AObj), id < H.length → (S.over H1) id = some o → ¬ Unused g' id → (id ∈ W ∧ o.low H.length = true) ∨ (S id = some o ∧ ¬ Unused g id) := by
      intro id o hid hso hu
      obtain ⟨hs1, o', ho, hs2⟩ := hS id hid
      rw [hs2] at hso
      injection hso with hso
      subst hso
      by_cases hw : id ∈ W
      · exact .inl ⟨hw, hlow id _ (hat id _ hid ho) hw⟩
      · have hH : H[id]? = some (H[id]'hid) := List.getElem?_eq_getElem hid
        have h6 := hW id _ hH hw
        rw [ho] at h6
        injection h6 with h6
        have hSid := hA id _ hH
        rw [← h6] at hSid
        exact .inr ⟨hSid, fun hun => hu (hx.2 id hun (by omega))⟩
    refine ⟨hI'.below, hI'.base, hI'.im, ?_, ?_, ?_, ?_, ?_, fun n x hx => (hI'.glob n x hx).dropG ((hI.glob n x hx).out (hfr.fresh _))⟩
    · intro id b hb
      obtain ⟨hid, hb'⟩ := hphi id b hb
      obtain ⟨h1, h2, ob, h3, h4⟩ := hI'.phi id b hb'
      obtain ⟨hs1, _⟩ := hS id hid
      refine ⟨h1, h2, ob, by rw [hs1]; exact h3, ?_⟩
      have hout : ob.outO H.length H1.length = true := by
        rcases kept id ob hid h3 (fun hu => by rw [hu.1] at hb'; cases hb') with ⟨_, hl⟩ | ⟨hs, hu⟩
        · exact AObj.low_out hl
        · have : ∃ b0, g.φ id = some b0 := by
            cases hq : g.φ id with
            | some b0 => exact ⟨b0, rfl⟩
            | none =>
              exfalso
              refine hu ⟨hq, fun p => ?_⟩
              cases hp : g.lb id p with
              | none => rfl
              | some x =>
                obtain ⟨b1, c1⟩ := x
                obtain ⟨o2, q, h7, h8, _⟩ := hI.lb _ _ _ _ hp
                rw [hs] at h7
                injection h7 with h7
                subst h7
                rw [h4.ver] at h8
                cases h8
          obtain ⟨b0, hb0⟩ := this
          obtain ⟨_, _, ob', h7, h8⟩ := hI.phi id b0 hb0
          rw [hs] at h7
          injection h7 with h7
          subst h7
          exact h8.out (hfr.fresh _)
      exact h4.dropG hout
    · intro t e' p b c hs hl'
      obtain ⟨hid, hl2⟩ := hlb t p _ hl'
      obtain ⟨hs1, _⟩ := hS t hid
      rw [hs1] at hs
      exact hI'.lin t e' p b c hs hl2
    · intro t e' v' cs b c hs hl'
      obtain ⟨hid, hl2⟩ := hlb t v' _ hl'
      obtain ⟨hs1, _⟩ := hS t hid
      rw [hs1] at hs
      obtain ⟨h1, h2, h3, cur, i, h4, h5, h6, h7, h8⟩ := hI'.row t e' v' cs b c hs hl2
      refine ⟨h1, h2, h3, cur, i, h4, h5, h6, h7, VRs.dropG h8 ?_⟩
      rcases kept t _ hid hs (fun hu => by rw [hu.2] at hl2; cases hl2) with ⟨_, hl⟩ | ⟨hs0, hu⟩
      · exact AV.lows_outs hl
      · have : ∃ p b0 c0, g.lb t p = some (b0, c0) := by
          apply Classical.byContradiction
          intro hn
          refine hu ⟨?_, fun p => ?_⟩
          · cases hq : g.φ t with
            | none => rfl
            | some b0 =>
              obtain ⟨_, _, ob', h9, h10⟩ := hI.phi t b0 hq
              rw [hs0] at h9
              injection h9 with h9
              subst h9
              cases h10
          · cases hp : g.lb t p with
            | none => rfl
            | some x => exact absurd ⟨p, x.1, x.2, hp⟩ hn
        obtain ⟨p, b0, c0, hp⟩ := this
        obtain ⟨o2, q, h9, h10, _, h11⟩ := hI.lb _ _ _ _ hp
        rw [hs0] at h9
        injection h9 with h9
        subst h9
        injection h10 with h10
        subst h10
        obtain ⟨⟨b2, c2⟩, h12⟩ := Option.isSome_iff_exists.1 h11
        obtain ⟨_, _, _, _, _, _, _, _, _, h13⟩ := hI.row _ _ _ _ _ _ hs0 h12
        exact VRs.out (hfr.fresh _) h13
    · intro t p b c hl'
      obtain ⟨hid, hl2⟩ := hlb t p _ hl'
      obtain ⟨hs1, _⟩ := hS t hid
      obtain ⟨o2, q, h1, h2, h2', h3⟩ := hI'.lb t p b c hl2
      exact ⟨o2, q, by rw [hs1]; exact h1, h2, h2', by rw [hkeeplb t q hid]; exact h3⟩
    · intro id id' b h1 h2
      have key : ∀ i, blkOf (g'.drop H.length H1.length) (S.over H') i = some b → i < H.length ∧ blkOf g' (S.over H1) i = some b := by
        intro i hi
        have hilt : i < H.length := by
          rcases blk_cases hi with ⟨_, _, h1⟩ | ⟨e, p, c, hs, hl⟩ | ⟨e, v, cs, c, hs, hl⟩
          · exact (hphi i b h1).1
          · exact (hlb i p _ hl).1
          · exact (hlb i v _ hl).1
        refine ⟨hilt, ?_⟩
        obtain ⟨hs1, _⟩ := hS i hilt
        unfold blkOf at hi ⊢
        rw [hs1] at hi
        rw [hkeepφ i hilt] at hi
        simp only [hkeeplb i _ hilt] at hi
        exact hi
      obtain ⟨_, k1⟩ := key id h1
      obtain ⟨_, k2⟩ := key id' h2
      exact hI'.inj id id' b k1 k2
end
end Go.Av
set_option linter.unusedVariables false
set_option linter.unusedSectionVars false
set_option linter.unusedSimpArgs false
namespace Go.Av
open Go.RowKit
variable [Ground]

/-- A function and what a call of it comes to. -/
structure Con (P : Program) (k : FuncId) (args : List AV) (H : AHeap) (r : AV) (H' : AHeap) (W : List Nat) : Prop where
  fn : ∃ c n rs, FnAt P k c n rs
  ac : AC P k args H r H' W

/-- Which function an operation calls, with what. -/
def acallee (fr : AFr) (op : Op) : Option (Option (FuncId × List AV)) :=
  match op with
  | .call c => match c.callee with
    | .value f => match aev fr f with
      | .func (.func k) first cap => some (some (k, first ++ c.args.toList.map (aev fr) ++ cap))
      | _ => none
    | _ => some none
  | _ => some none

def wops (P : Program) (E : Env) (all : List Oper) : List Oper → AFr → AHeap → (AFr → AHeap → Prop) → Prop
  | [], fr, H, Q => Q fr H
  | o :: rest, fr, H, Q =>
    match awanted all fr o with
    | some true => match acallee fr o.op with
      | some none => match alocal E fr H o.op with
        | some (r, H') => wops P E all rest (aput fr o.dst r) H' Q
        | none => False
      | some (some (k, args)) => ∃ r H' W, Con P k args H r H' W ∧ wops P E all rest (aput fr o.dst r) H' Q
      | none => False
    | some false => wops P E all rest (aput fr o.dst aundef) H Q
    | none => False

section
variable {P : Program} {E : Env}
theorem wops_sound (hE : EnvOK P E) {ops : Array Oper} : ∀ {l : List Oper} {fr : AFr} {H : AHeap} {Q : AFr → AHeap → Prop}, wops P E ops.toList l fr H Q → SOps P ops l fr H Q
  | [], fr, H, Q, h => SOps.nil h
  | o :: rest, fr, H, Q, h => by
    simp only [wops] at h
    split at h
    · rename_i hw
      split at h
      · split at h
        · rename_i r H' ha
          exact SOps.want hw (alocal_sound hE ha) (wops_sound hE h)
        · exact h.elim
      · rename_i k args hc
        obtain ⟨r, H', W, hcon, h⟩ := h
        refine SOps.want hw ?_ (wops_sound hE h)
        obtain ⟨⟨c, n, rs, hfn⟩, hac⟩ := hcon
        unfold acallee at hc
        split at hc
        · rename_i cl hop
          split at hc
          · rename_i f hcal
            split at hc
            · rename_i k' first cap hf
              simp only [Option.some.injEq, Prod.mk.injEq] at hc
              obtain ⟨rfl, rfl⟩ := hc
              exact OpSound.call (args := cl.args) (ats := cl.argTypes) (by rw [hop]; cases cl; simp_all) hf hfn hac
            · cases hc
          · simp at hc
        · simp at hc
      · exact h.elim
    · rename_i hw
      exact SOps.skip hw (wops_sound hE h)
    · exact h.elim

theorem SItems.walk (hE : EnvOK P E) {id : Nat} {ops : Array Oper} {fr : AFr} {H : AHeap} {Q : AExit → AFr → AHeap → Prop} (h : wops P E ops.toList ops.toList fr H fun fr' H' => Q .normal fr' H') : SCode P (.region id ops false) fr H Q :=
  SItems.region (wops_sound hE h)

/-- A region, and what comes behind it. -/
theorem SItems.walk_seq (hE : EnvOK P E) {id : Nat} {ops : Array Oper} {y : Code} {fr : AFr} {H : AHeap} {Q : AExit → AFr → AHeap → Prop} (h : wops P E ops.toList ops.toList fr H fun fr' H' => SCode P y fr' H' Q) : SCode P (.seq (.region id ops false) y) fr H Q :=
  SItems.seq (SItems.walk hE h)

/-- A contract out of a body: nothing that was there is written, and what is new is forgotten. -/
theorem Con.pure (hE : EnvOK P E) {k : FuncId} {c : Code} {n : Nat} {rs : List ResultVar} (hfn : FnAt P k c n rs) {args : List AV} {H : AHeap} {r : AV} (hr : r.low H.length = true)
    (h : SCode P c ⟨n, aargs 0 args⟩ H fun ex fr' H1 => (ex = .normal ∨ ex = .ret) ∧ (∃ J, H1 = H ++ J) ∧ aresults E fr' H1 rs = some r) : Con P k args H r H [] := by
  refine ⟨⟨_, _, _, hfn⟩, ?_⟩
  obtain ⟨ex, fr', H1, ⟨h1, ⟨J, rfl⟩, h3⟩, hl, hs⟩ := h
  have hac : AC P k args H r (H ++ J) [] := AC.body hE hfn (fun id o ho _ => by rw [List.getElem?_append_left (List.getElem?_eq_some_iff.1 ho).1]; exact ho) ⟨ex, fr', H ++ J, ⟨h1, rfl, h3⟩, hl, hs⟩
  exact hac.trim hr rfl (fun id o ho => by rw [List.getElem?_append_left (List.getElem?_eq_some_iff.1 ho).1]; exact ho) (fun _ _ _ h => by cases h)
end
end Go.Av
namespace Go.Av
inductive Tree (α : Type) where
  | leaf
  | node (v : Option α) (l r : Tree α)
def Tree.get {α : Type} : Tree α → Nat → Option α
  | .leaf, _ => none
  | .node v l r, k => if k = 0 then v else if k % 2 = 1 then l.get (k / 2) else r.get (k / 2 - 1)
end Go.Av
set_option linter.unusedVariables false
set_option linter.unusedSectionVars false
set_option linter.unusedSimpArgs false
namespace Go.Av
variable [Ground]

/-- Constants that are surely the same. -/
def sameConst : AV → AV → Bool
  | .bool a, .bool b => a == b
  | .int k a, .int k' b => decide (k = k') && a == b
  | .flt k a, .flt k' b => decide (k = k') && a == b
  | .cplx k a c, .cplx k' b d => decide (k = k') && a == b && c == d
  | .str [], .str [] => true
  | .nilptr, .nilptr => true
  | .slice [] .full, .slice [] .full => true
  | .slice [] .nil, .slice [] .nil => true
  | .nilmap, .nilmap => true
  | .nilFunc, .nilFunc => true
  | .nilIface, .nilIface => true
  | _, _ => false
theorem sameConst_eq {x y : AV} (h : sameConst x y = true) : x = y := by
  unfold sameConst at h
  split at h <;> simp_all
def sameConsts : List AV → List AV → Bool
  | [], [] => true
  | x :: xs, y :: ys => sameConst x y && sameConsts xs ys
  | _, _ => false
theorem sameConsts_eq : ∀ {xs ys : List AV}, sameConsts xs ys = true → xs = ys
  | [], [], _ => rfl
  | x :: xs, y :: ys, h => by
    simp only [sameConsts, Bool.and_eq_true] at h
    rw [sameConst_eq h.1, sameConsts_eq h.2]
  | [], _ :: _, h => by cases h
  | _ :: _, [], h => by cases h
def sameZero : AV → AV → Bool
  | .agg xs, .agg ys => sameConsts xs ys
  | x, y => sameConst x y
theorem sameZero_eq {x y : AV} (h : sameZero x y = true) : x = y := by
  unfold sameZero at h
  split at h
  · rw [sameConsts_eq h]
  · exact sameConst_eq h

def checkTK (d : Option TypeDesc) (k : TK) : Bool :=
  match d, k with
  | some .bool, .bool => true
  | some (.int k), .int k' => decide (k = k')
  | some (.float k), .flt k' => decide (k = k')
  | some (.complex k), .cplx k' => decide (k = k')
  | some .string, .str => true
  | some (.slice e), .slice e' => e == e'
  | some (.array n e), .arr n' e' => n == n' && e == e'
  | some (.struct fs), .struct gs => fs.toList.map (fun f => (f.offset, f.type)) == gs
  | some (.pointer e), .ptr e' => e == e'
  | some (.map a b), .map a' b' => a == a' && b == b'
  | some (.func _ _ _), .func => true
  | some (.interface _), .iface => true
  | some (.struct _), .other => false
  | some (.array _ _), .other => false
  | some (.interface _), .other => false
  | some _, .other => true
  | _, _ => false
theorem checkTK_ok {P : Program} {t : TypeId} {k : TK} (h : checkTK (P.underlying t) k = true) : TKOK P t k := by
  unfold checkTK at h
  split at h <;> simp_all [TKOK]
  all_goals first | exact ⟨_, by assumption⟩ | skip
def checkTI (P : Program) (t : TypeId) (i : TI) : Bool :=
  match P.info? t with
  | some info => info.size == i.size && info.bytes == i.bytes && checkTK (P.underlying t) i.k && (match info.zero, i.zero with | _, .top => true | some z, zz => sameZero zz (ofConst z) | none, _ => false) && (!i.cmp || info.comparable)
  | none => false
theorem checkTI_ok {P : Program} {t : TypeId} {i : TI} (h : checkTI P t i = true) (he : i.eq = true → PlainEq P t) : TIOK P t i := by
  unfold checkTI at h
  split at h
  · rename_i info hi
    simp only [Bool.and_eq_true, beq_iff_eq] at h
    obtain ⟨⟨⟨⟨h1, h2⟩, h3⟩, h4⟩, h5⟩ := h
    refine ⟨info, hi, h1, h2, checkTK_ok h3, fun z hz => ?_, fun hz => ?_, he, fun hc => by simpa [hc] using h5⟩
    · split at h4
      · rename_i hzz; exact .inl hzz
      · rename_i z' zz hz' _
        rw [hz] at hz'
        injection hz' with hz'
        subst hz'
        exact .inr (sameZero_eq h4)
      · cases h4
    · split at h4
      · rename_i hzz; exact hzz
      · rename_i hz' _; rw [hz] at hz'; cases hz'
      · cases h4
  · cases h

/-- All of a table. -/
def Tree.all {α : Type} (p : Nat → α → Bool) : Tree α → (Nat → Nat) → Bool
  | .leaf, _ => true
  | .node v l r, k => (match v with | some x => p (k 0) x | none => true) && l.all p (fun i => k (2 * i + 1)) && r.all p (fun i => k (2 * i + 2))
theorem Tree.all_get {α : Type} {p : Nat → α → Bool} : ∀ {t : Tree α} {k : Nat → Nat}, t.all p k = true → ∀ {i : Nat} {x : α}, t.get i = some x → p (k i) x = true
  | .leaf, _, _, _, _, h => by cases h
  | .node v l r, k, h, i, x, hg => by
    simp only [Tree.all, Bool.and_eq_true] at h
    simp only [Tree.get] at hg
    split at hg
    · rename_i e
      subst e
      subst hg
      exact h.1.1
    · split at hg
      · rename_i e1 e2
        have := Tree.all_get h.1.2 hg
        have e : 2 * (i / 2) + 1 = i := by omega
        rwa [e] at this
      · rename_i e1 e2
        have := Tree.all_get h.2 hg
        have e : 2 * (i / 2 - 1) + 2 = i := by omega
        rwa [e] at this
theorem EnvOK.of_tree {P : Program} {T : Tree TI} (h : T.all (checkTI P) id = true) (he : ∀ t i, T.get t = some i → i.eq = true → PlainEq P t) : EnvOK P T.get :=
  fun t i hi => checkTI_ok (Tree.all_get h hi) (he t i hi)
/-- Where no type says that it is compared cell by cell. -/
theorem EnvOK.of_tree0 {P : Program} {T : Tree TI} (h : T.all (checkTI P) id = true) (he : T.all (fun _ i => !i.eq) id = true) : EnvOK P T.get :=
  EnvOK.of_tree h fun t i hi hq => by
    have := Tree.all_get he hi
    simp [hq] at this
end Go.Av
set_option linter.unusedVariables false
set_option linter.unusedSectionVars false
set_option linter.unusedSimpArgs false
namespace Go.Av
variable [Ground]

section
variable (t : TypeId) (ti : Option TI) (lit : Bool) (k : IntKind) (a b : Int)
theorem abin_add : abin .add t ti lit (.int k a) (.int k b) = some (.int k (k.wrap (a + b))) := by simp [abin, primBin, prim, Go.binOp, Op.intArith, pureOf, pure, ofConst]
theorem abin_sub : abin .sub t ti lit (.int k a) (.int k b) = some (.int k (k.wrap (a - b))) := by simp [abin, primBin, prim, Go.binOp, Op.intArith, pureOf, pure, ofConst]
theorem abin_mul : abin .mul t ti lit (.int k a) (.int k b) = some (.int k (k.wrap (a * b))) := by simp [abin, primBin, prim, Go.binOp, Op.intArith, pureOf, pure, ofConst]
theorem abin_quo (h : b ≠ 0) : abin .quo t ti lit (.int k a) (.int k b) = some (.int k (k.wrap (a.tdiv b))) := by simp [abin, primBin, prim, Go.binOp, Op.intDiv, h, pureOf, pure, ofConst]
theorem abin_rem (h : b ≠ 0) : abin .rem t ti lit (.int k a) (.int k b) = some (.int k (a.tmod b)) := by simp [abin, primBin, prim, Go.binOp, Op.intDiv, h, pureOf, pure, ofConst]
theorem abin_lss : abin .lss t ti lit (.int k a) (.int k b) = some (.bool (decide (a < b))) := by simp [abin, primBin, prim, Go.binOp, Op.intCmp, pureOf, pure, ofConst]
theorem abin_leq : abin .leq t ti lit (.int k a) (.int k b) = some (.bool (decide (a ≤ b))) := by simp [abin, primBin, prim, Go.binOp, Op.intCmp, pureOf, pure, ofConst]
theorem abin_gtr : abin .gtr t ti lit (.int k a) (.int k b) = some (.bool (decide (a > b))) := by simp [abin, primBin, prim, Go.binOp, Op.intCmp, pureOf, pure, ofConst]
theorem abin_geq : abin .geq t ti lit (.int k a) (.int k b) = some (.bool (decide (a ≥ b))) := by simp [abin, primBin, prim, Go.binOp, Op.intCmp, pureOf, pure, ofConst]
theorem abin_eql : abin .eql t ti lit (.int k a) (.int k b) = some (.bool (a == b)) := by
  have : (ti.bind fun i => refEq i.k lit (.int k a) (.int k b)) = none := by
    cases ti with
    | none => rfl
    | some i => simp only [Option.bind_some, refEq, refEq2]; cases i.k <;> rfl
  simp [abin, this, primBin, prim, Go.binOp, Op.intCmp, pureOf, pure, ofConst]
theorem abin_neq : abin .neq t ti lit (.int k a) (.int k b) = some (.bool (a != b)) := by
  have : (ti.bind fun i => refEq i.k lit (.int k a) (.int k b)) = none := by
    cases ti with
    | none => rfl
    | some i => simp only [Option.bind_some, refEq, refEq2]; cases i.k <;> rfl
  simp [abin, this, primBin, prim, Go.binOp, Op.intCmp, pureOf, pure, ofConst]
end
section
variable (t : TypeId) (ti : Option TI) (lit : Bool) (a b : List UInt8)
theorem abin_sadd (h : a.length + b.length ≤ 2 ^ 62) : abin .add t ti lit (.str a) (.str b) = some (.str (a ++ b)) := by simp [abin]; omega
theorem abin_seql : abin .eql t ti lit (.str a) (.str b) = some (.bool (a == b)) := rfl
theorem abin_sneq : abin .neq t ti lit (.str a) (.str b) = some (.bool !(a == b)) := rfl
theorem abin_slss : abin .lss t ti lit (.str a) (.str b) = some (.bool (Op.bytesLess a b)) := rfl
theorem abin_sleq : abin .leq t ti lit (.str a) (.str b) = some (.bool (Op.bytesLess a b || a == b)) := rfl
theorem abin_sgtr : abin .gtr t ti lit (.str a) (.str b) = some (.bool !(Op.bytesLess a b || a == b)) := rfl
theorem abin_sgeq : abin .geq t ti lit (.str a) (.str b) = some (.bool !(Op.bytesLess a b)) := rfl
end
theorem aun_not (b : Bool) : aun .not (.bool b) = some (.bool !b) := rfl
theorem aun_neg (k : IntKind) (n : Int) : aun .neg (.int k n) = some (.int k (k.wrap (0 - n))) := by simp [aun, prim, Op.unary, Op.intArith, pureOf, pure, ofConst]
theorem wrap_i64 {n : Int} (h : -9223372036854775808 ≤ n) (h' : n ≤ 9223372036854775807) : IntKind.i64.wrap n = n := by
  unfold IntKind.wrap
  have e1 : IntKind.i64.bits = 64 := rfl
  have e2 : IntKind.i64.signed = true := rfl
  simp only [e1, e2, Bool.true_and, decide_eq_true_eq]
  have e3 : (2 ^ 64 : Int) = 18446744073709551616 := by decide
  have e4 : (2 ^ (64 - 1) : Int) = 9223372036854775808 := by decide
  rw [e3, e4]
  split <;> omega
end Go.Av
