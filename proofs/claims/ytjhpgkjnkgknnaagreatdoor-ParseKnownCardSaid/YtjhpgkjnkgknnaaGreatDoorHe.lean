/-
  The interpreter that the kernel runs, and that what it answers is so.
-/
import Derived.Test.YtjhpgkjnkgknnaaGreatDoorHd
import Derived.Laws.Externs
import Derived.Test.YtjhpgkjnkgknnaaGreatDoorHc
import Derived.Lib.LaidIn
import Derived.Lib.LaidCaseMet
import GoSem.PinnedTables
import Derived.ProofKit
import Derived.KernelRfl
import GoSem.ClaimData
set_option linter.unusedVariables false
set_option linter.unusedSectionVars false
set_option linter.unusedSimpArgs false
namespace Go.Av
open Go.RowKit
variable [Ground]

/-- What an operation looks at: none: of all the heap. -/
def afoot (fr : AFr) (op : Op) : Option (List Nat) :=
  if ains op then some [] else
  match op with
  | .load _ p => (match aev fr p with | .vptr id _ => some [id] | .eptr id _ _ => some [id] | .cptr _ => some [] | _ => none)
  | .store _ p _ => (match aev fr p with | .vptr id _ => some [id] | .eptr id _ _ => some [id] | _ => none)
  | _ => none
/-- Does an operation surely write nothing? -/
def aquiet (op : Op) : Bool := ains op || (match op with | .load .. => true | _ => false)

abbrev Foots := List (Option (List Nat) × List Nat)

/-- Operations, one behind the other, told of what each looks at and writes. -/
def rops (E : Env) (C : CallF) (all : List Oper) : List Oper → AFr → AHeap → Option (AFr × AHeap × List Nat × Foots)
  | [], fr, H => some (fr, H, [], [])
  | o :: rest, fr, H => match awanted all fr o with
    | some true => match aop E C fr H o.op with
      | some (r, H', w) => match rops E C all rest (aput fr o.dst r) H' with
        | some (fr2, H2, w2, fs) => some (fr2, H2, w ++ w2, (afoot fr o.op, w ++ List.range' H.length (H'.length - H.length)) :: fs)
        | none => none
      | none => none
    | some false => match rops E C all rest (aput fr o.dst aundef) H with
      | some (fr2, H2, w2, fs) => some (fr2, H2, w2, (some [], []) :: fs)
      | none => none
    | none => none

def footOK (fs : Foots) (loose : List (Nat × Nat)) : Bool :=
  loose.all fun p => match fs[p.1]?, fs[p.2]? with
    | some (F, _), some (_, W) => W.isEmpty || (match F with | some f => f.all fun id => !W.contains id | none => false)
    | _, _ => false

/-- What holds of a region, whatever it is run with. -/
def drawStat (loose : List (Nat × Nat)) (ops : List Oper) (n : Nat) : Bool :=
  let N := ops.length
  (List.range N).all fun i => match ops[i]? with
    | some o =>
      (o.after.all fun e => !Region.binds .any e || decide (e.on < i)) &&
      ((match o.dst with | some d => decide (d < n) | none => true) &&
      (List.range N).all fun j => i == j || (match ops[j]? with
        | some p =>
          (match p.dst with | some d => !((alooks ops o).contains d || o.dst == some d) || cmpB ops i j | none => true) &&
          (cmpB ops i j || ains o.op || aquiet p.op || loose.contains (i, j))
        | none => true))
    | none => true
def codeOK (loose : Nat → List (Nat × Nat)) (n : Nat) : Code → Bool
  | .region id ops true => drawStat (loose id) ops.toList n
  | .region _ _ false => true
  | .seq a b => codeOK loose n a && codeOK loose n b
  | .cond _ a b => codeOK loose n a && codeOK loose n b
  | .block _ c => codeOK loose n c
  | .loop c => codeOK loose n c
  | .scope c => codeOK loose n c
  | .rangeFunc _ _ a b => codeOK loose n a && codeOK loose n b
  | _ => true
theorem codeOK_find {loose : Nat → List (Nat × Nat)} {n l : Nat} : ∀ {c r : Code}, codeOK loose n c = true → findLabel c l = some r → codeOK loose n r = true
  | .seq a b, r, h, hf => by
    simp only [codeOK, Bool.and_eq_true] at h
    simp only [findLabel] at hf
    split at hf
    · rename_i rest ha
      injection hf with hf
      subst hf
      simp only [codeOK, Bool.and_eq_true]
      exact ⟨codeOK_find h.1 ha, h.2⟩
    · exact codeOK_find h.2 hf
  | .label l', r, h, hf => by
    simp only [findLabel] at hf
    split at hf
    · injection hf with hf; subst hf; rfl
    · cases hf
  | .skip, r, h, hf => by cases hf
  | .region _ _ _, r, h, hf => by cases hf
  | .cond _ _ _, r, h, hf => by cases hf
  | .block _ _, r, h, hf => by cases hf
  | .loop _, r, h, hf => by cases hf
  | .rangeFunc _ _ _ _, r, h, hf => by cases hf
  | .exit _, r, h, hf => by cases hf
  | .scope _, r, h, hf => by cases hf
  | .goto _, r, h, hf => by cases hf
  | .ret, r, h, hf => by cases hf
  | .refuse _, r, h, hf => by cases hf

/-- What the interpreter goes by. -/
structure Cfg where
  E : Env
  F : FTab
  hook : CallF
  isHook : FuncId → Bool
  loose : FuncId → Nat → List (Nat × Nat)

def addNew (x : Nat) (l : List Nat) : List Nat := if l.contains x then l else x :: l
def kept (n : Nat) : List Nat → List Nat
  | [] => []
  | x :: xs => if x < n then addNew x (kept n xs) else kept n xs
/-- What is new and of no use is left behind. -/
def rtrim (n : Nat) (r : AV) (H : AHeap) (wr : List Nat) : AHeap :=
  if H.length = n then H else if r.low n && wr.all (fun id => match H[id]? with | some o => o.low n | none => true) then H.take n else H

def arun (C : Cfg) : Nat → FuncId → Nat → Task → AFr → AHeap → Option (AExit × AFr × AHeap × List Nat)
  | 0, _, _, _, _, _ => none
  | n + 1, f, nt, .scope whole cur, fr, H =>
    match arun C n f nt (.code cur) fr H with
    | some (.goto l, fr1, H1, w1) => match findLabel whole l with
      | some rest => match arun C n f nt (.scope whole rest) fr1 H1 with
        | some (ex, fr2, H2, w2) => some (ex, fr2, H2, w1 ++ w2)
        | none => none
      | none => some (.goto l, fr1, H1, w1)
    | r => r
  | n + 1, f, nt, .code c, fr, H =>
    match c with
    | .skip => some (.normal, fr, H, [])
    | .label _ => some (.normal, fr, H, [])
    | .region id ops draw =>
      match rops C.E (fun g args H => if C.isHook g then C.hook g args H else
        match C.F g with
        | some fn => match arun C n g fn.ntmps (.code fn.body) ⟨fn.ntmps, aargs 0 args⟩ H with
          | some (.normal, fr', H', w) => (aresults C.E fr' H' fn.results).map fun r => (r, rtrim H.length r H' (kept H.length w), kept H.length w)
          | some (.ret, fr', H', w) => (aresults C.E fr' H' fn.results).map fun r => (r, rtrim H.length r H' (kept H.length w), kept H.length w)
          | _ => none
        | none => none) ops.toList ops.toList fr H with
      | some (fr', H', w, fs) => if draw then (if Nat.beq fr.n nt && footOK fs (C.loose f id) then some (.normal, fr', H', w) else none) else some (.normal, fr', H', w)
      | none => none
    | .seq a b => match arun C n f nt (.code a) fr H with
      | some (.normal, fr1, H1, w1) => match arun C n f nt (.code b) fr1 H1 with
        | some (ex, fr2, H2, w2) => some (ex, fr2, H2, w1 ++ w2)
        | none => none
      | r => r
    | .cond c x y => match aev fr c with
      | .bool true => arun C n f nt (.code x) fr H
      | .bool false => arun C n f nt (.code y) fr H
      | _ => none
    | .block id b => match arun C n f nt (.code b) fr H with
      | some (.exit id', fr1, H1, w1) => if id' = id then some (.normal, fr1, H1, w1) else some (.exit id', fr1, H1, w1)
      | r => r
    | .loop b => match arun C n f nt (.code b) fr H with
      | some (.normal, fr1, H1, w1) => match arun C n f nt (.code (.loop b)) fr1 H1 with
        | some (ex, fr2, H2, w2) => some (ex, fr2, H2, w1 ++ w2)
        | none => none
      | r => r
    | .exit id => some (.exit id, fr, H, [])
    | .ret => some (.ret, fr, H, [])
    | .goto l => some (.goto l, fr, H, [])
    | .scope b => arun C n f nt (.scope b b) fr H
    | .rangeFunc .. => none
    | .refuse _ => none

/-- A call, run. -/
def acall (C : Cfg) (n : Nat) (g : FuncId) (args : List AV) (H : AHeap) : Option (AV × AHeap × List Nat) :=
  match C.F g with
  | some fn => match arun C n g fn.ntmps (.code fn.body) ⟨fn.ntmps, aargs 0 args⟩ H with
    | some (.normal, fr', H', w) => (aresults C.E fr' H' fn.results).map fun r => (r, rtrim H.length r H' (kept H.length w), kept H.length w)
    | some (.ret, fr', H', w) => (aresults C.E fr' H' fn.results).map fun r => (r, rtrim H.length r H' (kept H.length w), kept H.length w)
    | _ => none
  | none => none

structure CfgOK (P : Program) (C : Cfg) : Prop where
  env : EnvOK P C.E
  fn : ∀ f fn, C.F f = some fn → FnAt P f fn.body fn.ntmps fn.results
  hook : ∀ f args H r H' W, C.isHook f = true → C.hook f args H = some (r, H', W) → Con P f args H r H' W
  mixed : P.follows .mixedOrders = true
  regions : ∀ f fn, C.F f = some fn → codeOK (C.loose f) fn.ntmps fn.body = true
end Go.Av
set_option linter.unusedVariables false
set_option linter.unusedSectionVars false
set_option linter.unusedSimpArgs false
namespace Go.Av
open Go.RowKit
variable [Ground]

theorem awrites_ains {fr : AFr} {op : Op} (h : ains op = true) : awrites fr op = [] := by
  cases op <;> simp only [ains] at h <;> try (cases h; done)
  all_goals try rfl
  rename_i c
  obtain ⟨callee, args, ats⟩ := c
  cases callee with
  | builtin b =>
    cases b <;> simp only at h <;> try (cases h; done)
    all_goals rfl
  | value f => rfl
  | invoke f m => rfl

section
variable {E : Env} {fr : AFr} {H H' : AHeap} {r : AV}
theorem alocal_frame {op : Op} (h : alocal E fr H op = some (r, H')) : H.length ≤ H'.length ∧ ∀ id, id < H.length → id ∉ awrites fr op → H'[id]? = H[id]? := by
  by_cases hi : ains op = true
  · obtain ⟨e, _⟩ := ains_ok hi h
    subst e
    exact ⟨Nat.le_refl _, fun _ _ _ => rfl⟩
  · have hsnoc : ∀ o : AObj, H' = H ++ [o] → H.length ≤ H'.length ∧ ∀ id, id < H.length → id ∉ awrites fr op → H'[id]? = H[id]? := by
      rintro o rfl
      exact ⟨by simp, fun id hid _ => by rw [List.getElem?_append_left hid]⟩
    cases op <;> simp only [alocal] at h <;> try (cases h; done)
    all_goals try (exact absurd rfl hi)
    case alloc t =>
      unfold aalloc at h
      cases hE : E t with
      | none => rw [hE] at h; cases h
      | some i =>
        rw [hE] at h
        simp only [Option.bind_some] at h
        split at h
        · injection h with h; injection h with h1 h2; exact hsnoc _ h2.symm
        · cases h
    case box t x =>
      unfold abox at h
      split at h
      · injection h with h; injection h with h1 h2; exact hsnoc _ h2.symm
      · cases h
    case load t p =>
      obtain ⟨a, _, h⟩ := map_some h
      injection h with _ h
      subst h
      exact ⟨Nat.le_refl _, fun _ _ _ => rfl⟩
    case store t p x =>
      obtain ⟨a, h1, h⟩ := map_some h
      injection h with _ h
      subst h
      refine ⟨Nat.le_of_eq (astore_length h1).symm, fun id hid hn => ?_⟩
      unfold astore at h1
      split at h1
      · rename_i i id' v0 off hE hp
        split at h1
        · split at h1
          · injection h1 with h1
            subst h1
            simp only [awrites, hp, List.mem_singleton] at hn
            rw [List.getElem?_set_ne (fun e => hn e.symm)]
          · cases h1
        · cases h1
      · rename_i i id' off hE hp
        split at h1
        · split at h1
          · injection h1 with h1
            subst h1
            simp only [awrites, hp, List.mem_singleton] at hn
            rw [List.getElem?_set_ne (fun e => hn e.symm)]
          · cases h1
        · cases h1
      · cases h1
    case call c =>
      obtain ⟨callee, args, ats⟩ := c
      cases callee with
      | value f => cases h
      | invoke f m => cases h
      | builtin b =>
        simp only at h
        split at h
        · rename_i x y hats hargs
          split at h
          · have hlen := aappend_length h
            refine ⟨hlen, fun id hid hn => ?_⟩
            have hset : ∀ (id' : Nat) (o : AObj), H' = H.set id' o → id' ∈ awrites fr (.call ⟨.builtin .append, args, ats⟩) → H'[id]? = H[id]? := by
              rintro id' o rfl hw
              rw [List.getElem?_set_ne]
              rintro rfl
              exact hn hw
            unfold aappend at h
            split at h
            case h_2 => cases h
            split at h
            case h_2 => cases h
            split at h
            case h_2 => cases h
            split at h
            case h_2 => cases h
            split at h
            · rename_i xs tok hx
              split at h
              · injection h with h; injection h with _ h; subst h; rfl
              split at h
              case isFalse => cases h
              split at h
              · split at h
                · injection h with h; injection h with _ h; subst h; rw [List.getElem?_append_left hid]
                · injection h with h; injection h with _ h; subst h; rw [List.getElem?_append_left hid]
              · rename_i id' p htk
                have htk : tok = .tip id' p := by cases tok <;> simp_all [Tok.fill]
                subst htk
                split at h
                · split at h
                  · injection h with h; injection h with _ h
                    exact hset _ _ h.symm (by simp only [awrites, hargs, hx, List.mem_singleton])
                  · cases h
                · cases h
              · cases h
            · rename_i id' v0 off len hx
              split at h
              · injection h with h; injection h with _ h; subst h; rfl
              split at h
              case isFalse => cases h
              split at h
              case h_2 => cases h
              split at h
              case isFalse => cases h
              split at h
              · injection h with h; injection h with _ h
                exact hset _ _ h.symm (by simp only [awrites, hargs, hx, List.mem_singleton])
              · split at h
                · injection h with h; injection h with _ h
                  exact hset _ _ h.symm (by simp only [awrites, hargs, hx, List.mem_singleton])
                · cases h
            · cases h
          · cases h
        · cases h
        · rename_i t ts x hats hargs
          obtain ⟨H2, hh, he⟩ := map_some h
          injection he with _ he
          subst he
          refine ⟨Nat.le_of_eq (aclear_length hh).symm, fun id hid hn => ?_⟩
          unfold aclear at hh
          split at hh
          case h_2 => cases hh
          split at hh
          case h_2 => cases hh
          split at hh
          case h_2 => cases hh
          split at hh
          · injection hh with hh; subst hh; rfl
          · rename_i id' v0 off len hx
            split at hh
            · injection hh with hh; subst hh; rfl
            split at hh
            case isFalse => cases hh
            split at hh
            case h_2 => cases hh
            split at hh
            · injection hh with hh
              subst hh
              simp only [awrites, hargs, hx, List.mem_singleton] at hn
              rw [List.getElem?_set_ne (fun e => hn e.symm)]
            · cases hh
          · cases hh
        · rename_i t ts x y hats hargs
          refine ⟨Nat.le_of_eq (acopy_length h).symm, fun id hid hn => ?_⟩
          unfold acopy at h
          split at h
          case h_2 => cases h
          split at h
          case h_2 => cases h
          split at h
          case h_2 => cases h
          split at h
          case h_2 => cases h
          split at h
          · injection h with h; injection h with _ h; subst h; rfl
          · rename_i id' v0 off len hx
            simp only at h
            split at h
            · injection h with h; injection h with _ h; subst h; rfl
            split at h
            case isFalse => cases h
            split at h
            case h_2 => cases h
            split at h
            · injection h with h; injection h with _ h
              subst h
              simp only [awrites, hargs, hx, List.mem_singleton] at hn
              rw [List.getElem?_set_ne (fun e => hn e.symm)]
            · cases h
          · cases h
        · obtain ⟨a, _, h⟩ := map_some h
          injection h with _ h
          subst h
          exact ⟨Nat.le_refl _, fun _ _ _ => rfl⟩

theorem wrote_of_frame {W : List Nat} (hl : H.length ≤ H'.length) (hf : ∀ id, id < H.length → id ∉ W → H'[id]? = H[id]?) : ∀ id, id ∉ W ++ List.range' H.length (H'.length - H.length) → H'[id]? = H[id]? := by
  intro id hn
  rw [List.mem_append, not_or, List.mem_range'_1] at hn
  rcases Nat.lt_or_ge id H.length with h1 | h1
  · exact hf id h1 hn.1
  · have h2 : H'.length ≤ id := by
      rcases Nat.lt_or_ge id H'.length with h3 | h3
      · exact absurd ⟨h1, by omega⟩ hn.2
      · exact h3
    rw [List.getElem?_eq_none h1, List.getElem?_eq_none h2]

theorem aload_looks {t : TypeId} {p : AV} {Hc : AHeap} (hc : ∀ id off, p = .vptr id off → Hc[id]? = H[id]?) (hc2 : ∀ id v off, p = .eptr id v off → Hc[id]? = H[id]?) : aload E t p Hc = aload E t p H := by
  unfold aload
  split
  · rename_i i id off hE
    rw [hc id off rfl]
  · rfl
  · rename_i i id v off hE
    rw [hc2 id v off rfl]
  · rfl

theorem alocal_loc {op : Op} (h : alocal E fr H op = some (r, H')) {Hc : AHeap} (hc : Looks (afoot fr op) H Hc) :
    ∃ Hc', Wrote (awrites fr op ++ List.range' H.length (H'.length - H.length)) H' Hc Hc' ∧ alocal E fr Hc op = some (r, Hc') := by
  obtain ⟨hl, hf⟩ := alocal_frame h
  have whole : Hc = H → ∃ Hc', Wrote (awrites fr op ++ List.range' H.length (H'.length - H.length)) H' Hc Hc' ∧ alocal E fr Hc op = some (r, Hc') := by
    rintro rfl
    refine ⟨H', fun id => ?_, h⟩
    split
    · rfl
    · rename_i hn; exact wrote_of_frame hl hf id hn
  by_cases hi : ains op = true
  · obtain ⟨e, h2⟩ := ains_ok hi h
    subst e
    refine ⟨Hc, fun id => ?_, h2 Hc⟩
    rw [awrites_ains hi]
    simp
  · unfold afoot at hc
    rw [if_neg hi] at hc
    cases op with
    | load t p =>
      simp only at hc
      have h0 := h
      simp only [alocal] at h ⊢
      obtain ⟨a, h1, h2⟩ := map_some h
      injection h2 with h2 h3
      subst h2; subst h3
      have e : aload E t (aev fr p) Hc = aload E t (aev fr p) H := by
        refine aload_looks (fun id off hp => ?_) fun id v off hp => ?_
        · rw [hp] at hc
          exact hc id (by simp)
        · rw [hp] at hc
          exact hc id (by simp)
      refine ⟨Hc, fun id => by simp [awrites], by rw [e, h1]; rfl⟩
    | store t p x =>
      simp only at hc
      have h0 := h
      simp only [alocal] at h ⊢
      obtain ⟨a, h1, h2⟩ := map_some h
      injection h2 with h2 h3
      subst h2; subst h3
      have hlen := astore_length h1
      unfold astore at h1 ⊢
      split at h1
      · rename_i i id v0 off hE hp
        rw [hp] at hc
        have hid : Hc[id]? = H[id]? := hc id (by simp)
        split at h1
        · rename_i e v' cs hcs
          split at h1
          · rename_i hcond
            injection h1 with h1
            subst h1
            simp only [hE, hp, hid, hcs, if_pos hcond]
            refine ⟨_, fun k => ?_, rfl⟩
            simp only [awrites, hp, hlen, Nat.sub_self, List.range'_zero, List.append_nil, List.mem_singleton]
            have hlt : id < H.length := (List.getElem?_eq_some_iff.1 hcs).1
            have hlt' : id < Hc.length := by rw [hcs] at hid; exact (List.getElem?_eq_some_iff.1 hid).1
            by_cases e : k = id
            · subst e
              rw [if_pos rfl, List.getElem?_set_self hlt', List.getElem?_set_self hlt]
            · rw [if_neg e, List.getElem?_set_ne (fun x => e x.symm)]
          · cases h1
        · cases h1
      · rename_i i id off hE hp
        rw [hp] at hc
        have hid : Hc[id]? = H[id]? := hc id (by simp)
        split at h1
        · rename_i cs hcs
          split at h1
          · rename_i hcond
            injection h1 with h1
            subst h1
            simp only [hE, hp, hid, hcs, if_pos hcond]
            refine ⟨_, fun k => ?_, rfl⟩
            simp only [awrites, hp, hlen, Nat.sub_self, List.range'_zero, List.append_nil, List.mem_singleton]
            have hlt : id < H.length := (List.getElem?_eq_some_iff.1 hcs).1
            have hlt' : id < Hc.length := by rw [hcs] at hid; exact (List.getElem?_eq_some_iff.1 hid).1
            by_cases e : k = id
            · subst e
              rw [if_pos rfl, List.getElem?_set_self hlt', List.getElem?_set_self hlt]
            · rw [if_neg e, List.getElem?_set_ne (fun x => e x.symm)]
          · cases h1
        · cases h1
      · cases h1
    | _ => exact whole hc
theorem afoot_sub {op : Op} {f : List Nat} (h : alocal E fr H op = some (r, H')) (hf : afoot fr op = some f) : ∀ id, id ∈ awrites fr op ++ List.range' H.length (H'.length - H.length) → id ∈ f := by
  intro id hid
  unfold afoot at hf
  split at hf
  · rename_i hi
    obtain ⟨e, _⟩ := ains_ok hi h
    subst e
    rw [awrites_ains hi] at hid
    simp at hid
  · cases op with
    | load t p =>
      simp only [alocal] at h
      obtain ⟨a, h1, h2⟩ := map_some h
      injection h2 with h2 h3
      subst h3
      simp [awrites] at hid
    | store t p x =>
      simp only [alocal] at h
      obtain ⟨a, h1, h2⟩ := map_some h
      injection h2 with h2 h3
      subst h3
      rw [astore_length h1] at hid
      simp only at hf
      cases hp : aev fr p with
      | vptr i o =>
        rw [hp] at hf
        simp only [awrites, hp] at hid
        injection hf with hf
        subst hf
        simpa using hid
      | cptr cs =>
        simp only [awrites, hp] at hid
        simp at hid
      | eptr i v o =>
        rw [hp] at hf
        simp only [awrites, hp] at hid
        injection hf with hf
        subst hf
        simpa using hid
      | _ => rw [hp] at hf; cases hf
    | _ => cases hf
end
end Go.Av
set_option linter.unusedVariables false
set_option linter.unusedSectionVars false
set_option linter.unusedSimpArgs false
namespace Go.Av
open Go.RowKit
variable [Ground]

section
variable {P : Program} {E : Env} {C : CallF} {fr : AFr} {H H' : AHeap} {r : AV} {w : List Nat}

/-- An operation is a call of a function value, or not. -/
theorem aop_cases {op : Op} (h : aop E C fr H op = some (r, H', w)) :
    (alocal E fr H op = some (r, H') ∧ w = awrites fr op) ∨
    (∃ f args ats k first cap, op = .call { callee := .value f, args := args, argTypes := ats } ∧ aev fr f = .func (.func k) first cap ∧ C k (first ++ args.toList.map (aev fr) ++ cap) H = some (r, H', w)) := by
  have loc : ((alocal E fr H op).map fun p => (p.1, p.2, awrites fr op)) = some (r, H', w) → alocal E fr H op = some (r, H') ∧ w = awrites fr op := by
    intro h
    obtain ⟨⟨a, b⟩, h1, h2⟩ := map_some h
    simp only [Prod.mk.injEq] at h2
    obtain ⟨rfl, rfl, rfl⟩ := h2
    exact ⟨h1, rfl⟩
  cases op with
  | call c =>
    obtain ⟨callee, args, ats⟩ := c
    cases callee with
    | value f =>
      simp only [aop] at h
      split at h
      · rename_i k first cap hf
        exact .inr ⟨f, args, ats, k, first, cap, rfl, hf, h⟩
      · cases h
    | builtin b => exact .inl (loc h)
    | invoke f m => exact .inl (loc h)
  | _ => exact .inl (loc h)

theorem aop_frame (hC : ∀ g args H r H' W, C g args H = some (r, H', W) → Con P g args H r H' W) {op : Op} (h : aop E C fr H op = some (r, H', w)) : H.length ≤ H'.length ∧ ∀ id, id < H.length → id ∉ w → H'[id]? = H[id]? := by
  rcases aop_cases h with ⟨h1, rfl⟩ | ⟨f, args, ats, k, first, cap, rfl, hf, h1⟩
  · exact alocal_frame h1
  · obtain ⟨_, hl, hfr, _⟩ := hC _ _ _ _ _ _ h1
    refine ⟨hl, fun id hid hn => ?_⟩
    have := List.getElem?_eq_getElem hid
    rw [hfr id _ this hn, this]
theorem aop_sound (hE : EnvOK P E) (hC : ∀ g args H r H' W, C g args H = some (r, H', W) → Con P g args H r H' W) {o : Oper} (h : aop E C fr H o.op = some (r, H', w)) : OpSound P o fr H r H' := by
  rcases aop_cases h with ⟨h1, rfl⟩ | ⟨f, args, ats, k, first, cap, hop, hf, h1⟩
  · exact alocal_sound hE h1
  · obtain ⟨⟨c, n, rs, hfn⟩, hac⟩ := hC _ _ _ _ _ _ h1
    exact OpSound.call hop hf hfn hac

theorem afoot_call {f : Operand} {args : Array Operand} {ats : Array TypeId} : afoot fr (.call { callee := .value f, args := args, argTypes := ats }) = none := rfl

/-- One step of a region, for any order. -/
theorem aop_step (hE : EnvOK P E) (hC : ∀ g args H r H' W, C g args H = some (r, H', W) → Con P g args H r H' W) {all : List Oper} {o : Oper} (hw : awanted all fr o = some true) (h : aop E C fr H o.op = some (r, H', w)) :
    FStepOK P all ⟨o, true, fr, H, r, H', afoot fr o.op, w ++ List.range' H.length (H'.length - H.length)⟩ := by
  obtain ⟨hl, hf⟩ := aop_frame hC h
  have hk : Knows (alooks all o) o.op.operands.toList := knows_alooks
  refine ⟨by rw [awanted_akeep]; exact hw, wrote_of_frame hl hf, hl, ?_, fun _ Hc hc => ?_, fun h => by cases h⟩
  · intro f hff id hid
    rcases aop_cases h with ⟨h1, rfl⟩ | ⟨g, args, ats, k, first, cap, hop, hg, h1⟩
    · exact afoot_sub h1 hff id hid
    · rw [hop] at hff; cases hff
  · rcases aop_cases h with ⟨h1, rfl⟩ | ⟨g, args, ats, k, first, cap, hop, hg, h1⟩
    · obtain ⟨Hc', q1, q2⟩ := alocal_loc h1 hc
      exact ⟨Hc', q1, alocal_sound hE (by rw [alocal_akeep hk]; exact q2)⟩
    · have hnone : afoot fr o.op = none := by rw [hop]; rfl
      rw [hnone] at hc
      have hc : Hc = H := hc
      subst hc
      obtain ⟨⟨c, n, rs, hfn⟩, hac⟩ := hC _ _ _ _ _ _ h1
      refine ⟨H', fun id => ?_, ?_⟩
      · split
        · rfl
        · rename_i hn; exact wrote_of_frame hl hf id hn
      · rw [hop] at hk
        have e1 : aev (akeep (alooks all o) fr) g = aev fr g := aev_akeep hk (by simp [Op.operands, Call.operands])
        have e2 : args.toList.map (aev (akeep (alooks all o) fr)) = args.toList.map (aev fr) := aevs_akeep hk fun y hy => by simp [Op.operands, Call.operands]; exact .inr (by simpa using hy)
        exact OpSound.call (W := w) (f := g) (args := args) (ats := ats) (first := first) (cap := cap) hop (by rw [e1]; exact hg) hfn (by rw [e2]; exact hac)

theorem rops_trace (hE : EnvOK P E) (hC : ∀ g args H r H' W, C g args H = some (r, H', W) → Con P g args H r H' W) {all : List Oper} : ∀ {l : List Oper} {fr : AFr} {H : AHeap} {fr2 : AFr} {H2 : AHeap} {w : List Nat} {fs : Foots},
    rops E C all l fr H = some (fr2, H2, w, fs) → ∃ ss, FTrace P all l fr H ss fr2 H2 ∧ ss.map (fun s => (s.F, s.W)) = fs
  | [], fr, H, fr2, H2, w, fs, h => by
    simp only [rops, Option.some.injEq, Prod.mk.injEq] at h
    obtain ⟨rfl, rfl, rfl, rfl⟩ := h
    exact ⟨[], .nil, rfl⟩
  | o :: rest, fr, H, fr2, H2, w, fs, h => by
    simp only [rops] at h
    split at h
    · rename_i hw
      split at h
      · rename_i r H' w1 ha
        split at h
        · rename_i fr3 H3 w3 fs3 hr
          simp only [Option.some.injEq, Prod.mk.injEq] at h
          obtain ⟨rfl, rfl, rfl, rfl⟩ := h
          obtain ⟨ss, h1, h2⟩ := rops_trace hE hC hr
          exact ⟨_ :: ss, .cons (s := ⟨o, true, fr, H, r, H', afoot fr o.op, w1 ++ List.range' H.length (H'.length - H.length)⟩) (aop_step hE hC hw ha) rfl h1, by simp [h2]⟩
        · cases h
      · cases h
    · rename_i hw
      split at h
      · rename_i fr3 H3 w3 fs3 hr
        simp only [Option.some.injEq, Prod.mk.injEq] at h
        obtain ⟨rfl, rfl, rfl, rfl⟩ := h
        obtain ⟨ss, h1, h2⟩ := rops_trace hE hC hr
        refine ⟨_ :: ss, .cons (s := ⟨o, false, fr, H, aundef, H, some [], []⟩) ⟨by rw [awanted_akeep]; exact hw, fun _ _ => rfl, Nat.le_refl _, fun f hf id hid => absurd hid (by simp), (fun h => by cases h), fun _ => ⟨rfl, rfl⟩⟩ rfl h1, by simp [h2]⟩
      · cases h
    · cases h

theorem rops_frame (hC : ∀ g args H r H' W, C g args H = some (r, H', W) → Con P g args H r H' W) {all : List Oper} : ∀ {l : List Oper} {fr : AFr} {H : AHeap} {fr2 : AFr} {H2 : AHeap} {w : List Nat} {fs : Foots},
    rops E C all l fr H = some (fr2, H2, w, fs) → H.length ≤ H2.length ∧ ∀ id, id < H.length → id ∉ w → H2[id]? = H[id]?
  | [], fr, H, fr2, H2, w, fs, h => by
    simp only [rops, Option.some.injEq, Prod.mk.injEq] at h
    obtain ⟨rfl, rfl, rfl, rfl⟩ := h
    exact ⟨Nat.le_refl _, fun _ _ _ => rfl⟩
  | o :: rest, fr, H, fr2, H2, w, fs, h => by
    simp only [rops] at h
    split at h
    · split at h
      · rename_i r H' w1 ha
        split at h
        · rename_i fr3 H3 w3 fs3 hr
          simp only [Option.some.injEq, Prod.mk.injEq] at h
          obtain ⟨rfl, rfl, rfl, rfl⟩ := h
          obtain ⟨h1, h2⟩ := aop_frame hC ha
          obtain ⟨h3, h4⟩ := rops_frame hC hr
          refine ⟨Nat.le_trans h1 h3, fun id hid hn => ?_⟩
          rw [List.mem_append, not_or] at hn
          rw [h4 id (by omega) hn.2, h2 id hid hn.1]
        · cases h
      · cases h
    · split at h
      · rename_i fr3 H3 w3 fs3 hr
        simp only [Option.some.injEq, Prod.mk.injEq] at h
        obtain ⟨rfl, rfl, rfl, rfl⟩ := h
        exact rops_frame hC hr
      · cases h
    · cases h

theorem rops_sops (hE : EnvOK P E) (hC : ∀ g args H r H' W, C g args H = some (r, H', W) → Con P g args H r H' W) {ops : Array Oper} : ∀ {l : List Oper} {fr : AFr} {H : AHeap} {fr2 : AFr} {H2 : AHeap} {w : List Nat} {fs : Foots},
    rops E C ops.toList l fr H = some (fr2, H2, w, fs) → SOps P ops l fr H fun f h => f = fr2 ∧ h = H2
  | [], fr, H, fr2, H2, w, fs, h => by
    simp only [rops, Option.some.injEq, Prod.mk.injEq] at h
    obtain ⟨rfl, rfl, rfl, rfl⟩ := h
    exact SOps.nil ⟨rfl, rfl⟩
  | o :: rest, fr, H, fr2, H2, w, fs, h => by
    simp only [rops] at h
    split at h
    · rename_i hw
      split at h
      · rename_i r H' w1 ha
        split at h
        · rename_i fr3 H3 w3 fs3 hr
          simp only [Option.some.injEq, Prod.mk.injEq] at h
          obtain ⟨rfl, rfl, rfl, rfl⟩ := h
          exact SOps.want hw (aop_sound hE hC ha) (rops_sops hE hC hr)
        · cases h
      · cases h
    · rename_i hw
      split at h
      · rename_i fr3 H3 w3 fs3 hr
        simp only [Option.some.injEq, Prod.mk.injEq] at h
        obtain ⟨rfl, rfl, rfl, rfl⟩ := h
        exact SOps.skip hw (rops_sops hE hC hr)
      · cases h
    · cases h
end

theorem ains_foot {fr : AFr} {op : Op} (h : ains op = true) : afoot fr op = some [] := by
  unfold afoot
  rw [if_pos h]
theorem aquiet_writes {E : Env} {C : CallF} {fr : AFr} {H H' : AHeap} {r : AV} {w : List Nat} {op : Op} (hq : aquiet op = true) (h : aop E C fr H op = some (r, H', w)) : w = [] ∧ H' = H := by
  unfold aquiet at hq
  rcases aop_cases h with ⟨h1, rfl⟩ | ⟨f, args, ats, k, first, cap, rfl, _⟩
  · cases hi : ains op with
    | true => exact ⟨awrites_ains hi, (ains_ok hi h1).1⟩
    | false =>
      rw [hi] at hq
      cases op <;> simp only [Bool.false_or] at hq <;> try (cases hq; done)
      simp only [alocal] at h1
      obtain ⟨a, _, h2⟩ := map_some h1
      injection h2 with _ h2
      exact ⟨rfl, h2.symm⟩
  · simp [ains] at hq

/-- What has been recorded of each operation. -/
theorem rops_foots {E : Env} {C : CallF} {all : List Oper} : ∀ {l : List Oper} {fr : AFr} {H : AHeap} {fr2 : AFr} {H2 : AHeap} {w : List Nat} {fs : Foots},
    rops E C all l fr H = some (fr2, H2, w, fs) → ∀ (i : Nat) (o : Oper) (F : Option (List Nat)) (W : List Nat), l[i]? = some o → fs[i]? = some (F, W) → (ains o.op = true → F = some [] ∧ W = []) ∧ (aquiet o.op = true → W = [])
  | [], fr, H, fr2, H2, w, fs, h, i, o, F, W, ho, hf => by simp at ho
  | o :: rest, fr, H, fr2, H2, w, fs, h, i, o', F, W, ho, hf => by
    simp only [rops] at h
    split at h
    · split at h
      · rename_i r H' w1 ha
        split at h
        · rename_i fr3 H3 w3 fs3 hr
          simp only [Option.some.injEq, Prod.mk.injEq] at h
          obtain ⟨rfl, rfl, rfl, rfl⟩ := h
          cases i with
          | zero =>
            simp at ho hf
            subst ho
            obtain ⟨rfl, rfl⟩ := hf
            have hq : aquiet o.op = true → w1 ++ List.range' H.length (H'.length - H.length) = [] := fun hq => by
              obtain ⟨rfl, rfl⟩ := aquiet_writes hq ha
              simp
            exact ⟨fun hi => ⟨ains_foot hi, hq (by simp [aquiet, hi])⟩, hq⟩
          | succ i => exact rops_foots hr i o' F W (by simpa using ho) (by simpa using hf)
        · cases h
      · cases h
    · split at h
      · rename_i fr3 H3 w3 fs3 hr
        simp only [Option.some.injEq, Prod.mk.injEq] at h
        obtain ⟨rfl, rfl, rfl, rfl⟩ := h
        cases i with
        | zero =>
          simp at ho hf
          obtain ⟨rfl, rfl⟩ := hf
          exact ⟨fun _ => ⟨rfl, rfl⟩, fun _ => rfl⟩
        | succ i => exact rops_foots hr i o' F W (by simpa using ho) (by simpa using hf)
      · cases h
    · cases h

theorem drawStat_ok {loose : List (Nat × Nat)} {ops : List Oper} {n : Nat} (h : drawStat loose ops n = true) :
    ∀ (i : Nat) (o : Oper), ops[i]? = some o → (∀ e ∈ o.after, Region.binds .any e = true → e.on < i) ∧ (∀ d, o.dst = some d → d < n) ∧
      ∀ (j : Nat) (p : Oper), i ≠ j → ops[j]? = some p → (∀ d, p.dst = some d → (d ∈ alooks ops o ∨ o.dst = some d) → cmpB ops i j = true) ∧ (cmpB ops i j = true ∨ ains o.op = true ∨ aquiet p.op = true ∨ (i, j) ∈ loose) := by
  intro i o ho
  have lt : ∀ {i : Nat} {o : Oper}, ops[i]? = some o → i < ops.length := fun h => (List.getElem?_eq_some_iff.1 h).1
  have h1 := List.all_eq_true.1 h i (List.mem_range.2 (lt ho))
  rw [ho] at h1
  obtain ⟨h2, h3⟩ := (Bool.and_eq_true _ _).mp h1
  obtain ⟨h3, h4⟩ := (Bool.and_eq_true _ _).mp h3
  refine ⟨fun e he hb => ?_, fun d hd => ?_, fun j p hij hp => ?_⟩
  · have := Array.all_eq_true_iff_forall_mem.1 h2 e he
    simp only [hb, Bool.not_true, Bool.false_or, decide_eq_true_eq] at this
    exact this
  · rw [hd] at h3
    simpa using h3
  · have h5 := List.all_eq_true.1 h4 j (List.mem_range.2 (lt hp))
    rw [hp] at h5
    rcases (Bool.or_eq_true _ _).mp h5 with h | h
    · exact absurd (by simpa using h) hij
    · obtain ⟨h6, h7⟩ := (Bool.and_eq_true _ _).mp h
      refine ⟨fun d hd hx => ?_, ?_⟩
      · simp only [hd] at h6
        rcases (Bool.or_eq_true _ _).mp h6 with h | h
        · rw [Bool.not_eq_true', Bool.or_eq_false_iff] at h
          rcases hx with hx | hx
          · have : (alooks ops o).contains d = true := by simpa using hx
            rw [h.1] at this; cases this
          · have : (o.dst == some d) = true := by rw [hx]; simp
            rw [h.2] at this; cases this
        · exact h
      · rcases (Bool.or_eq_true _ _).mp h7 with h | h
        · rcases (Bool.or_eq_true _ _).mp h with h | h
          · rcases (Bool.or_eq_true _ _).mp h with h | h
            · exact .inl h
            · exact .inr (.inl h)
          · exact .inr (.inr (.inl h))
        · exact .inr (.inr (.inr (by simpa using h)))

theorem rops_draw {P : Program} {E : Env} {C : CallF} (hE : EnvOK P E) (hm : P.follows .mixedOrders = true) (hC : ∀ g args H r H' W, C g args H = some (r, H', W) → Con P g args H r H' W) {ops : Array Oper} {fr fr2 : AFr} {H H2 : AHeap} {w : List Nat} {fs : Foots} {loose : List (Nat × Nat)} {id : Nat}
    (h : rops E C ops.toList ops.toList fr H = some (fr2, H2, w, fs)) (hs : drawStat loose ops.toList fr.n = true) (hf : footOK fs loose = true) : SCode P (.region id ops true) fr H fun ex f h => ex = .normal ∧ f = fr2 ∧ h = H2 := by
  obtain ⟨ss, tr, hss⟩ := rops_trace hE hC h
  have st := drawStat_ok hs
  refine SItems.foot hm tr ⟨fun i o ho => (st i o ho).1, fun i o ho => (st i o ho).2.1, fun i j o p hij ho hp => ((st i o ho).2.2 j p hij hp).1, fun i j s s' hij hsi hsj => ?_⟩ ⟨rfl, rfl, rfl⟩
  obtain ⟨ho, _⟩ := tr.op i s hsi
  obtain ⟨hp, _⟩ := tr.op j s' hsj
  have hfi : fs[i]? = some (s.F, s.W) := by rw [← hss]; simp [hsi]
  have hfj : fs[j]? = some (s'.F, s'.W) := by rw [← hss]; simp [hsj]
  have fi := rops_foots h i s.o s.F s.W ho hfi
  have fj := rops_foots h j s'.o s'.F s'.W hp hfj
  rcases ((st i s.o ho).2.2 j s'.o hij hp).2 with hx | hx | hx | hx
  · exact .inl hx
  · exact .inr (.inr ⟨[], (fi.1 hx).1, fun id hid => by cases hid⟩)
  · exact .inr (.inl (fj.2 hx))
  · unfold footOK at hf
    have := List.all_eq_true.1 hf (i, j) hx
    simp only [hfi, hfj] at this
    rcases (Bool.or_eq_true _ _).mp this with h1 | h1
    · exact .inr (.inl (by simpa using h1))
    · cases hF : s.F with
      | none => rw [hF] at h1; cases h1
      | some f =>
        rw [hF] at h1
        refine .inr (.inr ⟨f, hF, fun id hid => ?_⟩)
        have := List.all_eq_true.1 h1 id hid
        simpa using this
end Go.Av
set_option linter.unusedVariables false
set_option linter.unusedSectionVars false
set_option linter.unusedSimpArgs false
namespace Go.Av
open Go.RowKit
variable [Ground]

theorem mem_addNew {x y : Nat} {l : List Nat} : y ∈ addNew x l ↔ y = x ∨ y ∈ l := by
  unfold addNew
  split
  · rename_i h
    have : x ∈ l := by simpa using h
    constructor
    · exact .inr
    · rintro (rfl | h)
      · exact this
      · exact h
  · simp
theorem mem_kept {n id : Nat} (hn : id < n) : ∀ {w : List Nat}, id ∈ w → id ∈ kept n w
  | [], h => by cases h
  | x :: xs, h => by
    simp only [kept]
    rcases List.mem_cons.1 h with rfl | h
    · rw [if_pos hn]; exact mem_addNew.2 (.inl rfl)
    · split
      · exact mem_addNew.2 (.inr (mem_kept hn h))
      · exact mem_kept hn h

def taskOK (loose : Nat → List (Nat × Nat)) (n : Nat) : Task → Bool
  | .code c => codeOK loose n c
  | .scope whole cur => codeOK loose n whole && codeOK loose n cur

/-- What a run comes to. -/
def Ran (P : Program) (pre : List Item) (fr : AFr) (H : AHeap) (ex : AExit) (fr' : AFr) (H' : AHeap) : Prop := SItems P pre fr H fun e f h => e = ex ∧ f = fr' ∧ h = H'
def Kept (H H' : AHeap) (w : List Nat) : Prop := H.length ≤ H'.length ∧ ∀ id, id < H.length → id ∉ w → H'[id]? = H[id]?
theorem Kept.refl (H : AHeap) : Kept H H [] := ⟨Nat.le_refl _, fun _ _ _ => rfl⟩
theorem Kept.trans {H H1 H2 : AHeap} {w1 w2 : List Nat} (h : Kept H H1 w1) (k : Kept H1 H2 w2) : Kept H H2 (w1 ++ w2) := by
  refine ⟨Nat.le_trans h.1 k.1, fun id hid hn => ?_⟩
  rw [List.mem_append, not_or] at hn
  rw [k.2 id (Nat.lt_of_lt_of_le hid h.1) hn.2, h.2 id hid hn.1]

section
variable {P : Program} {C : Cfg}

/-- A call out of a run of the body. -/
theorem con_of_run (ok : CfgOK P C) {g : FuncId} {fn : AFn} (hF : C.F g = some fn) {args : List AV} {H H1 : AHeap} {ex : AExit} {fr' : AFr} {w : List Nat} {r : AV} (hex : ex = .normal ∨ ex = .ret)
    (h : Ran P [.code fn.body] ⟨fn.ntmps, aargs 0 args⟩ H ex fr' H1) (hk : Kept H H1 w) (hr : aresults C.E fr' H1 fn.results = some r) : Con P g args H r (rtrim H.length r H1 (kept H.length w)) (kept H.length w) := by
  have hfn := ok.fn g fn hF
  refine ⟨⟨_, _, _, hfn⟩, ?_⟩
  have hac : AC P g args H r H1 (kept H.length w) := by
    refine AC.body ok.env hfn (fun id o ho hn => ?_) (h.mono ?_)
    · have hid := (List.getElem?_eq_some_iff.1 ho).1
      rw [hk.2 id hid (fun hw => hn (mem_kept hid hw))]
      exact ho
    · rintro e f h ⟨rfl, rfl, rfl⟩
      exact ⟨hex, rfl, hr⟩
  unfold rtrim
  split
  · exact hac
  · split
    · rename_i hc
      obtain ⟨h1, h2⟩ := (Bool.and_eq_true _ _).mp hc
      refine hac.trim h1 (by rw [List.length_take]; have := hk.1; omega) (fun id o ho => ?_) (fun id o ho hw => ?_)
      · rw [List.getElem?_take] at ho
        split at ho
        · exact ho
        · cases ho
      · have := List.all_eq_true.1 h2 id hw
        rw [List.getElem?_take] at ho
        split at ho
        · rw [ho] at this; exact this
        · cases ho
    · exact hac

theorem arun_sound (ok : CfgOK P C) : ∀ (n : Nat) (f nt : Nat) (t : Task) (fr : AFr) (H : AHeap) (ex : AExit) (fr' : AFr) (H' : AHeap) (w : List Nat), taskOK (C.loose f) nt t = true → arun C n f nt t fr H = some (ex, fr', H', w) →
    Ran P t.pre fr H ex fr' H' ∧ Kept H H' w ∧ ∀ b, t = .code (.loop b) → Ran P [.inLoop b] fr H ex fr' H' := by
  intro n
  induction n with
  | zero => intro f nt t fr H ex fr' H' w _ h; cases h
  | succ n ih =>
    intro f nt t fr H ex fr' H' w ht h
    cases t with
    | scope whole cur =>
      simp only [taskOK, Bool.and_eq_true] at ht
      simp only [arun] at h
      refine ⟨?_, ?_, fun b hb => by cases hb⟩
      · split at h
        · rename_i l fr1 H1 w1 h1
          obtain ⟨r1, k1, _⟩ := ih f nt (.code cur) fr H _ _ _ _ ht.2 h1
          split at h
          · rename_i rest hr
            split at h
            · rename_i ex2 fr2 H2 w2 h2
              simp only [Option.some.injEq, Prod.mk.injEq] at h
              obtain ⟨rfl, rfl, rfl, rfl⟩ := h
              obtain ⟨r2, k2, _⟩ := ih f nt (.scope whole rest) fr1 H1 _ _ _ _ (by simp [taskOK, ht.1, codeOK_find ht.1 hr]) h2
              refine SItems.scope_at (r1.mono ?_)
              rintro e f' h' ⟨rfl, rfl, rfl⟩
              simp only [hr]
              exact r2
            · cases h
          · rename_i hr
            simp only [Option.some.injEq, Prod.mk.injEq] at h
            obtain ⟨rfl, rfl, rfl, rfl⟩ := h
            refine SItems.scope_at (r1.mono ?_)
            rintro e f' h' ⟨rfl, rfl, rfl⟩
            simp only [hr]
            simp
        · rename_i hne
          obtain ⟨r1, k1, _⟩ := ih f nt (.code cur) fr H _ _ _ _ ht.2 h
          refine SItems.scope_at (r1.mono ?_)
          rintro e f' h' ⟨rfl, rfl, rfl⟩
          cases e with
          | goto l => exact absurd h (hne l f' h' w)
          | normal => exact ⟨rfl, rfl, rfl⟩
          | exit id => exact ⟨rfl, rfl, rfl⟩
          | ret => exact ⟨rfl, rfl, rfl⟩
      · split at h
        · rename_i l fr1 H1 w1 h1
          obtain ⟨r1, k1, _⟩ := ih f nt (.code cur) fr H _ _ _ _ ht.2 h1
          split at h
          · rename_i rest hr
            split at h
            · rename_i ex2 fr2 H2 w2 h2
              simp only [Option.some.injEq, Prod.mk.injEq] at h
              obtain ⟨rfl, rfl, rfl, rfl⟩ := h
              obtain ⟨r2, k2, _⟩ := ih f nt (.scope whole rest) fr1 H1 _ _ _ _ (by simp [taskOK, ht.1, codeOK_find ht.1 hr]) h2
              exact k1.trans k2
            · cases h
          · simp only [Option.some.injEq, Prod.mk.injEq] at h
            obtain ⟨rfl, rfl, rfl, rfl⟩ := h
            exact k1
        · exact (ih f nt (.code cur) fr H _ _ _ _ ht.2 h).2.1
    | code c =>
      simp only [taskOK] at ht
      cases c with
      | skip =>
        simp only [arun, Option.some.injEq, Prod.mk.injEq] at h
        obtain ⟨rfl, rfl, rfl, rfl⟩ := h
        exact ⟨SItems.skip ⟨rfl, rfl, rfl⟩, .refl _, fun b hb => by cases hb⟩
      | label l =>
        simp only [arun, Option.some.injEq, Prod.mk.injEq] at h
        obtain ⟨rfl, rfl, rfl, rfl⟩ := h
        exact ⟨SItems.label ⟨rfl, rfl, rfl⟩, .refl _, fun b hb => by cases hb⟩
      | exit id =>
        simp only [arun, Option.some.injEq, Prod.mk.injEq] at h
        obtain ⟨rfl, rfl, rfl, rfl⟩ := h
        exact ⟨SItems.exit ⟨rfl, rfl, rfl⟩, .refl _, fun b hb => by cases hb⟩
      | ret =>
        simp only [arun, Option.some.injEq, Prod.mk.injEq] at h
        obtain ⟨rfl, rfl, rfl, rfl⟩ := h
        exact ⟨SItems.ret ⟨rfl, rfl, rfl⟩, .refl _, fun b hb => by cases hb⟩
      | goto l =>
        simp only [arun, Option.some.injEq, Prod.mk.injEq] at h
        obtain ⟨rfl, rfl, rfl, rfl⟩ := h
        exact ⟨SItems.goto ⟨rfl, rfl, rfl⟩, .refl _, fun b hb => by cases hb⟩
      | refuse s => cases h
      | rangeFunc a b c d => cases h
      | scope b =>
        simp only [arun] at h
        obtain ⟨r1, k1, _⟩ := ih f nt (.scope b b) fr H _ _ _ _ (by simpa [taskOK, codeOK] using ht) h
        exact ⟨SItems.scope r1, k1, fun b hb => by cases hb⟩
      | cond q x y =>
        simp only [codeOK, Bool.and_eq_true] at ht
        simp only [arun] at h
        split at h
        · rename_i hq
          obtain ⟨r1, k1, _⟩ := ih f nt (.code x) fr H _ _ _ _ ht.1 h
          exact ⟨SItems.cond_true hq r1, k1, fun b hb => by cases hb⟩
        · rename_i hq
          obtain ⟨r1, k1, _⟩ := ih f nt (.code y) fr H _ _ _ _ ht.2 h
          exact ⟨SItems.cond_false hq r1, k1, fun b hb => by cases hb⟩
        · cases h
      | seq x y =>
        simp only [codeOK, Bool.and_eq_true] at ht
        simp only [arun] at h
        split at h
        · rename_i fr1 H1 w1 h1
          obtain ⟨r1, k1, _⟩ := ih f nt (.code x) fr H _ _ _ _ ht.1 h1
          split at h
          · rename_i ex2 fr2 H2 w2 h2
            simp only [Option.some.injEq, Prod.mk.injEq] at h
            obtain ⟨rfl, rfl, rfl, rfl⟩ := h
            obtain ⟨r2, k2, _⟩ := ih f nt (.code y) fr1 H1 _ _ _ _ ht.2 h2
            refine ⟨SItems.seq (r1.mono ?_), k1.trans k2, fun b hb => by cases hb⟩
            rintro e f' h' ⟨rfl, rfl, rfl⟩
            exact r2
          · cases h
        · rename_i hne
          obtain ⟨r1, k1, _⟩ := ih f nt (.code x) fr H _ _ _ _ ht.1 h
          refine ⟨SItems.seq (r1.mono ?_), k1, fun b hb => by cases hb⟩
          rintro e f' h' ⟨rfl, rfl, rfl⟩
          cases e with
          | normal => exact absurd h (hne f' h' w)
          | goto l => exact ⟨rfl, rfl, rfl⟩
          | exit id => exact ⟨rfl, rfl, rfl⟩
          | ret => exact ⟨rfl, rfl, rfl⟩
      | block id b =>
        simp only [codeOK] at ht
        simp only [arun] at h
        split at h
        · rename_i id' fr1 H1 w1 h1
          obtain ⟨r1, k1, _⟩ := ih f nt (.code b) fr H _ _ _ _ ht h1
          split at h
          · rename_i e
            simp only [Option.some.injEq, Prod.mk.injEq] at h
            obtain ⟨rfl, rfl, rfl, rfl⟩ := h
            refine ⟨SItems.block (r1.mono ?_), k1, fun b hb => by cases hb⟩
            rintro e' f' h' ⟨rfl, rfl, rfl⟩
            simp only [e, if_true]
            simp
          · rename_i e
            simp only [Option.some.injEq, Prod.mk.injEq] at h
            obtain ⟨rfl, rfl, rfl, rfl⟩ := h
            refine ⟨SItems.block (r1.mono ?_), k1, fun b hb => by cases hb⟩
            rintro e' f' h' ⟨rfl, rfl, rfl⟩
            simp only [if_neg e]
            simp
        · rename_i hne
          obtain ⟨r1, k1, _⟩ := ih f nt (.code b) fr H _ _ _ _ ht h
          refine ⟨SItems.block (r1.mono ?_), k1, fun b hb => by cases hb⟩
          rintro e f' h' ⟨rfl, rfl, rfl⟩
          cases e with
          | exit i => exact absurd h (hne i f' h' w)
          | goto l => exact ⟨rfl, rfl, rfl⟩
          | normal => exact ⟨rfl, rfl, rfl⟩
          | ret => exact ⟨rfl, rfl, rfl⟩
      | loop b =>
        simp only [codeOK] at ht
        simp only [arun] at h
        have key : ∀ {pre : List Item}, (SCode P b fr H (fun e fr1 H1 => match e with | .normal => SItems P [.inLoop b] fr1 H1 (fun e f h => e = ex ∧ f = fr' ∧ h = H') | e => e = ex ∧ fr1 = fr' ∧ H1 = H') → SItems P pre fr H (fun e f h => e = ex ∧ f = fr' ∧ h = H')) → Ran P pre fr H ex fr' H' := by
          intro pre hp
          refine hp ?_
          split at h
          · rename_i fr1 H1 w1 h1
            obtain ⟨r1, k1, _⟩ := ih f nt (.code b) fr H _ _ _ _ ht h1
            split at h
            · rename_i ex2 fr2 H2 w2 h2
              simp only [Option.some.injEq, Prod.mk.injEq] at h
              obtain ⟨rfl, rfl, rfl, rfl⟩ := h
              obtain ⟨_, _, r2⟩ := ih f nt (.code (.loop b)) fr1 H1 _ _ _ _ (by simpa [taskOK, codeOK] using ht) h2
              refine r1.mono ?_
              rintro e f' h' ⟨rfl, rfl, rfl⟩
              exact r2 b rfl
            · cases h
          · rename_i hne
            obtain ⟨r1, k1, _⟩ := ih f nt (.code b) fr H _ _ _ _ ht h
            refine r1.mono ?_
            rintro e f' h' ⟨rfl, rfl, rfl⟩
            cases e with
            | normal => exact absurd h (hne f' h' w)
            | goto l => exact ⟨rfl, rfl, rfl⟩
            | exit id => exact ⟨rfl, rfl, rfl⟩
            | ret => exact ⟨rfl, rfl, rfl⟩
        refine ⟨key fun hb => SItems.loop hb, ?_, fun b' hb' => ?_⟩
        · split at h
          · rename_i fr1 H1 w1 h1
            obtain ⟨r1, k1, _⟩ := ih f nt (.code b) fr H _ _ _ _ ht h1
            split at h
            · rename_i ex2 fr2 H2 w2 h2
              simp only [Option.some.injEq, Prod.mk.injEq] at h
              obtain ⟨rfl, rfl, rfl, rfl⟩ := h
              obtain ⟨_, k2, _⟩ := ih f nt (.code (.loop b)) fr1 H1 _ _ _ _ (by simpa [taskOK, codeOK] using ht) h2
              exact k1.trans k2
            · cases h
          · exact (ih f nt (.code b) fr H _ _ _ _ ht h).2.1
        · injection hb' with hb'
          injection hb' with hb'
          subst hb'
          exact key fun hb => SItems.inLoop hb
      | region id ops draw =>
        simp only [arun] at h
        split at h
        · rename_i fr1 H1 w1 fs hr
          have hC : ∀ g args H r H' W, (if C.isHook g then C.hook g args H else
              match C.F g with
              | some fn => match arun C n g fn.ntmps (.code fn.body) ⟨fn.ntmps, aargs 0 args⟩ H with
                | some (.normal, fr', H', w) => (aresults C.E fr' H' fn.results).map fun r => (r, rtrim H.length r H' (kept H.length w), kept H.length w)
                | some (.ret, fr', H', w) => (aresults C.E fr' H' fn.results).map fun r => (r, rtrim H.length r H' (kept H.length w), kept H.length w)
                | _ => none
              | none => none) = some (r, H', W) → Con P g args H r H' W := by
            intro g args H r H' W h
            split at h
            · rename_i hh; exact ok.hook g args H r H' W hh h
            · split at h
              · rename_i fn hF
                have hreg := ok.regions g fn hF
                split at h
                · rename_i fr2 H2 w2 ha
                  obtain ⟨x, h1, h2⟩ := map_some h
                  simp only [Prod.mk.injEq] at h2
                  obtain ⟨rfl, rfl, rfl⟩ := h2
                  obtain ⟨r1, k1, _⟩ := ih g fn.ntmps (.code fn.body) _ _ _ _ _ _ hreg ha
                  exact con_of_run ok hF (.inl rfl) r1 k1 h1
                · rename_i fr2 H2 w2 ha
                  obtain ⟨x, h1, h2⟩ := map_some h
                  simp only [Prod.mk.injEq] at h2
                  obtain ⟨rfl, rfl, rfl⟩ := h2
                  obtain ⟨r1, k1, _⟩ := ih g fn.ntmps (.code fn.body) _ _ _ _ _ _ hreg ha
                  exact con_of_run ok hF (.inr rfl) r1 k1 h1
                · cases h
              · cases h
          have hk := rops_frame hC hr
          split at h
          · rename_i hd
            split at h
            · rename_i hc
              obtain ⟨hc1, hc2⟩ := (Bool.and_eq_true _ _).mp hc
              simp only [Option.some.injEq, Prod.mk.injEq] at h
              obtain ⟨rfl, rfl, rfl, rfl⟩ := h
              subst hd
              refine ⟨?_, hk, fun b hb => by cases hb⟩
              have hn : fr.n = nt := Nat.eq_of_beq_eq_true hc1
              exact rops_draw ok.env ok.mixed hC hr (by rw [hn]; exact ht) hc2
            · cases h
          · rename_i hd
            simp only [Option.some.injEq, Prod.mk.injEq] at h
            obtain ⟨rfl, rfl, rfl, rfl⟩ := h
            have hd : draw = false := by simpa using hd
            subst hd
            refine ⟨?_, hk, fun b hb => by cases hb⟩
            refine SItems.region ?_
            obtain ⟨a, b, ⟨rfl, rfl⟩, c⟩ := rops_sops ok.env hC hr
            exact ⟨a, b, ⟨rfl, rfl, rfl⟩, c⟩
        · cases h

/-- A call that has been run is so. -/
theorem acall_con (ok : CfgOK P C) {n : Nat} {g : FuncId} {args : List AV} {H H' : AHeap} {r : AV} {W : List Nat} (h : acall C n g args H = some (r, H', W)) : Con P g args H r H' W := by
  unfold acall at h
  split at h
  · rename_i fn hF
    have hreg := ok.regions g fn hF
    split at h
    · rename_i fr2 H2 w2 ha
      obtain ⟨x, h1, h2⟩ := map_some h
      simp only [Prod.mk.injEq] at h2
      obtain ⟨rfl, rfl, rfl⟩ := h2
      obtain ⟨r1, k1, _⟩ := arun_sound ok n g fn.ntmps (.code fn.body) _ _ _ _ _ _ hreg ha
      exact con_of_run ok hF (.inl rfl) r1 k1 h1
    · rename_i fr2 H2 w2 ha
      obtain ⟨x, h1, h2⟩ := map_some h
      simp only [Prod.mk.injEq] at h2
      obtain ⟨rfl, rfl, rfl⟩ := h2
      obtain ⟨r1, k1, _⟩ := arun_sound ok n g fn.ntmps (.code fn.body) _ _ _ _ _ _ hreg ha
      exact con_of_run ok hF (.inr rfl) r1 k1 h1
    · cases h
  · cases h
end
end Go.Av
set_option linter.unusedVariables false
set_option linter.unusedSectionVars false
namespace Go.Av
open Go.RowKit
variable [Ground]

def bidx (c : Nat) : List UInt8 → Int → Int
  | [], _ => -1
  | x :: xs, i => if Nat.beq x.toNat c then i else bidx c xs (i + 1)
theorem find_range {c : UInt8} : ∀ (l : List UInt8), (List.range l.length).find? (fun i => l[i]! == c) = l.findIdx? (· == c)
  | [] => rfl
  | x :: xs => by
    rw [List.length_cons, List.range_succ_eq_map, List.find?_cons, List.findIdx?_cons]
    have h0 : (x :: xs)[0]! = x := rfl
    rw [h0]
    cases h : (x == c) with
    | true => rfl
    | false =>
      simp only [List.find?_map, Bool.false_eq_true, if_false]
      have : ((fun i => (x :: xs)[i]! == c) ∘ Nat.succ) = fun i => xs[i]! == c := by
        funext i
        simp
      rw [this, find_range xs]
theorem bidx_ok (c : UInt8) : ∀ (l : List UInt8) (k : Nat), bidx c.toNat l k = match l.findIdx? (· == c) with | some i => ((i + k : Nat) : Int) | none => -1
  | [], k => rfl
  | x :: xs, k => by
    simp only [bidx, List.findIdx?_cons]
    by_cases h : x = c
    · subst h
      simp
    · have h1 : Nat.beq x.toNat c.toNat = false := by
        cases hb : Nat.beq x.toNat c.toNat with
        | false => rfl
        | true => exact absurd (UInt8.toNat_inj.1 (Nat.eq_of_beq_eq_true hb)) h
      have h2 : (x == c) = false := by simp [h]
      rw [h1, h2]
      simp only [Bool.false_eq_true, if_false]
      have := bidx_ok c xs (k + 1)
      rw [show ((k : Int) + 1) = ((k + 1 : Nat) : Int) by omega, this]
      cases xs.findIdx? (· == c) with
      | none => rfl
      | some i => simp only [Option.map_some]; congr 1; omega
theorem firstIdx_bidx (l : List UInt8) (c : UInt8) : firstIdx ⟨⟨l⟩⟩ c = bidx c.toNat l 0 := by
  have h1 := bidx_ok c l 0
  rw [show ((0 : Nat) : Int) = 0 from rfl] at h1
  rw [h1]
  unfold firstIdx
  have : (List.range (⟨⟨l⟩⟩ : ByteArray).size).find? (fun i => (⟨⟨l⟩⟩ : ByteArray)[i]! == c) = l.findIdx? (· == c) := by
    rw [← find_range]
    have hs : (⟨⟨l⟩⟩ : ByteArray).size = l.length := rfl
    rw [hs]
    congr 1
    funext i
    have : (⟨⟨l⟩⟩ : ByteArray)[i]! = l[i]! := by
      rcases Nat.lt_or_ge i l.length with h | h
      · have h1 : i < (⟨⟨l⟩⟩ : ByteArray).size := h
        rw [getElem!_pos _ i h1, getElem!_pos l i h]
        rfl
      · rw [getElem!_neg _ i (by show ¬ i < l.length; omega), getElem!_neg l i (by omega)]
    rw [this]
  rw [this]
  cases l.findIdx? (· == c) <;> rfl
end Go.Av
namespace Go.Av
def bytesEq : List UInt8 → List UInt8 → Bool
  | [], [] => true
  | a :: ar, b :: bs => Nat.beq a.toNat b.toNat && bytesEq ar bs
  | _, _ => false
theorem bytesEq_iff : ∀ {a b : List UInt8}, bytesEq a b = true ↔ a = b
  | [], [] => by simp [bytesEq]
  | [], _ :: _ => by simp [bytesEq]
  | _ :: _, [] => by simp [bytesEq]
  | a :: ar, b :: bs => by
    simp only [bytesEq, Bool.and_eq_true, List.cons.injEq, bytesEq_iff]
    constructor
    · rintro ⟨h1, h2⟩
      exact ⟨UInt8.toNat_inj.1 (Nat.eq_of_beq_eq_true h1), h2⟩
    · rintro ⟨h1, h2⟩
      subst h1
      exact ⟨Nat.beq_refl _, h2⟩
def findIn (xs : List AV) (nm : List UInt8) : Option AV :=
  match xs with
  | [] => some (.tuple [.str [], .bool false])
  | [.agg [.str a, .str r]] => if bytesEq a nm then some (.tuple [.str r, .bool true]) else some (.tuple [.str [], .bool false])
  | _ => none
def findHook : CallF := fun _ args H => match args with
  | [.vptr id off, .str nm] => match H[id]? with
    | some (.var cs) => match cs[off + 1]? with
      | some (.slice xs _) => (match findIn xs nm with | some r => some (r, H, []) | none => none)
      | _ => none
    | _ => none
  | _ => none
end Go.Av
set_option linter.unusedVariables false
set_option linter.unusedSectionVars false
namespace Go.Av
open Go.RowKit
variable [Ground]

/-- A program's functions. -/
def fnsOf (P : Program) : FTab := fun f => match P.funcs[f]? with
  | some fn => (match fn.body with | some b => some ⟨b, fn.ntmps, fn.results.toList⟩ | none => none)
  | none => none
theorem fnsOf_ok {P : Program} (hn : (P.funcs.toList.all fun fn => !(fn.name == "runtime.NumGoroutine")) = true) : ∀ f fn, fnsOf P f = some fn → FnAt P f fn.body fn.ntmps fn.results := by
  intro f fn h
  unfold fnsOf at h
  split at h
  · rename_i fn' hf
    split at h
    · rename_i b hb
      injection h with h
      subst h
      refine ⟨fn', hf, hb, rfl, rfl, ?_⟩
      have hm : fn' ∈ P.funcs.toList := by
        have : P.funcs.toList[f]? = some fn' := by simpa using hf
        exact List.mem_of_getElem? this
      have := List.all_eq_true.1 hn fn' hm
      simpa using this
    · cases h
  · cases h
/-- A table of pairs by function and region. -/
def looseIn : List (Nat × Nat × List (Nat × Nat)) → FuncId → Nat → List (Nat × Nat)
  | [], _, _ => []
  | (g, i, l) :: rest, f, id => if Nat.beq g f && Nat.beq i id then l else looseIn rest f id
/-- All regions whose order is drawn. -/
def regionsOK (P : Program) (loose : FuncId → Nat → List (Nat × Nat)) : Nat → List Func → Bool
  | _, [] => true
  | k, fn :: fns => (match fn.body with | some b => codeOK (loose k) fn.ntmps b | none => true) && regionsOK P loose (k + 1) fns
theorem regionsOK_at {P : Program} {loose : FuncId → Nat → List (Nat × Nat)} : ∀ {k : Nat} {l : List Func}, regionsOK P loose k l = true → ∀ i fn b, l[i]? = some fn → fn.body = some b → codeOK (loose (k + i)) fn.ntmps b = true
  | k, [], h, i, fn, b, hi, hb => by simp at hi
  | k, f0 :: fns, h, i, fn, b, hi, hb => by
    simp only [regionsOK, Bool.and_eq_true] at h
    cases i with
    | zero =>
      simp at hi
      subst hi
      have := h.1
      rw [hb] at this
      exact this
    | succ i =>
      have := regionsOK_at h.2 i fn b (by simpa using hi) hb
      rw [show k + (i + 1) = k + 1 + i by omega]
      exact this
theorem regions_ok {P : Program} {loose : FuncId → Nat → List (Nat × Nat)} (h : regionsOK P loose 0 P.funcs.toList = true) : ∀ f fn, fnsOf P f = some fn → codeOK (loose f) fn.ntmps fn.body = true := by
  intro f fn hf
  unfold fnsOf at hf
  split at hf
  · rename_i fn' hp
    split at hf
    · rename_i b hb
      injection hf with hf
      subst hf
      have := regionsOK_at h f fn' b (by simpa using hp) hb
      rw [Nat.zero_add] at this
      exact this
    · cases hf
  · cases hf
end Go.Av
set_option linter.unusedVariables false
set_option linter.unusedSectionVars false
namespace Go.Av
open Go.RowKit
variable [Ground]

/-- All that is there stays as it is. -/
def G.start (w : World) : G := ⟨fun _ => none, fun b o => w.cell? ⟨b, o, none⟩, fun _ _ => none⟩
theorem Inv.start (P : Program) (w : World) (hG : GlobR (G.start w)) : Inv P w.heap.size w (G.start w) (fun _ => none) w := by
  refine ⟨Below.refl _ _, Nat.le_refl _, ?_, ?_, ?_, ?_, ?_, ?_, hG⟩
  · intro b o v h; exact h
  · intro id b h; cases h
  · intro t e p b c _ h; cases h
  · intro t e v cs b c _ h; cases h
  · intro t p b c h; cases h
  · intro id id' b h _; cases h
theorem Con.calls {P : Program} {k : FuncId} {args : List AV} {b : Bool} {H' : AHeap} {W : List Nat} (h : Con P k args [] (.bool b) H' W) {vs : List Value} (w : World) (hG : GlobR (G.start w)) (hv : VRs (G.start w) args vs) :
    Calls P k ⟨vs⟩ w fun e w' => e = .returned (.bool b) ∧ Below w.heap.size w w' := by
  obtain ⟨_, _, hac⟩ := h.ac
  refine Calls.mono (hac w.heap.size w (G.start w) (fun _ => none) w vs (fun id o h => by simp at h) (Inv.start P w hG) hv (fun id _ => ⟨rfl, fun _ => rfl⟩)) ?_
  rintro e w' ⟨v, g', rfl, hr, _, hI⟩
  cases hr
  exact ⟨rfl, hI.below⟩
/-- A contract of what leaves all as it was. -/
theorem Con.of_calls {P : Program} {k : FuncId} {c : Code} {n : Nat} {rs : List ResultVar} (hfn : FnAt P k c n rs) {args : List AV} {H : AHeap} {r : AV}
    (h : ∀ (B0 : Nat) (W0 : World) (g : G) (S : Ghost) (w : World) (vs : List Value), Agree H S → Inv P B0 W0 g S w → VRs g args vs → Calls P k ⟨vs⟩ w fun e w' => ∃ v, e = .returned v ∧ VR g r v ∧ Below w.heap.size w w') : Con P k args H r H [] := by
  refine ⟨⟨_, _, _, hfn⟩, Nat.le_refl _, fun _ _ ho _ => ho, fun B0 W0 g S w vs hA hI hv hfr => ?_⟩
  refine Calls.mono (h B0 W0 g S w vs hA hI hv) ?_
  rintro e w' ⟨v, rfl, hr, hB⟩
  refine ⟨v, g, rfl, hr, .refl _ _ _, ?_⟩
  rw [hA.over_self]
  exact hI.grow ⟨hB.os, hB.tape, hB.output, hB.size, fun k hk _ => hB.block k hk⟩
end Go.Av
set_option linter.unusedVariables false
set_option linter.unusedSectionVars false
namespace Go.Av
open Go.RowKit
variable [Ground]

/-- Does the rest of a body come to true? -/
def comesTrue (C : Cfg) (n : Nat) (f nt : Nat) (c : Code) (fr : AFr) (H : AHeap) (rs : List ResultVar) : Bool :=
  match arun C n f nt (.code c) fr H with
  | some (.ret, fr', H', _) => (match aresults C.E fr' H' rs with | some (.bool true) => true | _ => false)
  | some (.normal, fr', H', _) => (match aresults C.E fr' H' rs with | some (.bool true) => true | _ => false)
  | _ => false
theorem comesTrue_ok {P : Program} {C : Cfg} (ok : CfgOK P C) {n f nt : Nat} {c : Code} {fr : AFr} {H : AHeap} {rs : List ResultVar} (hc : codeOK (C.loose f) nt c = true) (h : comesTrue C n f nt c fr H rs = true) :
    SCode P c fr H fun ex fr' H' => (ex = .normal ∨ ex = .ret) ∧ aresults C.E fr' H' rs = some (.bool true) := by
  unfold comesTrue at h
  split at h
  · rename_i fr' H' w hr
    split at h
    · rename_i hq
      refine SItems.mono (arun_sound ok n f nt (.code c) fr H _ _ _ _ hc hr).1 ?_
      rintro ex f2 h2 ⟨rfl, rfl, rfl⟩
      exact ⟨.inr rfl, hq⟩
    · cases h
  · rename_i fr' H' w hr
    split at h
    · rename_i hq
      refine SItems.mono (arun_sound ok n f nt (.code c) fr H _ _ _ _ hc hr).1 ?_
      rintro ex f2 h2 ⟨rfl, rfl, rfl⟩
      exact ⟨.inl rfl, hq⟩
    · cases h
  · cases h
/-- A piece of code, run. -/
theorem SCode.run {P : Program} {C : Cfg} (ok : CfgOK P C) {n f nt : Nat} {c : Code} {fr : AFr} {H : AHeap} {ex : AExit} {fr' : AFr} {H' : AHeap} {w : List Nat} {Q : AExit → AFr → AHeap → Prop} (hc : codeOK (C.loose f) nt c = true)
    (h : arun C n f nt (.code c) fr H = some (ex, fr', H', w)) (hq : Q ex fr' H') : SCode P c fr H Q := by
  refine SItems.mono (arun_sound ok n f nt (.code c) fr H _ _ _ _ hc h).1 ?_
  rintro ex f2 h2 ⟨rfl, rfl, rfl⟩
  exact hq
end Go.Av
namespace Go.Av
variable [Ground]
/-- A sequence's parts. -/
def headOf : Code → Code
  | .seq a _ => a
  | c => c
def tailOf : Nat → Code → Code
  | 0, c => c
  | n + 1, .seq _ b => tailOf n b
  | _, c => c
theorem SCode.step {P : Program} {c a b : Code} {fr : AFr} {H : AHeap} {Q : AExit → AFr → AHeap → Prop} (hc : c = .seq a b)
    (h : SCode P a fr H fun ex fr1 H1 => match ex with | .normal => SCode P b fr1 H1 Q | ex => Q ex fr1 H1) : SCode P c fr H Q := by
  subst hc
  exact SItems.seq h
/-- A law of one number, told by what 'within' answers: its body's front is run, the call of 'within' is a contract, the rest is run. -/
structure LawShape (P : Program) (C : Cfg) (f nt : Nat) (body : Code) (A : AV) (fr4 : AFr) : Prop where
  front : ∃ fr1 fr2 fr3 : AFr, arun C 3000 f nt (.code (headOf body)) ⟨nt, [(0, A)]⟩ [] = some (.normal, fr1, [], []) ∧
    arun C 3000 f nt (.code (headOf (tailOf 1 body))) fr1 [] = some (.normal, fr2, [], []) ∧
    arun C 3000 f nt (.code (headOf (tailOf 2 body))) fr2 [] = some (.normal, fr3, [], []) ∧
    arun C 3000 f nt (.code (headOf (tailOf 3 body))) fr3 [] = some (.normal, fr4, [], [])
  ok : codeOK (C.loose f) nt body = true
  s0 : body = .seq (headOf body) (tailOf 1 body)
  s1 : tailOf 1 body = .seq (headOf (tailOf 1 body)) (tailOf 2 body)
  s2 : tailOf 2 body = .seq (headOf (tailOf 2 body)) (tailOf 3 body)
  s3 : tailOf 3 body = .seq (headOf (tailOf 3 body)) (tailOf 4 body)
  s4 : tailOf 4 body = .seq (headOf (tailOf 4 body)) (tailOf 5 body)
theorem codeOK_head {l : Nat → List (Nat × Nat)} {n : Nat} {c a b : Code} (hc : c = .seq a b) (h : codeOK l n c = true) : codeOK l n a = true ∧ codeOK l n b = true := by
  subst hc
  simpa [codeOK] using h
theorem LawShape.con {P : Program} {C : Cfg} (ok : CfgOK P C) {f nt : Nat} {body : Code} {rs : List ResultVar} {A : AV} {fr4 : AFr} (sh : LawShape P C f nt body A fr4) (hfn : FnAt P f body nt rs) {fr5 : AFr}
    (h5 : ∀ Q : AExit → AFr → AHeap → Prop, Q .normal fr5 [] → SCode P (headOf (tailOf 4 body)) fr4 [] Q) (h6 : comesTrue C 3000 f nt (tailOf 5 body) fr5 [] rs = true) : Con P f [A] [] (.bool true) [] [] := by
  obtain ⟨fr1, fr2, fr3, r0, r1, r2, r3⟩ := sh.front
  obtain ⟨k0, k0'⟩ := codeOK_head sh.s0 sh.ok
  obtain ⟨k1, k1'⟩ := codeOK_head sh.s1 k0'
  obtain ⟨k2, k2'⟩ := codeOK_head sh.s2 k1'
  obtain ⟨k3, k3'⟩ := codeOK_head sh.s3 k2'
  obtain ⟨k4, k4'⟩ := codeOK_head sh.s4 k3'
  refine Con.pure ok.env hfn rfl ?_
  refine SCode.step sh.s0 (SCode.run ok k0 r0 ?_)
  refine SCode.step sh.s1 (SCode.run ok k1 r1 ?_)
  refine SCode.step sh.s2 (SCode.run ok k2 r2 ?_)
  refine SCode.step sh.s3 (SCode.run ok k3 r3 ?_)
  refine SCode.step sh.s4 (h5 _ ?_)
  refine SItems.mono (comesTrue_ok ok k4' h6) ?_
  rintro ex fr' H' ⟨h1, h2⟩
  exact ⟨h1, ⟨H', by simp⟩, h2⟩
/-- The region that calls 'within' of a number and a length. -/
theorem within_region {P : Program} {E : Env} (hE : EnvOK P E) {fr0 : AFr} {id : Nat} {o0 o1 o2 o3 o4 : Oper} {x0 x1 x2 x3 x4 : AV} {fr1 fr2 fr3 fr4 fr5 : AFr} {k : FuncId} {cargs : List AV} {Q : AExit → AFr → AHeap → Prop}
    (w0 : awanted [o0, o1, o2, o3, o4] fr0 o0 = some true) (a0 : alocal E fr0 [] o0.op = some (x0, [])) (e0 : aput fr0 o0.dst x0 = fr1)
    (w1 : awanted [o0, o1, o2, o3, o4] fr1 o1 = some true) (a1 : alocal E fr1 [] o1.op = some (x1, [])) (e1 : aput fr1 o1.dst x1 = fr2)
    (w2 : awanted [o0, o1, o2, o3, o4] fr2 o2 = some true) (a2 : alocal E fr2 [] o2.op = some (x2, [])) (e2 : aput fr2 o2.dst x2 = fr3)
    (w3 : awanted [o0, o1, o2, o3, o4] fr3 o3 = some true) (a3 : acallee fr3 o3.op = some (some (k, cargs))) (hc : Con P k cargs [] x3 [] []) (e3 : aput fr3 o3.dst x3 = fr4)
    (w4 : awanted [o0, o1, o2, o3, o4] fr4 o4 = some true) (a4 : alocal E fr4 [] o4.op = some (x4, [])) (e4 : aput fr4 o4.dst x4 = fr5) (n0 : acallee fr0 o0.op = some none) (n1 : acallee fr1 o1.op = some none) (n2 : acallee fr2 o2.op = some none) (n4 : acallee fr4 o4.op = some none)
    (hq : Q .normal fr5 []) : SCode P (.region id #[o0, o1, o2, o3, o4] false) fr0 [] Q := by
  refine SItems.walk hE ?_
  simp only [wops, w0, n0, a0, e0, w1, n1, a1, e1, w2, n2, a2, e2, w3, a3]
  refine ⟨x3, [], [], hc, ?_⟩
  simp only [e3, w4, n4, a4, e4]
  exact hq
end Go.Av
namespace Go.Av
open Go.Lib Go.Shelf Go.Proofs

theorem pinned_case : (Go.Pinned.caseRanges : DataW Unit) = .slice (caseT.map rowData) [] := rfl

theorem caseLaid {P : Program} {w : World} {g R : Nat} {tV tS tG tB : TypeId} (hg : P.globalNamed "unicode.CaseRanges" = some g) (ht : (P.globals[g]?).map (·.type) = some tV) (hU : P.underlying tV = some (.slice tS)) (hc : P.cellsOf tS = 5)
    (hrow : ∀ x : CaseRow, rowWf x = true → DataW.trod (fun _ => ()) P w 0 (fun _ => true) false 5 tS (cells5 x) = some (rowData x, []))
    (hvar : w.heap[g]? = some (.cells #[.slice (some ⟨R, 0, none⟩) caseA.size caseA.size] tG (0, 0))) (hblk : w.heap[R]? = some (.cells caseCells5 tB (0, 0))) (hgR : g ≠ R) : LaidIn P w [("unicode.CaseRanges", Go.Pinned.caseRanges)] [g, R] := by
  have hT := caseTab_of_block hblk
  have helem : ∀ i ∈ List.range caseA.size, (w.cells? 0 ((⟨R, 0, none⟩ : Addr).add (i * 5)) 5).bind (DataW.trod (fun _ => ()) P w 0 (fun _ => true) false 5 tS) = some ((fun i => ((rowData (caseA.getD i (0, 0, 0, 0, 0)) : DataW Unit), ([] : List MemPlace))) i) := by
    intro i hi
    have hi' := List.mem_range.1 hi
    rw [case_cells5 hT i hi']
    exact hrow _ (caseA_wf i hi')
  have hread : DataW.trod (fun _ => ()) P w 0 (fun _ => true) false (5 + 1) tV [.slice (some ⟨R, 0, none⟩) caseA.size caseA.size] = some (Go.Pinned.caseRanges, MemPlace.row ⟨R, 0, none⟩ (caseA.size * 5)) := by
    rw [pinned_case, ← case_rows_data]
    unfold DataW.trod
    simp only [hU, hc]
    rw [if_pos ⟨Nat.zero_le _, Nat.le_refl _, by rw [caseA_size]; unfold maxLen; omega⟩, mapM_some _ _ _ helem]
    simp [Function.comp_def]
  have hv : w.var? P "unicode.CaseRanges" = some #[.slice (some ⟨R, 0, none⟩) caseA.size caseA.size] := by simp [World.var?, hg, hvar]
  refine LaidIn.one [g, R] hg ht hv hread ?_ ?_ ?_
  · refine List.nodup_append.2 ⟨row_nodup _ _, row_nodup _ _, ?_⟩
    intro a ha b hb e
    obtain ⟨i, _, rfl⟩ := MemPlace.mem_row.1 ha
    obtain ⟨j, _, rfl⟩ := MemPlace.mem_row.1 hb
    simp at e
    exact hgR e.1
  · intro b off hp
    rcases List.mem_append.1 hp with hp | hp
    · obtain ⟨i, hi, e⟩ := MemPlace.mem_row.1 hp
      cases e
      refine ⟨⟨_, _, hvar⟩, fun u v hc => ?_⟩
      have hi0 : i = 0 := by
        have : i < 1 := hi
        omega
      subst hi0
      rw [Lib.cell_of_heap hvar] at hc
      simp at hc
    · obtain ⟨i, hi, e⟩ := MemPlace.mem_row.1 hp
      cases e
      refine ⟨⟨_, _, hblk⟩, fun u v hc => ?_⟩
      rw [Lib.cell_of_heap hblk] at hc
      exfalso
      have hmem : Value.iface u v ∈ caseT.flatMap cells5 := by
        unfold caseCells5 at hc
        rw [List.getElem?_toArray] at hc
        exact List.mem_of_getElem? hc
      obtain ⟨x, _, hx⟩ := List.mem_flatMap.1 hmem
      simp [cells5] at hx
  · intro x hx
    rcases List.mem_append.1 hx with hx | hx
    · obtain ⟨i, _, rfl⟩ := MemPlace.mem_row.1 hx; simp [MemPlace.block]
    · obtain ⟨i, _, rfl⟩ := MemPlace.mem_row.1 hx; simp [MemPlace.block]
end Go.Av
namespace Go.Av
open Go
theorem made_desc {info : TypeId → Option TypeInfo} {d : TypeDesc} {i : TypeInfo} (h : Made.reckon info d = some i) :
    match i.desc with
    | .named _ _ | .bool | .int _ | .float _ | .string => False
    | .pointer e => ∃ j, info e = some j ∧ ∀ n r, j.desc ≠ .named n r
    | _ => True := by
  unfold Made.reckon at h
  split at h
  · rename_i e
    simp only [Option.bind_eq_bind, Option.bind_eq_some_iff] at h
    obtain ⟨j, hj, h⟩ := h
    split at h
    · cases h
    · split at h
      · cases h
      · simp only [Option.bind_eq_some_iff, Option.pure_def, Option.some.injEq] at h
        obtain ⟨s, _, rfl⟩ := h
        exact ⟨j, hj, fun n r hn => by simp_all⟩
    · rename_i hn hs
      simp only [Option.bind_eq_some_iff, Option.pure_def, Option.some.injEq] at h
      obtain ⟨s, _, rfl⟩ := h
      exact ⟨j, hj, fun n r he => hn n r he⟩
  · simp only [Option.bind_eq_bind, Option.bind_eq_some_iff, Option.pure_def, Option.some.injEq] at h
    obtain ⟨_, _, _, _, rfl⟩ := h
    trivial
  · simp only [Option.bind_eq_bind, Option.bind_eq_some_iff, Option.pure_def, Option.some.injEq] at h
    obtain ⟨_, _, _, _, _, _, _, _, rfl⟩ := h
    trivial
  · simp only [Option.bind_eq_bind, Option.bind_eq_some_iff, Option.pure_def, Option.some.injEq] at h
    obtain ⟨_, _, _, _, rfl⟩ := h
    trivial
  · simp only [Option.bind_eq_bind, Option.bind_eq_some_iff, Option.pure_def, Option.some.injEq] at h
    obtain ⟨_, _, rfl⟩ := h
    trivial
  · simp only [Option.bind_eq_bind, Option.bind_eq_some_iff, Option.pure_def, Option.some.injEq] at h
    obtain ⟨_, _, _, _, rfl⟩ := h
    trivial
  · unfold Made.reckonStruct at h
    simp only [Option.bind_eq_bind, Option.bind_eq_some_iff, Option.pure_def] at h
    obtain ⟨r, _, h⟩ := h
    split at h <;> (try split at h) <;> (try simp only [Option.bind_eq_some_iff, Option.some.injEq] at h) <;> (try (obtain ⟨_, _, rfl⟩ := h; trivial)) <;> (try (subst h; trivial))
  · cases h
theorem made_info {P : Program} {t : TypeId} {i : TypeInfo} (hs : ¬ t < P.types.size) (h : P.info? t = some i) :
    match i.desc with
    | .named _ _ | .bool | .int _ | .float _ | .string => False
    | .pointer e => ∃ j, Made.infoAt P.toTables 99 e = some j ∧ ∀ n r, j.desc ≠ .named n r
    | _ => True := by
  have h : (if t < P.types.size then P.types[t]? else Made.infoAt P.toTables 100 t) = some i := h
  rw [if_neg hs] at h
  have h : (if t < P.types.size then P.types[t]? else (Made.decode (t - P.types.size)).bind (Made.reckon (Made.infoAt P.toTables 99))) = some i := h
  rw [if_neg hs, Option.bind_eq_some_iff] at h
  obtain ⟨d, _, h⟩ := h
  exact made_desc h
/-- The names by a pointer: only types of the table have them, if what lies behind is no basic type so named. -/
theorem typeName_table {P : Program} {u : TypeId} {n : String} (h : P.typeName? 3 u = some ("*" ++ n)) (hn : ∀ s, n ≠ "*" ++ s)
    (hb : ∀ (e : TypeId) (j : TypeInfo), P.types[e]? = some j → j.str = n → match j.desc with | .bool | .int _ | .float _ | .string => False | _ => True) : u < P.types.size := by
  by_cases hs : u < P.types.size
  · exact hs
  exfalso
  rw [Program.typeName?] at h
  cases hi : P.info? u with
  | none => simp [hi] at h
  | some i =>
    have hd := made_info hs hi
    simp only [hi] at h
    cases hdd : i.desc with
    | pointer e =>
      simp only [hdd] at h hd
      obtain ⟨j, hj, hjn⟩ := hd
      rw [Option.map_eq_some_iff] at h
      obtain ⟨s, h, he⟩ := h
      have he : s = n := by simpa using he
      subst he
      rw [Program.typeName?] at h
      cases hi' : P.info? e with
      | none => simp [hi'] at h
      | some j' =>
        simp only [hi'] at h
        by_cases hse : e < P.types.size
        · have e1 : P.info? e = P.types[e]? := if_pos hse
          have e2 : Made.infoAt P.toTables 99 e = P.types[e]? := if_pos hse
          rw [e2, ← e1, hi'] at hj
          have hj := Option.some.inj hj
          subst hj
          rw [e1] at hi'
          have hb := hb e _ hi'
          cases hj : j'.desc <;> simp only [hj] at h hb hjn <;> (try cases h) <;> (try (exact hjn _ _ rfl))
          all_goals first
            | (rw [Option.map_eq_some_iff] at h; obtain ⟨s', _, h⟩ := h; exact hn _ h.symm)
            | (split at h
               · cases h
               · exact hb (Option.some.inj h))
        · have hd' := made_info hse hi'
          cases hj : j'.desc <;> simp only [hj] at h hd' <;> (try cases h)
          all_goals (rw [Option.map_eq_some_iff] at h; obtain ⟨s', _, h⟩ := h; exact hn _ h.symm)
    | _ => simp only [hdd] at h hd <;> (try cases h)
end Go.Av
