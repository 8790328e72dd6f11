/-
  The law ParseKnown answers true for every whole number: each of the twenty-nine texts is refused just so, or is read; its tied card. Conditions: those of the given card alone (the listed package variables begin as the program's text lays them).
-/
import Derived.Test.YtjhpgkjnkgknnaaGreatDoorCards
import Derived.Test.YtjhpgkjnkgknnaaGreatDoorTie
import Derived.Test.YtjhpgkjnkgknnaaGreatDoorKw
import Derived.Test.YtjhpgkjnkgknnaaGreatDoorHe
import Derived.Test.YtjhpgkjnkgknnaaGreatDoorKf
import Derived.Test.YtjhpgkjnkgknnaaGreatDoorKc
import Derived.Test.YtjhpgkjnkgknnaaGreatDoorKd
import Derived.Test.YtjhpgkjnkgknnaaGreatDoorKe
import Derived.Test.YtjhpgkjnkgknnaaGreatDoorKg
import Derived.Test.YtjhpgkjnkgknnaaGreatDoorKh
import Derived.Test.YtjhpgkjnkgknnaaGreatDoorKi
import Derived.Lib.LaidIn
import Derived.Deep.DeepHandedRow
import Derived.Deep.DeepWitnessRowRef
import Derived.ProofKit
import Derived.OpenShut
import Derived.WalkKit
import Derived.SevenTiedAt
import Derived.KernelRfl
namespace Go.Proofs.YtjhpgkjnkgknnaaGreatDoor.Av
open Go.ChangeShapes Go.WideShapes Go.ChangeAt Go.RowKit Go Go.Lib Go.Proofs Go.Av
set_option linter.unusedVariables false
set_option linter.unusedSectionVars false

theorem own : ownKnob Tryz.prog.godebug = none := by kernel_rfl
noncomputable abbrev wmem (os : Os) (args : Array Value) : World := ((laidWorld os).forCall (fun _ _ => 0) ⟨#[], args, []⟩).memory
def laidA : List (String × DataW Unit) := Rows.parseKnownRow.laid.take 8
def laidC : List (String × DataW Unit) := Rows.parseKnownRow.laid.drop 9
set_option maxRecDepth 1000000
theorem metA (os : Os) (args : Array Value) : LaidIn Tryz.prog (wmem os args) laidA [9, 10, 8, 5, 7, 6, 1, 2, 16, 17, 18] := LaidIn.of_run _ 10 (by kernel_rfl) (by kernel_rfl) (by kernel_rfl) (by kernel_rfl)
theorem metC (os : Os) (args : Array Value) : LaidIn Tryz.prog (wmem os args) laidC [4] := LaidIn.of_run _ 10 (by kernel_rfl) (by kernel_rfl) (by kernel_rfl) (by kernel_rfl)
theorem c208 : Tryz.prog.cellsOf 208 = 5 := by kernel_rfl
theorem c159 : Tryz.prog.cellsOf 159 = 1 := by kernel_rfl
theorem c206 : Tryz.prog.cellsOf 206 = 3 := by kernel_rfl
theorem c21 : Tryz.prog.cellsOf 21 = 1 := by kernel_rfl
theorem caseRow (fuel : Nat) (w : World) (x : Lib.CaseRow) (hw : Lib.rowWf x = true) : DataW.trod (fun _ => ()) Tryz.prog w 0 (fun _ => true) false (fuel + 3) 208 (Lib.cells5 x) = some (Lib.rowData x, []) := by
  simp only [Lib.rowWf, Bool.and_eq_true] at hw
  obtain ⟨⟨⟨⟨w0, w1⟩, w2⟩, w3⟩, w4⟩ := hw
  have r3 : List.range 3 = [0, 1, 2] := rfl
  simp [DataW.trod, Tryz.underlying208, Tryz.underlying159, Tryz.underlying206, Tryz.underlying21, c208, c159, c206, c21, Lib.cells5, Lib.rowData, w0, w1, w2, w3, w4, r3]
theorem metB (os : Os) (args : Array Value) : LaidIn Tryz.prog (wmem os args) [("unicode.CaseRanges", Go.Pinned.caseRanges)] [3, 19] :=
  Go.Av.caseLaid (by kernel_rfl) (tV := 177) (by kernel_rfl) Tryz.underlying177 c208 (caseRow 2 _) (tG := 177) (by kernel_rfl) (tB := 208) (by kernel_rfl) (by decide)
theorem laid_met (os : Os) (args : Array Value) : laidMet Tryz.prog Rows.parseKnownRow.laid (wmem os args) :=
  (((metA os args).append (metB os args) (by decide)).append (metC os args) (by decide)).met

/-! the row -/
theorem rest3 : ∀ k : Nat, k < 29 → ∀ a : Int, comesTrue cfg2 3000 3 30 (tailOf 5 body3) (frE3 a k) [] Tryz.f3.results.toList = true
  | 0, _, a => case3_0 a
  | 1, _, a => case3_1 a
  | 2, _, a => case3_2 a
  | 3, _, a => case3_3 a
  | 4, _, a => case3_4 a
  | 5, _, a => case3_5 a
  | 6, _, a => case3_6 a
  | 7, _, a => case3_7 a
  | 8, _, a => case3_8 a
  | 9, _, a => case3_9 a
  | 10, _, a => case3_10 a
  | 11, _, a => case3_11 a
  | 12, _, a => case3_12 a
  | 13, _, a => case3_13 a
  | 14, _, a => case3_14 a
  | 15, _, a => case3_15 a
  | 16, _, a => case3_16 a
  | 17, _, a => case3_17 a
  | 18, _, a => case3_18 a
  | 19, _, a => case3_19 a
  | 20, _, a => case3_20 a
  | 21, _, a => case3_21 a
  | 22, _, a => case3_22 a
  | 23, _, a => case3_23 a
  | 24, _, a => case3_24 a
  | 25, _, a => case3_25 a
  | 26, _, a => case3_26 a
  | 27, _, a => case3_27 a
  | 28, _, a => case3_28 a
  | n + 29, h, a => absurd h (by omega)
theorem walk (a0 : Int) (w0 : (Lit.int .i64 a0).wf = true) (w : World) (hG : GlobR (G.start w)) :
    Calls Tryz.prog 3 #[.int .i64 a0] w fun e w' => e = .returned (.bool true) ∧ Below w.heap.size w w' :=
  (con3 rest3 cfg2_ok a0).calls w hG (.cons (.int _ _) .nil)
theorem witness_row (os : Os) {H : Type} (enc : TypeId × Value → H) :
    (OpenSpec.ofChange Rows.parseKnownSpec).preRow enc Tryz.prog Tryz.f3 Rows.parseKnownRow.domain false Rows.parseKnownRow.laid (wmem os #[.int .i64 0]) #[.int .i64 0] := by
  have hw : (DataW.whole enc Tryz.prog (wmem os #[.int .i64 0]) Tryz.f3.params.toList (OpenSpec.ofChange Rows.parseKnownSpec).vars false #[Value.int .i64 0].toList 8).map (fun x => (x.1, x.2.1)) =
      some ([.lit (.int .i64 0)], []) := by kernel_rfl
  obtain ⟨⟨x1, x2, x3⟩, hx, hx1⟩ := Option.map_eq_some_iff.1 hw
  simp only [Prod.mk.injEq] at hx1
  obtain ⟨rfl, rfl⟩ := hx1
  exact OpenSpec.preRow_of_cond 8 hx (by kernel_rfl) (fun k hk => by cases hk) (by kernel_rfl) (laid_met os _)
set_option maxHeartbeats 2000000 in
theorem lifted (os : Os) (started : os.Started) (H : Type) (enc : TypeId × Value → H) (F : Stop.Interp) :
    ReturnsInHanded {} Tryz.checked os 3 .any ((OpenSpec.ofChange Rows.parseKnownSpec).preRow enc Tryz.prog Tryz.f3 Rows.parseKnownRow.domain false Rows.parseKnownRow.laid) (((OpenSpec.ofChange Rows.parseKnownSpec).at F).post enc Tryz.prog Tryz.f3 false true false false) := by
  refine returnsInHanded_of_row (C := Tryz.checked) (s := OpenSpec.ofChange Rows.parseKnownSpec) own started (by kernel_rfl) Tryz.func3
    (witness_row_atRef (enc := enc) (C := Tryz.checked) false (laidWorld os) #[.int .i64 0] rfl (by kernel_rfl) (by kernel_rfl) (by kernel_rfl) (witness_row os enc)) ?_
  intro W base args ds gs before hval0 hW _ _ _ hL _ _
  have hval : ∀ (j : Nat) t v, Tryz.f3.params[j]? = some t → args[j]? = some v → Value.okWide Tryz.prog W .any base t v := hval0
  have hW' := hW
  obtain ⟨p, q, hA0, hV, rfl, hfz, hnd⟩ := hW
  have hA : DataW.TrodAll enc Tryz.prog W 0 (fun _ => true) true Tryz.f3.params.toList args.toList ds p := hA0
  rw [Tryz.params3] at hA hval
  obtain ⟨v0, vs0, d0, ds0, p0, q0, hargs, rfl, rfl, h0, r0⟩ := trodAll_cons hA
  obtain ⟨rfl, rfl, rfl⟩ := trodAll_nil r0
  obtain rfl : args = #[v0] := by cases args; simp_all
  obtain ⟨rfl, rfl⟩ := trodVars_none hV
  obtain ⟨a0, rfl, rfl, rfl, w0⟩ := open_int Tryz.underlying3 (hval 0 3 v0 rfl rfl) h0
  clear hA0 hval0
  simp only [List.append_nil] at hW'
  refine (walk a0 w0 W (ground_of_reads (Lib.laidMet.reads hL (.tail _ (.tail _ (.tail _ (.tail _ (.tail _ (.head _))))))))).mono fun e W' ⟨he, hg⟩ => ?_
  subst he
  refine ⟨_, rfl, _, _, _, [], [], [], hW', ?_, ?_, ?_, hg.frame _, fun h => by cases h⟩
  · exact trodAll_cons_mk (shut_bool Tryz.underlying4 _) trodAll_mk0
  · exact trodAll_cons_mk (shut_int Tryz.underlying3 w0) trodAll_mk0
  · rfl
theorem said : Rows.ParseKnownSaid :=
  OpenClaim.holds_of_cond 3 Tryz.f3 rfl rfl rfl rfl rfl rfl rfl ⟨rfl, rfl, rfl, rfl, rfl⟩ rfl rfl rfl rfl rfl (by kernel_rfl) Tryz.func3 (by kernel_rfl)
    (of_decide_eq_true (by kernel_rfl)) (by unfold Func.isWrapper; first | (rw [if_pos (by decide +kernel)]; kernel_rfl) | (rw [if_neg (by decide +kernel)]; exact ⟨rfl, rfl⟩))
    (fun os started H enc _ F => by rw [OpenClaim.pre_eq_preRow]; exact lifted os started H enc F)
theorem plain (f : FuncId) (fn : Func) (hf : Tryz.pinned.checked.prog.funcNamed "triad/triadlaw14.ParseKnown" = some f) (hfn : Tryz.pinned.checked.prog.funcs[f]? = some fn) :
    true = Tryz.pinned.checked.prog.looks [] ∧ ∀ (j : Nat) t, fn.params[j]? = some t → Tryz.pinned.checked.prog.wantsStandIn t = false := by
  obtain rfl : f = 3 := Option.some.inj ((show Tryz.prog.funcNamed "triad/triadlaw14.ParseKnown" = some 3 by kernel_rfl).symm.trans hf) |>.symm
  obtain rfl : fn = Tryz.f3 := (Option.some.inj (Tryz.func3.symm.trans hfn)).symm
  refine ⟨by kernel_rfl, fun j t ht => ?_⟩
  rw [Tryz.params3] at ht
  obtain rfl : t = 3 := by simpa using Array.mem_of_getElem? ht
  exact (show Tryz.prog.wantsStandIn 3 = false by kernel_rfl)
theorem card : Rows.ParseKnownCardSaid :=
  Claim7.holds_tied_plain_at .later [] _ _ _ _ said (fun _ h => by cases h) (by kernel_rfl) (fun _ h => by cases h) parseKnown_row_tie rfl ⟨rfl, rfl⟩ (by kernel_rfl) rfl plain (by kernel_rfl)
#print axioms card
end Go.Proofs.YtjhpgkjnkgknnaaGreatDoor.Av
