import Derived.Test.YtjhpgkjnkgknnaaGreatDoorBa
set_option maxRecDepth 1000000
set_option linter.unusedVariables false
namespace Go.Proofs.YtjhpgkjnkgknnaaGreatDoor.Av
open Go Go.Av Go.Proofs
def L6 : AV := .slice [.str [67, 76, 69, 65, 82], .str [67, 76, 69, 65, 82, 32, 123, 125], .str [73, 78, 83, 69, 82, 84, 32, 68, 65, 84, 65, 32, 123, 32, 60, 97, 62, 32, 60, 98, 62, 32, 49, 32, 125], .str [73, 78, 83, 69, 82, 84, 32, 68, 65, 84, 65, 32, 123, 32, 63, 97, 32, 60, 98, 62, 32, 49, 32, 125], .str [73, 78, 83, 69, 82, 84, 32, 68, 65, 84, 65, 32, 123, 32, 95, 58, 97, 32, 60, 98, 62, 32, 49, 32, 125], .str [68, 69, 76, 69, 84, 69, 32, 68, 65, 84, 65, 32, 123, 32, 95, 58, 97, 32, 60, 98, 62, 32, 49, 32, 125], .str [68, 69, 76, 69, 84, 69, 32, 123, 32, 63, 97, 32, 60, 98, 62, 32, 49, 32, 125, 32, 87, 72, 69, 82, 69, 32, 123, 32, 63, 97, 32, 60, 99, 62, 32, 50, 32, 125], .str [68, 69, 76, 69, 84, 69, 32, 123, 32, 63, 97, 32, 60, 98, 62, 32, 49, 32, 125], .str [73, 78, 83, 69, 82, 84, 32, 123, 32, 63, 97, 32, 60, 98, 62, 32, 49, 32, 125, 32, 87, 72, 69, 82, 69, 32, 123, 125], .str [73, 78, 83, 69, 82, 84, 32, 123, 32, 63, 97, 32, 60, 98, 62, 47, 60, 99, 62, 32, 49, 32, 125, 32, 87, 72, 69, 82, 69, 32, 123, 125], .str [73, 78, 83, 69, 82, 84, 32, 123, 32, 125, 32, 68, 69, 76, 69, 84, 69, 32, 123, 32, 125, 32, 87, 72, 69, 82, 69, 32, 123, 32, 125], .str [68, 69, 76, 69, 84, 69, 32, 123, 32, 125, 32, 73, 78, 83, 69, 82, 84, 32, 123, 32, 125, 32, 87, 72, 69, 82, 69, 32, 123, 32, 125], .str [68, 69, 76, 69, 84, 69, 32, 68, 65, 84, 65, 32, 123, 32, 125], .str [], .str [65, 83, 75, 32, 123, 125], .str [73, 78, 83, 69, 82, 84, 32, 68, 65, 84, 65, 32, 123, 32, 60, 97, 62, 32, 94, 60, 98, 62, 32, 49, 32, 125], .str [80, 82, 69, 70, 73, 88, 32, 120, 58, 32, 60, 121, 62, 32, 73, 78, 83, 69, 82, 84, 32, 68, 65, 84, 65, 32, 123, 32, 120, 58, 97, 32, 120, 58, 32, 120, 58, 98, 32, 125]] .full
def W6 : AV := .slice [.int .i64 0, .int .i64 6, .int .i64 0, .int .i64 15, .int .i64 0, .int .i64 17, .int .i64 0, .int .i64 6, .int .i64 0, .int .i64 17, .int .i64 6, .int .i64 0, .int .i64 0, .int .i64 6, .int .i64 6, .int .i64 17, .int .i64 0] .full
noncomputable def body6 : Code := match Tryz.f6.body with | some c => c | none => .skip
theorem fnAt6 : FnAt Tryz.prog 6 body6 41 Tryz.f6.results.toList := ⟨Tryz.f6, Tryz.func6, rfl, rfl, rfl, by kernel_rfl⟩
def frA6 (a : Int) : AFr := ⟨41, [(2, .bool false), (0, .int .i64 a)]⟩
def frB6 (a : Int) : AFr := ⟨41, [(9, .bool false), (8, .bool true), (2, .bool false), (0, .int .i64 a)]⟩
def frC6 (a : Int) : AFr := ⟨41, [(3, L6), (10, L6), (9, .bool false), (8, .bool true), (2, .bool false), (0, .int .i64 a)]⟩
def frD6 (a : Int) : AFr := ⟨41, [(4, W6), (11, W6), (3, L6), (10, L6), (9, .bool false), (8, .bool true), (2, .bool false), (0, .int .i64 a)]⟩
def frE6 (a k : Int) : AFr := ⟨41, [(5, .int .i64 k), (15, .int .i64 k), (14, .int .i64 17), (13, L6), (12, .int .i64 a), (4, W6), (11, W6), (3, L6), (10, L6), (9, .bool false), (8, .bool true), (2, .bool false), (0, .int .i64 a)]⟩
theorem shape6 (a : Int) : LawShape Tryz.prog cfg2 6 41 body6 (.int .i64 a) (frD6 a) where
  front := ⟨frA6 a, frB6 a, frC6 a, by kernel_rfl, by kernel_rfl, by kernel_rfl, by kernel_rfl⟩
  ok := by kernel_rfl
  s0 := by kernel_rfl
  s1 := by kernel_rfl
  s2 := by kernel_rfl
  s3 := by kernel_rfl
  s4 := by kernel_rfl
noncomputable def reg6 : Code := headOf (tailOf 4 body6)
noncomputable def op6 (i : Nat) : Oper := match reg6 with | .region _ ops _ => ops.toList.getD i ⟨none, .move (.tmp 0), 0, "", #[], none⟩ | _ => ⟨none, .move (.tmp 0), 0, "", #[], none⟩
theorem within6 (a : Int) (Q : AExit → AFr → AHeap → Prop) (hq : Q .normal (frE6 a (within a 17)) []) : SCode Tryz.prog reg6 (frD6 a) [] Q := by
  have hr : reg6 = .region 5 #[op6 0, op6 1, op6 2, op6 3, op6 4] false := by kernel_rfl
  rw [hr]
  exact within_region env_ok (fr1 := ⟨41, (12, .int .i64 a) :: (frD6 a).l⟩) (fr2 := ⟨41, (13, L6) :: (12, .int .i64 a) :: (frD6 a).l⟩) (fr3 := ⟨41, (14, .int .i64 17) :: (13, L6) :: (12, .int .i64 a) :: (frD6 a).l⟩) (fr4 := ⟨41, (15, .int .i64 (within a 17)) :: (14, .int .i64 17) :: (13, L6) :: (12, .int .i64 a) :: (frD6 a).l⟩)
    (x0 := .int .i64 a) (x1 := L6) (x2 := .int .i64 17) (x3 := .int .i64 (within a 17)) (x4 := .int .i64 (within a 17)) (k := 8) (cargs := [.int .i64 a, .int .i64 17])
    (by kernel_rfl) (by kernel_rfl) (by kernel_rfl) (by kernel_rfl) (by kernel_rfl) (by kernel_rfl) (by kernel_rfl) (by kernel_rfl) (by kernel_rfl) (by kernel_rfl) (by kernel_rfl) (within_con a 17 (by decide) (by decide) []) (by kernel_rfl) (by kernel_rfl) (by kernel_rfl) (by kernel_rfl) (by kernel_rfl) (by kernel_rfl) (by kernel_rfl) (by kernel_rfl) hq
theorem con6 (rest : ∀ k : Nat, k < 17 → ∀ a : Int, comesTrue cfg2 3000 6 41 (tailOf 5 body6) (frE6 a k) [] Tryz.f6.results.toList = true) (ok : CfgOK Tryz.prog cfg2) (a : Int) : Con Tryz.prog 6 [.int .i64 a] [] (.bool true) [] [] := by
  refine (shape6 a).con ok fnAt6 (fr5 := frE6 a (within a 17)) (within6 a) ?_
  obtain ⟨h1, h2⟩ := within_range a 17 (by decide)
  obtain ⟨k, hk⟩ : ∃ k : Nat, within a 17 = k := ⟨(within a 17).toNat, by omega⟩
  rw [hk]
  exact rest k (by omega) a
end Go.Proofs.YtjhpgkjnkgknnaaGreatDoor.Av
