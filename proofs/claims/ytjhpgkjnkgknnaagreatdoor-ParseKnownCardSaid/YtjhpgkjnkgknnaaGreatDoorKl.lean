import Derived.Test.YtjhpgkjnkgknnaaGreatDoorKb
set_option maxRecDepth 1000000
set_option linter.unusedVariables false
namespace Go.Proofs.YtjhpgkjnkgknnaaGreatDoor.Av
open Go Go.Av Go.Proofs
def L3 : AV := .slice [.str [65, 83, 75, 32, 123, 32, 63, 97, 32, 60, 112, 62, 32, 49, 32, 125], .str [65, 83, 75, 32, 123, 32, 95, 58, 98, 32, 60, 112, 62, 32, 49, 32, 125], .str [65, 83, 75, 32, 123, 32, 63, 97, 98, 99, 100, 101, 102, 103, 104, 105, 106, 107, 108, 109, 32, 60, 112, 62, 32, 49, 32, 125], .str [83, 69, 76, 69, 67, 84, 32, 63, 97, 32, 63, 97, 32, 123, 32, 63, 97, 32, 63, 98, 32, 63, 99, 32, 125], .str [83, 69, 76, 69, 67, 84, 32, 42, 32, 123, 32, 63, 97, 32, 63, 98, 32, 63, 99, 32, 125, 32, 71, 82, 79, 85, 80, 32, 66, 89, 32, 63, 97], .str [83, 69, 76, 69, 67, 84, 32, 63, 98, 32, 123, 32, 63, 97, 32, 63, 98, 32, 63, 99, 32, 125, 32, 71, 82, 79, 85, 80, 32, 66, 89, 32, 63, 97], .str [83, 69, 76, 69, 67, 84, 32, 40, 67, 79, 85, 78, 84, 40, 63, 97, 41, 32, 65, 83, 32, 63, 98, 41, 32, 123, 32, 63, 97, 32, 63, 98, 32, 63, 99, 32, 125], .str [65, 83, 75, 32, 123, 32, 63, 97, 32, 63, 98, 32, 63, 99, 32, 66, 73, 78, 68, 40, 49, 32, 65, 83, 32, 63, 97, 41, 32, 125], .str [65, 83, 75, 32, 123, 32, 66, 73, 78, 68, 40, 49, 32, 65, 83, 32, 63, 97, 41, 32, 63, 97, 32, 63, 98, 32, 63, 99, 32, 125], .str [65, 83, 75, 32, 123, 32, 120, 58, 97, 32, 63, 98, 32, 63, 99, 32, 125], .str [83, 69, 76, 69, 67, 84, 32, 63, 97, 32, 123, 32, 125, 32, 76, 73, 77, 73, 84, 32, 49, 46, 53], .str [83, 69, 76, 69, 67, 84, 32, 63, 97, 32, 123, 32, 125, 32, 76, 73, 77, 73, 84, 32, 49, 48, 48, 48, 48, 48, 48], .str [83, 69, 76, 69, 67, 84, 32, 63, 97, 32, 123, 32, 125, 32, 76, 73, 77, 73, 84, 32, 57, 57, 57, 57, 57, 57], .str [65, 83, 75, 32, 123, 32, 63, 97, 32, 60, 112, 62, 47, 60, 113, 62, 32, 63, 98, 32, 125, 32, 49], .str [67, 79, 78, 83, 84, 82, 85, 67, 84, 32, 123, 32, 63, 97, 32, 60, 112, 62, 42, 32, 63, 98, 32, 125, 32, 123, 32, 125], .str [67, 79, 78, 83, 84, 82, 85, 67, 84, 32, 123, 32, 95, 58, 97, 32, 60, 112, 62, 32, 63, 98, 32, 125, 32, 123, 32, 63, 97, 32, 63, 112, 32, 63, 98, 32, 125], .str [83, 69, 76, 69, 67, 84, 32, 123, 32, 125], .str [65, 83, 75, 32, 123, 32, 70, 73, 76, 84, 69, 82, 32, 63, 97, 32, 125], .str [65, 83, 75, 32, 123, 32, 70, 73, 76, 84, 69, 82, 40, 83, 84, 82, 40, 63, 97, 44, 32, 63, 98, 41, 41, 32, 125], .str [65, 83, 75, 32, 123, 32, 70, 73, 76, 84, 69, 82, 40, 73, 70, 40, 63, 97, 44, 32, 63, 98, 41, 41, 32, 125], .str [65, 83, 75, 32, 123, 32, 70, 73, 76, 84, 69, 82, 40, 66, 79, 85, 78, 68, 40, 49, 41, 41, 32, 125], .str [], .str [115, 101, 108, 101, 99, 116, 32, 63, 97, 32, 119, 104, 101, 114, 101, 32, 123, 125], .str [65, 83, 75, 32, 123, 32, 63, 97, 32, 60, 62, 32, 63, 98, 32, 125], .str [65, 83, 75, 32, 123, 32, 86, 65, 76, 85, 69, 83, 32, 63, 97, 32, 123, 32, 63, 98, 32, 125, 32, 125], .str [83, 69, 76, 69, 67, 84, 32, 40, 83, 85, 77, 40, 42, 41, 32, 65, 83, 32, 63, 97, 41, 32, 123, 125], .str [65, 83, 75, 32, 123, 32, 123, 32, 125, 32, 85, 78, 73, 79, 78, 32, 123, 32, 125, 32, 46, 32, 125], .str [65, 83, 75, 32, 123, 32, 63, 97, 32, 63, 98, 32, 63, 99, 32, 46, 32, 46, 32, 125], .str [83, 69, 76, 69, 67, 84, 32, 63, 97, 32, 123, 125, 32, 71, 82, 79, 85, 80, 32, 66, 89, 32, 63, 97, 32, 63, 97]] .full
def W3 : AV := .slice [.int .i64 0, .int .i64 17, .int .i64 5, .int .i64 15, .int .i64 15, .int .i64 15, .int .i64 15, .int .i64 15, .int .i64 0, .int .i64 11, .int .i64 16, .int .i64 16, .int .i64 0, .int .i64 6, .int .i64 17, .int .i64 0, .int .i64 6, .int .i64 6, .int .i64 6, .int .i64 6, .int .i64 6, .int .i64 6, .int .i64 0, .int .i64 1, .int .i64 6, .int .i64 6, .int .i64 0, .int .i64 6, .int .i64 15] .full
noncomputable def body3 : Code := match Tryz.f3.body with | some c => c | none => .skip
theorem fnAt3 : FnAt Tryz.prog 3 body3 30 Tryz.f3.results.toList := ⟨Tryz.f3, Tryz.func3, rfl, rfl, rfl, by kernel_rfl⟩
def frA3 (a : Int) : AFr := ⟨30, [(2, .bool false), (0, .int .i64 a)]⟩
def frB3 (a : Int) : AFr := ⟨30, [(9, .bool false), (8, .bool true), (2, .bool false), (0, .int .i64 a)]⟩
def frC3 (a : Int) : AFr := ⟨30, [(3, L3), (10, L3), (9, .bool false), (8, .bool true), (2, .bool false), (0, .int .i64 a)]⟩
def frD3 (a : Int) : AFr := ⟨30, [(4, W3), (11, W3), (3, L3), (10, L3), (9, .bool false), (8, .bool true), (2, .bool false), (0, .int .i64 a)]⟩
def frE3 (a k : Int) : AFr := ⟨30, [(5, .int .i64 k), (15, .int .i64 k), (14, .int .i64 29), (13, L3), (12, .int .i64 a), (4, W3), (11, W3), (3, L3), (10, L3), (9, .bool false), (8, .bool true), (2, .bool false), (0, .int .i64 a)]⟩
theorem shape3 (a : Int) : LawShape Tryz.prog cfg2 3 30 body3 (.int .i64 a) (frD3 a) where
  front := ⟨frA3 a, frB3 a, frC3 a, by kernel_rfl, by kernel_rfl, by kernel_rfl, by kernel_rfl⟩
  ok := by kernel_rfl
  s0 := by kernel_rfl
  s1 := by kernel_rfl
  s2 := by kernel_rfl
  s3 := by kernel_rfl
  s4 := by kernel_rfl
noncomputable def reg3 : Code := headOf (tailOf 4 body3)
noncomputable def op3 (i : Nat) : Oper := match reg3 with | .region _ ops _ => ops.toList.getD i ⟨none, .move (.tmp 0), 0, "", #[], none⟩ | _ => ⟨none, .move (.tmp 0), 0, "", #[], none⟩
theorem within3 (a : Int) (Q : AExit → AFr → AHeap → Prop) (hq : Q .normal (frE3 a (within a 29)) []) : SCode Tryz.prog reg3 (frD3 a) [] Q := by
  have hr : reg3 = .region 5 #[op3 0, op3 1, op3 2, op3 3, op3 4] false := by kernel_rfl
  rw [hr]
  exact within_region env_ok (fr1 := ⟨30, (12, .int .i64 a) :: (frD3 a).l⟩) (fr2 := ⟨30, (13, L3) :: (12, .int .i64 a) :: (frD3 a).l⟩) (fr3 := ⟨30, (14, .int .i64 29) :: (13, L3) :: (12, .int .i64 a) :: (frD3 a).l⟩) (fr4 := ⟨30, (15, .int .i64 (within a 29)) :: (14, .int .i64 29) :: (13, L3) :: (12, .int .i64 a) :: (frD3 a).l⟩)
    (x0 := .int .i64 a) (x1 := L3) (x2 := .int .i64 29) (x3 := .int .i64 (within a 29)) (x4 := .int .i64 (within a 29)) (k := 8) (cargs := [.int .i64 a, .int .i64 29])
    (by kernel_rfl) (by kernel_rfl) (by kernel_rfl) (by kernel_rfl) (by kernel_rfl) (by kernel_rfl) (by kernel_rfl) (by kernel_rfl) (by kernel_rfl) (by kernel_rfl) (by kernel_rfl) (within_con a 29 (by decide) (by decide) []) (by kernel_rfl) (by kernel_rfl) (by kernel_rfl) (by kernel_rfl) (by kernel_rfl) (by kernel_rfl) (by kernel_rfl) (by kernel_rfl) hq
theorem con3 (rest : ∀ k : Nat, k < 29 → ∀ a : Int, comesTrue cfg2 3000 3 30 (tailOf 5 body3) (frE3 a k) [] Tryz.f3.results.toList = true) (ok : CfgOK Tryz.prog cfg2) (a : Int) : Con Tryz.prog 3 [.int .i64 a] [] (.bool true) [] [] := by
  refine (shape3 a).con ok fnAt3 (fr5 := frE3 a (within a 29)) (within3 a) ?_
  obtain ⟨h1, h2⟩ := within_range a 29 (by decide)
  obtain ⟨k, hk⟩ : ∃ k : Nat, within a 29 = k := ⟨(within a 29).toNat, by omega⟩
  rw [hk]
  exact rest k (by omega) a
end Go.Proofs.YtjhpgkjnkgknnaaGreatDoor.Av
