import Derived.Test.YtjhpgkjnkgknnaaGreatDoorKl
set_option maxRecDepth 1000000
namespace Go.Proofs.YtjhpgkjnkgknnaaGreatDoor.Av
open Go Go.Av Go.Proofs
theorem case3_1 (a : Int) : comesTrue cfg2 3000 3 30 (tailOf 5 body3) (frE3 a (1 : Nat)) [] Tryz.f3.results.toList = true := by kernel_rfl
theorem case3_7 (a : Int) : comesTrue cfg2 3000 3 30 (tailOf 5 body3) (frE3 a (7 : Nat)) [] Tryz.f3.results.toList = true := by kernel_rfl
theorem case3_13 (a : Int) : comesTrue cfg2 3000 3 30 (tailOf 5 body3) (frE3 a (13 : Nat)) [] Tryz.f3.results.toList = true := by kernel_rfl
theorem case3_19 (a : Int) : comesTrue cfg2 3000 3 30 (tailOf 5 body3) (frE3 a (19 : Nat)) [] Tryz.f3.results.toList = true := by kernel_rfl
theorem case3_25 (a : Int) : comesTrue cfg2 3000 3 30 (tailOf 5 body3) (frE3 a (25 : Nat)) [] Tryz.f3.results.toList = true := by kernel_rfl
end Go.Proofs.YtjhpgkjnkgknnaaGreatDoor.Av
