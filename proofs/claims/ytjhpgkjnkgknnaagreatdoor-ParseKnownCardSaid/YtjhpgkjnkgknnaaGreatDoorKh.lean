import Derived.Test.YtjhpgkjnkgknnaaGreatDoorKl
set_option maxRecDepth 1000000
namespace Go.Proofs.YtjhpgkjnkgknnaaGreatDoor.Av
open Go Go.Av Go.Proofs
theorem case3_4 (a : Int) : comesTrue cfg2 3000 3 30 (tailOf 5 body3) (frE3 a (4 : Nat)) [] Tryz.f3.results.toList = true := by kernel_rfl
theorem case3_10 (a : Int) : comesTrue cfg2 3000 3 30 (tailOf 5 body3) (frE3 a (10 : Nat)) [] Tryz.f3.results.toList = true := by kernel_rfl
theorem case3_16 (a : Int) : comesTrue cfg2 3000 3 30 (tailOf 5 body3) (frE3 a (16 : Nat)) [] Tryz.f3.results.toList = true := by kernel_rfl
theorem case3_22 (a : Int) : comesTrue cfg2 3000 3 30 (tailOf 5 body3) (frE3 a (22 : Nat)) [] Tryz.f3.results.toList = true := by kernel_rfl
theorem case3_28 (a : Int) : comesTrue cfg2 3000 3 30 (tailOf 5 body3) (frE3 a (28 : Nat)) [] Tryz.f3.results.toList = true := by kernel_rfl
end Go.Proofs.YtjhpgkjnkgknnaaGreatDoor.Av
