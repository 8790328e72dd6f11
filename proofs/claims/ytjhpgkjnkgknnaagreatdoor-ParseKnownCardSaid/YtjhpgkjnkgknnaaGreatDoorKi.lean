import Derived.Test.YtjhpgkjnkgknnaaGreatDoorKl
set_option maxRecDepth 1000000
namespace Go.Proofs.YtjhpgkjnkgknnaaGreatDoor.Av
open Go Go.Av Go.Proofs
theorem case3_5 (a : Int) : comesTrue cfg2 3000 3 30 (tailOf 5 body3) (frE3 a (5 : Nat)) [] Tryz.f3.results.toList = true := by kernel_rfl
theorem case3_11 (a : Int) : comesTrue cfg2 3000 3 30 (tailOf 5 body3) (frE3 a (11 : Nat)) [] Tryz.f3.results.toList = true := by kernel_rfl
theorem case3_17 (a : Int) : comesTrue cfg2 3000 3 30 (tailOf 5 body3) (frE3 a (17 : Nat)) [] Tryz.f3.results.toList = true := by kernel_rfl
theorem case3_23 (a : Int) : comesTrue cfg2 3000 3 30 (tailOf 5 body3) (frE3 a (23 : Nat)) [] Tryz.f3.results.toList = true := by kernel_rfl
end Go.Proofs.YtjhpgkjnkgknnaaGreatDoor.Av
