import Derived.Test.YtjhpgkjnkgknnaaGreatDoorKl
set_option maxRecDepth 1000000
namespace Go.Proofs.YtjhpgkjnkgknnaaGreatDoor.Av
open Go Go.Av Go.Proofs
theorem case3_0 (a : Int) : comesTrue cfg2 3000 3 30 (tailOf 5 body3) (frE3 a (0 : Nat)) [] Tryz.f3.results.toList = true := by kernel_rfl
theorem case3_6 (a : Int) : comesTrue cfg2 3000 3 30 (tailOf 5 body3) (frE3 a (6 : Nat)) [] Tryz.f3.results.toList = true := by kernel_rfl
theorem case3_12 (a : Int) : comesTrue cfg2 3000 3 30 (tailOf 5 body3) (frE3 a (12 : Nat)) [] Tryz.f3.results.toList = true := by kernel_rfl
theorem case3_18 (a : Int) : comesTrue cfg2 3000 3 30 (tailOf 5 body3) (frE3 a (18 : Nat)) [] Tryz.f3.results.toList = true := by kernel_rfl
theorem case3_24 (a : Int) : comesTrue cfg2 3000 3 30 (tailOf 5 body3) (frE3 a (24 : Nat)) [] Tryz.f3.results.toList = true := by kernel_rfl
end Go.Proofs.YtjhpgkjnkgknnaaGreatDoor.Av
