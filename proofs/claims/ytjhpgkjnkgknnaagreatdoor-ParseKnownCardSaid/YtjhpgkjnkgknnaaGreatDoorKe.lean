import Derived.Test.YtjhpgkjnkgknnaaGreatDoorKl
set_option maxRecDepth 1000000
namespace Go.Proofs.YtjhpgkjnkgknnaaGreatDoor.Av
open Go Go.Av Go.Proofs
theorem case3_2 (a : Int) : comesTrue cfg2 3000 3 30 (tailOf 5 body3) (frE3 a (2 : Nat)) [] Tryz.f3.results.toList = true := by kernel_rfl
theorem case3_8 (a : Int) : comesTrue cfg2 3000 3 30 (tailOf 5 body3) (frE3 a (8 : Nat)) [] Tryz.f3.results.toList = true := by kernel_rfl
theorem case3_14 (a : Int) : comesTrue cfg2 3000 3 30 (tailOf 5 body3) (frE3 a (14 : Nat)) [] Tryz.f3.results.toList = true := by kernel_rfl
theorem case3_20 (a : Int) : comesTrue cfg2 3000 3 30 (tailOf 5 body3) (frE3 a (20 : Nat)) [] Tryz.f3.results.toList = true := by kernel_rfl
theorem case3_26 (a : Int) : comesTrue cfg2 3000 3 30 (tailOf 5 body3) (frE3 a (26 : Nat)) [] Tryz.f3.results.toList = true := by kernel_rfl
end Go.Proofs.YtjhpgkjnkgknnaaGreatDoor.Av
