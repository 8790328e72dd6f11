import Derived.Test.YtjhpgkjnkgknnaaGreatDoorKl
set_option maxRecDepth 1000000
namespace Go.Proofs.YtjhpgkjnkgknnaaGreatDoor.Av
open Go Go.Av Go.Proofs
theorem case3_3 (a : Int) : comesTrue cfg2 3000 3 30 (tailOf 5 body3) (frE3 a (3 : Nat)) [] Tryz.f3.results.toList = true := by kernel_rfl
theorem case3_9 (a : Int) : comesTrue cfg2 3000 3 30 (tailOf 5 body3) (frE3 a (9 : Nat)) [] Tryz.f3.results.toList = true := by kernel_rfl
theorem case3_15 (a : Int) : comesTrue cfg2 3000 3 30 (tailOf 5 body3) (frE3 a (15 : Nat)) [] Tryz.f3.results.toList = true := by kernel_rfl
theorem case3_21 (a : Int) : comesTrue cfg2 3000 3 30 (tailOf 5 body3) (frE3 a (21 : Nat)) [] Tryz.f3.results.toList = true := by kernel_rfl
theorem case3_27 (a : Int) : comesTrue cfg2 3000 3 30 (tailOf 5 body3) (frE3 a (27 : Nat)) [] Tryz.f3.results.toList = true := by kernel_rfl
end Go.Proofs.YtjhpgkjnkgknnaaGreatDoor.Av
