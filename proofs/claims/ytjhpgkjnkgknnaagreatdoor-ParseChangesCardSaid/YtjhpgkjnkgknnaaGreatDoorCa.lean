import Derived.Test.YtjhpgkjnkgknnaaGreatDoorLa
set_option maxRecDepth 1000000
namespace Go.Proofs.YtjhpgkjnkgknnaaGreatDoor.Av
open Go Go.Av Go.Proofs
theorem case6_0 (a : Int) : comesTrue cfg2 3000 6 41 (tailOf 5 body6) (frE6 a (0 : Nat)) [] Tryz.f6.results.toList = true := by kernel_rfl
theorem case6_4 (a : Int) : comesTrue cfg2 3000 6 41 (tailOf 5 body6) (frE6 a (4 : Nat)) [] Tryz.f6.results.toList = true := by kernel_rfl
theorem case6_8 (a : Int) : comesTrue cfg2 3000 6 41 (tailOf 5 body6) (frE6 a (8 : Nat)) [] Tryz.f6.results.toList = true := by kernel_rfl
theorem case6_12 (a : Int) : comesTrue cfg2 3000 6 41 (tailOf 5 body6) (frE6 a (12 : Nat)) [] Tryz.f6.results.toList = true := by kernel_rfl
theorem case6_16 (a : Int) : comesTrue cfg2 3000 6 41 (tailOf 5 body6) (frE6 a (16 : Nat)) [] Tryz.f6.results.toList = true := by kernel_rfl
end Go.Proofs.YtjhpgkjnkgknnaaGreatDoor.Av
