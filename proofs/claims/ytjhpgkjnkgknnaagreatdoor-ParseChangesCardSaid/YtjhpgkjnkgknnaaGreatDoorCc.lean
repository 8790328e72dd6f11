import Derived.Test.YtjhpgkjnkgknnaaGreatDoorLa
set_option maxRecDepth 1000000
namespace Go.Proofs.YtjhpgkjnkgknnaaGreatDoor.Av
open Go Go.Av Go.Proofs
theorem case6_2 (a : Int) : comesTrue cfg2 3000 6 41 (tailOf 5 body6) (frE6 a (2 : Nat)) [] Tryz.f6.results.toList = true := by kernel_rfl
theorem case6_6 (a : Int) : comesTrue cfg2 3000 6 41 (tailOf 5 body6) (frE6 a (6 : Nat)) [] Tryz.f6.results.toList = true := by kernel_rfl
theorem case6_10 (a : Int) : comesTrue cfg2 3000 6 41 (tailOf 5 body6) (frE6 a (10 : Nat)) [] Tryz.f6.results.toList = true := by kernel_rfl
theorem case6_14 (a : Int) : comesTrue cfg2 3000 6 41 (tailOf 5 body6) (frE6 a (14 : Nat)) [] Tryz.f6.results.toList = true := by kernel_rfl
end Go.Proofs.YtjhpgkjnkgknnaaGreatDoor.Av
