import Derived.Test.YtjhpgkjnkgknnaaGreatDoorLa
set_option maxRecDepth 1000000
namespace Go.Proofs.YtjhpgkjnkgknnaaGreatDoor.Av
open Go Go.Av Go.Proofs
theorem case6_1 (a : Int) : comesTrue cfg2 3000 6 41 (tailOf 5 body6) (frE6 a (1 : Nat)) [] Tryz.f6.results.toList = true := by kernel_rfl
theorem case6_5 (a : Int) : comesTrue cfg2 3000 6 41 (tailOf 5 body6) (frE6 a (5 : Nat)) [] Tryz.f6.results.toList = true := by kernel_rfl
theorem case6_9 (a : Int) : comesTrue cfg2 3000 6 41 (tailOf 5 body6) (frE6 a (9 : Nat)) [] Tryz.f6.results.toList = true := by kernel_rfl
theorem case6_13 (a : Int) : comesTrue cfg2 3000 6 41 (tailOf 5 body6) (frE6 a (13 : Nat)) [] Tryz.f6.results.toList = true := by kernel_rfl
end Go.Proofs.YtjhpgkjnkgknnaaGreatDoor.Av
