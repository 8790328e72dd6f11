import Derived.Test.YtjhpgkjnkgknnaaGreatDoorLa
set_option maxRecDepth 1000000
namespace Go.Proofs.YtjhpgkjnkgknnaaGreatDoor.Av
open Go Go.Av Go.Proofs
theorem case6_3 (a : Int) : comesTrue cfg2 3000 6 41 (tailOf 5 body6) (frE6 a (3 : Nat)) [] Tryz.f6.results.toList = true := by kernel_rfl
theorem case6_7 (a : Int) : comesTrue cfg2 3000 6 41 (tailOf 5 body6) (frE6 a (7 : Nat)) [] Tryz.f6.results.toList = true := by kernel_rfl
theorem case6_11 (a : Int) : comesTrue cfg2 3000 6 41 (tailOf 5 body6) (frE6 a (11 : Nat)) [] Tryz.f6.results.toList = true := by kernel_rfl
theorem case6_15 (a : Int) : comesTrue cfg2 3000 6 41 (tailOf 5 body6) (frE6 a (15 : Nat)) [] Tryz.f6.results.toList = true := by kernel_rfl
end Go.Proofs.YtjhpgkjnkgknnaaGreatDoor.Av
