/- The shapes, one by one: the kernel computes both sides. -/
import Derived.Test.YtcajljndcddldaaPfE
namespace Go.Proofs.Ytcajljndcddldaa.Pure
set_option linter.unusedVariables false
open Go.RowKit Go.Proofs.Ytcajljndcddldaa.PPg Go.Proofs.YtcajljndcddldaaW.PrintWords Go.Proofs.YtcajljndcddldaaW.PrintLast
set_option maxRecDepth 100000
theorem in1_8 (d : Int) : laws_FnExactPromotionFixed.f 20000 1 8 d = some true := shape (T := [0, 1, 3, 7, 15, 31, 63, 127]) (L := [1]) (by decide +kernel) (by decide +kernel) d
theorem in2_5 (d : Int) : laws_FnExactPromotionFixed.f 20000 2 5 d = some true := shape (T := [0, 1, 3, 7, 15, 1, 35, 103, 239, 511]) (L := [5, 10, 10, 10, 5, 2]) (by decide +kernel) (by decide +kernel) d
theorem in8_1 (d : Int) : laws_FnExactPromotionFixed.f 20000 8 1 d = some true := shape (T := [0, 1, 3, 7, 15, 31, 63, 127]) (L := [1]) (by decide +kernel) (by decide +kernel) d
end Go.Proofs.Ytcajljndcddldaa.Pure
