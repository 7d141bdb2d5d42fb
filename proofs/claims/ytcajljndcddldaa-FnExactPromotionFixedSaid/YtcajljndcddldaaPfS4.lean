/- The shapes, one by one: the kernel computes both sides. -/
import Derived.Test.YtcajljndcddldaaPfE
namespace Go.Proofs.Ytcajljndcddldaa.Pure
set_option linter.unusedVariables false
open Go.RowKit Go.Proofs.Ytcajljndcddldaa.PPg Go.Proofs.YtcajljndcddldaaW.PrintWords Go.Proofs.YtcajljndcddldaaW.PrintLast
set_option maxRecDepth 100000
theorem in2_4 (d : Int) : laws_FnExactPromotionFixed.f 20000 2 4 d = some true := shape (T := [0, 1, 3, 7, 1, 19, 55, 127]) (L := [4, 8, 2]) (by decide +kernel) (by decide +kernel) d
theorem in5_2 (d : Int) : laws_FnExactPromotionFixed.f 20000 5 2 d = some true := shape (T := [0, 1, 1, 7, 5, 31, 21, 127, 85, 511]) (L := [2, 10, 5, 10, 10, 5]) (by decide +kernel) (by decide +kernel) d
end Go.Proofs.Ytcajljndcddldaa.Pure
