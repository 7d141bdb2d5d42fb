/- The shapes, one by one: the kernel computes both sides. -/
import Derived.Test.YtcajljndcddldaaPfE
namespace Go.Proofs.Ytcajljndcddldaa.Pure
set_option linter.unusedVariables false
open Go.RowKit Go.Proofs.Ytcajljndcddldaa.PPg Go.Proofs.YtcajljndcddldaaW.PrintWords Go.Proofs.YtcajljndcddldaaW.PrintLast
set_option maxRecDepth 100000
theorem in1_10 (d : Int) : laws_FnExactPromotionFixed.f 20000 1 10 d = some true := shape (T := [0, 1, 3, 7, 15, 31, 63, 127, 255, 511]) (L := [1]) (by decide +kernel) (by decide +kernel) d
theorem in4_2 (d : Int) : laws_FnExactPromotionFixed.f 20000 4 2 d = some true := shape (T := [0, 1, 1, 7, 5, 31, 21, 127]) (L := [2, 8, 4]) (by decide +kernel) (by decide +kernel) d
theorem in10_1 (d : Int) : laws_FnExactPromotionFixed.f 20000 10 1 d = some true := shape (T := [0, 1, 3, 7, 15, 31, 63, 127, 255, 511]) (L := [1]) (by decide +kernel) (by decide +kernel) d
end Go.Proofs.Ytcajljndcddldaa.Pure
