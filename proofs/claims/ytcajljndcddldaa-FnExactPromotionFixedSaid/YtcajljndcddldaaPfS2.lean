/- The shapes, one by one: the kernel computes both sides. -/
import Derived.Test.YtcajljndcddldaaPfE
namespace Go.Proofs.Ytcajljndcddldaa.Pure
set_option linter.unusedVariables false
open Go.RowKit Go.Proofs.Ytcajljndcddldaa.PPg Go.Proofs.YtcajljndcddldaaW.PrintWords Go.Proofs.YtcajljndcddldaaW.PrintLast
set_option maxRecDepth 100000
theorem in1_9 (d : Int) : laws_FnExactPromotionFixed.f 20000 1 9 d = some true := shape (T := [0, 1, 3, 7, 15, 31, 63, 127, 255]) (L := [1]) (by decide +kernel) (by decide +kernel) d
theorem in3_3 (d : Int) : laws_FnExactPromotionFixed.f 20000 3 3 d = some true := shape (T := [0, 1, 3, 1, 11, 31, 9, 91, 255]) (L := [3, 9, 9, 9, 9, 3]) (by decide +kernel) (by decide +kernel) d
theorem in9_1 (d : Int) : laws_FnExactPromotionFixed.f 20000 9 1 d = some true := shape (T := [0, 1, 3, 7, 15, 31, 63, 127, 255]) (L := [1]) (by decide +kernel) (by decide +kernel) d
end Go.Proofs.Ytcajljndcddldaa.Pure
