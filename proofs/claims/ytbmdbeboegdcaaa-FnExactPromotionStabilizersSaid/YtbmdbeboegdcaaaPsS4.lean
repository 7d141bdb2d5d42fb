/- The shapes, one by one: the kernel computes both sides. -/
import Derived.Test.YtbmdbeboegdcaaaPsE
namespace Go.Proofs.Ytbmdbeboegdcaaa.Pure
set_option linter.unusedVariables false
open Go.RowKit Go.Proofs.Ytbmdbeboegdcaaa.PPg Go.Proofs.YtbmdbeboegdcaaaW.PrintWords Go.Proofs.YtbmdbeboegdcaaaW.PrintLast
set_option maxRecDepth 100000
theorem in2_4 : laws_FnExactPromotionStabilizers.f 20000 2 4 = some true := shape (T := [0, 1, 3, 7, 1, 19, 55, 127]) (S := [1, 2, 4]) (by decide +kernel) (by decide +kernel) (by decide +kernel)
theorem in5_2 : laws_FnExactPromotionStabilizers.f 20000 5 2 = some true := shape (T := [0, 1, 1, 7, 5, 31, 21, 127, 85, 511]) (S := [1, 1, 1, 2, 2, 5]) (by decide +kernel) (by decide +kernel) (by decide +kernel)
end Go.Proofs.Ytbmdbeboegdcaaa.Pure
