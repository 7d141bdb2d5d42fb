/- The shapes, one by one: the kernel computes both sides. -/
import Derived.Test.YtbmdbeboegdcaaaPsE
namespace Go.Proofs.Ytbmdbeboegdcaaa.Pure
set_option linter.unusedVariables false
open Go.RowKit Go.Proofs.Ytbmdbeboegdcaaa.PPg Go.Proofs.YtbmdbeboegdcaaaW.PrintWords Go.Proofs.YtbmdbeboegdcaaaW.PrintLast
set_option maxRecDepth 100000
theorem in1_10 : laws_FnExactPromotionStabilizers.f 20000 1 10 = some true := shape (T := [0, 1, 3, 7, 15, 31, 63, 127, 255, 511]) (S := [10]) (by decide +kernel) (by decide +kernel) (by decide +kernel)
theorem in4_2 : laws_FnExactPromotionStabilizers.f 20000 4 2 = some true := shape (T := [0, 1, 1, 7, 5, 31, 21, 127]) (S := [1, 2, 4]) (by decide +kernel) (by decide +kernel) (by decide +kernel)
theorem in10_1 : laws_FnExactPromotionStabilizers.f 20000 10 1 = some true := shape (T := [0, 1, 3, 7, 15, 31, 63, 127, 255, 511]) (S := [10]) (by decide +kernel) (by decide +kernel) (by decide +kernel)
end Go.Proofs.Ytbmdbeboegdcaaa.Pure
