/- The shapes, one by one: the kernel computes both sides. -/
import Derived.Test.YtbmdbeboegdcaaaPsE
namespace Go.Proofs.Ytbmdbeboegdcaaa.Pure
set_option linter.unusedVariables false
open Go.RowKit Go.Proofs.Ytbmdbeboegdcaaa.PPg Go.Proofs.YtbmdbeboegdcaaaW.PrintWords Go.Proofs.YtbmdbeboegdcaaaW.PrintLast
set_option maxRecDepth 100000
theorem in1_9 : laws_FnExactPromotionStabilizers.f 20000 1 9 = some true := shape (T := [0, 1, 3, 7, 15, 31, 63, 127, 255]) (S := [9]) (by decide +kernel) (by decide +kernel) (by decide +kernel)
theorem in3_3 : laws_FnExactPromotionStabilizers.f 20000 3 3 = some true := shape (T := [0, 1, 3, 1, 11, 31, 9, 91, 255]) (S := [1, 1, 1, 1, 3, 3]) (by decide +kernel) (by decide +kernel) (by decide +kernel)
theorem in9_1 : laws_FnExactPromotionStabilizers.f 20000 9 1 = some true := shape (T := [0, 1, 3, 7, 15, 31, 63, 127, 255]) (S := [9]) (by decide +kernel) (by decide +kernel) (by decide +kernel)
end Go.Proofs.Ytbmdbeboegdcaaa.Pure
