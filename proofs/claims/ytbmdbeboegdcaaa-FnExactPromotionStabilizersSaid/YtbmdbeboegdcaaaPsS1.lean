/- The shapes, one by one: the kernel computes both sides. -/
import Derived.Test.YtbmdbeboegdcaaaPsE
namespace Go.Proofs.Ytbmdbeboegdcaaa.Pure
set_option linter.unusedVariables false
open Go.RowKit Go.Proofs.Ytbmdbeboegdcaaa.PPg Go.Proofs.YtbmdbeboegdcaaaW.PrintWords Go.Proofs.YtbmdbeboegdcaaaW.PrintLast
set_option maxRecDepth 100000
theorem in1_8 : laws_FnExactPromotionStabilizers.f 20000 1 8 = some true := shape (T := [0, 1, 3, 7, 15, 31, 63, 127]) (S := [8]) (by decide +kernel) (by decide +kernel) (by decide +kernel)
theorem in2_5 : laws_FnExactPromotionStabilizers.f 20000 2 5 = some true := shape (T := [0, 1, 3, 7, 15, 1, 35, 103, 239, 511]) (S := [1, 1, 1, 2, 2, 5]) (by decide +kernel) (by decide +kernel) (by decide +kernel)
theorem in8_1 : laws_FnExactPromotionStabilizers.f 20000 8 1 = some true := shape (T := [0, 1, 3, 7, 15, 31, 63, 127]) (S := [8]) (by decide +kernel) (by decide +kernel) (by decide +kernel)
end Go.Proofs.Ytbmdbeboegdcaaa.Pure
