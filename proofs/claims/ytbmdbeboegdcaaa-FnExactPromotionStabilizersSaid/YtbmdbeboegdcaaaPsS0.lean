/- The shapes, one by one: the kernel computes both sides. -/
import Derived.Test.YtbmdbeboegdcaaaPsE
namespace Go.Proofs.Ytbmdbeboegdcaaa.Pure
set_option linter.unusedVariables false
open Go.RowKit Go.Proofs.Ytbmdbeboegdcaaa.PPg Go.Proofs.YtbmdbeboegdcaaaW.PrintWords Go.Proofs.YtbmdbeboegdcaaaW.PrintLast
set_option maxRecDepth 100000
theorem in1_1 : laws_FnExactPromotionStabilizers.f 20000 1 1 = some true := shape (T := [0]) (S := [1]) (by decide +kernel) (by decide +kernel) (by decide +kernel)
theorem in1_2 : laws_FnExactPromotionStabilizers.f 20000 1 2 = some true := shape (T := [0, 1]) (S := [2]) (by decide +kernel) (by decide +kernel) (by decide +kernel)
theorem in1_3 : laws_FnExactPromotionStabilizers.f 20000 1 3 = some true := shape (T := [0, 1, 3]) (S := [3]) (by decide +kernel) (by decide +kernel) (by decide +kernel)
theorem in1_4 : laws_FnExactPromotionStabilizers.f 20000 1 4 = some true := shape (T := [0, 1, 3, 7]) (S := [4]) (by decide +kernel) (by decide +kernel) (by decide +kernel)
theorem in1_5 : laws_FnExactPromotionStabilizers.f 20000 1 5 = some true := shape (T := [0, 1, 3, 7, 15]) (S := [5]) (by decide +kernel) (by decide +kernel) (by decide +kernel)
theorem in1_6 : laws_FnExactPromotionStabilizers.f 20000 1 6 = some true := shape (T := [0, 1, 3, 7, 15, 31]) (S := [6]) (by decide +kernel) (by decide +kernel) (by decide +kernel)
theorem in1_7 : laws_FnExactPromotionStabilizers.f 20000 1 7 = some true := shape (T := [0, 1, 3, 7, 15, 31, 63]) (S := [7]) (by decide +kernel) (by decide +kernel) (by decide +kernel)
theorem in2_1 : laws_FnExactPromotionStabilizers.f 20000 2 1 = some true := shape (T := [0, 1]) (S := [2]) (by decide +kernel) (by decide +kernel) (by decide +kernel)
theorem in2_2 : laws_FnExactPromotionStabilizers.f 20000 2 2 = some true := shape (T := [0, 1, 1, 7]) (S := [2]) (by decide +kernel) (by decide +kernel) (by decide +kernel)
theorem in2_3 : laws_FnExactPromotionStabilizers.f 20000 2 3 = some true := shape (T := [0, 1, 3, 1, 11, 31]) (S := [2, 3]) (by decide +kernel) (by decide +kernel) (by decide +kernel)
theorem in3_1 : laws_FnExactPromotionStabilizers.f 20000 3 1 = some true := shape (T := [0, 1, 3]) (S := [3]) (by decide +kernel) (by decide +kernel) (by decide +kernel)
theorem in3_2 : laws_FnExactPromotionStabilizers.f 20000 3 2 = some true := shape (T := [0, 1, 1, 7, 5, 31]) (S := [2, 3]) (by decide +kernel) (by decide +kernel) (by decide +kernel)
theorem in4_1 : laws_FnExactPromotionStabilizers.f 20000 4 1 = some true := shape (T := [0, 1, 3, 7]) (S := [4]) (by decide +kernel) (by decide +kernel) (by decide +kernel)
theorem in5_1 : laws_FnExactPromotionStabilizers.f 20000 5 1 = some true := shape (T := [0, 1, 3, 7, 15]) (S := [5]) (by decide +kernel) (by decide +kernel) (by decide +kernel)
theorem in6_1 : laws_FnExactPromotionStabilizers.f 20000 6 1 = some true := shape (T := [0, 1, 3, 7, 15, 31]) (S := [6]) (by decide +kernel) (by decide +kernel) (by decide +kernel)
theorem in7_1 : laws_FnExactPromotionStabilizers.f 20000 7 1 = some true := shape (T := [0, 1, 3, 7, 15, 31, 63]) (S := [7]) (by decide +kernel) (by decide +kernel) (by decide +kernel)
end Go.Proofs.Ytbmdbeboegdcaaa.Pure
