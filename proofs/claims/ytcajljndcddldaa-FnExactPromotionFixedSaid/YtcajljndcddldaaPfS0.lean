/- The shapes, one by one: the kernel computes both sides. -/
import Derived.Test.YtcajljndcddldaaPfE
namespace Go.Proofs.Ytcajljndcddldaa.Pure
set_option linter.unusedVariables false
open Go.RowKit Go.Proofs.Ytcajljndcddldaa.PPg Go.Proofs.YtcajljndcddldaaW.PrintWords Go.Proofs.YtcajljndcddldaaW.PrintLast
set_option maxRecDepth 100000
theorem in1_1 (d : Int) : laws_FnExactPromotionFixed.f 20000 1 1 d = some true := shape (T := [0]) (L := [1]) (by decide +kernel) (by decide +kernel) d
theorem in1_2 (d : Int) : laws_FnExactPromotionFixed.f 20000 1 2 d = some true := shape (T := [0, 1]) (L := [1]) (by decide +kernel) (by decide +kernel) d
theorem in1_3 (d : Int) : laws_FnExactPromotionFixed.f 20000 1 3 d = some true := shape (T := [0, 1, 3]) (L := [1]) (by decide +kernel) (by decide +kernel) d
theorem in1_4 (d : Int) : laws_FnExactPromotionFixed.f 20000 1 4 d = some true := shape (T := [0, 1, 3, 7]) (L := [1]) (by decide +kernel) (by decide +kernel) d
theorem in1_5 (d : Int) : laws_FnExactPromotionFixed.f 20000 1 5 d = some true := shape (T := [0, 1, 3, 7, 15]) (L := [1]) (by decide +kernel) (by decide +kernel) d
theorem in1_6 (d : Int) : laws_FnExactPromotionFixed.f 20000 1 6 d = some true := shape (T := [0, 1, 3, 7, 15, 31]) (L := [1]) (by decide +kernel) (by decide +kernel) d
theorem in1_7 (d : Int) : laws_FnExactPromotionFixed.f 20000 1 7 d = some true := shape (T := [0, 1, 3, 7, 15, 31, 63]) (L := [1]) (by decide +kernel) (by decide +kernel) d
theorem in2_1 (d : Int) : laws_FnExactPromotionFixed.f 20000 2 1 d = some true := shape (T := [0, 1]) (L := [1]) (by decide +kernel) (by decide +kernel) d
theorem in2_2 (d : Int) : laws_FnExactPromotionFixed.f 20000 2 2 d = some true := shape (T := [0, 1, 1, 7]) (L := [2]) (by decide +kernel) (by decide +kernel) d
theorem in2_3 (d : Int) : laws_FnExactPromotionFixed.f 20000 2 3 d = some true := shape (T := [0, 1, 3, 1, 11, 31]) (L := [3, 2]) (by decide +kernel) (by decide +kernel) d
theorem in3_1 (d : Int) : laws_FnExactPromotionFixed.f 20000 3 1 d = some true := shape (T := [0, 1, 3]) (L := [1]) (by decide +kernel) (by decide +kernel) d
theorem in3_2 (d : Int) : laws_FnExactPromotionFixed.f 20000 3 2 d = some true := shape (T := [0, 1, 1, 7, 5, 31]) (L := [2, 3]) (by decide +kernel) (by decide +kernel) d
theorem in4_1 (d : Int) : laws_FnExactPromotionFixed.f 20000 4 1 d = some true := shape (T := [0, 1, 3, 7]) (L := [1]) (by decide +kernel) (by decide +kernel) d
theorem in5_1 (d : Int) : laws_FnExactPromotionFixed.f 20000 5 1 d = some true := shape (T := [0, 1, 3, 7, 15]) (L := [1]) (by decide +kernel) (by decide +kernel) d
theorem in6_1 (d : Int) : laws_FnExactPromotionFixed.f 20000 6 1 d = some true := shape (T := [0, 1, 3, 7, 15, 31]) (L := [1]) (by decide +kernel) (by decide +kernel) d
theorem in7_1 (d : Int) : laws_FnExactPromotionFixed.f 20000 7 1 d = some true := shape (T := [0, 1, 3, 7, 15, 31, 63]) (L := [1]) (by decide +kernel) (by decide +kernel) d
end Go.Proofs.Ytcajljndcddldaa.Pure
