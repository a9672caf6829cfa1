/- A walk by reckoning: what a Go function comes to, reckoned out of its operations, and why that is so. -/
import Derived.Test.YtplmejnoepkdgaaRf0
import Derived.Test.YtplmejnoepkdgaaProg
set_option linter.unusedVariables false
set_option linter.unusedSimpArgs false
open Go Go.Proofs.Ytplmejnoepkdgaa.Rf Go.Proofs
namespace Go.Proofs.Ytplmejnoepkdgaa.H1
abbrev TapiElem : Ty := (.pair U (.pair U .unit))
abbrev Tsteepleref16Op : Ty := (.pair I (.pair I (.pair I (.pair TapiElem .unit))))
abbrev Tsteeplelaw20Case : Ty := (.pair (.sl false Tsteepleref16Op) (.pair (.sl false (.sl false TapiElem)) .unit))
abbrev TsumcheckProofF : Ty := (.pair (.sl true (.sl true TapiElem)) (.pair (.sl true TapiElem) .unit))
noncomputable def tab : List Go.Proofs.Ytplmejnoepkdgaa.Rf.Fn := [
  { fid := 23, f := Try.f23, ps := [.v (.sl false (.sl false TapiElem)), .v I, .v I], rs := [.bool], pts := [(58, [(0, .v (.sl false (.sl false TapiElem))), (2, .v I), (7, .v I)])] },
  { fid := 35, f := Try.f35, ps := [.v Tsteeplelaw20Case], rs := [.bool] },
  { fid := 87, f := Try.f87, ps := [.v I], rs := [I] },
  { fid := 55, f := Try.f55, ps := [.v I, .v TapiElem], rs := [.bool] },
  { fid := 121, f := Try.f121, ps := [.v Tsteepleref16Op, .v I], rs := [.bool] },
  { fid := 113, f := Try.f113, ps := [.v I, .v I, .v Tsteepleref16Op, .v (.sl false I)], rs := [I, I] },
  { fid := 93, f := Try.f93, ps := [.v I, .v I, .v (.sl false Tsteepleref16Op)], rs := [(.osl true I), I], pts := [(122, [(0, .v I), (1, .v I), (8, .v (.osl true I)), (29, .v (.sl false Tsteepleref16Op)), (30, .v I), (31, .v I)])] },
  { fid := 65, f := Try.f65, ps := [.v I, .v I, .v (.sl false Tsteepleref16Op)], rs := [I] },
  { fid := 105, f := Try.f105, ps := [.v (.sl false Tsteepleref16Op)], rs := [I] },
  { fid := 78, f := Try.f78, ps := [.v (.sl false Tsteepleref16Op)], rs := [I] },
  { fid := 104, f := Try.f104, ps := [.v I], rs := [TapiElem] },
  { fid := 77, f := Try.f77, ps := [.v I, .v I], rs := [.bool] },
  { fid := 52, f := Try.f52, ps := [.v I], rs := [I], pts := [(26, [(0, .v I), (4, .v I)])] },
  { fid := 107, f := Try.f107, ps := [.v TapiElem, .v (.sptr I)], rs := [.bool] },
  { fid := 89, f := Try.f89, ps := [.v (.sl false TapiElem), .fn 107 [(.sptr I)]], rs := [I], pts := [(26, [(0, .v (.sl false TapiElem)), (1, .fn 107 [(.sptr I)]), (7, .v I), (8, .v I)])] },
  { fid := 53, f := Try.f53, ps := [.v (.sl false TapiElem), .fn 107 [(.sptr I)]], rs := [.bool] },
  { fid := 81, f := Try.f81, ps := [.v I, .v (.sl false TapiElem)], rs := [.bool] },
  { fid := 80, f := Try.f80, ps := [.v (.sl false TapiElem), .v (.sptr I)], rs := [.bool] },
  { fid := 106, f := Try.f106, ps := [.v (.sl false (.sl false TapiElem)), .fn 80 [(.sptr I)]], rs := [I], pts := [(26, [(0, .v (.sl false (.sl false TapiElem))), (1, .fn 80 [(.sptr I)]), (7, .v I), (8, .v I)])] },
  { fid := 79, f := Try.f79, ps := [.v (.sl false (.sl false TapiElem)), .fn 80 [(.sptr I)]], rs := [.bool] },
  { fid := 36, f := Try.f36, ps := [.v I, .v (.sl false Tsteepleref16Op), .v (.sl false (.sl false TapiElem))], rs := [I], pts := [(506, [(2, .v (.sl false (.sl false TapiElem))), (3, .v (.optr true I)), (8, .v I), (40, .v (.sl false (.sl false TapiElem))), (41, .v I), (42, .v I)])] },
  { fid := 45, f := Try.f45, ps := [.v TapiElem, .v TapiElem], rs := [TapiElem] },
  { fid := 119, f := Try.f119, ps := [.v I, .v U], rs := [U, U] },
  { fid := 120, f := Try.f120, ps := [.v I, .v U, .v U], rs := [U] },
  { fid := 111, f := Try.f111, ps := [.v I, .v U], rs := [U] },
  { fid := 110, f := Try.f110, ps := [.v I, .v U, .v U], rs := [U] },
  { fid := 88, f := Try.f88, ps := [.v I, .v TapiElem, .v TapiElem], rs := [TapiElem] },
  { fid := 50, f := Try.f50, ps := [.v I, .v (.sl false Tsteepleref16Op), .v (.sl false TapiElem)], rs := [TapiElem, I], pts := [(58, [(0, .v I), (1, .v (.sl false Tsteepleref16Op)), (2, .v (.sl false TapiElem)), (6, .v (.optr true TapiElem)), (24, .v (.sl false TapiElem)), (25, .v I), (26, .v I)]), (250, [(0, .v I), (2, .v (.sl false TapiElem)), (6, .v (.optr true TapiElem)), (11, .v (.osl true TapiElem)), (36, .v (.sl false Tsteepleref16Op)), (37, .v I), (38, .v I)])] },
  { fid := 82, f := Try.f82, ps := [.v I, .v (.sl false Tsteepleref16Op), .v (.sl false (.sl false TapiElem))], rs := [TapiElem], pts := [(58, [(0, .v I), (1, .v (.sl false Tsteepleref16Op)), (2, .v (.sl false (.sl false TapiElem))), (6, .v (.optr true TapiElem)), (7, .v (.optr true TapiElem)), (17, .v I), (18, .v I)]), (59802, [(0, .v I), (1, .v (.sl false Tsteepleref16Op)), (2, .v (.sl false (.sl false TapiElem))), (6, .v (.optr true TapiElem)), (7, .v (.optr true TapiElem)), (8, .v I), (9, .v (.osl true TapiElem)), (17, .v I), (18, .v I), (24, .v (.sl false (.sl false TapiElem))), (25, .v I), (26, .v I)])] },
  { fid := 37, f := Try.f37, ps := [.v I, .v (.sl false Tsteepleref16Op), .v (.sl false (.sl false TapiElem))], rs := [TapiElem, I] },
  { fid := 112, f := Try.f112, ps := [.v TapiElem, .v (.sptr I)], rs := [.bool] },
  { fid := 89, f := Try.f89, ps := [.v (.sl false TapiElem), .fn 112 [(.sptr I)]], rs := [I], pts := [(26, [(0, .v (.sl false TapiElem)), (1, .fn 112 [(.sptr I)]), (7, .v I), (8, .v I)])] },
  { fid := 53, f := Try.f53, ps := [.v (.sl false TapiElem), .fn 112 [(.sptr I)]], rs := [.bool] },
  { fid := 90, f := Try.f90, ps := [.v I, .v (.sl false TapiElem)], rs := [.bool] },
  { fid := 108, f := Try.f108, ps := [.v I, .v (.sl false TapiElem), .v (.sl false TapiElem)], rs := [I] },
  { fid := 67, f := Try.f67, ps := [.v (.sl false TapiElem)], rs := [(.osl true TapiElem)] },
  { fid := 109, f := Try.f109, ps := [.v I, .v TapiElem, .v TapiElem, .v TapiElem], rs := [TapiElem] },
  { fid := 84, f := Try.f84, ps := [.v I, .v (.sl false TapiElem), .v (.sl false TapiElem)], rs := [(.osl true TapiElem), I], pts := [(122, [(0, .v I), (9, .v (.osl true TapiElem)), (23, .v (.sl false TapiElem)), (24, .v I), (25, .v I)]), (125338, [(0, .v I), (9, .v (.osl true TapiElem)), (11, .v (.optr true TapiElem)), (12, .v I), (23, .v (.sl false TapiElem)), (24, .v I), (25, .v I), (32, .v I), (33, .v I)])] },
  { fid := 39, f := Try.f39, ps := [.v I, .v (.sl false (.sl false TapiElem)), .v TapiElem], rs := [(.osl true (.sl true TapiElem)), I], pts := [(58, [(0, .v I), (5, .v (.optr true TapiElem)), (8, .v (.osl true (.sl true TapiElem))), (13, .v (.sl false (.sl false TapiElem))), (14, .v I), (15, .v I)])] },
  { fid := 83, f := Try.f83, ps := [.v I, .v (.sl false Tsteepleref16Op), .v (.sl false (.sl false TapiElem))], rs := [(.osl true TapiElem)], pts := [(58, [(0, .v I), (1, .v (.sl false Tsteepleref16Op)), (2, .v (.sl false (.sl false TapiElem))), (7, .v (.osl true TapiElem)), (13, .v I), (14, .v I)])] },
  { fid := 46, f := Try.f46, ps := [.v I, .v (.sl false Tsteepleref16Op), .v (.sl false (.sl false TapiElem)), .v (.sl false TapiElem)], rs := [TsumcheckProofF, I], pts := [(250, [(0, .v I), (1, .v (.sl false Tsteepleref16Op)), (2, .v (.sl false (.sl false TapiElem))), (8, .v (.optr true (.pair .nils (.pair .nils .unit)))), (11, .v (.optr true (.pair (.osl true (.sl true TapiElem)) (.pair .nils .unit)))), (40, .v (.sl false TapiElem)), (41, .v I), (42, .v I)]), (506, [(8, .v (.optr true (.pair .nils (.pair .nils .unit)))), (11, .v (.optr true (.pair (.osl true (.sl true TapiElem)) (.pair (.osl true TapiElem) .unit)))), (63, .v (.sl false (.sl false TapiElem))), (64, .v I), (65, .v I)])] },
  { fid := 97, f := Try.f97, ps := [.v (.sl false TapiElem), .v (.sptr I)], rs := [.bool] },
  { fid := 106, f := Try.f106, ps := [.v (.sl false (.sl false TapiElem)), .fn 97 [(.sptr I)]], rs := [I], pts := [(26, [(0, .v (.sl false (.sl false TapiElem))), (1, .fn 97 [(.sptr I)]), (7, .v I), (8, .v I)])] },
  { fid := 79, f := Try.f79, ps := [.v (.sl false (.sl false TapiElem)), .fn 97 [(.sptr I)]], rs := [.bool] },
  { fid := 116, f := Try.f116, ps := [.v .nils, .v I], rs := [(.osl true TapiElem)], pts := [(7, [(0, .v .nils), (1, .v I)])] },
  { fid := 98, f := Try.f98, ps := [.v (.sl false (.sl false TapiElem))], rs := [(.osl true TapiElem)], pts := [(58, [(0, .v (.sl false (.sl false TapiElem))), (3, .v I), (9, .v (.sl false (.sl false TapiElem))), (10, .v I), (11, .v I)]), (250, [(6, .v (.osl true TapiElem)), (25, .v (.sl false (.sl false TapiElem))), (26, .v I), (27, .v I)])] },
  { fid := 72, f := Try.f72, ps := [.v I, .v I, .v TapiElem, .v (.sl false (.sl false TapiElem)), .v (.sl false TapiElem)], rs := [I] },
  { fid := 99, f := Try.f99, ps := [.v (.sl false TapiElem)], rs := [TapiElem], pts := [(58, [(2, .v (.optr true TapiElem)), (3, .v (.optr true TapiElem)), (6, .v (.sl false TapiElem)), (7, .v I), (8, .v I)])] },
  { fid := 73, f := Try.f73, ps := [.v (.sl false TapiElem)], rs := [TapiElem] },
  { fid := 122, f := Try.f122, ps := [.v TapiElem, .v (.sptr I)], rs := [.bool] },
  { fid := 89, f := Try.f89, ps := [.v (.sl false TapiElem), .fn 122 [(.sptr I)]], rs := [I], pts := [(26, [(0, .v (.sl false TapiElem)), (1, .fn 122 [(.sptr I)]), (7, .v I), (8, .v I)])] },
  { fid := 53, f := Try.f53, ps := [.v (.sl false TapiElem), .fn 122 [(.sptr I)]], rs := [.bool] },
  { fid := 117, f := Try.f117, ps := [.v I, .v (.sl false TapiElem)], rs := [.bool] },
  { fid := 100, f := Try.f100, ps := [.v I, .v I, .v (.sl false TapiElem)], rs := [I] },
  { fid := 91, f := Try.f91, ps := [], rs := [TapiElem] },
  { fid := 125, f := Try.f125, ps := [.v I, .v U], rs := [U] },
  { fid := 124, f := Try.f124, ps := [.v I, .v U], rs := [U] },
  { fid := 123, f := Try.f123, ps := [.v I, .v TapiElem], rs := [TapiElem] },
  { fid := 118, f := Try.f118, ps := [.v I, .v TapiElem, .v TapiElem], rs := [TapiElem] },
  { fid := 101, f := Try.f101, ps := [.v I, .v I, .v TapiElem], rs := [(.arr 9 TapiElem)], pts := [(58, [(0, .v I), (1, .v I), (5, .v (.optr true TapiElem)), (6, .v (.optr true (.arr 9 TapiElem))), (7, .v (.optr true (.arr 9 TapiElem))), (13, .v I), (14, .v I)]), (59802, [(0, .v I), (1, .v I), (5, .v (.optr true TapiElem)), (6, .v (.optr true (.arr 9 TapiElem))), (7, .v (.optr true (.arr 9 TapiElem))), (8, .v I), (9, .v (.optr true TapiElem)), (10, .v (.optr true TapiElem)), (13, .v I), (14, .v I), (20, .v I), (21, .v I)])] },
  { fid := 102, f := Try.f102, ps := [.v I, .v (.sl false TapiElem), .v (.sl false TapiElem)], rs := [TapiElem], pts := [(122, [(0, .v I), (1, .v (.sl false TapiElem)), (2, .v (.sl false TapiElem)), (6, .v (.optr true TapiElem)), (7, .v (.optr true TapiElem)), (16, .v I), (17, .v I)])] },
  { fid := 74, f := Try.f74, ps := [.v I, .v (.sl false TapiElem), .v TapiElem], rs := [TapiElem, I] },
  { fid := 33, f := Try.f33, ps := [.v I, .v I, .v TapiElem, .v (.sl false (.sl false TapiElem)), .v (.sl false TapiElem)], rs := [TapiElem, I], pts := [(58, [(0, .v I), (3, .v (.sl false (.sl false TapiElem))), (4, .v (.sl false TapiElem)), (7, .v (.optr true TapiElem)), (10, .v (.optr true TapiElem)), (25, .v I), (26, .v I)])] },
  { fid := 32, f := Try.f32, ps := [], rs := [.bool] },
  { fid := 28, f := Try.f28, ps := [.v (.sl false Tsteepleref16Op)], rs := [(.osl true Tsteepleref16Op)], pts := [(58, [(0, .v (.sl false Tsteepleref16Op)), (3, .v (.osl true Tsteepleref16Op)), (4, .v I)])] },
  { fid := 20, f := Try.f20, ps := [.v (.sl false TapiElem)], rs := [(.osl true TapiElem)], pts := [(58, [(0, .v (.sl false TapiElem)), (3, .v (.osl true TapiElem)), (4, .v I)])] },
  { fid := 16, f := Try.f16, ps := [.v (.sl false (.sl false TapiElem))], rs := [(.osl true (.sl true TapiElem))], pts := [(58, [(0, .v (.sl false (.sl false TapiElem))), (3, .v (.osl true (.sl true TapiElem))), (4, .v I)])] },
  { fid := 69, f := Try.f69, ps := [.v TapiElem, .v I], rs := [U] },
  { fid := 29, f := Try.f29, ps := [.v I, .v TapiElem], rs := [.bool], pts := [(122, [(3, .v (.optr true TapiElem)), (6, .v I)])] },
  { fid := 86, f := Try.f86, ps := [.v (.sl false Tsteepleref16Op), .v I], rs := [I], pts := [(58, [(0, .v (.sl false Tsteepleref16Op)), (1, .v I), (5, .v (.osl true I)), (6, .v I)]), (3731, [(0, .v (.sl false Tsteepleref16Op)), (1, .v I), (5, .v (.osl true I)), (6, .v I), (7, .v I)]), (7463, [(0, .v (.sl false Tsteepleref16Op)), (1, .v I), (5, .v (.osl true I)), (6, .v I), (7, .v I)])] },
  { fid := 68, f := Try.f68, ps := [.v I, .v I, .v (.sl false Tsteepleref16Op)], rs := [I], pts := [(506, [(0, .v I), (1, .v I), (2, .v (.sl false Tsteepleref16Op)), (7, .v (.optr true TapiElem)), (8, .v I)])] },
  { fid := 48, f := Try.f48, ps := [.v (.sl false Tsteepleref16Op)], rs := [I] },
  { fid := 75, f := Try.f75, ps := [.v I, .v I], rs := [.bool] },
  { fid := 47, f := Try.f47, ps := [.v I], rs := [I], pts := [(58, [(0, .v I), (3, .v I), (4, .v I)])] },
  { fid := 58, f := Try.f58, ps := [.v I, .v (.sl false TapiElem)], rs := [.bool], pts := [(26, [(0, .v I), (1, .v (.sl false TapiElem)), (5, .v I)])] },
  { fid := 40, f := Try.f40, ps := [.v I, .v (.sl false Tsteepleref16Op), .v (.sl false (.sl false TapiElem))], rs := [I], pts := [(1018, [(0, .v I), (2, .v (.sl false (.sl false TapiElem))), (9, .v I)]), (2042, [(0, .v I), (2, .v (.sl false (.sl false TapiElem))), (10, .v I)])] },
  { fid := 49, f := Try.f49, ps := [.v I, .v (.sl false TapiElem), .v (.sl false TapiElem)], rs := [TapiElem, I] },
  { fid := 11, f := Try.f11, ps := [.v I, .v Tsteeplelaw20Case, .v (.sl false TapiElem)], rs := [.bool], pts := [(127, [(0, .v I), (2, .v (.sl false TapiElem)), (4, .v (.optr true Tsteeplelaw20Case)), (7, .v (.osl true Tsteepleref16Op)), (9, .v (.optr true TsumcheckProofF)), (10, .v I), (11, .v I)]), (1018, [(0, .v I), (2, .v (.sl false TapiElem)), (4, .v (.optr true Tsteeplelaw20Case)), (7, .v (.osl true Tsteepleref16Op)), (9, .v (.optr true TsumcheckProofF)), (10, .v I), (11, .v I), (12, .v I)]), (32762, [(0, .v I), (2, .v (.sl false TapiElem)), (4, .v (.optr true Tsteeplelaw20Case)), (9, .v (.optr true TsumcheckProofF)), (15, .v (.optr true TapiElem)), (17, .v I)])] }]
noncomputable def steeplelaw09_Few.f (k : Nat) (x0 : List (List (Int × Int × Unit))) (x1 : Int) (x2 : Int) : Option (Bool) := den Try.prog tab k 0 0 (x0, x1, x2, ())
noncomputable def steeplelaw09_Few.l58 (k : Nat) (x0 : List (List (Int × Int × Unit))) (x2 : Int) (x7 : Int) : Option (Bool) := den Try.prog tab k 0 58 (x0, x2, x7, ())
noncomputable def steeplelaw20_Few.f (k : Nat) (x0 : (List (Int × Int × Int × (Int × Int × Unit) × Unit)) × (List (List (Int × Int × Unit))) × Unit) : Option (Bool) := den Try.prog tab k 1 0 (x0, ())
noncomputable def octet_Wide.f (k : Nat) (x0 : Int) : Option (Int) := den Try.prog tab k 2 0 (x0, ())
noncomputable def octet_Of.f (k : Nat) (x0 : Int) (x1 : Int × Int × Unit) : Option (Bool) := den Try.prog tab k 3 0 (x0, x1, ())
noncomputable def expr_ahead.f (k : Nat) (x0 : Int × Int × Int × (Int × Int × Unit) × Unit) (x1 : Int) : Option (Bool) := den Try.prog tab k 4 0 (x0, x1, ())
noncomputable def expr_step.f (k : Nat) (x0 : Int) (x1 : Int) (x2 : Int × Int × Int × (Int × Int × Unit) × Unit) (x3 : List Int) : Option (Int × Int) := den Try.prog tab k 5 0 (x0, x1, x2, x3, ())
noncomputable def expr_degrees.f (k : Nat) (x0 : Int) (x1 : Int) (x2 : List (Int × Int × Int × (Int × Int × Unit) × Unit)) : Option ((List Int) × Int) := den Try.prog tab k 6 0 (x0, x1, x2, ())
noncomputable def expr_degrees.l122 (k : Nat) (x0 : Int) (x1 : Int) (x8 : List Int) (x29 : List (Int × Int × Int × (Int × Int × Unit) × Unit)) (x30 : Int) (x31 : Int) : Option ((List Int) × Int) := den Try.prog tab k 6 122 (x0, x1, x8, x29, x30, x31, ())
noncomputable def expr_Check.f (k : Nat) (x0 : Int) (x1 : Int) (x2 : List (Int × Int × Int × (Int × Int × Unit) × Unit)) : Option (Int) := den Try.prog tab k 7 0 (x0, x1, x2, ())
noncomputable def expr_Degree.f (k : Nat) (x0 : List (Int × Int × Int × (Int × Int × Unit) × Unit)) : Option (Int) := den Try.prog tab k 8 0 (x0, ())
noncomputable def sumcheck_degree.f (k : Nat) (x0 : List (Int × Int × Int × (Int × Int × Unit) × Unit)) : Option (Int) := den Try.prog tab k 9 0 (x0, ())
noncomputable def line_place.f (k : Nat) (x0 : Int) : Option ((Int × Int × Unit)) := den Try.prog tab k 10 0 (x0, ())
noncomputable def line_Fits.f (k : Nat) (x0 : Int) (x1 : Int) : Option (Bool) := den Try.prog tab k 11 0 (x0, x1, ())
noncomputable def cube_Log.f (k : Nat) (x0 : Int) : Option (Int) := den Try.prog tab k 12 0 (x0, ())
noncomputable def cube_Log.l26 (k : Nat) (x0 : Int) (x4 : Int) : Option (Int) := den Try.prog tab k 12 26 (x0, x4, ())
noncomputable def sumcheck_of_1.f (k : Nat) (x0 : Int × Int × Unit) (x1 : Int) : Option (Bool) := den Try.prog tab k 13 0 (x0, x1, ())
noncomputable def slices_IndexFunc_sumcheck_of_1.f (k : Nat) (x0 : List (Int × Int × Unit)) (x1_0 : Int) : Option (Int) := den Try.prog tab k 14 0 (x0, (x1_0, ()), ())
noncomputable def slices_IndexFunc_sumcheck_of_1.l26 (k : Nat) (x0 : List (Int × Int × Unit)) (x1_0 : Int) (x7 : Int) (x8 : Int) : Option (Int) := den Try.prog tab k 14 26 (x0, (x1_0, ()), x7, x8, ())
noncomputable def slices_ContainsFunc_sumcheck_of_1.f (k : Nat) (x0 : List (Int × Int × Unit)) (x1_0 : Int) : Option (Bool) := den Try.prog tab k 15 0 (x0, (x1_0, ()), ())
noncomputable def sumcheck_of.f (k : Nat) (x0 : Int) (x1 : List (Int × Int × Unit)) : Option (Bool) := den Try.prog tab k 16 0 (x0, x1, ())
noncomputable def sumcheck_Check_1.f (k : Nat) (x0 : List (Int × Int × Unit)) (x1 : Int) : Option (Bool) := den Try.prog tab k 17 0 (x0, x1, ())
noncomputable def slices_IndexFunc_sumcheck_Check_1.f (k : Nat) (x0 : List (List (Int × Int × Unit))) (x1_0 : Int) : Option (Int) := den Try.prog tab k 18 0 (x0, (x1_0, ()), ())
noncomputable def slices_IndexFunc_sumcheck_Check_1.l26 (k : Nat) (x0 : List (List (Int × Int × Unit))) (x1_0 : Int) (x7 : Int) (x8 : Int) : Option (Int) := den Try.prog tab k 18 26 (x0, (x1_0, ()), x7, x8, ())
noncomputable def slices_ContainsFunc_sumcheck_Check_1.f (k : Nat) (x0 : List (List (Int × Int × Unit))) (x1_0 : Int) : Option (Bool) := den Try.prog tab k 19 0 (x0, (x1_0, ()), ())
noncomputable def sumcheck_Check.f (k : Nat) (x0 : Int) (x1 : List (Int × Int × Int × (Int × Int × Unit) × Unit)) (x2 : List (List (Int × Int × Unit))) : Option (Int) := den Try.prog tab k 20 0 (x0, x1, x2, ())
noncomputable def sumcheck_Check.l506 (k : Nat) (x2 : List (List (Int × Int × Unit))) (x3 : Int) (x8 : Int) (x40 : List (List (Int × Int × Unit))) (x41 : Int) (x42 : Int) : Option (Int) := den Try.prog tab k 20 506 (x2, x3, x8, x40, x41, x42, ())
noncomputable def tower_Add.f (k : Nat) (x0 : Int × Int × Unit) (x1 : Int × Int × Unit) : Option ((Int × Int × Unit)) := den Try.prog tab k 21 0 (x0, x1, ())
noncomputable def tower_halves.f (k : Nat) (x0 : Int) (x1 : Int) : Option (Int × Int) := den Try.prog tab k 22 0 (x0, x1, ())
noncomputable def tower_join.f (k : Nat) (x0 : Int) (x1 : Int) (x2 : Int) : Option (Int) := den Try.prog tab k 23 0 (x0, x1, x2, ())
noncomputable def tower_mulX.f (k : Nat) (x0 : Int) (x1 : Int) : Option (Int) := den Try.prog tab k 24 0 (x0, x1, ())
noncomputable def tower_mul.f (k : Nat) (x0 : Int) (x1 : Int) (x2 : Int) : Option (Int) := den Try.prog tab k 25 0 (x0, x1, x2, ())
noncomputable def tower_Mul.f (k : Nat) (x0 : Int) (x1 : Int × Int × Unit) (x2 : Int × Int × Unit) : Option ((Int × Int × Unit)) := den Try.prog tab k 26 0 (x0, x1, x2, ())
noncomputable def expr_Eval.f (k : Nat) (x0 : Int) (x1 : List (Int × Int × Int × (Int × Int × Unit) × Unit)) (x2 : List (Int × Int × Unit)) : Option ((Int × Int × Unit) × Int) := den Try.prog tab k 27 0 (x0, x1, x2, ())
noncomputable def expr_Eval.l58 (k : Nat) (x0 : Int) (x1 : List (Int × Int × Int × (Int × Int × Unit) × Unit)) (x2 : List (Int × Int × Unit)) (x6 : Int × Int × Unit) (x24 : List (Int × Int × Unit)) (x25 : Int) (x26 : Int) : Option ((Int × Int × Unit) × Int) := den Try.prog tab k 27 58 (x0, x1, x2, x6, x24, x25, x26, ())
noncomputable def expr_Eval.l250 (k : Nat) (x0 : Int) (x2 : List (Int × Int × Unit)) (x6 : Int × Int × Unit) (x11 : List (Int × Int × Unit)) (x36 : List (Int × Int × Int × (Int × Int × Unit) × Unit)) (x37 : Int) (x38 : Int) : Option ((Int × Int × Unit) × Int) := den Try.prog tab k 27 250 (x0, x2, x6, x11, x36, x37, x38, ())
noncomputable def sumcheck_sum.f (k : Nat) (x0 : Int) (x1 : List (Int × Int × Int × (Int × Int × Unit) × Unit)) (x2 : List (List (Int × Int × Unit))) : Option ((Int × Int × Unit)) := den Try.prog tab k 28 0 (x0, x1, x2, ())
noncomputable def sumcheck_sum.l58 (k : Nat) (x0 : Int) (x1 : List (Int × Int × Int × (Int × Int × Unit) × Unit)) (x2 : List (List (Int × Int × Unit))) (x6 : Int × Int × Unit) (x7 : Int × Int × Unit) (x17 : Int) (x18 : Int) : Option ((Int × Int × Unit)) := den Try.prog tab k 28 58 (x0, x1, x2, x6, x7, x17, x18, ())
noncomputable def sumcheck_sum.l59802 (k : Nat) (x0 : Int) (x1 : List (Int × Int × Int × (Int × Int × Unit) × Unit)) (x2 : List (List (Int × Int × Unit))) (x6 : Int × Int × Unit) (x7 : Int × Int × Unit) (x8 : Int) (x9 : List (Int × Int × Unit)) (x17 : Int) (x18 : Int) (x24 : List (List (Int × Int × Unit))) (x25 : Int) (x26 : Int) : Option ((Int × Int × Unit)) := den Try.prog tab k 28 59802 (x0, x1, x2, x6, x7, x8, x9, x17, x18, x24, x25, x26, ())
noncomputable def sumcheck_Sum.f (k : Nat) (x0 : Int) (x1 : List (Int × Int × Int × (Int × Int × Unit) × Unit)) (x2 : List (List (Int × Int × Unit))) : Option ((Int × Int × Unit) × Int) := den Try.prog tab k 29 0 (x0, x1, x2, ())
noncomputable def cube_of_1.f (k : Nat) (x0 : Int × Int × Unit) (x1 : Int) : Option (Bool) := den Try.prog tab k 30 0 (x0, x1, ())
noncomputable def slices_IndexFunc_cube_of_1.f (k : Nat) (x0 : List (Int × Int × Unit)) (x1_0 : Int) : Option (Int) := den Try.prog tab k 31 0 (x0, (x1_0, ()), ())
noncomputable def slices_IndexFunc_cube_of_1.l26 (k : Nat) (x0 : List (Int × Int × Unit)) (x1_0 : Int) (x7 : Int) (x8 : Int) : Option (Int) := den Try.prog tab k 31 26 (x0, (x1_0, ()), x7, x8, ())
noncomputable def slices_ContainsFunc_cube_of_1.f (k : Nat) (x0 : List (Int × Int × Unit)) (x1_0 : Int) : Option (Bool) := den Try.prog tab k 32 0 (x0, (x1_0, ()), ())
noncomputable def cube_of.f (k : Nat) (x0 : Int) (x1 : List (Int × Int × Unit)) : Option (Bool) := den Try.prog tab k 33 0 (x0, x1, ())
noncomputable def cube_ask.f (k : Nat) (x0 : Int) (x1 : List (Int × Int × Unit)) (x2 : List (Int × Int × Unit)) : Option (Int) := den Try.prog tab k 34 0 (x0, x1, x2, ())
noncomputable def slices_Clone_Elem.f (k : Nat) (x0 : List (Int × Int × Unit)) : Option ((List (Int × Int × Unit))) := den Try.prog tab k 35 0 (x0, ())
noncomputable def cube_between.f (k : Nat) (x0 : Int) (x1 : Int × Int × Unit) (x2 : Int × Int × Unit) (x3 : Int × Int × Unit) : Option ((Int × Int × Unit)) := den Try.prog tab k 36 0 (x0, x1, x2, x3, ())
noncomputable def cube_First.f (k : Nat) (x0 : Int) (x1 : List (Int × Int × Unit)) (x2 : List (Int × Int × Unit)) : Option ((List (Int × Int × Unit)) × Int) := den Try.prog tab k 37 0 (x0, x1, x2, ())
noncomputable def cube_First.l122 (k : Nat) (x0 : Int) (x9 : List (Int × Int × Unit)) (x23 : List (Int × Int × Unit)) (x24 : Int) (x25 : Int) : Option ((List (Int × Int × Unit)) × Int) := den Try.prog tab k 37 122 (x0, x9, x23, x24, x25, ())
noncomputable def cube_First.l125338 (k : Nat) (x0 : Int) (x9 : List (Int × Int × Unit)) (x11 : Int × Int × Unit) (x12 : Int) (x23 : List (Int × Int × Unit)) (x24 : Int) (x25 : Int) (x32 : Int) (x33 : Int) : Option ((List (Int × Int × Unit)) × Int) := den Try.prog tab k 37 125338 (x0, x9, x11, x12, x23, x24, x25, x32, x33, ())
noncomputable def sumcheck_Bind.f (k : Nat) (x0 : Int) (x1 : List (List (Int × Int × Unit))) (x2 : Int × Int × Unit) : Option ((List (List (Int × Int × Unit))) × Int) := den Try.prog tab k 38 0 (x0, x1, x2, ())
noncomputable def sumcheck_Bind.l58 (k : Nat) (x0 : Int) (x5 : Int × Int × Unit) (x8 : List (List (Int × Int × Unit))) (x13 : List (List (Int × Int × Unit))) (x14 : Int) (x15 : Int) : Option ((List (List (Int × Int × Unit))) × Int) := den Try.prog tab k 38 58 (x0, x5, x8, x13, x14, x15, ())
noncomputable def sumcheck_round.f (k : Nat) (x0 : Int) (x1 : List (Int × Int × Int × (Int × Int × Unit) × Unit)) (x2 : List (List (Int × Int × Unit))) : Option ((List (Int × Int × Unit))) := den Try.prog tab k 39 0 (x0, x1, x2, ())
noncomputable def sumcheck_round.l58 (k : Nat) (x0 : Int) (x1 : List (Int × Int × Int × (Int × Int × Unit) × Unit)) (x2 : List (List (Int × Int × Unit))) (x7 : List (Int × Int × Unit)) (x13 : Int) (x14 : Int) : Option ((List (Int × Int × Unit))) := den Try.prog tab k 39 58 (x0, x1, x2, x7, x13, x14, ())
noncomputable def sumcheck_Prove.f (k : Nat) (x0 : Int) (x1 : List (Int × Int × Int × (Int × Int × Unit) × Unit)) (x2 : List (List (Int × Int × Unit))) (x3 : List (Int × Int × Unit)) : Option (((List (List (Int × Int × Unit))) × (List (Int × Int × Unit)) × Unit) × Int) := den Try.prog tab k 40 0 (x0, x1, x2, x3, ())
noncomputable def sumcheck_Prove.l250 (k : Nat) (x0 : Int) (x1 : List (Int × Int × Int × (Int × Int × Unit) × Unit)) (x2 : List (List (Int × Int × Unit))) (x8 : Unit × Unit × Unit) (x11 : (List (List (Int × Int × Unit))) × Unit × Unit) (x40 : List (Int × Int × Unit)) (x41 : Int) (x42 : Int) : Option (((List (List (Int × Int × Unit))) × (List (Int × Int × Unit)) × Unit) × Int) := den Try.prog tab k 40 250 (x0, x1, x2, x8, x11, x40, x41, x42, ())
noncomputable def sumcheck_Prove.l506 (k : Nat) (x8 : Unit × Unit × Unit) (x11 : (List (List (Int × Int × Unit))) × (List (Int × Int × Unit)) × Unit) (x63 : List (List (Int × Int × Unit))) (x64 : Int) (x65 : Int) : Option (((List (List (Int × Int × Unit))) × (List (Int × Int × Unit)) × Unit) × Int) := den Try.prog tab k 40 506 (x8, x11, x63, x64, x65, ())
noncomputable def sumcheck_may_1.f (k : Nat) (x0 : List (Int × Int × Unit)) (x1 : Int) : Option (Bool) := den Try.prog tab k 41 0 (x0, x1, ())
noncomputable def slices_IndexFunc_sumcheck_may_1.f (k : Nat) (x0 : List (List (Int × Int × Unit))) (x1_0 : Int) : Option (Int) := den Try.prog tab k 42 0 (x0, (x1_0, ()), ())
noncomputable def slices_IndexFunc_sumcheck_may_1.l26 (k : Nat) (x0 : List (List (Int × Int × Unit))) (x1_0 : Int) (x7 : Int) (x8 : Int) : Option (Int) := den Try.prog tab k 42 26 (x0, (x1_0, ()), x7, x8, ())
noncomputable def slices_ContainsFunc_sumcheck_may_1.f (k : Nat) (x0 : List (List (Int × Int × Unit))) (x1_0 : Int) : Option (Bool) := den Try.prog tab k 43 0 (x0, (x1_0, ()), ())
noncomputable def slices_Grow_Elem_v107.f (k : Nat) (_x0 : Unit) (x1 : Int) : Option ((List (Int × Int × Unit))) := den Try.prog tab k 44 0 ((), x1, ())
noncomputable def slices_Grow_Elem_v107.l7 (k : Nat) (_x0 : Unit) (x1 : Int) : Option ((List (Int × Int × Unit))) := den Try.prog tab k 44 7 ((), x1, ())
noncomputable def slices_Concat_Elem.f (k : Nat) (x0 : List (List (Int × Int × Unit))) : Option ((List (Int × Int × Unit))) := den Try.prog tab k 45 0 (x0, ())
noncomputable def slices_Concat_Elem.l58 (k : Nat) (x0 : List (List (Int × Int × Unit))) (x3 : Int) (x9 : List (List (Int × Int × Unit))) (x10 : Int) (x11 : Int) : Option ((List (Int × Int × Unit))) := den Try.prog tab k 45 58 (x0, x3, x9, x10, x11, ())
noncomputable def slices_Concat_Elem.l250 (k : Nat) (x6 : List (Int × Int × Unit)) (x25 : List (List (Int × Int × Unit))) (x26 : Int) (x27 : Int) : Option ((List (Int × Int × Unit))) := den Try.prog tab k 45 250 (x6, x25, x26, x27, ())
noncomputable def sumcheck_may.f (k : Nat) (x0 : Int) (x1 : Int) (x2 : Int × Int × Unit) (x3 : List (List (Int × Int × Unit))) (x4 : List (Int × Int × Unit)) : Option (Int) := den Try.prog tab k 46 0 (x0, x1, x2, x3, x4, ())
noncomputable def tower_Sum.f (k : Nat) (x0 : List (Int × Int × Unit)) : Option ((Int × Int × Unit)) := den Try.prog tab k 47 0 (x0, ())
noncomputable def tower_Sum.l58 (k : Nat) (x2 : Int × Int × Unit) (x3 : Int × Int × Unit) (x6 : List (Int × Int × Unit)) (x7 : Int) (x8 : Int) : Option ((Int × Int × Unit)) := den Try.prog tab k 47 58 (x2, x3, x6, x7, x8, ())
noncomputable def line_Ends.f (k : Nat) (x0 : List (Int × Int × Unit)) : Option ((Int × Int × Unit)) := den Try.prog tab k 48 0 (x0, ())
noncomputable def line_of_1.f (k : Nat) (x0 : Int × Int × Unit) (x1 : Int) : Option (Bool) := den Try.prog tab k 49 0 (x0, x1, ())
noncomputable def slices_IndexFunc_line_of_1.f (k : Nat) (x0 : List (Int × Int × Unit)) (x1_0 : Int) : Option (Int) := den Try.prog tab k 50 0 (x0, (x1_0, ()), ())
noncomputable def slices_IndexFunc_line_of_1.l26 (k : Nat) (x0 : List (Int × Int × Unit)) (x1_0 : Int) (x7 : Int) (x8 : Int) : Option (Int) := den Try.prog tab k 50 26 (x0, (x1_0, ()), x7, x8, ())
noncomputable def slices_ContainsFunc_line_of_1.f (k : Nat) (x0 : List (Int × Int × Unit)) (x1_0 : Int) : Option (Bool) := den Try.prog tab k 51 0 (x0, (x1_0, ()), ())
noncomputable def line_of.f (k : Nat) (x0 : Int) (x1 : List (Int × Int × Unit)) : Option (Bool) := den Try.prog tab k 52 0 (x0, x1, ())
noncomputable def line_ask.f (k : Nat) (x0 : Int) (x1 : Int) (x2 : List (Int × Int × Unit)) : Option (Int) := den Try.prog tab k 53 0 (x0, x1, x2, ())
noncomputable def tower_One.f (k : Nat) : Option ((Int × Int × Unit)) := den Try.prog tab k 54 0 ()
noncomputable def tower_square.f (k : Nat) (x0 : Int) (x1 : Int) : Option (Int) := den Try.prog tab k 55 0 (x0, x1, ())
noncomputable def tower_inv.f (k : Nat) (x0 : Int) (x1 : Int) : Option (Int) := den Try.prog tab k 56 0 (x0, x1, ())
noncomputable def tower_Inv.f (k : Nat) (x0 : Int) (x1 : Int × Int × Unit) : Option ((Int × Int × Unit)) := den Try.prog tab k 57 0 (x0, x1, ())
noncomputable def tower_Div.f (k : Nat) (x0 : Int) (x1 : Int × Int × Unit) (x2 : Int × Int × Unit) : Option ((Int × Int × Unit)) := den Try.prog tab k 58 0 (x0, x1, x2, ())
noncomputable def line_weights.f (k : Nat) (x0 : Int) (x1 : Int) (x2 : Int × Int × Unit) : Option ((List (Int × Int × Unit))) := den Try.prog tab k 59 0 (x0, x1, x2, ())
noncomputable def line_weights.l58 (k : Nat) (x0 : Int) (x1 : Int) (x5 : Int × Int × Unit) (x6 : List (Int × Int × Unit)) (x7 : List (Int × Int × Unit)) (x13 : Int) (x14 : Int) : Option ((List (Int × Int × Unit))) := den Try.prog tab k 59 58 (x0, x1, x5, x6, x7, x13, x14, ())
noncomputable def line_weights.l59802 (k : Nat) (x0 : Int) (x1 : Int) (x5 : Int × Int × Unit) (x6 : List (Int × Int × Unit)) (x7 : List (Int × Int × Unit)) (x8 : Int) (x9 : Int × Int × Unit) (x10 : Int × Int × Unit) (x13 : Int) (x14 : Int) (x20 : Int) (x21 : Int) : Option ((List (Int × Int × Unit))) := den Try.prog tab k 59 59802 (x0, x1, x5, x6, x7, x8, x9, x10, x13, x14, x20, x21, ())
noncomputable def tower_Dot.f (k : Nat) (x0 : Int) (x1 : List (Int × Int × Unit)) (x2 : List (Int × Int × Unit)) : Option ((Int × Int × Unit)) := den Try.prog tab k 60 0 (x0, x1, x2, ())
noncomputable def tower_Dot.l122 (k : Nat) (x0 : Int) (x1 : List (Int × Int × Unit)) (x2 : List (Int × Int × Unit)) (x6 : Int × Int × Unit) (x7 : Int × Int × Unit) (x16 : Int) (x17 : Int) : Option ((Int × Int × Unit)) := den Try.prog tab k 60 122 (x0, x1, x2, x6, x7, x16, x17, ())
noncomputable def line_At.f (k : Nat) (x0 : Int) (x1 : List (Int × Int × Unit)) (x2 : Int × Int × Unit) : Option ((Int × Int × Unit) × Int) := den Try.prog tab k 61 0 (x0, x1, x2, ())
noncomputable def sumcheck_Verify.f (k : Nat) (x0 : Int) (x1 : Int) (x2 : Int × Int × Unit) (x3 : List (List (Int × Int × Unit))) (x4 : List (Int × Int × Unit)) : Option ((Int × Int × Unit) × Int) := den Try.prog tab k 62 0 (x0, x1, x2, x3, x4, ())
noncomputable def sumcheck_Verify.l58 (k : Nat) (x0 : Int) (x3 : List (List (Int × Int × Unit))) (x4 : List (Int × Int × Unit)) (x7 : Int × Int × Unit) (x10 : Int × Int × Unit) (x25 : Int) (x26 : Int) : Option ((Int × Int × Unit) × Int) := den Try.prog tab k 62 58 (x0, x3, x4, x7, x10, x25, x26, ())
noncomputable def steeplelaw20_awake.f (k : Nat) : Option (Bool) := den Try.prog tab k 63 0 ()
noncomputable def steeplelaw16_Ref.f (k : Nat) (x0 : List (Int × Int × Int × (Int × Int × Unit) × Unit)) : Option ((List (Int × Int × Int × (Int × Int × Unit) × Unit))) := den Try.prog tab k 64 0 (x0, ())
noncomputable def steeplelaw16_Ref.l58 (k : Nat) (x0 : List (Int × Int × Int × (Int × Int × Unit) × Unit)) (x3 : List (Int × Int × Int × (Int × Int × Unit) × Unit)) (x4 : Int) : Option ((List (Int × Int × Int × (Int × Int × Unit) × Unit))) := den Try.prog tab k 64 58 (x0, x3, x4, ())
noncomputable def steeplelaw01_Ref.f (k : Nat) (x0 : List (Int × Int × Unit)) : Option ((List (Int × Int × Unit))) := den Try.prog tab k 65 0 (x0, ())
noncomputable def steeplelaw01_Ref.l58 (k : Nat) (x0 : List (Int × Int × Unit)) (x3 : List (Int × Int × Unit)) (x4 : Int) : Option ((List (Int × Int × Unit))) := den Try.prog tab k 65 58 (x0, x3, x4, ())
noncomputable def steeplelaw09_Refs.f (k : Nat) (x0 : List (List (Int × Int × Unit))) : Option ((List (List (Int × Int × Unit)))) := den Try.prog tab k 66 0 (x0, ())
noncomputable def steeplelaw09_Refs.l58 (k : Nat) (x0 : List (List (Int × Int × Unit))) (x3 : List (List (Int × Int × Unit))) (x4 : Int) : Option ((List (List (Int × Int × Unit)))) := den Try.prog tab k 66 58 (x0, x3, x4, ())
noncomputable def steepleref01_bit.f (k : Nat) (x0 : Int × Int × Unit) (x1 : Int) : Option (Int) := den Try.prog tab k 67 0 (x0, x1, ())
noncomputable def steepleref01_Of.f (k : Nat) (x0 : Int) (x1 : Int × Int × Unit) : Option (Bool) := den Try.prog tab k 68 0 (x0, x1, ())
noncomputable def steepleref01_Of.l122 (k : Nat) (x3 : Int × Int × Unit) (x6 : Int) : Option (Bool) := den Try.prog tab k 68 122 (x3, x6, ())
noncomputable def steepleref16_DegreeAt.f (k : Nat) (x0 : List (Int × Int × Int × (Int × Int × Unit) × Unit)) (x1 : Int) : Option (Int) := den Try.prog tab k 69 0 (x0, x1, ())
noncomputable def steepleref16_DegreeAt.l58 (k : Nat) (x0 : List (Int × Int × Int × (Int × Int × Unit) × Unit)) (x1 : Int) (x5 : List Int) (x6 : Int) : Option (Int) := den Try.prog tab k 69 58 (x0, x1, x5, x6, ())
noncomputable def steepleref16_DegreeAt.l3731 (k : Nat) (x0 : List (Int × Int × Int × (Int × Int × Unit) × Unit)) (x1 : Int) (x5 : List Int) (x6 : Int) (x7 : Int) : Option (Int) := den Try.prog tab k 69 3731 (x0, x1, x5, x6, x7, ())
noncomputable def steepleref16_DegreeAt.l7463 (k : Nat) (x0 : List (Int × Int × Int × (Int × Int × Unit) × Unit)) (x1 : Int) (x5 : List Int) (x6 : Int) (x7 : Int) : Option (Int) := den Try.prog tab k 69 7463 (x0, x1, x5, x6, x7, ())
noncomputable def steepleref16_Check.f (k : Nat) (x0 : Int) (x1 : Int) (x2 : List (Int × Int × Int × (Int × Int × Unit) × Unit)) : Option (Int) := den Try.prog tab k 70 0 (x0, x1, x2, ())
noncomputable def steepleref16_Check.l506 (k : Nat) (x0 : Int) (x1 : Int) (x2 : List (Int × Int × Int × (Int × Int × Unit) × Unit)) (x7 : Int × Int × Unit) (x8 : Int) : Option (Int) := den Try.prog tab k 70 506 (x0, x1, x2, x7, x8, ())
noncomputable def steepleref20_Degree.f (k : Nat) (x0 : List (Int × Int × Int × (Int × Int × Unit) × Unit)) : Option (Int) := den Try.prog tab k 71 0 (x0, ())
noncomputable def steepleref17_Fits.f (k : Nat) (x0 : Int) (x1 : Int) : Option (Bool) := den Try.prog tab k 72 0 (x0, x1, ())
noncomputable def steepleref15_Log.f (k : Nat) (x0 : Int) : Option (Int) := den Try.prog tab k 73 0 (x0, ())
noncomputable def steepleref15_Log.l58 (k : Nat) (x0 : Int) (x3 : Int) (x4 : Int) : Option (Int) := den Try.prog tab k 73 58 (x0, x3, x4, ())
noncomputable def steepleref06_All.f (k : Nat) (x0 : Int) (x1 : List (Int × Int × Unit)) : Option (Bool) := den Try.prog tab k 74 0 (x0, x1, ())
noncomputable def steepleref06_All.l26 (k : Nat) (x0 : Int) (x1 : List (Int × Int × Unit)) (x5 : Int) : Option (Bool) := den Try.prog tab k 74 26 (x0, x1, x5, ())
noncomputable def steepleref20_Check.f (k : Nat) (x0 : Int) (x1 : List (Int × Int × Int × (Int × Int × Unit) × Unit)) (x2 : List (List (Int × Int × Unit))) : Option (Int) := den Try.prog tab k 75 0 (x0, x1, x2, ())
noncomputable def steepleref20_Check.l1018 (k : Nat) (x0 : Int) (x2 : List (List (Int × Int × Unit))) (x9 : Int) : Option (Int) := den Try.prog tab k 75 1018 (x0, x2, x9, ())
noncomputable def steepleref20_Check.l2042 (k : Nat) (x0 : Int) (x2 : List (List (Int × Int × Unit))) (x10 : Int) : Option (Int) := den Try.prog tab k 75 2042 (x0, x2, x10, ())
noncomputable def cube_At.f (k : Nat) (x0 : Int) (x1 : List (Int × Int × Unit)) (x2 : List (Int × Int × Unit)) : Option ((Int × Int × Unit) × Int) := den Try.prog tab k 76 0 (x0, x1, x2, ())
noncomputable def steeplelaw20_SumcheckProves.f (k : Nat) (x0 : Int) (x1 : (List (Int × Int × Int × (Int × Int × Unit) × Unit)) × (List (List (Int × Int × Unit))) × Unit) (x2 : List (Int × Int × Unit)) : Option (Bool) := den Try.prog tab k 77 0 (x0, x1, x2, ())
noncomputable def steeplelaw20_SumcheckProves.l127 (k : Nat) (x0 : Int) (x2 : List (Int × Int × Unit)) (x4 : (List (Int × Int × Int × (Int × Int × Unit) × Unit)) × (List (List (Int × Int × Unit))) × Unit) (x7 : List (Int × Int × Int × (Int × Int × Unit) × Unit)) (x9 : (List (List (Int × Int × Unit))) × (List (Int × Int × Unit)) × Unit) (x10 : Int) (x11 : Int) : Option (Bool) := den Try.prog tab k 77 127 (x0, x2, x4, x7, x9, x10, x11, ())
noncomputable def steeplelaw20_SumcheckProves.l1018 (k : Nat) (x0 : Int) (x2 : List (Int × Int × Unit)) (x4 : (List (Int × Int × Int × (Int × Int × Unit) × Unit)) × (List (List (Int × Int × Unit))) × Unit) (x7 : List (Int × Int × Int × (Int × Int × Unit) × Unit)) (x9 : (List (List (Int × Int × Unit))) × (List (Int × Int × Unit)) × Unit) (x10 : Int) (x11 : Int) (x12 : Int) : Option (Bool) := den Try.prog tab k 77 1018 (x0, x2, x4, x7, x9, x10, x11, x12, ())
noncomputable def steeplelaw20_SumcheckProves.l32762 (k : Nat) (x0 : Int) (x2 : List (Int × Int × Unit)) (x4 : (List (Int × Int × Int × (Int × Int × Unit) × Unit)) × (List (List (Int × Int × Unit))) × Unit) (x9 : (List (List (Int × Int × Unit))) × (List (Int × Int × Unit)) × Unit) (x15 : Int × Int × Unit) (x17 : Int) : Option (Bool) := den Try.prog tab k 77 32762 (x0, x2, x4, x9, x15, x17, ())
end Go.Proofs.Ytplmejnoepkdgaa.H1
