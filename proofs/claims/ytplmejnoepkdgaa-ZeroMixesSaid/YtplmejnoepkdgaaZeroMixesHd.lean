/- A walk by reckoning: what a Go function comes to, reckoned out of its operations, and why that is so. -/
import Derived.Test.YtplmejnoepkdgaaRf0
import Derived.Test.YtplmejnoepkdgaaProg
set_option linter.unusedVariables false
set_option linter.unusedSimpArgs false
open Go Go.Proofs.Ytplmejnoepkdgaa.Rf Go.Proofs
namespace Go.Proofs.Ytplmejnoepkdgaa.H1
abbrev TapiElem : Ty := (.pair U (.pair U .unit))
abbrev Tsteepleref16Op : Ty := (.pair I (.pair I (.pair I (.pair TapiElem .unit))))
abbrev Tsteeplelaw21Case : Ty := (.pair (.sl false (.sl false Tsteepleref16Op)) (.pair (.sl false (.sl false TapiElem)) .unit))
abbrev Tsteeplelaw21Point : Ty := (.pair TapiElem (.pair (.sl false TapiElem) (.pair TapiElem .unit)))
noncomputable def tab : List Go.Proofs.Ytplmejnoepkdgaa.Rf.Fn := [
  { fid := 23, f := Try.f23, ps := [.v (.sl false (.sl false TapiElem)), .v I, .v I], rs := [.bool], pts := [(58, [(0, .v (.sl false (.sl false TapiElem))), (2, .v I), (7, .v I)])] },
  { fid := 13, f := Try.f13, ps := [.v Tsteeplelaw21Case], rs := [.bool], pts := [(58, [(1, .v (.optr true Tsteeplelaw21Case)), (3, .v I)])] },
  { fid := 64, f := Try.f64, ps := [.v (.sl false (.sl false Tsteepleref16Op))], rs := [I] },
  { fid := 87, f := Try.f87, ps := [.v I], rs := [I] },
  { fid := 55, f := Try.f55, ps := [.v I, .v TapiElem], rs := [.bool] },
  { fid := 121, f := Try.f121, ps := [.v Tsteepleref16Op, .v I], rs := [.bool] },
  { fid := 113, f := Try.f113, ps := [.v I, .v I, .v Tsteepleref16Op, .v (.sl false I)], rs := [I, I] },
  { fid := 93, f := Try.f93, ps := [.v I, .v I, .v (.sl false Tsteepleref16Op)], rs := [(.osl true I), I], pts := [(122, [(0, .v I), (1, .v I), (8, .v (.osl true I)), (29, .v (.sl false Tsteepleref16Op)), (30, .v I), (31, .v I)])] },
  { fid := 65, f := Try.f65, ps := [.v I, .v I, .v (.sl false Tsteepleref16Op)], rs := [I] },
  { fid := 105, f := Try.f105, ps := [.v (.sl false Tsteepleref16Op)], rs := [I] },
  { fid := 78, f := Try.f78, ps := [.v (.sl false Tsteepleref16Op)], rs := [I] },
  { fid := 104, f := Try.f104, ps := [.v I], rs := [TapiElem] },
  { fid := 77, f := Try.f77, ps := [.v I, .v I], rs := [.bool] },
  { fid := 52, f := Try.f52, ps := [.v I], rs := [I], pts := [(26, [(0, .v I), (4, .v I)])] },
  { fid := 107, f := Try.f107, ps := [.v TapiElem, .v (.sptr I)], rs := [.bool] },
  { fid := 89, f := Try.f89, ps := [.v (.sl false TapiElem), .fn 107 [(.sptr I)]], rs := [I], pts := [(26, [(0, .v (.sl false TapiElem)), (1, .fn 107 [(.sptr I)]), (7, .v I), (8, .v I)])] },
  { fid := 53, f := Try.f53, ps := [.v (.sl false TapiElem), .fn 107 [(.sptr I)]], rs := [.bool] },
  { fid := 81, f := Try.f81, ps := [.v I, .v (.sl false TapiElem)], rs := [.bool] },
  { fid := 80, f := Try.f80, ps := [.v (.sl false TapiElem), .v (.sptr I)], rs := [.bool] },
  { fid := 106, f := Try.f106, ps := [.v (.sl false (.sl false TapiElem)), .fn 80 [(.sptr I)]], rs := [I], pts := [(26, [(0, .v (.sl false (.sl false TapiElem))), (1, .fn 80 [(.sptr I)]), (7, .v I), (8, .v I)])] },
  { fid := 79, f := Try.f79, ps := [.v (.sl false (.sl false TapiElem)), .fn 80 [(.sptr I)]], rs := [.bool] },
  { fid := 36, f := Try.f36, ps := [.v I, .v (.sl false Tsteepleref16Op), .v (.sl false (.sl false TapiElem))], rs := [I], pts := [(506, [(2, .v (.sl false (.sl false TapiElem))), (3, .v (.optr true I)), (8, .v I), (40, .v (.sl false (.sl false TapiElem))), (41, .v I), (42, .v I)])] },
  { fid := 51, f := Try.f51, ps := [.v I, .v (.sl false (.sl false Tsteepleref16Op)), .v (.sl false (.sl false TapiElem))], rs := [I], pts := [(58, [(0, .v I), (2, .v (.sl false (.sl false TapiElem))), (16, .v (.sl false (.sl false Tsteepleref16Op))), (17, .v I), (18, .v I)])] },
  { fid := 45, f := Try.f45, ps := [.v TapiElem, .v TapiElem], rs := [TapiElem] },
  { fid := 119, f := Try.f119, ps := [.v I, .v U], rs := [U, U] },
  { fid := 120, f := Try.f120, ps := [.v I, .v U, .v U], rs := [U] },
  { fid := 111, f := Try.f111, ps := [.v I, .v U], rs := [U] },
  { fid := 110, f := Try.f110, ps := [.v I, .v U, .v U], rs := [U] },
  { fid := 88, f := Try.f88, ps := [.v I, .v TapiElem, .v TapiElem], rs := [TapiElem] },
  { fid := 50, f := Try.f50, ps := [.v I, .v (.sl false Tsteepleref16Op), .v (.sl false TapiElem)], rs := [TapiElem, I], pts := [(58, [(0, .v I), (1, .v (.sl false Tsteepleref16Op)), (2, .v (.sl false TapiElem)), (6, .v (.optr true TapiElem)), (24, .v (.sl false TapiElem)), (25, .v I), (26, .v I)]), (250, [(0, .v I), (2, .v (.sl false TapiElem)), (6, .v (.optr true TapiElem)), (11, .v (.osl true TapiElem)), (36, .v (.sl false Tsteepleref16Op)), (37, .v I), (38, .v I)])] },
  { fid := 17, f := Try.f17, ps := [.v I, .v (.sl false (.sl false Tsteepleref16Op)), .v (.sl false (.sl false TapiElem))], rs := [.bool, I], pts := [(58, [(0, .v I), (1, .v (.sl false (.sl false Tsteepleref16Op))), (2, .v (.sl false (.sl false TapiElem))), (27, .v I), (28, .v I)]), (59802, [(0, .v I), (1, .v (.sl false (.sl false Tsteepleref16Op))), (2, .v (.sl false (.sl false TapiElem))), (9, .v I), (10, .v (.osl true TapiElem)), (27, .v I), (28, .v I), (34, .v (.sl false (.sl false TapiElem))), (35, .v I), (36, .v I)]), (59806, [(0, .v I), (1, .v (.sl false (.sl false Tsteepleref16Op))), (2, .v (.sl false (.sl false TapiElem))), (10, .v (.osl true TapiElem)), (27, .v I), (28, .v I), (49, .v (.sl false (.sl false Tsteepleref16Op))), (50, .v I), (51, .v I)])] },
  { fid := 91, f := Try.f91, ps := [], rs := [TapiElem] },
  { fid := 114, f := Try.f114, ps := [.v (.sl false Tsteepleref16Op)], rs := [(.osl true Tsteepleref16Op)] },
  { fid := 94, f := Try.f94, ps := [.v I, .v (.sl false Tsteepleref16Op)], rs := [(.osl true Tsteepleref16Op)], pts := [(58, [(0, .v I), (5, .v (.osl true Tsteepleref16Op)), (10, .v I), (11, .v I)])] },
  { fid := 66, f := Try.f66, ps := [.v I, .v I, .v (.sl false (.sl false Tsteepleref16Op)), .v TapiElem], rs := [(.osl true Tsteepleref16Op)], pts := [(442, [(0, .v I), (1, .v I), (7, .v (.optr true TapiElem)), (9, .v (.osl true Tsteepleref16Op)), (10, .v I), (11, .v (.optr true TapiElem)), (16, .v (.sl false (.sl false Tsteepleref16Op))), (17, .v I), (18, .v I)])] },
  { fid := 24, f := Try.f24, ps := [.v I, .v I, .v (.sl false (.sl false Tsteepleref16Op)), .v TapiElem], rs := [(.osl true Tsteepleref16Op), I], pts := [(58, [(0, .v I), (1, .v I), (2, .v (.sl false (.sl false Tsteepleref16Op))), (7, .v (.optr true TapiElem)), (21, .v (.sl false (.sl false Tsteepleref16Op))), (22, .v I), (23, .v I)])] },
  { fid := 54, f := Try.f54, ps := [.v TapiElem, .v (.sptr I)], rs := [.bool] },
  { fid := 89, f := Try.f89, ps := [.v (.sl false TapiElem), .fn 54 [(.sptr I)]], rs := [I], pts := [(26, [(0, .v (.sl false TapiElem)), (1, .fn 54 [(.sptr I)]), (7, .v I), (8, .v I)])] },
  { fid := 53, f := Try.f53, ps := [.v (.sl false TapiElem), .fn 54 [(.sptr I)]], rs := [.bool] },
  { fid := 56, f := Try.f56, ps := [.v (.sl false (.sl false TapiElem))], rs := [(.osl true (.sl false TapiElem))] },
  { fid := 112, f := Try.f112, ps := [.v TapiElem, .v (.sptr I)], rs := [.bool] },
  { fid := 89, f := Try.f89, ps := [.v (.sl false TapiElem), .fn 112 [(.sptr I)]], rs := [I], pts := [(26, [(0, .v (.sl false TapiElem)), (1, .fn 112 [(.sptr I)]), (7, .v I), (8, .v I)])] },
  { fid := 53, f := Try.f53, ps := [.v (.sl false TapiElem), .fn 112 [(.sptr I)]], rs := [.bool] },
  { fid := 90, f := Try.f90, ps := [.v I, .v (.sl false TapiElem)], rs := [.bool] },
  { fid := 57, f := Try.f57, ps := [.v I, .v (.sl false TapiElem)], rs := [(.osl true TapiElem)], pts := [(122, [(0, .v I), (5, .v (.osl true TapiElem)), (27, .v (.sl false TapiElem)), (28, .v I), (29, .v I)]), (125338, [(0, .v I), (5, .v (.osl true TapiElem)), (7, .v (.optr true TapiElem)), (8, .v (.osl true TapiElem)), (27, .v (.sl false TapiElem)), (28, .v I), (29, .v I), (36, .al 5 [] TapiElem), (37, .v I), (38, .v I)])] },
  { fid := 82, f := Try.f82, ps := [.v I, .v (.sl false Tsteepleref16Op), .v (.sl false (.sl false TapiElem))], rs := [TapiElem], pts := [(58, [(0, .v I), (1, .v (.sl false Tsteepleref16Op)), (2, .v (.sl false (.sl false TapiElem))), (6, .v (.optr true TapiElem)), (7, .v (.optr true TapiElem)), (17, .v I), (18, .v I)]), (59802, [(0, .v I), (1, .v (.sl false Tsteepleref16Op)), (2, .v (.sl false (.sl false TapiElem))), (6, .v (.optr true TapiElem)), (7, .v (.optr true TapiElem)), (8, .v I), (9, .v (.osl true TapiElem)), (17, .v I), (18, .v I), (24, .v (.sl false (.sl false TapiElem))), (25, .v I), (26, .v I)])] },
  { fid := 37, f := Try.f37, ps := [.v I, .v (.sl false Tsteepleref16Op), .v (.sl false (.sl false TapiElem))], rs := [TapiElem, I] },
  { fid := 18, f := Try.f18, ps := [.v I, .v (.sl false (.sl false Tsteepleref16Op)), .v (.sl false (.sl false TapiElem)), .v TapiElem, .v (.sl false TapiElem)], rs := [TapiElem, I] },
  { fid := 14, f := Try.f14, ps := [], rs := [.bool] },
  { fid := 28, f := Try.f28, ps := [.v (.sl false Tsteepleref16Op)], rs := [(.osl true Tsteepleref16Op)], pts := [(58, [(0, .v (.sl false Tsteepleref16Op)), (3, .v (.osl true Tsteepleref16Op)), (4, .v I)])] },
  { fid := 15, f := Try.f15, ps := [.v (.sl false (.sl false Tsteepleref16Op))], rs := [(.osl true (.sl true Tsteepleref16Op))], pts := [(58, [(0, .v (.sl false (.sl false Tsteepleref16Op))), (3, .v (.osl true (.sl true Tsteepleref16Op))), (4, .v I)])] },
  { fid := 67, f := Try.f67, ps := [.v (.sl false TapiElem)], rs := [(.osl true TapiElem)] },
  { fid := 25, f := Try.f25, ps := [.v I, .v (.sl false (.sl false Tsteepleref16Op)), .v (.sl false TapiElem), .v TapiElem, .v TapiElem], rs := [TapiElem, I] },
  { fid := 62, f := Try.f62, ps := [.v (.sl false (.sl false Tsteepleref16Op))], rs := [I] },
  { fid := 69, f := Try.f69, ps := [.v TapiElem, .v I], rs := [U] },
  { fid := 29, f := Try.f29, ps := [.v I, .v TapiElem], rs := [.bool], pts := [(122, [(3, .v (.optr true TapiElem)), (6, .v I)])] },
  { fid := 86, f := Try.f86, ps := [.v (.sl false Tsteepleref16Op), .v I], rs := [I], pts := [(58, [(0, .v (.sl false Tsteepleref16Op)), (1, .v I), (5, .v (.osl true I)), (6, .v I)]), (3731, [(0, .v (.sl false Tsteepleref16Op)), (1, .v I), (5, .v (.osl true I)), (6, .v I), (7, .v I)]), (7463, [(0, .v (.sl false Tsteepleref16Op)), (1, .v I), (5, .v (.osl true I)), (6, .v I), (7, .v I)])] },
  { fid := 68, f := Try.f68, ps := [.v I, .v I, .v (.sl false Tsteepleref16Op)], rs := [I], pts := [(506, [(0, .v I), (1, .v I), (2, .v (.sl false Tsteepleref16Op)), (7, .v (.optr true TapiElem)), (8, .v I)])] },
  { fid := 95, f := Try.f95, ps := [.v I], rs := [TapiElem] },
  { fid := 70, f := Try.f70, ps := [.v TapiElem, .v I], rs := [.bool] },
  { fid := 115, f := Try.f115, ps := [.v I], rs := [U] },
  { fid := 96, f := Try.f96, ps := [.v I, .v U], rs := [U] },
  { fid := 71, f := Try.f71, ps := [.v I, .v TapiElem], rs := [TapiElem] },
  { fid := 60, f := Try.f60, ps := [.v TapiElem, .v TapiElem], rs := [TapiElem] },
  { fid := 30, f := Try.f30, ps := [.v TapiElem, .v TapiElem], rs := [TapiElem], pts := [(58, [(2, .v (.optr true TapiElem)), (3, .v (.optr true TapiElem)), (4, .v (.optr true TapiElem)), (5, .v (.optr true TapiElem)), (6, .v I)]), (29850, [(2, .v (.optr true TapiElem)), (3, .v (.optr true TapiElem)), (4, .v (.optr true TapiElem)), (5, .v (.optr true TapiElem)), (6, .v I), (7, .v (.optr true TapiElem)), (8, .v I)])] },
  { fid := 27, f := Try.f27, ps := [.v I, .v (.sl false (.sl false Tsteepleref16Op)), .v TapiElem], rs := [(.osl true Tsteepleref16Op)], pts := [(250, [(0, .v I), (1, .v (.sl false (.sl false Tsteepleref16Op))), (5, .v (.optr true TapiElem)), (7, .v (.osl true Tsteepleref16Op)), (8, .v I), (9, .v (.optr true TapiElem)), (10, .v I)]), (64074, [(0, .v I), (1, .v (.sl false (.sl false Tsteepleref16Op))), (5, .v (.optr true TapiElem)), (7, .v (.osl true Tsteepleref16Op)), (8, .v I), (9, .v (.optr true TapiElem)), (10, .v I), (11, .v I), (12, .v I)])] },
  { fid := 26, f := Try.f26, ps := [.v I, .v I, .v (.sl false (.sl false Tsteepleref16Op)), .v TapiElem], rs := [I], pts := [(58, [(0, .v I), (1, .v I), (2, .v (.sl false (.sl false Tsteepleref16Op))), (7, .v (.optr true TapiElem)), (9, .v I)])] },
  { fid := 20, f := Try.f20, ps := [.v (.sl false TapiElem)], rs := [(.osl true TapiElem)], pts := [(58, [(0, .v (.sl false TapiElem)), (3, .v (.osl true TapiElem)), (4, .v I)])] },
  { fid := 63, f := Try.f63, ps := [.v (.sl false Tsteepleref16Op), .v I, .v (.sl false TapiElem)], rs := [TapiElem], pts := [(58, [(0, .v (.sl false Tsteepleref16Op)), (1, .v I), (2, .v (.sl false TapiElem)), (6, .v (.optr true TapiElem)), (7, .v (.osl true TapiElem)), (8, .v I)]), (3731, [(0, .v (.sl false Tsteepleref16Op)), (1, .v I), (2, .v (.sl false TapiElem)), (6, .v (.optr true TapiElem)), (7, .v (.osl true TapiElem)), (8, .v I), (9, .v (.optr true TapiElem))]), (7463, [(0, .v (.sl false Tsteepleref16Op)), (1, .v I), (2, .v (.sl false TapiElem)), (6, .v (.optr true TapiElem)), (7, .v (.osl true TapiElem)), (8, .v I), (9, .v (.optr true TapiElem))])] },
  { fid := 31, f := Try.f31, ps := [.v (.sl false (.sl false Tsteepleref16Op)), .v (.sl false TapiElem), .v TapiElem], rs := [TapiElem], pts := [(122, [(0, .v (.sl false (.sl false Tsteepleref16Op))), (1, .v (.sl false TapiElem)), (5, .v (.optr true TapiElem)), (6, .v (.optr true TapiElem)), (7, .v (.optr true TapiElem)), (8, .v (.optr true TapiElem)), (9, .v I)])] },
  { fid := 6, f := Try.f6, ps := [.v I, .v Tsteeplelaw21Case, .v Tsteeplelaw21Point], rs := [.bool], pts := [(32762, [(0, .v I), (5, .v (.optr true Tsteeplelaw21Point)), (7, .v (.osl true (.sl true Tsteepleref16Op))), (8, .v (.optr true TapiElem)), (9, .v (.sl true Tsteepleref16Op)), (11, .v (.optr true TapiElem)), (12, .v I), (14, .v (.osl true Tsteepleref16Op)), (15, .v I)]), (131066, [(0, .v I), (5, .v (.optr true Tsteeplelaw21Point)), (7, .v (.osl true (.sl true Tsteepleref16Op))), (8, .v (.optr true TapiElem)), (11, .v (.optr true TapiElem)), (12, .v I), (16, .v (.osl true TapiElem)), (17, .v I)])] }]
noncomputable def steeplelaw09_Few.f (k : Nat) (x0 : List (List (Int × Int × Unit))) (x1 : Int) (x2 : Int) : Option (Bool) := den Try.prog tab k 0 0 (x0, x1, x2, ())
noncomputable def steeplelaw09_Few.l58 (k : Nat) (x0 : List (List (Int × Int × Unit))) (x2 : Int) (x7 : Int) : Option (Bool) := den Try.prog tab k 0 58 (x0, x2, x7, ())
noncomputable def steeplelaw21_Few.f (k : Nat) (x0 : (List (List (Int × Int × Int × (Int × Int × Unit) × Unit))) × (List (List (Int × Int × Unit))) × Unit) : Option (Bool) := den Try.prog tab k 1 0 (x0, ())
noncomputable def steeplelaw21_Few.l58 (k : Nat) (x1 : (List (List (Int × Int × Int × (Int × Int × Unit) × Unit))) × (List (List (Int × Int × Unit))) × Unit) (x3 : Int) : Option (Bool) := den Try.prog tab k 1 58 (x1, x3, ())
noncomputable def zero_many.f (k : Nat) (x0 : List (List (Int × Int × Int × (Int × Int × Unit) × Unit))) : Option (Int) := den Try.prog tab k 2 0 (x0, ())
noncomputable def octet_Wide.f (k : Nat) (x0 : Int) : Option (Int) := den Try.prog tab k 3 0 (x0, ())
noncomputable def octet_Of.f (k : Nat) (x0 : Int) (x1 : Int × Int × Unit) : Option (Bool) := den Try.prog tab k 4 0 (x0, x1, ())
noncomputable def expr_ahead.f (k : Nat) (x0 : Int × Int × Int × (Int × Int × Unit) × Unit) (x1 : Int) : Option (Bool) := den Try.prog tab k 5 0 (x0, x1, ())
noncomputable def expr_step.f (k : Nat) (x0 : Int) (x1 : Int) (x2 : Int × Int × Int × (Int × Int × Unit) × Unit) (x3 : List Int) : Option (Int × Int) := den Try.prog tab k 6 0 (x0, x1, x2, x3, ())
noncomputable def expr_degrees.f (k : Nat) (x0 : Int) (x1 : Int) (x2 : List (Int × Int × Int × (Int × Int × Unit) × Unit)) : Option ((List Int) × Int) := den Try.prog tab k 7 0 (x0, x1, x2, ())
noncomputable def expr_degrees.l122 (k : Nat) (x0 : Int) (x1 : Int) (x8 : List Int) (x29 : List (Int × Int × Int × (Int × Int × Unit) × Unit)) (x30 : Int) (x31 : Int) : Option ((List Int) × Int) := den Try.prog tab k 7 122 (x0, x1, x8, x29, x30, x31, ())
noncomputable def expr_Check.f (k : Nat) (x0 : Int) (x1 : Int) (x2 : List (Int × Int × Int × (Int × Int × Unit) × Unit)) : Option (Int) := den Try.prog tab k 8 0 (x0, x1, x2, ())
noncomputable def expr_Degree.f (k : Nat) (x0 : List (Int × Int × Int × (Int × Int × Unit) × Unit)) : Option (Int) := den Try.prog tab k 9 0 (x0, ())
noncomputable def sumcheck_degree.f (k : Nat) (x0 : List (Int × Int × Int × (Int × Int × Unit) × Unit)) : Option (Int) := den Try.prog tab k 10 0 (x0, ())
noncomputable def line_place.f (k : Nat) (x0 : Int) : Option ((Int × Int × Unit)) := den Try.prog tab k 11 0 (x0, ())
noncomputable def line_Fits.f (k : Nat) (x0 : Int) (x1 : Int) : Option (Bool) := den Try.prog tab k 12 0 (x0, x1, ())
noncomputable def cube_Log.f (k : Nat) (x0 : Int) : Option (Int) := den Try.prog tab k 13 0 (x0, ())
noncomputable def cube_Log.l26 (k : Nat) (x0 : Int) (x4 : Int) : Option (Int) := den Try.prog tab k 13 26 (x0, x4, ())
noncomputable def sumcheck_of_1.f (k : Nat) (x0 : Int × Int × Unit) (x1 : Int) : Option (Bool) := den Try.prog tab k 14 0 (x0, x1, ())
noncomputable def slices_IndexFunc_sumcheck_of_1.f (k : Nat) (x0 : List (Int × Int × Unit)) (x1_0 : Int) : Option (Int) := den Try.prog tab k 15 0 (x0, (x1_0, ()), ())
noncomputable def slices_IndexFunc_sumcheck_of_1.l26 (k : Nat) (x0 : List (Int × Int × Unit)) (x1_0 : Int) (x7 : Int) (x8 : Int) : Option (Int) := den Try.prog tab k 15 26 (x0, (x1_0, ()), x7, x8, ())
noncomputable def slices_ContainsFunc_sumcheck_of_1.f (k : Nat) (x0 : List (Int × Int × Unit)) (x1_0 : Int) : Option (Bool) := den Try.prog tab k 16 0 (x0, (x1_0, ()), ())
noncomputable def sumcheck_of.f (k : Nat) (x0 : Int) (x1 : List (Int × Int × Unit)) : Option (Bool) := den Try.prog tab k 17 0 (x0, x1, ())
noncomputable def sumcheck_Check_1.f (k : Nat) (x0 : List (Int × Int × Unit)) (x1 : Int) : Option (Bool) := den Try.prog tab k 18 0 (x0, x1, ())
noncomputable def slices_IndexFunc_sumcheck_Check_1.f (k : Nat) (x0 : List (List (Int × Int × Unit))) (x1_0 : Int) : Option (Int) := den Try.prog tab k 19 0 (x0, (x1_0, ()), ())
noncomputable def slices_IndexFunc_sumcheck_Check_1.l26 (k : Nat) (x0 : List (List (Int × Int × Unit))) (x1_0 : Int) (x7 : Int) (x8 : Int) : Option (Int) := den Try.prog tab k 19 26 (x0, (x1_0, ()), x7, x8, ())
noncomputable def slices_ContainsFunc_sumcheck_Check_1.f (k : Nat) (x0 : List (List (Int × Int × Unit))) (x1_0 : Int) : Option (Bool) := den Try.prog tab k 20 0 (x0, (x1_0, ()), ())
noncomputable def sumcheck_Check.f (k : Nat) (x0 : Int) (x1 : List (Int × Int × Int × (Int × Int × Unit) × Unit)) (x2 : List (List (Int × Int × Unit))) : Option (Int) := den Try.prog tab k 21 0 (x0, x1, x2, ())
noncomputable def sumcheck_Check.l506 (k : Nat) (x2 : List (List (Int × Int × Unit))) (x3 : Int) (x8 : Int) (x40 : List (List (Int × Int × Unit))) (x41 : Int) (x42 : Int) : Option (Int) := den Try.prog tab k 21 506 (x2, x3, x8, x40, x41, x42, ())
noncomputable def zero_ask.f (k : Nat) (x0 : Int) (x1 : List (List (Int × Int × Int × (Int × Int × Unit) × Unit))) (x2 : List (List (Int × Int × Unit))) : Option (Int) := den Try.prog tab k 22 0 (x0, x1, x2, ())
noncomputable def zero_ask.l58 (k : Nat) (x0 : Int) (x2 : List (List (Int × Int × Unit))) (x16 : List (List (Int × Int × Int × (Int × Int × Unit) × Unit))) (x17 : Int) (x18 : Int) : Option (Int) := den Try.prog tab k 22 58 (x0, x2, x16, x17, x18, ())
noncomputable def tower_Add.f (k : Nat) (x0 : Int × Int × Unit) (x1 : Int × Int × Unit) : Option ((Int × Int × Unit)) := den Try.prog tab k 23 0 (x0, x1, ())
noncomputable def tower_halves.f (k : Nat) (x0 : Int) (x1 : Int) : Option (Int × Int) := den Try.prog tab k 24 0 (x0, x1, ())
noncomputable def tower_join.f (k : Nat) (x0 : Int) (x1 : Int) (x2 : Int) : Option (Int) := den Try.prog tab k 25 0 (x0, x1, x2, ())
noncomputable def tower_mulX.f (k : Nat) (x0 : Int) (x1 : Int) : Option (Int) := den Try.prog tab k 26 0 (x0, x1, ())
noncomputable def tower_mul.f (k : Nat) (x0 : Int) (x1 : Int) (x2 : Int) : Option (Int) := den Try.prog tab k 27 0 (x0, x1, x2, ())
noncomputable def tower_Mul.f (k : Nat) (x0 : Int) (x1 : Int × Int × Unit) (x2 : Int × Int × Unit) : Option ((Int × Int × Unit)) := den Try.prog tab k 28 0 (x0, x1, x2, ())
noncomputable def expr_Eval.f (k : Nat) (x0 : Int) (x1 : List (Int × Int × Int × (Int × Int × Unit) × Unit)) (x2 : List (Int × Int × Unit)) : Option ((Int × Int × Unit) × Int) := den Try.prog tab k 29 0 (x0, x1, x2, ())
noncomputable def expr_Eval.l58 (k : Nat) (x0 : Int) (x1 : List (Int × Int × Int × (Int × Int × Unit) × Unit)) (x2 : List (Int × Int × Unit)) (x6 : Int × Int × Unit) (x24 : List (Int × Int × Unit)) (x25 : Int) (x26 : Int) : Option ((Int × Int × Unit) × Int) := den Try.prog tab k 29 58 (x0, x1, x2, x6, x24, x25, x26, ())
noncomputable def expr_Eval.l250 (k : Nat) (x0 : Int) (x2 : List (Int × Int × Unit)) (x6 : Int × Int × Unit) (x11 : List (Int × Int × Unit)) (x36 : List (Int × Int × Int × (Int × Int × Unit) × Unit)) (x37 : Int) (x38 : Int) : Option ((Int × Int × Unit) × Int) := den Try.prog tab k 29 250 (x0, x2, x6, x11, x36, x37, x38, ())
noncomputable def zero_Holds.f (k : Nat) (x0 : Int) (x1 : List (List (Int × Int × Int × (Int × Int × Unit) × Unit))) (x2 : List (List (Int × Int × Unit))) : Option (Bool × Int) := den Try.prog tab k 30 0 (x0, x1, x2, ())
noncomputable def zero_Holds.l58 (k : Nat) (x0 : Int) (x1 : List (List (Int × Int × Int × (Int × Int × Unit) × Unit))) (x2 : List (List (Int × Int × Unit))) (x27 : Int) (x28 : Int) : Option (Bool × Int) := den Try.prog tab k 30 58 (x0, x1, x2, x27, x28, ())
noncomputable def zero_Holds.l59802 (k : Nat) (x0 : Int) (x1 : List (List (Int × Int × Int × (Int × Int × Unit) × Unit))) (x2 : List (List (Int × Int × Unit))) (x9 : Int) (x10 : List (Int × Int × Unit)) (x27 : Int) (x28 : Int) (x34 : List (List (Int × Int × Unit))) (x35 : Int) (x36 : Int) : Option (Bool × Int) := den Try.prog tab k 30 59802 (x0, x1, x2, x9, x10, x27, x28, x34, x35, x36, ())
noncomputable def zero_Holds.l59806 (k : Nat) (x0 : Int) (x1 : List (List (Int × Int × Int × (Int × Int × Unit) × Unit))) (x2 : List (List (Int × Int × Unit))) (x10 : List (Int × Int × Unit)) (x27 : Int) (x28 : Int) (x49 : List (List (Int × Int × Int × (Int × Int × Unit) × Unit))) (x50 : Int) (x51 : Int) : Option (Bool × Int) := den Try.prog tab k 30 59806 (x0, x1, x2, x10, x27, x28, x49, x50, x51, ())
noncomputable def tower_One.f (k : Nat) : Option ((Int × Int × Unit)) := den Try.prog tab k 31 0 ()
noncomputable def slices_Clone_Op.f (k : Nat) (x0 : List (Int × Int × Int × (Int × Int × Unit) × Unit)) : Option ((List (Int × Int × Int × (Int × Int × Unit) × Unit))) := den Try.prog tab k 32 0 (x0, ())
noncomputable def zero_behind.f (k : Nat) (x0 : Int) (x1 : List (Int × Int × Int × (Int × Int × Unit) × Unit)) : Option ((List (Int × Int × Int × (Int × Int × Unit) × Unit))) := den Try.prog tab k 33 0 (x0, x1, ())
noncomputable def zero_behind.l58 (k : Nat) (x0 : Int) (x5 : List (Int × Int × Int × (Int × Int × Unit) × Unit)) (x10 : Int) (x11 : Int) : Option ((List (Int × Int × Int × (Int × Int × Unit) × Unit))) := den Try.prog tab k 33 58 (x0, x5, x10, x11, ())
noncomputable def zero_mix.f (k : Nat) (x0 : Int) (x1 : Int) (x2 : List (List (Int × Int × Int × (Int × Int × Unit) × Unit))) (x3 : Int × Int × Unit) : Option ((List (Int × Int × Int × (Int × Int × Unit) × Unit))) := den Try.prog tab k 34 0 (x0, x1, x2, x3, ())
noncomputable def zero_mix.l442 (k : Nat) (x0 : Int) (x1 : Int) (x7 : Int × Int × Unit) (x9 : List (Int × Int × Int × (Int × Int × Unit) × Unit)) (x10 : Int) (x11 : Int × Int × Unit) (x16 : List (List (Int × Int × Int × (Int × Int × Unit) × Unit))) (x17 : Int) (x18 : Int) : Option ((List (Int × Int × Int × (Int × Int × Unit) × Unit))) := den Try.prog tab k 34 442 (x0, x1, x7, x9, x10, x11, x16, x17, x18, ())
noncomputable def zero_Mix.f (k : Nat) (x0 : Int) (x1 : Int) (x2 : List (List (Int × Int × Int × (Int × Int × Unit) × Unit))) (x3 : Int × Int × Unit) : Option ((List (Int × Int × Int × (Int × Int × Unit) × Unit)) × Int) := den Try.prog tab k 35 0 (x0, x1, x2, x3, ())
noncomputable def zero_Mix.l58 (k : Nat) (x0 : Int) (x1 : Int) (x2 : List (List (Int × Int × Int × (Int × Int × Unit) × Unit))) (x7 : Int × Int × Unit) (x21 : List (List (Int × Int × Int × (Int × Int × Unit) × Unit))) (x22 : Int) (x23 : Int) : Option ((List (Int × Int × Int × (Int × Int × Unit) × Unit)) × Int) := den Try.prog tab k 35 58 (x0, x1, x2, x7, x21, x22, x23, ())
noncomputable def zero_Sum_1.f (k : Nat) (x0 : Int × Int × Unit) (x1 : Int) : Option (Bool) := den Try.prog tab k 36 0 (x0, x1, ())
noncomputable def slices_IndexFunc_zero_Sum_1.f (k : Nat) (x0 : List (Int × Int × Unit)) (x1_0 : Int) : Option (Int) := den Try.prog tab k 37 0 (x0, (x1_0, ()), ())
noncomputable def slices_IndexFunc_zero_Sum_1.l26 (k : Nat) (x0 : List (Int × Int × Unit)) (x1_0 : Int) (x7 : Int) (x8 : Int) : Option (Int) := den Try.prog tab k 37 26 (x0, (x1_0, ()), x7, x8, ())
noncomputable def slices_ContainsFunc_zero_Sum_1.f (k : Nat) (x0 : List (Int × Int × Unit)) (x1_0 : Int) : Option (Bool) := den Try.prog tab k 38 0 (x0, (x1_0, ()), ())
noncomputable def slices_Clone_LElem.f (k : Nat) (x0 : List (List (Int × Int × Unit))) : Option ((List (List (Int × Int × Unit)))) := den Try.prog tab k 39 0 (x0, ())
noncomputable def cube_of_1.f (k : Nat) (x0 : Int × Int × Unit) (x1 : Int) : Option (Bool) := den Try.prog tab k 40 0 (x0, x1, ())
noncomputable def slices_IndexFunc_cube_of_1.f (k : Nat) (x0 : List (Int × Int × Unit)) (x1_0 : Int) : Option (Int) := den Try.prog tab k 41 0 (x0, (x1_0, ()), ())
noncomputable def slices_IndexFunc_cube_of_1.l26 (k : Nat) (x0 : List (Int × Int × Unit)) (x1_0 : Int) (x7 : Int) (x8 : Int) : Option (Int) := den Try.prog tab k 41 26 (x0, (x1_0, ()), x7, x8, ())
noncomputable def slices_ContainsFunc_cube_of_1.f (k : Nat) (x0 : List (Int × Int × Unit)) (x1_0 : Int) : Option (Bool) := den Try.prog tab k 42 0 (x0, (x1_0, ()), ())
noncomputable def cube_of.f (k : Nat) (x0 : Int) (x1 : List (Int × Int × Unit)) : Option (Bool) := den Try.prog tab k 43 0 (x0, x1, ())
noncomputable def cube_Weights.f (k : Nat) (x0 : Int) (x1 : List (Int × Int × Unit)) : Option ((List (Int × Int × Unit))) := den Try.prog tab k 44 0 (x0, x1, ())
noncomputable def cube_Weights.l122 (k : Nat) (x0 : Int) (x5 : List (Int × Int × Unit)) (x27 : List (Int × Int × Unit)) (x28 : Int) (x29 : Int) : Option ((List (Int × Int × Unit))) := den Try.prog tab k 44 122 (x0, x5, x27, x28, x29, ())
noncomputable def cube_Weights.l125338 (k : Nat) (x0 : Int) (x5 : List (Int × Int × Unit)) (x7 : Int × Int × Unit) (x8 : List (Int × Int × Unit)) (x27 : List (Int × Int × Unit)) (x28 : Int) (x29 : Int) (x37 : Int) (x38 : Int) : Option ((List (Int × Int × Unit))) := den Try.prog tab k 44 125338 (x0, x5, x7, x8, x27, x28, x29, x37, x38, ())
noncomputable def sumcheck_sum.f (k : Nat) (x0 : Int) (x1 : List (Int × Int × Int × (Int × Int × Unit) × Unit)) (x2 : List (List (Int × Int × Unit))) : Option ((Int × Int × Unit)) := den Try.prog tab k 45 0 (x0, x1, x2, ())
noncomputable def sumcheck_sum.l58 (k : Nat) (x0 : Int) (x1 : List (Int × Int × Int × (Int × Int × Unit) × Unit)) (x2 : List (List (Int × Int × Unit))) (x6 : Int × Int × Unit) (x7 : Int × Int × Unit) (x17 : Int) (x18 : Int) : Option ((Int × Int × Unit)) := den Try.prog tab k 45 58 (x0, x1, x2, x6, x7, x17, x18, ())
noncomputable def sumcheck_sum.l59802 (k : Nat) (x0 : Int) (x1 : List (Int × Int × Int × (Int × Int × Unit) × Unit)) (x2 : List (List (Int × Int × Unit))) (x6 : Int × Int × Unit) (x7 : Int × Int × Unit) (x8 : Int) (x9 : List (Int × Int × Unit)) (x17 : Int) (x18 : Int) (x24 : List (List (Int × Int × Unit))) (x25 : Int) (x26 : Int) : Option ((Int × Int × Unit)) := den Try.prog tab k 45 59802 (x0, x1, x2, x6, x7, x8, x9, x17, x18, x24, x25, x26, ())
noncomputable def sumcheck_Sum.f (k : Nat) (x0 : Int) (x1 : List (Int × Int × Int × (Int × Int × Unit) × Unit)) (x2 : List (List (Int × Int × Unit))) : Option ((Int × Int × Unit) × Int) := den Try.prog tab k 46 0 (x0, x1, x2, ())
noncomputable def zero_Sum.f (k : Nat) (x0 : Int) (x1 : List (List (Int × Int × Int × (Int × Int × Unit) × Unit))) (x2 : List (List (Int × Int × Unit))) (x3 : Int × Int × Unit) (x4 : List (Int × Int × Unit)) : Option ((Int × Int × Unit) × Int) := den Try.prog tab k 47 0 (x0, x1, x2, x3, x4, ())
noncomputable def steeplelaw21_awake.f (k : Nat) : Option (Bool) := den Try.prog tab k 48 0 ()
noncomputable def steeplelaw16_Ref.f (k : Nat) (x0 : List (Int × Int × Int × (Int × Int × Unit) × Unit)) : Option ((List (Int × Int × Int × (Int × Int × Unit) × Unit))) := den Try.prog tab k 49 0 (x0, ())
noncomputable def steeplelaw16_Ref.l58 (k : Nat) (x0 : List (Int × Int × Int × (Int × Int × Unit) × Unit)) (x3 : List (Int × Int × Int × (Int × Int × Unit) × Unit)) (x4 : Int) : Option ((List (Int × Int × Int × (Int × Int × Unit) × Unit))) := den Try.prog tab k 49 58 (x0, x3, x4, ())
noncomputable def steeplelaw21_Refs.f (k : Nat) (x0 : List (List (Int × Int × Int × (Int × Int × Unit) × Unit))) : Option ((List (List (Int × Int × Int × (Int × Int × Unit) × Unit)))) := den Try.prog tab k 50 0 (x0, ())
noncomputable def steeplelaw21_Refs.l58 (k : Nat) (x0 : List (List (Int × Int × Int × (Int × Int × Unit) × Unit))) (x3 : List (List (Int × Int × Int × (Int × Int × Unit) × Unit))) (x4 : Int) : Option ((List (List (Int × Int × Int × (Int × Int × Unit) × Unit)))) := den Try.prog tab k 50 58 (x0, x3, x4, ())
noncomputable def slices_Clone_Elem.f (k : Nat) (x0 : List (Int × Int × Unit)) : Option ((List (Int × Int × Unit))) := den Try.prog tab k 51 0 (x0, ())
noncomputable def zero_Value.f (k : Nat) (x0 : Int) (x1 : List (List (Int × Int × Int × (Int × Int × Unit) × Unit))) (x2 : List (Int × Int × Unit)) (x3 : Int × Int × Unit) (x4 : Int × Int × Unit) : Option ((Int × Int × Unit) × Int) := den Try.prog tab k 52 0 (x0, x1, x2, x3, x4, ())
noncomputable def steepleref21_many.f (k : Nat) (x0 : List (List (Int × Int × Int × (Int × Int × Unit) × Unit))) : Option (Int) := den Try.prog tab k 53 0 (x0, ())
noncomputable def steepleref01_bit.f (k : Nat) (x0 : Int × Int × Unit) (x1 : Int) : Option (Int) := den Try.prog tab k 54 0 (x0, x1, ())
noncomputable def steepleref01_Of.f (k : Nat) (x0 : Int) (x1 : Int × Int × Unit) : Option (Bool) := den Try.prog tab k 55 0 (x0, x1, ())
noncomputable def steepleref01_Of.l122 (k : Nat) (x3 : Int × Int × Unit) (x6 : Int) : Option (Bool) := den Try.prog tab k 55 122 (x3, x6, ())
noncomputable def steepleref16_DegreeAt.f (k : Nat) (x0 : List (Int × Int × Int × (Int × Int × Unit) × Unit)) (x1 : Int) : Option (Int) := den Try.prog tab k 56 0 (x0, x1, ())
noncomputable def steepleref16_DegreeAt.l58 (k : Nat) (x0 : List (Int × Int × Int × (Int × Int × Unit) × Unit)) (x1 : Int) (x5 : List Int) (x6 : Int) : Option (Int) := den Try.prog tab k 56 58 (x0, x1, x5, x6, ())
noncomputable def steepleref16_DegreeAt.l3731 (k : Nat) (x0 : List (Int × Int × Int × (Int × Int × Unit) × Unit)) (x1 : Int) (x5 : List Int) (x6 : Int) (x7 : Int) : Option (Int) := den Try.prog tab k 56 3731 (x0, x1, x5, x6, x7, ())
noncomputable def steepleref16_DegreeAt.l7463 (k : Nat) (x0 : List (Int × Int × Int × (Int × Int × Unit) × Unit)) (x1 : Int) (x5 : List Int) (x6 : Int) (x7 : Int) : Option (Int) := den Try.prog tab k 56 7463 (x0, x1, x5, x6, x7, ())
noncomputable def steepleref16_Check.f (k : Nat) (x0 : Int) (x1 : Int) (x2 : List (Int × Int × Int × (Int × Int × Unit) × Unit)) : Option (Int) := den Try.prog tab k 57 0 (x0, x1, x2, ())
noncomputable def steepleref16_Check.l506 (k : Nat) (x0 : Int) (x1 : Int) (x2 : List (Int × Int × Int × (Int × Int × Unit) × Unit)) (x7 : Int × Int × Unit) (x8 : Int) : Option (Int) := den Try.prog tab k 57 506 (x0, x1, x2, x7, x8, ())
noncomputable def steepleref02_Bit.f (k : Nat) (x0 : Int) : Option ((Int × Int × Unit)) := den Try.prog tab k 58 0 (x0, ())
noncomputable def steepleref02_Has.f (k : Nat) (x0 : Int × Int × Unit) (x1 : Int) : Option (Bool) := den Try.prog tab k 59 0 (x0, x1, ())
noncomputable def steepleref02_mask.f (k : Nat) (x0 : Int) : Option (Int) := den Try.prog tab k 60 0 (x0, ())
noncomputable def steepleref02_timesWord.f (k : Nat) (x0 : Int) (x1 : Int) : Option (Int) := den Try.prog tab k 61 0 (x0, x1, ())
noncomputable def steepleref02_Times.f (k : Nat) (x0 : Int) (x1 : Int × Int × Unit) : Option ((Int × Int × Unit)) := den Try.prog tab k 62 0 (x0, x1, ())
noncomputable def steepleref02_Add.f (k : Nat) (x0 : Int × Int × Unit) (x1 : Int × Int × Unit) : Option ((Int × Int × Unit)) := den Try.prog tab k 63 0 (x0, x1, ())
noncomputable def steepleref02_Product.f (k : Nat) (x0 : Int × Int × Unit) (x1 : Int × Int × Unit) : Option ((Int × Int × Unit)) := den Try.prog tab k 64 0 (x0, x1, ())
noncomputable def steepleref02_Product.l58 (k : Nat) (x2 : Int × Int × Unit) (x3 : Int × Int × Unit) (x4 : Int × Int × Unit) (x5 : Int × Int × Unit) (x6 : Int) : Option ((Int × Int × Unit)) := den Try.prog tab k 64 58 (x2, x3, x4, x5, x6, ())
noncomputable def steepleref02_Product.l29850 (k : Nat) (x2 : Int × Int × Unit) (x3 : Int × Int × Unit) (x4 : Int × Int × Unit) (x5 : Int × Int × Unit) (x6 : Int) (x7 : Int × Int × Unit) (x8 : Int) : Option ((Int × Int × Unit)) := den Try.prog tab k 64 29850 (x2, x3, x4, x5, x6, x7, x8, ())
noncomputable def steepleref21_Steps.f (k : Nat) (x0 : Int) (x1 : List (List (Int × Int × Int × (Int × Int × Unit) × Unit))) (x2 : Int × Int × Unit) : Option ((List (Int × Int × Int × (Int × Int × Unit) × Unit))) := den Try.prog tab k 65 0 (x0, x1, x2, ())
noncomputable def steepleref21_Steps.l250 (k : Nat) (x0 : Int) (x1 : List (List (Int × Int × Int × (Int × Int × Unit) × Unit))) (x5 : Int × Int × Unit) (x7 : List (Int × Int × Int × (Int × Int × Unit) × Unit)) (x8 : Int) (x9 : Int × Int × Unit) (x10 : Int) : Option ((List (Int × Int × Int × (Int × Int × Unit) × Unit))) := den Try.prog tab k 65 250 (x0, x1, x5, x7, x8, x9, x10, ())
noncomputable def steepleref21_Steps.l64074 (k : Nat) (x0 : Int) (x1 : List (List (Int × Int × Int × (Int × Int × Unit) × Unit))) (x5 : Int × Int × Unit) (x7 : List (Int × Int × Int × (Int × Int × Unit) × Unit)) (x8 : Int) (x9 : Int × Int × Unit) (x10 : Int) (x11 : Int) (x12 : Int) : Option ((List (Int × Int × Int × (Int × Int × Unit) × Unit))) := den Try.prog tab k 65 64074 (x0, x1, x5, x7, x8, x9, x10, x11, x12, ())
noncomputable def steepleref21_Mix.f (k : Nat) (x0 : Int) (x1 : Int) (x2 : List (List (Int × Int × Int × (Int × Int × Unit) × Unit))) (x3 : Int × Int × Unit) : Option (Int) := den Try.prog tab k 66 0 (x0, x1, x2, x3, ())
noncomputable def steepleref21_Mix.l58 (k : Nat) (x0 : Int) (x1 : Int) (x2 : List (List (Int × Int × Int × (Int × Int × Unit) × Unit))) (x7 : Int × Int × Unit) (x9 : Int) : Option (Int) := den Try.prog tab k 66 58 (x0, x1, x2, x7, x9, ())
noncomputable def steeplelaw01_Ref.f (k : Nat) (x0 : List (Int × Int × Unit)) : Option ((List (Int × Int × Unit))) := den Try.prog tab k 67 0 (x0, ())
noncomputable def steeplelaw01_Ref.l58 (k : Nat) (x0 : List (Int × Int × Unit)) (x3 : List (Int × Int × Unit)) (x4 : Int) : Option ((List (Int × Int × Unit))) := den Try.prog tab k 67 58 (x0, x3, x4, ())
noncomputable def steepleref16_Value.f (k : Nat) (x0 : List (Int × Int × Int × (Int × Int × Unit) × Unit)) (x1 : Int) (x2 : List (Int × Int × Unit)) : Option ((Int × Int × Unit)) := den Try.prog tab k 68 0 (x0, x1, x2, ())
noncomputable def steepleref16_Value.l58 (k : Nat) (x0 : List (Int × Int × Int × (Int × Int × Unit) × Unit)) (x1 : Int) (x2 : List (Int × Int × Unit)) (x6 : Int × Int × Unit) (x7 : List (Int × Int × Unit)) (x8 : Int) : Option ((Int × Int × Unit)) := den Try.prog tab k 68 58 (x0, x1, x2, x6, x7, x8, ())
noncomputable def steepleref16_Value.l3731 (k : Nat) (x0 : List (Int × Int × Int × (Int × Int × Unit) × Unit)) (x1 : Int) (x2 : List (Int × Int × Unit)) (x6 : Int × Int × Unit) (x7 : List (Int × Int × Unit)) (x8 : Int) (x9 : Int × Int × Unit) : Option ((Int × Int × Unit)) := den Try.prog tab k 68 3731 (x0, x1, x2, x6, x7, x8, x9, ())
noncomputable def steepleref16_Value.l7463 (k : Nat) (x0 : List (Int × Int × Int × (Int × Int × Unit) × Unit)) (x1 : Int) (x2 : List (Int × Int × Unit)) (x6 : Int × Int × Unit) (x7 : List (Int × Int × Unit)) (x8 : Int) (x9 : Int × Int × Unit) : Option ((Int × Int × Unit)) := den Try.prog tab k 68 7463 (x0, x1, x2, x6, x7, x8, x9, ())
noncomputable def steepleref21_Mixed.f (k : Nat) (x0 : List (List (Int × Int × Int × (Int × Int × Unit) × Unit))) (x1 : List (Int × Int × Unit)) (x2 : Int × Int × Unit) : Option ((Int × Int × Unit)) := den Try.prog tab k 69 0 (x0, x1, x2, ())
noncomputable def steepleref21_Mixed.l122 (k : Nat) (x0 : List (List (Int × Int × Int × (Int × Int × Unit) × Unit))) (x1 : List (Int × Int × Unit)) (x5 : Int × Int × Unit) (x6 : Int × Int × Unit) (x7 : Int × Int × Unit) (x8 : Int × Int × Unit) (x9 : Int) : Option ((Int × Int × Unit)) := den Try.prog tab k 69 122 (x0, x1, x5, x6, x7, x8, x9, ())
noncomputable def steeplelaw21_ZeroMixes.f (k : Nat) (x0 : Int) (x1 : (List (List (Int × Int × Int × (Int × Int × Unit) × Unit))) × (List (List (Int × Int × Unit))) × Unit) (x2 : (Int × Int × Unit) × (List (Int × Int × Unit)) × (Int × Int × Unit) × Unit) : Option (Bool) := den Try.prog tab k 70 0 (x0, x1, x2, ())
noncomputable def steeplelaw21_ZeroMixes.l32762 (k : Nat) (x0 : Int) (x5 : (Int × Int × Unit) × (List (Int × Int × Unit)) × (Int × Int × Unit) × Unit) (x7 : List (List (Int × Int × Int × (Int × Int × Unit) × Unit))) (x8 : Int × Int × Unit) (x9 : List (Int × Int × Int × (Int × Int × Unit) × Unit)) (x11 : Int × Int × Unit) (x12 : Int) (x14 : List (Int × Int × Int × (Int × Int × Unit) × Unit)) (x15 : Int) : Option (Bool) := den Try.prog tab k 70 32762 (x0, x5, x7, x8, x9, x11, x12, x14, x15, ())
noncomputable def steeplelaw21_ZeroMixes.l131066 (k : Nat) (x0 : Int) (x5 : (Int × Int × Unit) × (List (Int × Int × Unit)) × (Int × Int × Unit) × Unit) (x7 : List (List (Int × Int × Int × (Int × Int × Unit) × Unit))) (x8 : Int × Int × Unit) (x11 : Int × Int × Unit) (x12 : Int) (x16 : List (Int × Int × Unit)) (x17 : Int) : Option (Bool) := den Try.prog tab k 70 131066 (x0, x5, x7, x8, x11, x12, x16, x17, ())
end Go.Proofs.Ytplmejnoepkdgaa.H1
