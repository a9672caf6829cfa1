/- A walk by reckoning: what a Go function comes to, reckoned out of its operations, and why that is so. -/
import Derived.Test.YtplmejnoepkdgaaSumcheckCountsH
import Derived.Test.YtplmejnoepkdgaaRf4
import Derived.Test.YtplmejnoepkdgaaSumcheckCountsP0
set_option linter.unusedVariables false
set_option linter.unusedSimpArgs false
namespace Go.Proofs.Ytplmejnoepkdgaa.H1
open Go Go.Proofs.Ytplmejnoepkdgaa.Rf
/-! Tables, bound in their first variable. -/
def btw (a b r : E) : E := Av a (Pr r (Av a b))
def bind1 (t : List E) (r : E) : List E := (List.range (t.length / 2)).map fun i => btw (t.getD (2 * i) z) (t.getD (2 * i + 1) z) r
def bindN (t : List E) (rs : List E) : List E := rs.foldl bind1 t
theorem bind1_len (t : List E) (r : E) : (bind1 t r).length = t.length / 2 := by simp [bind1]
theorem bind1_at {t : List E} {r : E} {i : Nat} (h : i < t.length / 2) : (bind1 t r).getD i z = btw (t.getD (2 * i) z) (t.getD (2 * i + 1) z) r := getD_range h
theorem inL_btw {lv : Int} {a b r : E} (ha : inL lv a) (hb : inL lv b) (hr : inL lv r) : inL lv (btw a b r) := inL_Av ha (inL_Pr hr (inL_Av ha hb))
theorem bind1_L {lv : Int} {t : List E} {r : E} (ht : allL lv t) (hr : inL lv r) : allL lv (bind1 t r) := fun j => by
  by_cases h : j < t.length / 2
  · rw [bind1_at h]; exact inL_btw (ht _) (ht _) hr
  · rw [getD_none (by rw [bind1_len]; omega)]
    have := ht t.length
    rwa [getD_none (Nat.le_refl _)] at this
theorem between_X {lv : Int} {a b r : E} (ha : inL lv a) (hb : inL lv b) (hr : inL lv r) : T (fun k => cube_between.f k lv a b r) (fun q => q = btw a b r) := by
  refine T.eq (cube_between.f_eq · lv a b r) (T.bind (add_X _ _) fun s hs => T.bind (p := fun q => q = Pr r s) (by subst hs; exact mul_X hr (inL_Av ha hb)) fun m hm => T.bind (add_X _ _) fun q hq => T.pure ?_)
  rw [hq, hm, hs]; rfl
noncomputable def firstE (lv : Int) (t rs : List E) : Int :=
  if lv < 0 ∨ lv > 7 then 1 else if logI t.length < 0 ∨ (rs.length : Int) > logI t.length then 6 else if allB lv t = false ∨ allB lv rs = false then 5 else 0
theorem cask_X (lv : Int) (t rs : List E) (h1 : t.length ≤ 100000000) (h2 : rs.length ≤ 100000000) : T (fun k => cube_ask.f k lv t rs) (fun e => e = firstE lv t rs) := by
  unfold firstE
  refine T.eq (cube_ask.f_eq · lv t rs) (T.bind (log_X _) fun q hq => T.bind (wide_X lv) fun w hw => T.ite (fun h => T.pure ?_) fun g1 => T.ite (fun h => T.pure ?_) fun g2 => T.ite (fun h => T.pure ?_) fun g3 => T.bind (cube_of_X lv t h1) fun b hb => ?_)
  · have h : w = 0 := by simpa using h
    rw [if_pos (hw.1 h)]
  all_goals have g1 : ¬ (lv < 0 ∨ lv > 7) := fun h => (by simpa using g1 : ¬ w = 0) (hw.2 h)
  all_goals subst hq
  · rw [if_neg g1, if_pos (.inl (of_decide_eq_true h))]
  · rw [if_neg g1, if_pos (.inr (of_decide_eq_true h))]
  have g2 := of_decide_eq_false g2
  have g3 := of_decide_eq_false g3
  rw [if_neg g1, if_neg (by omega)]
  subst hb
  refine T.ite (fun h => T.pure ?_) fun g4 => T.bind (cube_of_X lv rs h2) fun b hb => ?_
  · rw [if_pos (.inl (by simpa using h))]
  subst hb
  refine T.ite (fun h => T.pure ?_) fun g5 => T.pure ?_
  · rw [if_pos (.inr (by simpa using h))]
  · rw [if_neg]
    simp only [Bool.not_eq_false'] at g4 g5
    rw [g4, g5]; simp
structure FOk (lv : Int) (t rs : List E) : Prop where
  lv0 : 0 ≤ lv
  lv7 : lv ≤ 7
  lg : ∃ m : Nat, m ≤ 16 ∧ t.length = 2 ^ m ∧ rs.length ≤ m
  t : allB lv t = true
  r : allB lv rs = true
theorem firstE_ok {lv : Int} {t rs : List E} (h : firstE lv t rs = 0) : FOk lv t rs := by
  unfold firstE at h
  split at h
  · cases h
  split at h
  · cases h
  split at h
  · cases h
  rename_i c1 c2 c3
  obtain ⟨m, m1, m2, m3⟩ := logI_nn (n := (t.length : Int)) (by omega)
  exact ⟨by omega, by omega, ⟨m, m1, by exact_mod_cast m2, by omega⟩, eq_true_of_ne_false fun e => c3 (.inl e), eq_true_of_ne_false fun e => c3 (.inr e)⟩
theorem FOk.eq {lv : Int} {t rs : List E} (h : FOk lv t rs) : firstE lv t rs = 0 := by
  obtain ⟨m, m1, m2, m3⟩ := h.lg
  have := h.lv0; have := h.lv7
  have e : logI (t.length : Int) = (m : Int) := by rw [m2]; exact logI_pow m1
  unfold firstE
  rw [if_neg (by omega), e, if_neg (by omega), if_neg (by rw [h.t, h.r]; simp)]
theorem First_X (lv : Int) (t rs : List E) (h1 : t.length ≤ 1000000) (h2 : rs.length ≤ 100) (ht : allR t) (hr : allR rs) : T (fun k => cube_First.f k lv t rs) (fun q => (q = if firstE lv t rs = 0 then (bindN t rs, 0) else ([], firstE lv t rs)) ∧ (firstE lv t rs = 0 → allL lv q.1)) := by
  refine T.eq (cube_First.f_eq · lv t rs) (T.bind (cask_X lv t rs (by omega) (by omega)) fun e he => T.ite (fun h => T.pure ?_) fun h => ?_)
  · subst he
    have h : ¬ firstE lv t rs = 0 := by simpa using h
    rw [if_neg h]; exact ⟨rfl, fun h' => absurd h' h⟩
  subst he
  have h0 : firstE lv t rs = 0 := by simpa using h
  rw [if_pos h0]
  have F := firstE_ok h0
  have tL := allL_of F.lv0 F.lv7 ht F.t
  have rL := allL_of F.lv0 F.lv7 hr F.r
  refine T.bind (p := fun r => r = t) ?_ fun t' ht' => ?_
  · refine T.eq (slices_Clone_Elem.f_eq · t) ?_
    have hr : room t.length 16 = true := room_ok (by omega)
    have : nilB t (some []) (bif room t.length 16 then some t else none) = some t := by
      rw [hr]
      exact nilB_same t _ _ fun h => by rw [List.isEmpty_iff.1 h]; rfl
    rw [this]
    exact T.pure rfl
  subst ht'
  refine T.loop0 (f := fun k s i => cube_First.l122 k lv s rs (rs.length : Int) i) rs.length (fun s i => s = bindN t' (rs.take i) ∧ allL lv s ∧ s.length ≤ t'.length) t' ⟨by simp [bindN], tL, Nat.le_refl _⟩ fun s i hi hI ih => ?_
  obtain ⟨I1, I2, I3⟩ := hI
  refine T.eq (cube_First.l122_eq · lv s rs _ _) (T.ite (fun hlt => ?_) (fun hge => ?_))
  · have hlt := lt_dec hlt
    simp only [Int.toNat_natCast]
    have zr : rs.getD i (0, 0, ()) = rs.getD i z := rfl
    rw [zr]
    obtain ⟨x, ex⟩ : ∃ x, x = rs.getD i z := ⟨_, rfl⟩
    have hx : inL lv x := by rw [ex]; exact rL i
    rw [← ex]
    have hd : w64 (Int.tdiv (s.length : Int) 2) = ((s.length / 2 : Nat) : Int) := by
      show w64 ((s.length / 2 : Nat) : Int) = _
      exact w64_in (by omega) (by omega)
    rw [hd]
    refine T.yes (inB_nat hlt) (T.no (by decide) ?_)
    refine T.loop0 (f := fun k q j => cube_First.l125338 k lv q x ((s.length / 2 : Nat) : Int) rs (rs.length : Int) (i : Int) ((s.length / 2 : Nat) : Int) j) (s.length / 2) (fun q j => q.length = s.length ∧ (∀ n, n < j → q.getD n z = btw (s.getD (2 * n) z) (s.getD (2 * n + 1) z) x) ∧ ∀ n, j ≤ n → q.getD n z = s.getD n z) s ⟨rfl, fun n h => absurd h (by omega), fun n _ => rfl⟩ fun q j hj hq ih2 => ?_
    obtain ⟨q1, q2, q3⟩ := hq
    have e1 : w64 (2 * (j : Int)) = ((2 * j : Nat) : Int) := by rw [w64_in (by omega) (by omega)]; omega
    have e2 : w64 (((2 * j : Nat) : Int) + 1) = ((2 * j + 1 : Nat) : Int) := by rw [w64_in (by omega) (by omega)]; omega
    refine T.eq (cube_First.l125338_eq · lv q x _ rs _ _ _ _) ?_
    rw [e1, e2]
    refine T.ite (fun h => ?_) (fun h => ?_)
    · have hlt2 := lt_dec h
      simp only [Int.toNat_natCast]
      have z1 : q.getD (2 * j) (0, 0, ()) = s.getD (2 * j) z := q3 _ (by omega)
      have z2 : q.getD (2 * j + 1) (0, 0, ()) = s.getD (2 * j + 1) z := q3 _ (by omega)
      rw [z1, z2]
      refine T.yes (inB_nat (by omega)) (T.yes (inB_nat (by omega)) (T.bind (between_X (I2 _) (I2 _) hx) fun b hb => T.yes (inB_nat (by omega)) ?_))
      subst hb
      rw [inc (by omega)]
      refine ih2 _ hlt2 ⟨by simp [q1], fun n hn => ?_, fun n hn => ?_⟩
      · rw [set_get _ _ _ _ _ (by omega)]
        by_cases e : n = j
        · subst e; rw [if_pos rfl]
        · rw [if_neg e]; exact q2 n (by omega)
      · rw [set_get _ _ _ _ _ (by omega), if_neg (by omega)]
        exact q3 n (by omega)
    · have e : j = s.length / 2 := Nat.le_antisymm hj (nlt_dec h)
      subst e
      refine T.yes (by simp only [inS, Bool.and_eq_true, decide_eq_true_eq]; omega) ?_
      have hc : cutl q 0 ((s.length / 2 : Nat) : Int) = bind1 s x := by
        show (q.take ((s.length / 2 : Nat) : Int).toNat).drop (0 : Int).toNat = _
        rw [Int.toNat_natCast]
        show (q.take (s.length / 2)).drop 0 = _
        rw [List.drop_zero]
        refine list_eq z (by rw [bind1_len, List.length_take]; omega) fun n hn => ?_
        rw [bind1_len] at hn
        rw [bind1_at hn, List.getD_eq_getElem?_getD, List.getElem?_take, if_pos hn, ← List.getD_eq_getElem?_getD]
        exact q2 n hn
      rw [hc, inc (by omega)]
      refine ih _ hlt ⟨?_, bind1_L I2 hx, by rw [bind1_len]; omega⟩
      rw [take_snoc rs z hlt, bindN, List.foldl_append, ← ex]
      show bind1 s x = bind1 (bindN t' (rs.take i)) x
      rw [← I1]
  · have e : i = rs.length := Nat.le_antisymm hi (nlt_dec hge)
    subst e
    rw [List.take_length] at I1
    exact T.pure ⟨by rw [I1], fun _ => I2⟩
def bindT (t : List (List E)) (r : E) : List (List E) := t.map (bind1 · r)
theorem bindT_at {t : List (List E)} {r : E} {i : Nat} : (bindT t r).getD i [] = bind1 (t.getD i []) r := by
  by_cases h : i < t.length
  · exact getD_map h
  · rw [getD_none (by simp [bindT]; omega), getD_none (by omega)]; rfl
theorem bindT_len (t : List (List E)) (r : E) : (bindT t r).length = t.length := by simp [bindT]
/-- Tables of some length. -/
def midT (t : List (List E)) : Prop := t.length ≤ 1000 ∧ ∀ i, (t.getD i []).length ≤ 1000000
theorem midT.few {t : List (List E)} (h : midT t) : fewT t := ⟨h.1, fun i => by have := h.2 i; omega⟩
theorem midT.bind {t : List (List E)} (h : midT t) (r : E) : midT (bindT t r) := ⟨by rw [bindT_len]; exact h.1, fun i => by rw [bindT_at, bind1_len]; have := h.2 i; omega⟩
noncomputable def bindE (lv : Int) (t : List (List E)) (r : E) : Int := errs (fun x => firstE lv x [r]) t
theorem SOk.bind {lv : Int} {l : List O} {t : List (List E)} (h : SOk lv l t) (htr : allRR t) {m : Nat} (hm : (t.getD 0 []).length = 2 ^ (m + 1)) {r : E} (hr : inL lv r) : SOk lv l (bindT t r) ∧ ((bindT t r).getD 0 []).length = 2 ^ m ∧ allRR (bindT t r) := by
  have hl : ((bindT t r).getD 0 []).length = 2 ^ m := by rw [bindT_at, bind1_len, hm, Nat.pow_succ]; omega
  have hL : ∀ i, i < t.length → allL lv (bind1 (t.getD i []) r) := fun i hi => bind1_L (allL_of h.x.lv0 h.x.lv7 (htr i) (h.all i hi)) hr
  refine ⟨⟨by rw [bindT_len]; exact h.x, by rw [bindT_len]; exact h.pos, h.fit, ?_, fun i hi => ?_, fun i hi => ?_⟩, hl, fun i => ?_⟩
  · obtain ⟨q, q1, q2⟩ := h.lg
    have := two_inj (hm.symm.trans q2)
    exact ⟨m, by omega, hl⟩
  · rw [bindT_len] at hi
    rw [bindT_at, bindT_at, bind1_len, bind1_len, h.len i hi]
  · rw [bindT_len] at hi
    rw [bindT_at]; exact allL_B (hL i hi)
  · rw [bindT_at]
    by_cases hi : i < t.length
    · exact allL_R (hL i hi)
    · rw [getD_none (by omega)]; exact fun j => rngE_z
/-- A round's values. -/
def roundP (l : List O) (t : List (List E)) : List E := (List.range ((dgI l).toNat + 1)).map fun i => sumP l (bindT t (plc i))
theorem roundP_at {l : List O} {t : List (List E)} {i : Nat} (h : i ≤ (dgI l).toNat) : (roundP l t).getD i z = sumP l (bindT t (plc i)) := getD_range (by omega)
theorem SOk.plc {lv : Int} {l : List O} {t : List (List E)} (h : SOk lv l t) {i : Nat} (hi : i ≤ (dgI l).toNat) : inL lv (plc i) := by
  have := dgI_le h.x
  exact fits_plc h.fit (by omega)
theorem few20_X (x : List O × List (List E) × Unit) : T (fun k => steeplelaw20_Few.f k x) (fun b => b = true → x.1.length ≤ 12 ∧ x.2.1.length ≤ 5 ∧ ∀ i, (x.2.1.getD i []).length ≤ 16) := by
  refine T.eq (steeplelaw20_Few.f_eq · x) (T.ite (fun h => T.bind (few9_X x.2.1 (by decide) (by decide) (by decide)) fun b hb => T.pure fun h' => ?_) fun h => T.pure fun h => by cases h)
  have h := of_decide_eq_true h
  obtain ⟨h1, h2⟩ := hb h'
  exact ⟨by omega, by omega, fun i => by have := h2 i; omega⟩
abbrev TEs : Ty := .sl false TE
abbrev TCase20 : Ty := .pair (.sl false TO) (.pair (.sl false (.sl false TE)) .unit)
end Go.Proofs.Ytplmejnoepkdgaa.H1
namespace Go.Proofs.Ytplmejnoepkdgaa.Fld
theorem sm_two (f : Nat → F) : ∀ n, sm f (2 * n) = sm (fun i => f (2 * i)) n + sm (fun i => f (2 * i + 1)) n
  | 0 => (add_self 0).symm
  | n + 1 => by
    rw [show 2 * (n + 1) = 2 * n + 1 + 1 by omega]
    simp only [sm, sm_two f n]; ac_rfl
end Go.Proofs.Ytplmejnoepkdgaa.Fld
namespace Go.Proofs.Ytplmejnoepkdgaa.H1
open Go Go.Proofs.Ytplmejnoepkdgaa.Rf
theorem fold_F {f : Nat → E} {g : Nat → Fld.F} : ∀ n, (∀ i, i < n → f i = ofF (g i)) → fold f n = ofF (Fld.sm g n)
  | 0, _ => ofF_zero.symm
  | n + 1, h => by rw [fold, fold_F n fun i hi => h i (by omega), h n (by omega), Fld.sm, ofF_add]
theorem fold_toF {f : Nat → E} {n : Nat} (h : ∀ i, i < n → rngE (f i)) : fold f n = ofF (Fld.sm (fun i => toF (f i)) n) := fold_F n fun i hi => (ofF_toF (h i hi)).symm
/-- Steps are polynomials where the variables are lines. -/
theorem steps_poly {lv vars : Int} {l : List O} (h : XOk lv vars l) (hc : cR l) {V : Fld.F → List E} (hV : ∀ k, ∃ g, Fld.PolyD 1 g ∧ ∀ x, (V x).getD k z = ofF (g x)) :
    ∀ i, i ≤ l.length → ∃ H : Nat → Fld.F → Fld.F, ∀ j, j < i → Fld.PolyD ((degL [] (l.take i)).getD j 0).toNat (H j) ∧ ∀ x, (outP (V x) [] (l.take i)).getD j z = ofF (H j x)
  | 0, _ => ⟨fun _ _ => 0, fun j hj => absurd hj (by omega)⟩
  | i + 1, hi => by
    obtain ⟨H, hH⟩ := steps_poly h hc hV i (by omega)
    have hds := h.ds (k := i) (by omega)
    have hlen : (degL [] (l.take i)).length = i := by rw [degL_length, List.length_take]; simp; omega
    have hol : ∀ x, (outP (V x) [] (l.take i)).length = i := fun x => by rw [outP_length, List.length_take]; simp; omega
    obtain ⟨u1, u2, u3⟩ := h.ok i (by omega)
    have new : ∃ q, Fld.PolyD (dgr (degL [] (l.take i)) (l.getD i zo)).toNat q ∧ ∀ x, nxtP (V x) (outP (V x) [] (l.take i)) (l.getD i zo) = ofF (q x) := by
      obtain ⟨o, eo⟩ : ∃ o, o = l.getD i zo := ⟨_, rfl⟩
      have hco : rngE o.2.2.2.1 := by rw [eo]; exact hc i
      rw [← eo] at u1 u2 u3 ⊢
      rcases u1 with k | k | k | k
      · refine ⟨fun _ => toF o.2.2.2.1, (Fld.PolyD.const _).mono (Nat.zero_le _), fun x => ?_⟩
        unfold nxtP; rw [if_pos k, ofF_toF hco]
      · obtain ⟨g, g1, g2⟩ := hV o.2.1.toNat
        refine ⟨g, ?_, fun x => ?_⟩
        · unfold dgr; rw [if_pos k]; exact g1
        · unfold nxtP; rw [if_neg (by omega), if_pos k]; exact g2 x
      · obtain ⟨v1, v2, v3, v4⟩ := u3 (.inl k)
        obtain ⟨p1, p2⟩ := hH o.2.1.toNat (by omega)
        obtain ⟨q1, q2⟩ := hH o.2.2.1.toNat (by omega)
        refine ⟨fun x => H o.2.1.toNat x + H o.2.2.1.toNat x, ?_, fun x => ?_⟩
        · unfold dgr
          rw [if_neg (by omega), if_pos k]
          split
          · exact (p1.mono (by omega)).add (q1.mono (by omega))
          · exact (p1.mono (by omega)).add (q1.mono (by omega))
        · unfold nxtP; rw [if_neg (by omega), if_neg (by omega), if_pos k, p2, q2, ofF_add]
      · obtain ⟨v1, v2, v3, v4⟩ := u3 (.inr k)
        obtain ⟨p1, p2⟩ := hH o.2.1.toNat (by omega)
        obtain ⟨q1, q2⟩ := hH o.2.2.1.toNat (by omega)
        refine ⟨fun x => H o.2.1.toNat x * H o.2.2.1.toNat x, ?_, fun x => ?_⟩
        · unfold dgr
          have d1 := hds o.2.1.toNat
          have d2 := hds o.2.2.1.toNat
          rw [if_neg (by omega), if_neg (by omega), if_pos k]
          exact (p1.mul q1).mono (by omega)
        · unfold nxtP; rw [if_neg (by omega), if_neg (by omega), if_neg (by omega), if_pos k, p2, q2, ofF_mul]
    obtain ⟨q, q1, q2⟩ := new
    refine ⟨fun j => if j < i then H j else q, fun j hj => ?_⟩
    rw [degL_snoc l (by omega : i < l.length)]
    by_cases hji : j < i
    · rw [getD_app_lt _ _ _ (by omega)]
      obtain ⟨p1, p2⟩ := hH j hji
      refine ⟨by simpa only [if_pos hji] using p1, fun x => ?_⟩
      rw [outP_snoc _ l (by omega : i < l.length), getD_app_lt _ _ _ (by rw [hol]; omega), p2 x]
      simp only [if_pos hji]
    · have e : j = i := by omega
      subst e
      rw [getD_snoc, hlen, if_neg (by omega), if_pos rfl]
      refine ⟨by simpa only [if_neg hji] using q1, fun x => ?_⟩
      rw [outP_snoc _ l (by omega : j < l.length), getD_snoc, hol, if_neg (by omega), if_pos rfl, q2 x]
      simp only [if_neg hji]
theorem evP_poly {lv vars : Int} {l : List O} (h : XOk lv vars l) (hc : cR l) {V : Fld.F → List E} (hV : ∀ k, ∃ g, Fld.PolyD 1 g ∧ ∀ x, (V x).getD k z = ofF (g x)) : ∃ q, Fld.PolyD (dgI l).toNat q ∧ ∀ x, evP l (V x) = ofF (q x) := by
  obtain ⟨H, hH⟩ := steps_poly h hc hV l.length (Nat.le_refl _)
  have hp := h.pos
  obtain ⟨p1, p2⟩ := hH (l.length - 1) (by omega)
  rw [List.take_length] at p1 p2
  refine ⟨H (l.length - 1), p1.mono ?_, p2⟩
  unfold dgI; split <;> omega
theorem btw_F {a b : E} (ha : rngE a) (hb : rngE b) (x : Fld.F) : btw a b (ofF x) = ofF (toF a + x * (toF a + toF b)) := by
  rw [ofF_add, ofF_mul, ofF_add, ofF_toF ha, ofF_toF hb]; rfl
theorem col_bind {t : List (List E)} {r : E} {i k : Nat} (hk : k < t.length) (hi : i < (t.getD k []).length / 2) : (col (bindT t r) i).getD k z = btw ((t.getD k []).getD (2 * i) z) ((t.getD k []).getD (2 * i + 1) z) r := by
  rw [col_at _ _ _ (by rw [bindT_len]; exact hk), bindT_at, bind1_at hi]
theorem sumP_poly {lv : Int} {l : List O} {t : List (List E)} (h : SOk lv l t) (hc : cR l) (htr : allRR t) : ∃ f, Fld.PolyD (dgI l).toNat f ∧ ∀ x, sumP l (bindT t (ofF x)) = ofF (f x) := by
  have hn : ∀ r, ((bindT t r).getD 0 []).length = (t.getD 0 []).length / 2 := fun r => by rw [bindT_at, bind1_len]
  obtain ⟨n, en⟩ : ∃ n, n = (t.getD 0 []).length / 2 := ⟨_, rfl⟩
  have : ∀ i, ∃ q : Fld.F → Fld.F, i < n → Fld.PolyD (dgI l).toNat q ∧ ∀ x, evP l (col (bindT t (ofF x)) i) = ofF (q x) := fun i => by
    by_cases hi : i < n
    · obtain ⟨q, q1, q2⟩ := evP_poly h.x hc (V := fun x => col (bindT t (ofF x)) i) (fun k => by
        by_cases hk : k < t.length
        · refine ⟨fun x => toF ((t.getD k []).getD (2 * i) z) + x * (toF ((t.getD k []).getD (2 * i) z) + toF ((t.getD k []).getD (2 * i + 1) z)), ?_, fun x => ?_⟩
          · exact ((Fld.PolyD.const _).mono (by omega)).add ((Fld.PolyD.id.mul (Fld.PolyD.const _)).mono (by omega))
          · rw [col_bind hk (by rw [h.len k hk]; omega), btw_F (htr k _) (htr k _)]
        · exact ⟨fun _ => 0, (Fld.PolyD.const 0).mono (by omega), fun x => by rw [getD_none (by rw [col_len, bindT_len]; omega), ofF_zero]⟩)
      exact ⟨q, fun _ => ⟨q1, q2⟩⟩
    · exact ⟨fun _ => 0, fun h' => absurd h' hi⟩
  obtain ⟨H, hH⟩ := Classical.skolem.1 this
  refine ⟨fun x => Fld.sm (fun i => H i x) n, Fld.PolyD.sm n fun i hi => (hH i hi).1, fun x => ?_⟩
  unfold sumP
  rw [hn, ← en]
  exact fold_F n fun i hi => (hH i hi).2 x
theorem SOk.ev {lv : Int} {l : List O} {t : List (List E)} (h : SOk lv l t) (hc : cR l) (htr : allRR t) (i : Nat) : inL lv (evP l (col t i)) := by
  have hx := h.x
  rw [← col_len t i] at hx
  exact (ev_ok hx hc (col_L h.x.lv0 h.x.lv7 htr h.all i)).2
theorem plc_0 : plc 0 = z := rfl
theorem plc_1 : plc 1 = one := rfl
theorem btw_z {a b : E} (ha : rngE a) : btw a b z = a := by unfold btw; rw [Pr_zl, Av_zr ha]
theorem btw_one {a b : E} (ha : rngE a) (hb : rngE b) : btw a b one = b := by
  unfold btw
  rw [Pr_one (Av_rng _ _), ← Av_assoc ha ha hb, Av_self ha, Av_zl hb]
theorem ends_sum {lv : Int} {l : List O} {t : List (List E)} (h : SOk lv l t) (hc : cR l) (htr : allRR t) {m : Nat} (hm : (t.getD 0 []).length = 2 ^ (m + 1)) : Av ((roundP l t).getD 0 z) ((roundP l t).getD 1 z) = sumP l t := by
  have hd := dgI_le h.x
  rw [roundP_at (by omega), roundP_at (by omega), plc_0, plc_1]
  have hn : ∀ r, ((bindT t r).getD 0 []).length = 2 ^ m := fun r => by rw [bindT_at, bind1_len, hm, Nat.pow_succ]; omega
  have c0 : ∀ i, i < 2 ^ m → col (bindT t z) i = col t (2 * i) := fun i hi => list_eq z (by rw [col_len, col_len, bindT_len]) fun k hk => by
    rw [col_len] at hk
    rw [col_bind hk (by rw [h.len k hk, hm, Nat.pow_succ]; omega), btw_z (htr k _), col_at _ _ _ hk]
  have c1 : ∀ i, i < 2 ^ m → col (bindT t one) i = col t (2 * i + 1) := fun i hi => list_eq z (by rw [col_len, col_len, bindT_len]) fun k hk => by
    rw [col_len] at hk
    rw [col_bind hk (by rw [h.len k hk, hm, Nat.pow_succ]; omega), btw_one (htr k _) (htr k _), col_at _ _ _ hk]
  unfold sumP
  rw [hn, hn, hm, show 2 ^ (m + 1) = 2 * 2 ^ m by rw [Nat.pow_succ]; omega]
  have hr : ∀ i, rngE (evP l (col t i)) := fun i => (h.ev hc htr i).1
  rw [fold_congr (f := fun i => evP l (col (bindT t z) i)) (g := fun i => evP l (col t (2 * i))) (2 ^ m) (fun i hi => by rw [c0 i hi]), fold_congr (f := fun i => evP l (col (bindT t one) i)) (g := fun i => evP l (col t (2 * i + 1))) (2 ^ m) (fun i hi => by rw [c1 i hi])]
  rw [fold_toF fun i _ => hr _, fold_toF fun i _ => hr _, fold_toF fun i _ => hr _, ← ofF_add, Fld.sm_two]
theorem SOk.eq {lv : Int} {l : List O} {t : List (List E)} (h : SOk lv l t) : sChkV lv l t = 0 := by
  obtain ⟨m, m1, m2⟩ := h.lg
  have e : logI (((t.getD 0 []).length : Nat) : Int) = (m : Int) := by rw [m2]; exact logI_pow (by omega)
  have hp := h.pos
  have e1 : (t.all fun x => decide (x.length = (t.getD 0 []).length)) = true := (all_getD [] _ t).2 fun i hi => by simpa using h.len i hi
  have e2 : t.all (allB lv) = true := (all_getD [] _ t).2 fun i hi => h.all i hi
  unfold sChkV
  rw [if_neg (by rw [h.x.eq]; simp), if_neg (by omega), if_neg (by rw [h.fit]; simp), e, if_neg (by omega), if_neg (by rw [e1]; simp), if_neg (by rw [e2]; simp)]
/-! Proving. -/
def tabN (t : List (List E)) (rs : List E) : List (List E) := rs.foldl bindT t
theorem tabN_len (t : List (List E)) : ∀ rs : List E, (tabN t rs).length = t.length := fun rs => by
  induction rs generalizing t with
  | nil => rfl
  | cons x rs ih => show (tabN (bindT t x) rs).length = _; rw [ih, bindT_len]
theorem tabN_at (t : List (List E)) (i : Nat) : ∀ rs : List E, (tabN t rs).getD i [] = bindN (t.getD i []) rs := fun rs => by
  induction rs generalizing t with
  | nil => rfl
  | cons x rs ih => show (tabN (bindT t x) rs).getD i [] = _; rw [ih, bindT_at]; rfl
theorem midT.tabN {t : List (List E)} (h : midT t) : ∀ rs : List E, midT (tabN t rs) := fun rs => by
  induction rs generalizing t with
  | nil => exact h
  | cons x rs ih => exact ih (h.bind x)
theorem SOk.tabN {lv : Int} {l : List O} : ∀ (rs : List E) {t : List (List E)} {m : Nat}, SOk lv l t → allRR t → (t.getD 0 []).length = 2 ^ (m + rs.length) → allL lv rs → SOk lv l (H1.tabN t rs) ∧ allRR (H1.tabN t rs) ∧ ((H1.tabN t rs).getD 0 []).length = 2 ^ m
  | [], t, m, h, htr, hm, _ => ⟨h, htr, hm⟩
  | x :: rs, t, m, h, htr, hm, hL => by
    obtain ⟨b1, b2, b3⟩ := h.bind htr (m := m + rs.length) hm (hL 0)
    exact SOk.tabN rs b1 b3 b2 fun j => hL (j + 1)
theorem At_X {lv : Int} {t p : List E} (h : FOk lv t p) (hl : t.length = 2 ^ p.length) (h1 : t.length ≤ 1000000) (h2 : p.length ≤ 16) (ht : allR t) (hr : allR p) : T (fun k => cube_At.f k lv t p) (fun q => q = ((bindN t p).getD 0 z, 0)) := by
  refine T.eq (cube_At.f_eq · lv t p) (T.bind (wide_X lv) fun w hw => T.no (by
    have : ¬ w = 0 := by rw [hw]; have := h.lv0; have := h.lv7; omega
    simpa using this) (T.bind (log_X _) fun q hq => ?_))
  have e : logI (t.length : Int) = (p.length : Int) := by rw [hl]; exact logI_pow h2
  rw [e] at hq
  subst hq
  refine T.no (by simp) (T.bind (First_X lv t p h1 (by omega) ht hr) fun r hr' => ?_)
  have hr' := hr'.1
  rw [h.eq, if_pos rfl] at hr'
  subst hr'
  have len : ∀ (p : List E) (t : List E), t.length = 2 ^ p.length → (bindN t p).length = 1 := fun p => by
    induction p with
    | nil => intro t h; exact h
    | cons x p ih => intro t h; exact ih (bind1 t x) (by rw [bind1_len, h, List.length_cons, Nat.pow_succ]; omega)
  exact T.no (by rfl) (T.yes (inB_nat (i := 0) (by rw [len p t hl]; decide)) (T.pure rfl))
end Go.Proofs.Ytplmejnoepkdgaa.H1
namespace Go.Proofs.Ytplmejnoepkdgaa.Fld
/-! Counting. -/
def cnt (p : Nat → Bool) : Nat → Nat
  | 0 => 0
  | n + 1 => cnt p n + (p n).toNat
theorem cnt_le (p : Nat → Bool) : ∀ n, cnt p n ≤ n
  | 0 => Nat.le_refl _
  | n + 1 => by rw [cnt]; have := cnt_le p n; have := Bool.toNat_le (p n); omega
theorem cnt_mono {p q : Nat → Bool} : ∀ n, (∀ i, i < n → p i = true → q i = true) → cnt p n ≤ cnt q n
  | 0, _ => Nat.le_refl _
  | n + 1, h => by
    rw [cnt, cnt]
    have := cnt_mono n fun i hi => h i (by omega)
    have h2 := h n (by omega)
    cases hp : p n with
    | false => simp; omega
    | true => rw [h2 hp]; omega
theorem cnt_none {p : Nat → Bool} : ∀ n, (∀ i, i < n → p i = false) → cnt p n = 0
  | 0, _ => rfl
  | n + 1, h => by rw [cnt, cnt_none n fun i hi => h i (by omega), h n (by omega)]; rfl
theorem cnt_filter (p : Nat → Bool) : ∀ n, cnt p n = ((List.range n).filter p).length
  | 0 => rfl
  | n + 1 => by
    rw [cnt, cnt_filter p n, List.range_succ, List.filter_append, List.length_append]
    cases h : p n <;> simp [h]
theorem cnt_roots {d n : Nat} {f : F → F} (hf : PolyD d f) (hn : n ≤ 2 ^ 64) (x : F) (hx : f x ≠ 0) : cnt (fun k => decide (f (pl k) = 0)) n ≤ d := by
  have := hf.roots (places_nodup hn) x hx
  rw [List.filter_map, List.length_map] at this
  rw [cnt_filter]; exact this
def tot (f : Nat → Nat) : Nat → Nat
  | 0 => 0
  | n + 1 => tot f n + f n
theorem tot_le {f g : Nat → Nat} : ∀ n, (∀ i, i < n → f i ≤ g i) → tot f n ≤ tot g n
  | 0, _ => Nat.le_refl _
  | n + 1, h => by rw [tot, tot]; have := tot_le n fun i hi => h i (by omega); have := h n (by omega); omega
theorem tot_if (p : Nat → Bool) (a b : Nat) : ∀ n, tot (fun i => if p i = true then a else b) n ≤ cnt p n * a + n * b
  | 0 => by simp [tot, cnt]
  | n + 1 => by
    rw [tot, cnt]
    have := tot_if p a b n
    cases h : p n with
    | false => simp only [Bool.false_eq_true, if_false, Bool.toNat_false, Nat.add_zero, Nat.add_mul, Nat.one_mul]; omega
    | true => simp only [if_true, Bool.toNat_true, Nat.add_mul, Nat.one_mul]; omega
theorem tot_zero : ∀ n, tot (fun _ => 0) n = 0
  | 0 => rfl
  | n + 1 => by rw [tot, tot_zero n]
/-! Tables' values. -/
end Go.Proofs.Ytplmejnoepkdgaa.Fld
namespace Go.Proofs.Ytplmejnoepkdgaa.H1
open Go Go.Proofs.Ytplmejnoepkdgaa.Rf
/-! SumcheckCounts. -/
def sizeN (lv : Int) : Nat := if lv = 0 then 2 else 4
theorem size_plc {lv : Int} (h0 : 0 ≤ lv) (h1 : lv ≤ 1) {i : Nat} (hi : i < sizeN lv) : inL lv (plc i) := by
  rcases (show lv = 0 ∨ lv = 1 by omega) with rfl | rfl
  · exact ⟨plc_rng (by unfold sizeN at hi; simp at hi; omega), (plc_of (l := 0) (by omega) (by unfold sizeN at hi; simp at hi; omega)).2 (by unfold sizeN at hi; simpa using hi)⟩
  · exact ⟨plc_rng (by unfold sizeN at hi; simp at hi; omega), (plc_of (l := 1) (by omega) (by unfold sizeN at hi; simp at hi; omega)).2 (by unfold sizeN at hi; simpa using hi)⟩
theorem size_at {lv : Int} (h0 : 0 ≤ lv) (h1 : lv ≤ 1) : ([2, 4] : List Int).getD lv.toNat 0 = ((sizeN lv : Nat) : Int) := by
  rcases (show lv = 0 ∨ lv = 1 by omega) with rfl | rfl <;> rfl
theorem size_le (lv : Int) : sizeN lv ≤ 4 ∧ 2 ≤ sizeN lv := by unfold sizeN; split <;> omega
/-- A line's values that end otherwise are others. -/
theorem itp_ne {d : Nat} {F : List E} {f : Fld.F → Fld.F} (hF : F.length = d + 1) (hd : 1 ≤ d) (hd2 : d ≤ 1000) (hr : allR F) (hf : Fld.PolyD d f) (hne : Av (F.getD 0 z) (F.getD 1 z) ≠ ofF (f (Fld.pl 0) + f (Fld.pl 1))) (n : Nat) (hn : n ≤ 2 ^ 64) : Fld.cnt (fun k => decide (itpE F (plc k) = ofF (f (Fld.pl k)))) n ≤ d := by
  have hp := (Fld.itp_poly F.length (fun i => toF (F.getD i z))).mono (e := d) (by omega)
  have hs := hp.add hf
  have key : ∃ x, Fld.itp F.length (fun i => toF (F.getD i z)) x + f x ≠ 0 := by
    refine Classical.byContradiction fun hno => ?_
    have h0 : ∀ x, Fld.itp F.length (fun i => toF (F.getD i z)) x = f x := fun x => Fld.add_eq_zero.1 (Decidable.byContradiction fun h => hno ⟨x, h⟩)
    have a0 := h0 (Fld.pl 0)
    have a1 := h0 (Fld.pl 1)
    rw [Fld.itp_at (by omega) (by omega)] at a0 a1
    apply hne
    rw [ofF_add, ← a0, ← a1, ofF_toF (hr 0), ofF_toF (hr 1)]
  obtain ⟨x, hx⟩ := key
  refine Nat.le_trans (Fld.cnt_mono n fun i hi h => ?_) (Fld.cnt_roots hs hn x hx)
  have h := of_decide_eq_true h
  unfold itpE at h
  rw [decide_eq_true_eq, Fld.add_eq_zero]
  have := ofF_inj h
  rwa [toF_plc (by omega)] at this
abbrev TStrat20 : Ty := .pair TE (.pair TEs (.pair (.sl false TEs) .unit))
theorem counts_T (lv : Int) (x : List O × List (List E) × Unit) (s : E × List E × List (List E) × Unit) (hx : okD TCase20 x) (hs : okD TStrat20 s) : T (fun k => steeplelaw20_SumcheckCounts.f k lv x s) (fun b => b = true) := by
  have hc : cR x.1 := okOs hx.1
  have hrt : allRR x.2.1 := okTs hx.2.1
  have hcl : rngE s.1 := okE hs.1
  have hF : allR s.2.1 := okEs hs.2.1
  have hS2 : allRR s.2.2.1 := okTs hs.2.2.1
  have aw : T (fun k => (steeplelaw20_awake.f k).bind fun t => some t) (fun b => b = true) := T.bind awake20_T fun a ha => T.pure ha
  refine T.eq (steeplelaw20_SumcheckCounts.f_eq · lv x s) (T.bind (few20_X x) fun b hb => T.ite (fun _ => aw) fun h1 => T.ite (fun _ => aw) fun h2 => T.ite (fun _ => aw) fun h3 => T.bind (few9_X s.2.2.1 (by decide) (by decide) (by decide)) fun b' hb' => T.ite (fun _ => aw) fun h4 => T.ite (fun _ => aw) fun h5 => ?_)
  obtain ⟨h12, h5t, h16⟩ := hb (by simpa using h1)
  obtain ⟨s4, s10⟩ := hb' (by simpa using h4)
  have h2 := of_decide_eq_false h2
  have h3 := of_decide_eq_false h3
  have h5 := of_decide_eq_false h5
  have l0 : 0 ≤ lv := by omega
  have l1 : lv ≤ 1 := by omega
  have ht : midT x.2.1 := ⟨by omega, fun i => by have := h16 i; omega⟩
  refine T.bind (sCheck_X lv x.1 x.2.1 ht.few) fun e he => ?_
  subst he
  refine T.ite (fun _ => aw) fun h6 => ?_
  have hc0 : sChkV lv x.1 x.2.1 = 0 := by simpa using h6
  have S := sChkV_ok hc0
  refine T.yes (inB_nat (i := 0) S.pos) (T.ite (fun _ => aw) fun h7 => ?_)
  have hl4 : (x.2.1.getD 0 []).length = 2 ^ 2 := by
    have : ((x.2.1.getD 0 []).length : Int) = 4 := by simpa using h7
    omega
  refine T.bind (sSum_X lv x.1 x.2.1 ht.few hc hrt) fun sm hsm => T.bind (ref16_X x.1 (by omega)) fun l hl => ?_
  rw [if_pos hc0] at hsm
  subst hsm hl
  refine T.bind (rdegree_X S.x) fun d hd => ?_
  subst hd
  have hdg := dgI_le S.x
  obtain ⟨dg, edg⟩ : ∃ dg, dg = (dgI x.1).toNat := ⟨_, rfl⟩
  have edi : dgI x.1 = (dg : Int) := by omega
  have hsz := size_le lv
  have aw2 : T (fun k => (steeplelaw20_awake.f k).bind fun t => bif t then some ((0 : Int) == 0) else some false) (fun b => b = true) := T.bind awake20_T fun a ha => T.yes ha (T.pure rfl)
  have ein : inB lv ([2, 4] : List Int).length = true := inB_int l0 (by show lv < 2; omega)
  rw [size_at l0 l1]
  refine T.yes ein (T.no (by rfl) (T.ite (fun _ => aw2) fun h8 => T.ite (fun _ => aw2) fun h9 => ?_))
  have hne : sumP x.1 x.2.1 ≠ s.1 := by
    rw [eqE] at h8; exact of_decide_eq_false h8
  have hlen : s.2.2.1.length = sizeN lv := by
    have : (s.2.2.1.length : Int) = ((sizeN lv : Nat) : Int) := by simpa using h9
    omega
  obtain ⟨n, en⟩ : ∃ n, n = sizeN lv := ⟨_, rfl⟩
  rw [← en] at hlen hsz ⊢
  have hpl : ∀ {i}, i < n → inL lv (plc i) := fun hi => size_plc l0 l1 (by rw [← en]; exact hi)
  -- what is counted
  obtain ⟨Y, eY⟩ : ∃ Y : Nat → Nat → E, Y = fun i k => sumP x.1 (tabN x.2.1 [plc i, plc k]) := ⟨_, rfl⟩
  obtain ⟨V, eV⟩ : ∃ V : Nat → Nat → E × Int, V = fun i k => verV lv (dgI x.1) s.1 [s.2.1, s.2.2.1.getD i []] [plc i, plc k] := ⟨_, rfl⟩
  have hV : ∀ i k, V i k = verV lv (dgI x.1) s.1 [s.2.1, s.2.2.1.getD i []] [plc i, plc k] := fun i k => by rw [eV]
  have hY : ∀ i k, Y i k = sumP x.1 (tabN x.2.1 [plc i, plc k]) := fun i k => by rw [eY]
  obtain ⟨B, eB⟩ : ∃ B : Nat → Nat → Bool, B = fun i k => decide (V i k = (Y i k, 0)) := ⟨_, rfl⟩
  have hB : ∀ i k, B i k = decide (V i k = (Y i k, 0)) := fun i k => by rw [eB]
  have two : ∀ {i k}, i < n → k < n → allL lv [plc i, plc k] := fun hi hk j => by
    cases j with
    | zero => exact hpl hi
    | succ j => cases j with
      | zero => exact hpl hk
      | succ j => rw [getD_none (by simp)]; exact inL_z S.x.lv0 S.x.lv7
  have p0 : plc 0 = ofF (Fld.pl 0) := (ofF_pl (by decide)).symm
  have p1 : plc 1 = ofF (Fld.pl 1) := (ofF_pl (by decide)).symm
  -- few are counted
  have few : Fld.tot (fun i => Fld.cnt (B i) n) n ≤ 2 * dg * n := by
    by_cases hany : ∃ i k, i < n ∧ k < n ∧ B i k = true
    · obtain ⟨f1, f1p, f1e⟩ := sumP_poly S hc hrt
      have may : ∀ i k, B i k = true → MOk lv (dgI x.1) s.1 [s.2.1, s.2.2.1.getD i []] [plc i, plc k] ∧ Av (s.2.1.getD 0 z) (s.2.1.getD 1 z) = s.1 ∧ Av ((s.2.2.1.getD i []).getD 0 z) ((s.2.2.1.getD i []).getD 1 z) = itpE s.2.1 (plc i) ∧ itpE (s.2.2.1.getD i []) (plc k) = Y i k := fun i k h => by
        rw [hB, decide_eq_true_eq, hV] at h
        unfold verV at h
        by_cases h0 : mayV lv (dgI x.1) s.1 [s.2.1, s.2.2.1.getD i []] [plc i, plc k] = 0
        · rw [if_pos h0] at h
          have h : verS [s.2.1, s.2.2.1.getD i []] [plc i, plc k] 2 0 s.1 = (Y i k, 0) := h
          rw [verS] at h
          have e0 : ([s.2.1, s.2.2.1.getD i []] : List (List E)).getD 0 [] = s.2.1 := rfl
          have e1 : ([s.2.1, s.2.2.1.getD i []] : List (List E)).getD (0 + 1) [] = s.2.2.1.getD i [] := rfl
          have e2 : ([plc i, plc k] : List E).getD 0 z = plc i := rfl
          have e3 : ([plc i, plc k] : List E).getD (0 + 1) z = plc k := rfl
          rw [e0, e2] at h
          split at h
          · rename_i c1
            rw [verS, e1, e3] at h
            split at h
            · rename_i c2
              rw [verS] at h
              exact ⟨mayV_ok h0, c1, c2, congrArg Prod.fst h⟩
            · exact absurd (show (8 : Int) = 0 from congrArg Prod.snd h) (by decide)
          · exact absurd (show (8 : Int) = 0 from congrArg Prod.snd h) (by decide)
        · rw [if_neg h0] at h
          exact absurd (congrArg Prod.snd h) h0
      obtain ⟨i0, k0, hi0, hk0, hb0⟩ := hany
      obtain ⟨M0, c0, _, _⟩ := may i0 k0 hb0
      have hFl : s.2.1.length = dg + 1 := by
        have := M0.lens 0 (by simp)
        have e : ((s.2.1.length : Nat) : Int) = dgI x.1 + 1 := this
        omega
      have e01 : sumP x.1 x.2.1 = ofF (f1 (Fld.pl 0) + f1 (Fld.pl 1)) := by
        rw [← ends_sum S hc hrt (m := 1) hl4, roundP_at (by omega), roundP_at (by omega), p0, p1, f1e, f1e, ofF_add]
      have hA := itp_ne (f := f1) hFl (by omega) (by omega) hF (by rw [edg]; exact f1p) (by rw [c0, ← e01]; exact fun e => hne e.symm) n (by omega)
      have each : ∀ i, i < n → Fld.cnt (B i) n ≤ if decide (itpE s.2.1 (plc i) = ofF (f1 (Fld.pl i))) = true then n else dg := fun i hi => by
        split
        · exact Fld.cnt_le _ _
        · rename_i hno
          have hno : itpE s.2.1 (plc i) ≠ ofF (f1 (Fld.pl i)) := by simpa using hno
          by_cases hk : ∃ k, k < n ∧ B i k = true
          · obtain ⟨k1, hk1, hb1⟩ := hk
            obtain ⟨M1, _, c2, _⟩ := may i k1 hb1
            have hSl : (s.2.2.1.getD i []).length = dg + 1 := by
              have := M1.lens 1 (by simp)
              have e : (((s.2.2.1.getD i []).length : Nat) : Int) = dgI x.1 + 1 := this
              omega
            obtain ⟨b1, b2, b3⟩ := S.bind hrt (m := 1) hl4 (hpl hi)
            obtain ⟨f2, f2p, f2e⟩ := sumP_poly b1 hc b3
            have e02 : sumP x.1 (bindT x.2.1 (plc i)) = ofF (f2 (Fld.pl 0) + f2 (Fld.pl 1)) := by
              rw [← ends_sum b1 hc b3 (m := 0) b2, roundP_at (by omega), roundP_at (by omega), p0, p1, f2e, f2e, ofF_add]
            have e03 : sumP x.1 (bindT x.2.1 (plc i)) = ofF (f1 (Fld.pl i)) := by rw [← ofF_pl (by omega), f1e]
            refine Nat.le_trans (Fld.cnt_mono n fun k hk h => ?_) (itp_ne (f := f2) hSl (by omega) (by omega) (hS2 i) (by rw [edg]; exact f2p) (by rw [c2, ← e02, e03]; exact hno) n (by omega))
            obtain ⟨_, _, _, c3⟩ := may i k h
            rw [decide_eq_true_eq, c3, hY, ← f2e, ofF_pl (by omega)]; rfl
          · rw [Fld.cnt_none n fun k hk' => by
              cases h : B i k with
              | false => rfl
              | true => exact absurd ⟨k, hk', h⟩ hk]
            omega
      refine Nat.le_trans (Fld.tot_le n each) (Nat.le_trans (Fld.tot_if _ _ _ _) ?_)
      have : Fld.cnt (fun i => decide (itpE s.2.1 (plc i) = ofF (f1 (Fld.pl i)))) n * n ≤ dg * n := Nat.mul_le_mul_right _ hA
      have e2 : 2 * dg * n = dg * n + n * dg := by rw [Nat.mul_assoc, Nat.two_mul, Nat.mul_comm n dg]
      omega
    · have : ∀ i, i < n → Fld.cnt (B i) n ≤ 0 := fun i hi => by
        rw [Fld.cnt_none n fun k hk => by
          cases h : B i k with
          | false => rfl
          | true => exact absurd ⟨i, k, hi, hk, h⟩ hany]
        omega
      refine Nat.le_trans (Fld.tot_le n this) ?_
      rw [Fld.tot_zero]; omega
  have small : ∀ m, m ≤ n → Fld.tot (fun i => Fld.cnt (B i) n) m ≤ m * n := fun m => by
    induction m with
    | zero => intro _; simp [Fld.tot]
    | succ m ih => intro h; have := ih (by omega); have := Fld.cnt_le (B m) n; rw [Fld.tot, Nat.succ_mul]; omega
  -- the count
  refine T.loop0 (f := fun k q i => steeplelaw20_SumcheckCounts.l4090 k lv x s (dgI x.1) (n : Int) q i) n (fun q i => q = ((Fld.tot (fun i => Fld.cnt (B i) n) i : Nat) : Int)) 0 rfl fun q i hi hI ih => ?_
  subst hI
  have sm1 := small i hi
  have hin : i * n ≤ 4 * 4 := Nat.mul_le_mul (by omega) hsz.1
  refine T.eq (steeplelaw20_SumcheckCounts.l4090_eq · lv x s _ _ _ _) (T.ite (fun hlt => ?_) (fun hge => ?_))
  · have hlt := lt_dec hlt
    refine T.loop0 (f := fun k q j => steeplelaw20_SumcheckCounts.l261778 k lv x s (dgI x.1) (n : Int) q (i : Int) j) n (fun q j => q = ((Fld.tot (fun i => Fld.cnt (B i) n) i + Fld.cnt (B i) j : Nat) : Int)) _ rfl fun q j hj hJ ih2 => ?_
    subst hJ
    have sm2 := Fld.cnt_le (B i) j
    refine T.eq (steeplelaw20_SumcheckCounts.l261778_eq · lv x s _ _ _ _ _) (T.ite (fun hlt2 => ?_) (fun hge => ?_))
    · have hlt2 := lt_dec hlt2
      simp only [Int.toNat_natCast]
      rw [wu_in (n := (i : Int)) (by omega) (by omega), wu_in (n := (j : Int)) (by omega) (by omega)]
      have L2 := two hlt hlt2
      have hcnt : ∀ b : Bool, B i j = b → ((Fld.tot (fun i => Fld.cnt (B i) n) i + Fld.cnt (B i) (j + 1) : Nat) : Int) = ((Fld.tot (fun i => Fld.cnt (B i) n) i + Fld.cnt (B i) j : Nat) : Int) + (b.toNat : Nat) := fun b hb => by
        rw [Fld.cnt, hb]; omega
      have lenS : ∀ j, (([s.2.1, s.2.2.1.getD i []] : List (List E)).getD j []).length ≤ 1000 := fun j => by
        cases j with
        | zero => show s.2.1.length ≤ 1000; omega
        | succ j => cases j with
          | zero => show (s.2.2.1.getD i []).length ≤ 1000; have := s10 i; omega
          | succ j => rw [getD_none (by simp)]; simp
      have RS : allRR [s.2.1, s.2.2.1.getD i []] := fun j => by
        cases j with
        | zero => exact hF
        | succ j => cases j with
          | zero => exact hS2 i
          | succ j => rw [getD_none (by simp)]; exact fun j => rngE_z
      refine T.yes (inB_nat (by omega)) (T.bind (Verify_X lv (dgI x.1) s.1 [s.2.1, s.2.2.1.getD i []] [plc i, plc j] (by simp) lenS (by simp) RS (allL_R L2)) fun v hv => ?_)
      have hv : v = V i j := by rw [hV]; exact hv
      refine T.ite (fun h => ?_) (fun h => ?_)
      · have h : ¬ v.2 = 0 := by simpa using h
        have hb : B i j = false := by
          rw [hB, decide_eq_false_iff_not, ← hv]; intro e; rw [e] at h; exact h rfl
        rw [inc (by omega)]
        exact ih2 _ hlt2 (by rw [hcnt false hb]; simp)
      · have h : v.2 = 0 := by simpa using h
        obtain ⟨s1, s2, s3⟩ := SOk.tabN [plc i, plc j] (m := 0) S hrt hl4 L2
        have h5' : x.2.1.length ≤ 5 := h5t
        refine T.loop0 (f := fun k q m => steeplelaw20_SumcheckCounts.l536121978 k lv x s (dgI x.1) (n : Int) ((Fld.tot (fun i => Fld.cnt (B i) n) i + Fld.cnt (B i) j : Nat) : Int) (i : Int) (j : Int) [plc i, plc j] v.1 q m) x.2.1.length (fun q m => q = col ((tabN x.2.1 [plc i, plc j]).take m) 0) [] rfl fun q m hm hq ih3 => ?_
        have hql : q.length = m := by rw [hq, col_len, List.length_take, tabN_len]; omega
        refine T.eq (steeplelaw20_SumcheckCounts.l536121978_eq · lv x s _ _ _ _ _ _ _ _ _) (T.ite (fun hlt3 => ?_) (fun hge => ?_))
        · have hlt3 := lt_dec hlt3
          simp only [Int.toNat_natCast]
          have hli : (x.2.1.getD m []).length = 2 ^ ([plc i, plc j] : List E).length := by rw [S.len m hlt3, hl4]; rfl
          refine T.yes (inB_nat hlt3) (T.bind (At_X ⟨S.x.lv0, S.x.lv7, ⟨2, by omega, by rw [hli]; rfl, by simp⟩, S.all m hlt3, allL_B L2⟩ hli (ht.2 m) (by simp) (hrt m) (allL_R L2)) fun r hr => T.yes (room_ok (by simp only [List.length_singleton]; omega)) ?_)
          subst hr
          rw [inc (by omega)]
          refine ih3 _ hlt3 ?_
          rw [take_snoc _ [] (by rw [tabN_len]; exact hlt3), tabN_at, hq]
          simp [col]
        · have e : m = x.2.1.length := Nat.le_antisymm hm (nlt_dec hge)
          subst e
          have hq : q = col (tabN x.2.1 [plc i, plc j]) 0 := by rw [hq, List.take_of_length_le (by rw [tabN_len]; omega)]
          subst hq
          have cl := col_L s1.x.lv0 s1.x.lv7 s2 s1.all 0
          refine T.bind (Eval_X lv x.1 (col (tabN x.2.1 [plc i, plc j]) 0) (by rw [col_len, tabN_len]; omega) hc (allL_R cl)) fun r hr => ?_
          rw [col_len, tabN_len, if_pos S.x.eq, if_pos (allL_B cl)] at hr
          have hy : r = (Y i j, 0) := by
            rw [hr, hY]
            unfold sumP
            rw [s3]
            show _ = (Av z _, (0 : Int))
            rw [Av_zl (s1.ev hc s2 0).1]
          subst hy
          refine T.yes (by rfl) ?_
          show T (fun k => bif (((Y i j).1 == v.1.1) && ((Y i j).2.1 == v.1.2.1)) then _ else _) _
          rw [eqE]
          refine T.ite (fun hE => ?_) (fun hE => ?_)
          · have hb : B i j = true := by
              rw [hB, decide_eq_true_eq, ← hv]
              exact Prod.ext (of_decide_eq_true hE).symm h
            rw [w64_in (by omega) (by omega), inc (by omega)]
            exact ih2 _ hlt2 (by rw [hcnt true hb]; rfl)
          · have hb : B i j = false := by
              rw [hB, decide_eq_false_iff_not, ← hv]
              intro e; rw [e] at hE; simp at hE
            rw [inc (by omega)]
            exact ih2 _ hlt2 (by rw [hcnt false hb]; simp)
    · have e : j = n := Nat.le_antisymm hj (nlt_dec hge)
      subst e
      rw [inc (by omega)]
      exact ih _ hlt rfl
  · have e : i = n := Nat.le_antisymm hi (nlt_dec hge)
    subst e
    have h2d : 2 * dg * i ≤ 2 * 8 * 4 := Nat.mul_le_mul (by omega) hsz.1
    refine T.bind awake20_T fun a ha => T.yes ha (T.pure ?_)
    rw [edi, w64_in (n := 2 * (dg : Int)) (by omega) (by omega)]
    have e4 : (2 * (dg : Int)) * (i : Int) = ((2 * dg * i : Nat) : Int) := by rw [Int.natCast_mul, Int.natCast_mul]; rfl
    rw [e4, w64_in (by omega) (by omega), decide_eq_true_eq]
    omega
end Go.Proofs.Ytplmejnoepkdgaa.H1
namespace Go.Proofs.Ytplmejnoepkdgaa.H1
open Go Go.Proofs.Ytplmejnoepkdgaa.Rf
/-! ZeroCounts. -/
end Go.Proofs.Ytplmejnoepkdgaa.H1
