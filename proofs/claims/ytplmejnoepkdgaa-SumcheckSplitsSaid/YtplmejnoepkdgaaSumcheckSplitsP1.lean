/- A walk by reckoning: what a Go function comes to, reckoned out of its operations, and why that is so. -/
import Derived.Test.YtplmejnoepkdgaaSumcheckSplitsH
import Derived.Test.YtplmejnoepkdgaaRf4
import Derived.Test.YtplmejnoepkdgaaSumcheckSplitsP0
set_option linter.unusedVariables false
set_option linter.unusedSimpArgs false
namespace Go.Proofs.Ytplmejnoepkdgaa.H1
open Go Go.Proofs.Ytplmejnoepkdgaa.Rf
/-! Tables, bound in their first variable. -/
def btw (a b r : E) : E := Av a (Pr r (Av a b))
def bind1 (t : List E) (r : E) : List E := (List.range (t.length / 2)).map fun i => btw (t.getD (2 * i) z) (t.getD (2 * i + 1) z) r
def bindN (t : List E) (rs : List E) : List E := rs.foldl bind1 t
theorem bind1_len (t : List E) (r : E) : (bind1 t r).length = t.length / 2 := by simp [bind1]
theorem bind1_at {t : List E} {r : E} {i : Nat} (h : i < t.length / 2) : (bind1 t r).getD i z = btw (t.getD (2 * i) z) (t.getD (2 * i + 1) z) r := getD_range h
theorem inL_btw {lv : Int} {a b r : E} (ha : inL lv a) (hb : inL lv b) (hr : inL lv r) : inL lv (btw a b r) := inL_Av ha (inL_Pr hr (inL_Av ha hb))
theorem bind1_L {lv : Int} {t : List E} {r : E} (ht : allL lv t) (hr : inL lv r) : allL lv (bind1 t r) := fun j => by
  by_cases h : j < t.length / 2
  · rw [bind1_at h]; exact inL_btw (ht _) (ht _) hr
  · rw [getD_none (by rw [bind1_len]; omega)]
    have := ht t.length
    rwa [getD_none (Nat.le_refl _)] at this
theorem between_X {lv : Int} {a b r : E} (ha : inL lv a) (hb : inL lv b) (hr : inL lv r) : T (fun k => cube_between.f k lv a b r) (fun q => q = btw a b r) := by
  refine T.eq (cube_between.f_eq · lv a b r) (T.bind (add_X _ _) fun s hs => T.bind (p := fun q => q = Pr r s) (by subst hs; exact mul_X hr (inL_Av ha hb)) fun m hm => T.bind (add_X _ _) fun q hq => T.pure ?_)
  rw [hq, hm, hs]; rfl
noncomputable def firstE (lv : Int) (t rs : List E) : Int :=
  if lv < 0 ∨ lv > 7 then 1 else if logI t.length < 0 ∨ (rs.length : Int) > logI t.length then 6 else if allB lv t = false ∨ allB lv rs = false then 5 else 0
theorem cask_X (lv : Int) (t rs : List E) (h1 : t.length ≤ 100000000) (h2 : rs.length ≤ 100000000) : T (fun k => cube_ask.f k lv t rs) (fun e => e = firstE lv t rs) := by
  unfold firstE
  refine T.eq (cube_ask.f_eq · lv t rs) (T.bind (log_X _) fun q hq => T.bind (wide_X lv) fun w hw => T.ite (fun h => T.pure ?_) fun g1 => T.ite (fun h => T.pure ?_) fun g2 => T.ite (fun h => T.pure ?_) fun g3 => T.bind (cube_of_X lv t h1) fun b hb => ?_)
  · have h : w = 0 := by simpa using h
    rw [if_pos (hw.1 h)]
  all_goals have g1 : ¬ (lv < 0 ∨ lv > 7) := fun h => (by simpa using g1 : ¬ w = 0) (hw.2 h)
  all_goals subst hq
  · rw [if_neg g1, if_pos (.inl (of_decide_eq_true h))]
  · rw [if_neg g1, if_pos (.inr (of_decide_eq_true h))]
  have g2 := of_decide_eq_false g2
  have g3 := of_decide_eq_false g3
  rw [if_neg g1, if_neg (by omega)]
  subst hb
  refine T.ite (fun h => T.pure ?_) fun g4 => T.bind (cube_of_X lv rs h2) fun b hb => ?_
  · rw [if_pos (.inl (by simpa using h))]
  subst hb
  refine T.ite (fun h => T.pure ?_) fun g5 => T.pure ?_
  · rw [if_pos (.inr (by simpa using h))]
  · rw [if_neg]
    simp only [Bool.not_eq_false'] at g4 g5
    rw [g4, g5]; simp
structure FOk (lv : Int) (t rs : List E) : Prop where
  lv0 : 0 ≤ lv
  lv7 : lv ≤ 7
  lg : ∃ m : Nat, m ≤ 16 ∧ t.length = 2 ^ m ∧ rs.length ≤ m
  t : allB lv t = true
  r : allB lv rs = true
theorem firstE_ok {lv : Int} {t rs : List E} (h : firstE lv t rs = 0) : FOk lv t rs := by
  unfold firstE at h
  split at h
  · cases h
  split at h
  · cases h
  split at h
  · cases h
  rename_i c1 c2 c3
  obtain ⟨m, m1, m2, m3⟩ := logI_nn (n := (t.length : Int)) (by omega)
  exact ⟨by omega, by omega, ⟨m, m1, by exact_mod_cast m2, by omega⟩, eq_true_of_ne_false fun e => c3 (.inl e), eq_true_of_ne_false fun e => c3 (.inr e)⟩
theorem FOk.eq {lv : Int} {t rs : List E} (h : FOk lv t rs) : firstE lv t rs = 0 := by
  obtain ⟨m, m1, m2, m3⟩ := h.lg
  have := h.lv0; have := h.lv7
  have e : logI (t.length : Int) = (m : Int) := by rw [m2]; exact logI_pow m1
  unfold firstE
  rw [if_neg (by omega), e, if_neg (by omega), if_neg (by rw [h.t, h.r]; simp)]
theorem First_X (lv : Int) (t rs : List E) (h1 : t.length ≤ 1000000) (h2 : rs.length ≤ 100) (ht : allR t) (hr : allR rs) : T (fun k => cube_First.f k lv t rs) (fun q => (q = if firstE lv t rs = 0 then (bindN t rs, 0) else ([], firstE lv t rs)) ∧ (firstE lv t rs = 0 → allL lv q.1)) := by
  refine T.eq (cube_First.f_eq · lv t rs) (T.bind (cask_X lv t rs (by omega) (by omega)) fun e he => T.ite (fun h => T.pure ?_) fun h => ?_)
  · subst he
    have h : ¬ firstE lv t rs = 0 := by simpa using h
    rw [if_neg h]; exact ⟨rfl, fun h' => absurd h' h⟩
  subst he
  have h0 : firstE lv t rs = 0 := by simpa using h
  rw [if_pos h0]
  have F := firstE_ok h0
  have tL := allL_of F.lv0 F.lv7 ht F.t
  have rL := allL_of F.lv0 F.lv7 hr F.r
  refine T.bind (p := fun r => r = t) ?_ fun t' ht' => ?_
  · refine T.eq (slices_Clone_Elem.f_eq · t) ?_
    have hr : room t.length 16 = true := room_ok (by omega)
    have : nilB t (some []) (bif room t.length 16 then some t else none) = some t := by
      rw [hr]
      exact nilB_same t _ _ fun h => by rw [List.isEmpty_iff.1 h]; rfl
    rw [this]
    exact T.pure rfl
  subst ht'
  refine T.loop0 (f := fun k s i => cube_First.l122 k lv s rs (rs.length : Int) i) rs.length (fun s i => s = bindN t' (rs.take i) ∧ allL lv s ∧ s.length ≤ t'.length) t' ⟨by simp [bindN], tL, Nat.le_refl _⟩ fun s i hi hI ih => ?_
  obtain ⟨I1, I2, I3⟩ := hI
  refine T.eq (cube_First.l122_eq · lv s rs _ _) (T.ite (fun hlt => ?_) (fun hge => ?_))
  · have hlt := lt_dec hlt
    simp only [Int.toNat_natCast]
    have zr : rs.getD i (0, 0, ()) = rs.getD i z := rfl
    rw [zr]
    obtain ⟨x, ex⟩ : ∃ x, x = rs.getD i z := ⟨_, rfl⟩
    have hx : inL lv x := by rw [ex]; exact rL i
    rw [← ex]
    have hd : w64 (Int.tdiv (s.length : Int) 2) = ((s.length / 2 : Nat) : Int) := by
      show w64 ((s.length / 2 : Nat) : Int) = _
      exact w64_in (by omega) (by omega)
    rw [hd]
    refine T.yes (inB_nat hlt) (T.no (by decide) ?_)
    refine T.loop0 (f := fun k q j => cube_First.l125338 k lv q x ((s.length / 2 : Nat) : Int) rs (rs.length : Int) (i : Int) ((s.length / 2 : Nat) : Int) j) (s.length / 2) (fun q j => q.length = s.length ∧ (∀ n, n < j → q.getD n z = btw (s.getD (2 * n) z) (s.getD (2 * n + 1) z) x) ∧ ∀ n, j ≤ n → q.getD n z = s.getD n z) s ⟨rfl, fun n h => absurd h (by omega), fun n _ => rfl⟩ fun q j hj hq ih2 => ?_
    obtain ⟨q1, q2, q3⟩ := hq
    have e1 : w64 (2 * (j : Int)) = ((2 * j : Nat) : Int) := by rw [w64_in (by omega) (by omega)]; omega
    have e2 : w64 (((2 * j : Nat) : Int) + 1) = ((2 * j + 1 : Nat) : Int) := by rw [w64_in (by omega) (by omega)]; omega
    refine T.eq (cube_First.l125338_eq · lv q x _ rs _ _ _ _) ?_
    rw [e1, e2]
    refine T.ite (fun h => ?_) (fun h => ?_)
    · have hlt2 := lt_dec h
      simp only [Int.toNat_natCast]
      have z1 : q.getD (2 * j) (0, 0, ()) = s.getD (2 * j) z := q3 _ (by omega)
      have z2 : q.getD (2 * j + 1) (0, 0, ()) = s.getD (2 * j + 1) z := q3 _ (by omega)
      rw [z1, z2]
      refine T.yes (inB_nat (by omega)) (T.yes (inB_nat (by omega)) (T.bind (between_X (I2 _) (I2 _) hx) fun b hb => T.yes (inB_nat (by omega)) ?_))
      subst hb
      rw [inc (by omega)]
      refine ih2 _ hlt2 ⟨by simp [q1], fun n hn => ?_, fun n hn => ?_⟩
      · rw [set_get _ _ _ _ _ (by omega)]
        by_cases e : n = j
        · subst e; rw [if_pos rfl]
        · rw [if_neg e]; exact q2 n (by omega)
      · rw [set_get _ _ _ _ _ (by omega), if_neg (by omega)]
        exact q3 n (by omega)
    · have e : j = s.length / 2 := Nat.le_antisymm hj (nlt_dec h)
      subst e
      refine T.yes (by simp only [inS, Bool.and_eq_true, decide_eq_true_eq]; omega) ?_
      have hc : cutl q 0 ((s.length / 2 : Nat) : Int) = bind1 s x := by
        show (q.take ((s.length / 2 : Nat) : Int).toNat).drop (0 : Int).toNat = _
        rw [Int.toNat_natCast]
        show (q.take (s.length / 2)).drop 0 = _
        rw [List.drop_zero]
        refine list_eq z (by rw [bind1_len, List.length_take]; omega) fun n hn => ?_
        rw [bind1_len] at hn
        rw [bind1_at hn, List.getD_eq_getElem?_getD, List.getElem?_take, if_pos hn, ← List.getD_eq_getElem?_getD]
        exact q2 n hn
      rw [hc, inc (by omega)]
      refine ih _ hlt ⟨?_, bind1_L I2 hx, by rw [bind1_len]; omega⟩
      rw [take_snoc rs z hlt, bindN, List.foldl_append, ← ex]
      show bind1 s x = bind1 (bindN t' (rs.take i)) x
      rw [← I1]
  · have e : i = rs.length := Nat.le_antisymm hi (nlt_dec hge)
    subst e
    rw [List.take_length] at I1
    exact T.pure ⟨by rw [I1], fun _ => I2⟩
def bindT (t : List (List E)) (r : E) : List (List E) := t.map (bind1 · r)
theorem bindT_at {t : List (List E)} {r : E} {i : Nat} : (bindT t r).getD i [] = bind1 (t.getD i []) r := by
  by_cases h : i < t.length
  · exact getD_map h
  · rw [getD_none (by simp [bindT]; omega), getD_none (by omega)]; rfl
theorem bindT_len (t : List (List E)) (r : E) : (bindT t r).length = t.length := by simp [bindT]
/-- Tables of some length. -/
def midT (t : List (List E)) : Prop := t.length ≤ 1000 ∧ ∀ i, (t.getD i []).length ≤ 1000000
theorem midT.few {t : List (List E)} (h : midT t) : fewT t := ⟨h.1, fun i => by have := h.2 i; omega⟩
theorem midT.bind {t : List (List E)} (h : midT t) (r : E) : midT (bindT t r) := ⟨by rw [bindT_len]; exact h.1, fun i => by rw [bindT_at, bind1_len]; have := h.2 i; omega⟩
noncomputable def bindE (lv : Int) (t : List (List E)) (r : E) : Int := errs (fun x => firstE lv x [r]) t
theorem allR_one {r : E} (h : rngE r) : allR [r] := fun j => by
  cases j with
  | zero => exact h
  | succ j => rw [getD_none (by simp)]; exact rngE_z
theorem Bind_X (lv : Int) (t : List (List E)) (r : E) (ht : midT t) (hr : rngE r) (htr : allRR t) : T (fun k => sumcheck_Bind.f k lv t r) (fun q => q = if bindE lv t r = 0 then (bindT t r, 0) else ([], bindE lv t r)) := by
  have h1000 := ht.1
  refine T.eq (sumcheck_Bind.f_eq · lv t r) (T.loop0 (f := fun k s i => sumcheck_Bind.l58 k lv r s t (t.length : Int) i) t.length (fun s i => s = bindT (t.take i) r ∧ ∀ j, j < i → firstE lv (t.getD j []) [r] = 0) [] ⟨rfl, fun j h => absurd h (by omega)⟩ fun s i hi hI ih => ?_)
  have hlen : s.length = i := by rw [hI.1, bindT_len, List.length_take]; omega
  refine T.eq (sumcheck_Bind.l58_eq · lv r s t _ _) (T.ite (fun hlt => ?_) (fun hge => T.pure ?_))
  · have hlt := lt_dec hlt
    simp only [Int.toNat_natCast]
    refine T.yes (inB_nat hlt) (T.bind (First_X lv _ [r] (ht.2 i) (by simp) (htr i) (allR_one hr)) fun q hq => ?_)
    have hq := hq.1
    by_cases h0 : firstE lv (t.getD i []) [r] = 0
    · rw [if_pos h0] at hq
      subst hq
      refine T.no (by rfl) (T.yes (room_ok (by simp only [List.length_singleton]; omega)) ?_)
      rw [inc (by omega)]
      refine ih _ hlt ⟨?_, fun j hj => ?_⟩
      · rw [take_snoc t [] hlt, hI.1, bindT, bindT, List.map_append]; rfl
      · by_cases e : j = i
        · subst e; exact h0
        · exact hI.2 j (by omega)
    · rw [if_neg h0] at hq
      subst hq
      have e1 := errs_drop (d := []) (e := fun x => firstE lv x [r]) i (by omega) hI.2
      rw [drop_cons t [] hlt, errs, if_neg h0] at e1
      refine T.yes (by simpa using h0) (T.pure ?_)
      unfold bindE
      rw [e1, if_neg h0]
  · have e : i = t.length := Nat.le_antisymm hi (nlt_dec hge)
    subst e
    have e1 := errs_drop (d := []) (e := fun x => firstE lv x [r]) _ (Nat.le_refl _) hI.2
    rw [List.drop_length] at e1
    have e1 : bindE lv t r = 0 := e1
    rw [e1, if_pos rfl, hI.1, List.take_length]
/-- What is bound may be. -/
theorem SOk.ask {lv : Int} {l : List O} {t : List (List E)} (h : SOk lv l t) {m : Nat} (hm : (t.getD 0 []).length = 2 ^ (m + 1)) (h12 : m + 1 ≤ 16) {r : E} (hr : inL lv r) : bindE lv t r = 0 := by
  have : ∀ j, j < t.length → firstE lv (t.getD j []) [r] = 0 := fun j hj => FOk.eq ⟨h.x.lv0, h.x.lv7, ⟨m + 1, h12, by rw [h.len j hj, hm], by simp⟩, h.all j hj, by simp [allB, hr.2]⟩
  have e1 := errs_drop (d := []) (e := fun x => firstE lv x [r]) _ (Nat.le_refl _) this
  rw [List.drop_length] at e1
  exact e1
theorem SOk.bind {lv : Int} {l : List O} {t : List (List E)} (h : SOk lv l t) (htr : allRR t) {m : Nat} (hm : (t.getD 0 []).length = 2 ^ (m + 1)) {r : E} (hr : inL lv r) : SOk lv l (bindT t r) ∧ ((bindT t r).getD 0 []).length = 2 ^ m ∧ allRR (bindT t r) := by
  have hl : ((bindT t r).getD 0 []).length = 2 ^ m := by rw [bindT_at, bind1_len, hm, Nat.pow_succ]; omega
  have hL : ∀ i, i < t.length → allL lv (bind1 (t.getD i []) r) := fun i hi => bind1_L (allL_of h.x.lv0 h.x.lv7 (htr i) (h.all i hi)) hr
  refine ⟨⟨by rw [bindT_len]; exact h.x, by rw [bindT_len]; exact h.pos, h.fit, ?_, fun i hi => ?_, fun i hi => ?_⟩, hl, fun i => ?_⟩
  · obtain ⟨q, q1, q2⟩ := h.lg
    have := two_inj (hm.symm.trans q2)
    exact ⟨m, by omega, hl⟩
  · rw [bindT_len] at hi
    rw [bindT_at, bindT_at, bind1_len, bind1_len, h.len i hi]
  · rw [bindT_len] at hi
    rw [bindT_at]; exact allL_B (hL i hi)
  · rw [bindT_at]
    by_cases hi : i < t.length
    · exact allL_R (hL i hi)
    · rw [getD_none (by omega)]; exact fun j => rngE_z
/-- A round's values. -/
def roundP (l : List O) (t : List (List E)) : List E := (List.range ((dgI l).toNat + 1)).map fun i => sumP l (bindT t (plc i))
theorem roundP_len (l : List O) (t : List (List E)) : (roundP l t).length = (dgI l).toNat + 1 := by simp [roundP]
theorem roundP_at {l : List O} {t : List (List E)} {i : Nat} (h : i ≤ (dgI l).toNat) : (roundP l t).getD i z = sumP l (bindT t (plc i)) := getD_range (by omega)
theorem SOk.plc {lv : Int} {l : List O} {t : List (List E)} (h : SOk lv l t) {i : Nat} (hi : i ≤ (dgI l).toNat) : inL lv (plc i) := by
  have := dgI_le h.x
  exact fits_plc h.fit (by omega)
theorem round_X {lv : Int} {l : List O} {t : List (List E)} (h : SOk lv l t) (ht : midT t) (hc : cR l) (htr : allRR t) {m : Nat} (hm : (t.getD 0 []).length = 2 ^ (m + 1)) (h12 : m + 1 ≤ 16) : T (fun k => sumcheck_round.f k lv l t) (fun r => r = roundP l t) := by
  have hd := dgI_le h.x
  have h1000 := ht.1
  refine T.eq (sumcheck_round.f_eq · lv l t) (T.bind (degree_X h.x (by omega)) fun d hd' => ?_)
  subst hd'
  have ew : w64 (dgI l + 1) = (((dgI l).toNat + 1 : Nat) : Int) := by rw [w64_in (by omega) (by omega)]; omega
  rw [ew]
  refine T.loop0 (f := fun k s i => sumcheck_round.l58 k lv l t s (((dgI l).toNat + 1 : Nat) : Int) i) ((dgI l).toNat + 1) (fun s i => s = (List.range i).map fun i => sumP l (bindT t (H1.plc i))) [] rfl fun s i hi hI ih => ?_
  have hlen : s.length = i := by rw [hI]; simp
  refine T.eq (sumcheck_round.l58_eq · lv l t s _ _) (T.ite (fun hlt => ?_) (fun hge => T.pure ?_))
  · have hlt := lt_dec hlt
    rw [wu_in (by omega) (by omega)]
    have hp : inL lv (H1.plc i) := h.plc (by omega)
    obtain ⟨b1, b2, b3⟩ := h.bind htr hm hp
    refine T.bind (Bind_X lv t (H1.plc i) ht hp.1 htr) fun q hq => ?_
    rw [h.ask hm h12 hp, if_pos rfl] at hq
    subst hq
    refine T.bind (sum_X b1 (ht.bind _).few hc b3) fun s' hs' => T.yes (room_ok (by simp only [List.length_singleton]; omega)) ?_
    subst hs'
    rw [inc (by omega)]
    refine ih _ hlt ?_
    rw [List.range_succ, List.map_append, hI]; rfl
  · have e : i = (dgI l).toNat + 1 := by have := nlt_dec hge; omega
    subst e
    exact hI
theorem Round_X (lv : Int) (l : List O) (t : List (List E)) (ht : midT t) (hc : cR l) (htr : allRR t) : T (fun k => sumcheck_Round.f k lv l t) (fun r => r = if sChkV lv l t = 0 then (if (t.getD 0 []).length = 1 then ([], 1) else (roundP l t, 0)) else ([], sChkV lv l t)) := by
  refine T.eq (sumcheck_Round.f_eq · lv l t) (T.bind (sCheck_X lv l t ht.few) fun e he => T.ite (fun h => T.pure ?_) fun h => ?_)
  · subst he; rw [if_neg (by simpa using h)]
  subst he
  have h0 : sChkV lv l t = 0 := by simpa using h
  rw [if_pos h0]
  have S := sChkV_ok h0
  refine T.yes (inB_nat (i := 0) S.pos) (T.ite (fun h => T.pure ?_) fun h => ?_)
  · have h : ((t.getD 0 []).length : Int) = 1 := by simpa using h
    rw [if_pos (by omega)]
  · have h : ¬ (t.getD 0 []).length = 1 := by
      have : ¬ ((t.getD 0 []).length : Int) = 1 := by simpa using h
      omega
    rw [if_neg h]
    obtain ⟨m, m1, m2⟩ := S.lg
    obtain ⟨n, rfl⟩ : ∃ n, m = n + 1 := ⟨m - 1, by
      have : m ≠ 0 := by rintro rfl; exact h m2
      omega⟩
    exact T.bind (round_X S ht hc htr m2 (by omega)) fun r hr => T.pure (by rw [hr])
theorem few20_X (x : List O × List (List E) × Unit) : T (fun k => steeplelaw20_Few.f k x) (fun b => b = true → x.1.length ≤ 12 ∧ x.2.1.length ≤ 5 ∧ ∀ i, (x.2.1.getD i []).length ≤ 16) := by
  refine T.eq (steeplelaw20_Few.f_eq · x) (T.ite (fun h => T.bind (few9_X x.2.1 (by decide) (by decide) (by decide)) fun b hb => T.pure fun h' => ?_) fun h => T.pure fun h => by cases h)
  have h := of_decide_eq_true h
  obtain ⟨h1, h2⟩ := hb h'
  exact ⟨by omega, by omega, fun i => by have := h2 i; omega⟩
abbrev TCase20 : Ty := .pair (.sl false TO) (.pair (.sl false (.sl false TE)) .unit)
end Go.Proofs.Ytplmejnoepkdgaa.H1
namespace Go.Proofs.Ytplmejnoepkdgaa.Fld
theorem sm_two (f : Nat → F) : ∀ n, sm f (2 * n) = sm (fun i => f (2 * i)) n + sm (fun i => f (2 * i + 1)) n
  | 0 => (add_self 0).symm
  | n + 1 => by
    rw [show 2 * (n + 1) = 2 * n + 1 + 1 by omega]
    simp only [sm, sm_two f n]; ac_rfl
end Go.Proofs.Ytplmejnoepkdgaa.Fld
namespace Go.Proofs.Ytplmejnoepkdgaa.H1
open Go Go.Proofs.Ytplmejnoepkdgaa.Rf
theorem fold_F {f : Nat → E} {g : Nat → Fld.F} : ∀ n, (∀ i, i < n → f i = ofF (g i)) → fold f n = ofF (Fld.sm g n)
  | 0, _ => ofF_zero.symm
  | n + 1, h => by rw [fold, fold_F n fun i hi => h i (by omega), h n (by omega), Fld.sm, ofF_add]
theorem fold_toF {f : Nat → E} {n : Nat} (h : ∀ i, i < n → rngE (f i)) : fold f n = ofF (Fld.sm (fun i => toF (f i)) n) := fold_F n fun i hi => (ofF_toF (h i hi)).symm
/-- Steps are polynomials where the variables are lines. -/
theorem steps_poly {lv vars : Int} {l : List O} (h : XOk lv vars l) (hc : cR l) {V : Fld.F → List E} (hV : ∀ k, ∃ g, Fld.PolyD 1 g ∧ ∀ x, (V x).getD k z = ofF (g x)) :
    ∀ i, i ≤ l.length → ∃ H : Nat → Fld.F → Fld.F, ∀ j, j < i → Fld.PolyD ((degL [] (l.take i)).getD j 0).toNat (H j) ∧ ∀ x, (outP (V x) [] (l.take i)).getD j z = ofF (H j x)
  | 0, _ => ⟨fun _ _ => 0, fun j hj => absurd hj (by omega)⟩
  | i + 1, hi => by
    obtain ⟨H, hH⟩ := steps_poly h hc hV i (by omega)
    have hds := h.ds (k := i) (by omega)
    have hlen : (degL [] (l.take i)).length = i := by rw [degL_length, List.length_take]; simp; omega
    have hol : ∀ x, (outP (V x) [] (l.take i)).length = i := fun x => by rw [outP_length, List.length_take]; simp; omega
    obtain ⟨u1, u2, u3⟩ := h.ok i (by omega)
    have new : ∃ q, Fld.PolyD (dgr (degL [] (l.take i)) (l.getD i zo)).toNat q ∧ ∀ x, nxtP (V x) (outP (V x) [] (l.take i)) (l.getD i zo) = ofF (q x) := by
      obtain ⟨o, eo⟩ : ∃ o, o = l.getD i zo := ⟨_, rfl⟩
      have hco : rngE o.2.2.2.1 := by rw [eo]; exact hc i
      rw [← eo] at u1 u2 u3 ⊢
      rcases u1 with k | k | k | k
      · refine ⟨fun _ => toF o.2.2.2.1, (Fld.PolyD.const _).mono (Nat.zero_le _), fun x => ?_⟩
        unfold nxtP; rw [if_pos k, ofF_toF hco]
      · obtain ⟨g, g1, g2⟩ := hV o.2.1.toNat
        refine ⟨g, ?_, fun x => ?_⟩
        · unfold dgr; rw [if_pos k]; exact g1
        · unfold nxtP; rw [if_neg (by omega), if_pos k]; exact g2 x
      · obtain ⟨v1, v2, v3, v4⟩ := u3 (.inl k)
        obtain ⟨p1, p2⟩ := hH o.2.1.toNat (by omega)
        obtain ⟨q1, q2⟩ := hH o.2.2.1.toNat (by omega)
        refine ⟨fun x => H o.2.1.toNat x + H o.2.2.1.toNat x, ?_, fun x => ?_⟩
        · unfold dgr
          rw [if_neg (by omega), if_pos k]
          split
          · exact (p1.mono (by omega)).add (q1.mono (by omega))
          · exact (p1.mono (by omega)).add (q1.mono (by omega))
        · unfold nxtP; rw [if_neg (by omega), if_neg (by omega), if_pos k, p2, q2, ofF_add]
      · obtain ⟨v1, v2, v3, v4⟩ := u3 (.inr k)
        obtain ⟨p1, p2⟩ := hH o.2.1.toNat (by omega)
        obtain ⟨q1, q2⟩ := hH o.2.2.1.toNat (by omega)
        refine ⟨fun x => H o.2.1.toNat x * H o.2.2.1.toNat x, ?_, fun x => ?_⟩
        · unfold dgr
          have d1 := hds o.2.1.toNat
          have d2 := hds o.2.2.1.toNat
          rw [if_neg (by omega), if_neg (by omega), if_pos k]
          exact (p1.mul q1).mono (by omega)
        · unfold nxtP; rw [if_neg (by omega), if_neg (by omega), if_neg (by omega), if_pos k, p2, q2, ofF_mul]
    obtain ⟨q, q1, q2⟩ := new
    refine ⟨fun j => if j < i then H j else q, fun j hj => ?_⟩
    rw [degL_snoc l (by omega : i < l.length)]
    by_cases hji : j < i
    · rw [getD_app_lt _ _ _ (by omega)]
      obtain ⟨p1, p2⟩ := hH j hji
      refine ⟨by simpa only [if_pos hji] using p1, fun x => ?_⟩
      rw [outP_snoc _ l (by omega : i < l.length), getD_app_lt _ _ _ (by rw [hol]; omega), p2 x]
      simp only [if_pos hji]
    · have e : j = i := by omega
      subst e
      rw [getD_snoc, hlen, if_neg (by omega), if_pos rfl]
      refine ⟨by simpa only [if_neg hji] using q1, fun x => ?_⟩
      rw [outP_snoc _ l (by omega : j < l.length), getD_snoc, hol, if_neg (by omega), if_pos rfl, q2 x]
      simp only [if_neg hji]
theorem evP_poly {lv vars : Int} {l : List O} (h : XOk lv vars l) (hc : cR l) {V : Fld.F → List E} (hV : ∀ k, ∃ g, Fld.PolyD 1 g ∧ ∀ x, (V x).getD k z = ofF (g x)) : ∃ q, Fld.PolyD (dgI l).toNat q ∧ ∀ x, evP l (V x) = ofF (q x) := by
  obtain ⟨H, hH⟩ := steps_poly h hc hV l.length (Nat.le_refl _)
  have hp := h.pos
  obtain ⟨p1, p2⟩ := hH (l.length - 1) (by omega)
  rw [List.take_length] at p1 p2
  refine ⟨H (l.length - 1), p1.mono ?_, p2⟩
  unfold dgI; split <;> omega
theorem btw_F {a b : E} (ha : rngE a) (hb : rngE b) (x : Fld.F) : btw a b (ofF x) = ofF (toF a + x * (toF a + toF b)) := by
  rw [ofF_add, ofF_mul, ofF_add, ofF_toF ha, ofF_toF hb]; rfl
theorem col_bind {t : List (List E)} {r : E} {i k : Nat} (hk : k < t.length) (hi : i < (t.getD k []).length / 2) : (col (bindT t r) i).getD k z = btw ((t.getD k []).getD (2 * i) z) ((t.getD k []).getD (2 * i + 1) z) r := by
  rw [col_at _ _ _ (by rw [bindT_len]; exact hk), bindT_at, bind1_at hi]
theorem sumP_poly {lv : Int} {l : List O} {t : List (List E)} (h : SOk lv l t) (hc : cR l) (htr : allRR t) : ∃ f, Fld.PolyD (dgI l).toNat f ∧ ∀ x, sumP l (bindT t (ofF x)) = ofF (f x) := by
  have hn : ∀ r, ((bindT t r).getD 0 []).length = (t.getD 0 []).length / 2 := fun r => by rw [bindT_at, bind1_len]
  obtain ⟨n, en⟩ : ∃ n, n = (t.getD 0 []).length / 2 := ⟨_, rfl⟩
  have : ∀ i, ∃ q : Fld.F → Fld.F, i < n → Fld.PolyD (dgI l).toNat q ∧ ∀ x, evP l (col (bindT t (ofF x)) i) = ofF (q x) := fun i => by
    by_cases hi : i < n
    · obtain ⟨q, q1, q2⟩ := evP_poly h.x hc (V := fun x => col (bindT t (ofF x)) i) (fun k => by
        by_cases hk : k < t.length
        · refine ⟨fun x => toF ((t.getD k []).getD (2 * i) z) + x * (toF ((t.getD k []).getD (2 * i) z) + toF ((t.getD k []).getD (2 * i + 1) z)), ?_, fun x => ?_⟩
          · exact ((Fld.PolyD.const _).mono (by omega)).add ((Fld.PolyD.id.mul (Fld.PolyD.const _)).mono (by omega))
          · rw [col_bind hk (by rw [h.len k hk]; omega), btw_F (htr k _) (htr k _)]
        · exact ⟨fun _ => 0, (Fld.PolyD.const 0).mono (by omega), fun x => by rw [getD_none (by rw [col_len, bindT_len]; omega), ofF_zero]⟩)
      exact ⟨q, fun _ => ⟨q1, q2⟩⟩
    · exact ⟨fun _ => 0, fun h' => absurd h' hi⟩
  obtain ⟨H, hH⟩ := Classical.skolem.1 this
  refine ⟨fun x => Fld.sm (fun i => H i x) n, Fld.PolyD.sm n fun i hi => (hH i hi).1, fun x => ?_⟩
  unfold sumP
  rw [hn, ← en]
  exact fold_F n fun i hi => (hH i hi).2 x
theorem round_itp {lv : Int} {l : List O} {t : List (List E)} (h : SOk lv l t) (hc : cR l) (htr : allRR t) {r : E} (hr : rngE r) : itpE (roundP l t) r = sumP l (bindT t r) := by
  obtain ⟨f, f1, f2⟩ := sumP_poly h hc htr
  have hd := dgI_le h.x
  unfold itpE
  rw [roundP_len]
  have := Fld.itp_eq (n := (dgI l).toNat + 1) (f := f) (v := fun i => toF ((roundP l t).getD i z)) (by omega) (by omega) f1 (fun i hi => by
    rw [roundP_at (by omega), ← ofF_pl (by omega), f2, toF_ofF]) (toF r)
  rw [← this, ← f2, ofF_toF hr]
theorem inL_fold {lv : Int} {f : Nat → E} (h0 : 0 ≤ lv) (h7 : lv ≤ 7) : ∀ n, (∀ i, i < n → inL lv (f i)) → inL lv (fold f n)
  | 0, _ => inL_z h0 h7
  | n + 1, h => inL_Av (inL_fold h0 h7 n fun i hi => h i (by omega)) (h n (by omega))
theorem SOk.ev {lv : Int} {l : List O} {t : List (List E)} (h : SOk lv l t) (hc : cR l) (htr : allRR t) (i : Nat) : inL lv (evP l (col t i)) := by
  have hx := h.x
  rw [← col_len t i] at hx
  exact (ev_ok hx hc (col_L h.x.lv0 h.x.lv7 htr h.all i)).2
theorem sumP_L {lv : Int} {l : List O} {t : List (List E)} (h : SOk lv l t) (hc : cR l) (htr : allRR t) : inL lv (sumP l t) := inL_fold h.x.lv0 h.x.lv7 _ fun i _ => h.ev hc htr i
theorem plc_0 : plc 0 = z := rfl
theorem plc_1 : plc 1 = one := rfl
theorem btw_z {a b : E} (ha : rngE a) : btw a b z = a := by unfold btw; rw [Pr_zl, Av_zr ha]
theorem btw_one {a b : E} (ha : rngE a) (hb : rngE b) : btw a b one = b := by
  unfold btw
  rw [Pr_one (Av_rng _ _), ← Av_assoc ha ha hb, Av_self ha, Av_zl hb]
theorem ends_sum {lv : Int} {l : List O} {t : List (List E)} (h : SOk lv l t) (hc : cR l) (htr : allRR t) {m : Nat} (hm : (t.getD 0 []).length = 2 ^ (m + 1)) : Av ((roundP l t).getD 0 z) ((roundP l t).getD 1 z) = sumP l t := by
  have hd := dgI_le h.x
  rw [roundP_at (by omega), roundP_at (by omega), plc_0, plc_1]
  have hn : ∀ r, ((bindT t r).getD 0 []).length = 2 ^ m := fun r => by rw [bindT_at, bind1_len, hm, Nat.pow_succ]; omega
  have c0 : ∀ i, i < 2 ^ m → col (bindT t z) i = col t (2 * i) := fun i hi => list_eq z (by rw [col_len, col_len, bindT_len]) fun k hk => by
    rw [col_len] at hk
    rw [col_bind hk (by rw [h.len k hk, hm, Nat.pow_succ]; omega), btw_z (htr k _), col_at _ _ _ hk]
  have c1 : ∀ i, i < 2 ^ m → col (bindT t one) i = col t (2 * i + 1) := fun i hi => list_eq z (by rw [col_len, col_len, bindT_len]) fun k hk => by
    rw [col_len] at hk
    rw [col_bind hk (by rw [h.len k hk, hm, Nat.pow_succ]; omega), btw_one (htr k _) (htr k _), col_at _ _ _ hk]
  unfold sumP
  rw [hn, hn, hm, show 2 ^ (m + 1) = 2 * 2 ^ m by rw [Nat.pow_succ]; omega]
  have hr : ∀ i, rngE (evP l (col t i)) := fun i => (h.ev hc htr i).1
  rw [fold_congr (f := fun i => evP l (col (bindT t z) i)) (g := fun i => evP l (col t (2 * i))) (2 ^ m) (fun i hi => by rw [c0 i hi]), fold_congr (f := fun i => evP l (col (bindT t one) i)) (g := fun i => evP l (col t (2 * i + 1))) (2 ^ m) (fun i hi => by rw [c1 i hi])]
  rw [fold_toF fun i _ => hr _, fold_toF fun i _ => hr _, fold_toF fun i _ => hr _, ← ofF_add, Fld.sm_two]
theorem SOk.eq {lv : Int} {l : List O} {t : List (List E)} (h : SOk lv l t) : sChkV lv l t = 0 := by
  obtain ⟨m, m1, m2⟩ := h.lg
  have e : logI (((t.getD 0 []).length : Nat) : Int) = (m : Int) := by rw [m2]; exact logI_pow (by omega)
  have hp := h.pos
  have e1 : (t.all fun x => decide (x.length = (t.getD 0 []).length)) = true := (all_getD [] _ t).2 fun i hi => by simpa using h.len i hi
  have e2 : t.all (allB lv) = true := (all_getD [] _ t).2 fun i hi => h.all i hi
  unfold sChkV
  rw [if_neg (by rw [h.x.eq]; simp), if_neg (by omega), if_neg (by rw [h.fit]; simp), e, if_neg (by omega), if_neg (by rw [e1]; simp), if_neg (by rw [e2]; simp)]
theorem round_L {lv : Int} {l : List O} {t : List (List E)} (h : SOk lv l t) (hc : cR l) (htr : allRR t) {m : Nat} (hm : (t.getD 0 []).length = 2 ^ (m + 1)) : allL lv (roundP l t) := fun j => by
  by_cases hj : j ≤ (dgI l).toNat
  · obtain ⟨b1, b2, b3⟩ := h.bind htr hm (h.plc hj)
    rw [roundP_at hj]; exact sumP_L b1 hc b3
  · rw [getD_none (by rw [roundP_len]; omega)]; exact inL_z h.x.lv0 h.x.lv7
theorem splits_T (lv : Int) (x : List O × List (List E) × Unit) (r : E) (hx : okD TCase20 x) (hr : okD TE r) : T (fun k => steeplelaw20_SumcheckSplits.f k lv x r) (fun b => b = true) := by
  have hc : cR x.1 := okOs hx.1
  have hrt : allRR x.2.1 := okTs hx.2.1
  have hr : rngE r := okE hr
  refine T.eq (steeplelaw20_SumcheckSplits.f_eq · lv x r) (T.bind (few20_X x) fun b hb => T.ite (fun _ => T.bind awake20_T fun a ha => T.pure ha) fun h1 => ?_)
  obtain ⟨h12, h5, h16⟩ := hb (by simpa using h1)
  have ht : midT x.2.1 := ⟨by omega, fun i => by have := h16 i; omega⟩
  refine T.bind (Round_X lv x.1 x.2.1 ht hc hrt) fun v hv => T.ite (fun _ => T.bind awake20_T fun a ha => T.pure ha) fun h2 => T.bind (rof_X lv hr) fun o ho => ?_
  subst ho
  refine T.ite (fun _ => T.bind awake20_T fun a ha => T.pure ha) fun h3 => ?_
  have h2 : v.2 = 0 := by simpa using h2
  have hrL : inL lv r := ⟨hr, by simpa using h3⟩
  by_cases h0 : sChkV lv x.1 x.2.1 = 0
  · rw [if_pos h0] at hv
    have S := sChkV_ok h0
    by_cases h1 : (x.2.1.getD 0 []).length = 1
    · rw [if_pos h1] at hv; rw [hv] at h2; cases h2
    rw [if_neg h1] at hv
    subst hv
    obtain ⟨m, m1, m2⟩ := S.lg
    obtain ⟨n, rfl⟩ : ∃ n, m = n + 1 := ⟨m - 1, by
      have : m ≠ 0 := by rintro rfl; exact h1 m2
      omega⟩
    have hd := dgI_le S.x
    obtain ⟨b1, b2, b3⟩ := S.bind hrt m2 hrL
    refine T.bind (sSum_X lv x.1 x.2.1 ht.few hc hrt) fun s hs => T.bind (Bind_X lv x.2.1 r ht hr hrt) fun b hb => ?_
    rw [if_pos h0] at hs
    rw [S.ask m2 (by omega) hrL, if_pos rfl] at hb
    subst hs hb
    refine T.bind (sSum_X lv x.1 _ (ht.bind _).few hc b3) fun u hu => ?_
    rw [if_pos b1.eq] at hu
    subst hu
    have ew : w64 (((roundP x.1 x.2.1).length : Int) - 1) = dgI x.1 := by rw [roundP_len, w64_in (by omega) (by omega)]; omega
    rw [ew]
    have vL := round_L S hc hrt m2
    have sL := sumP_L S hc hrt
    refine T.bind (Verify_X lv (dgI x.1) (sumP x.1 x.2.1) [roundP x.1 x.2.1] [r] (by simp) (fun i => by
      cases i with
      | zero => show (roundP x.1 x.2.1).length ≤ 1000; rw [roundP_len]; omega
      | succ i => rw [getD_none (by simp)]; simp) (by simp) (fun i => by
      cases i with
      | zero => exact allL_R vL
      | succ i => rw [getD_none (by simp)]; exact fun j => rngE_z) (allR_one hr)) fun c hc' => T.bind awake20_T fun a ha => T.yes ha ?_
    have hmay : mayV lv (dgI x.1) (sumP x.1 x.2.1) [roundP x.1 x.2.1] [r] = 0 := by
      have := S.x.lv0; have := S.x.lv7
      unfold mayV
      rw [if_neg (by rw [S.fit]; simp; omega), if_neg, if_neg]
      · have e1 : ([roundP x.1 x.2.1] : List (List E)).all (allB lv) = true := by
          show (allB lv (roundP x.1 x.2.1) && true) = true
          rw [allL_B vL]; rfl
        have e2 : allB lv [r] = true := by
          show (ofB lv r && true) = true
          rw [hrL.2]; rfl
        rw [e1, e2, sL.2]; simp
      · have : (([roundP x.1 x.2.1] : List (List E)).all fun v => decide ((v.length : Int) = dgI x.1 + 1)) = true := by
          simp [roundP_len]; omega
        rw [this]; simp
    have hver : verV lv (dgI x.1) (sumP x.1 x.2.1) [roundP x.1 x.2.1] [r] = (sumP x.1 (bindT x.2.1 r), 0) := by
      unfold verV
      rw [if_pos hmay]
      show verS _ _ 1 0 _ = _
      rw [verS]
      have e0 : ([roundP x.1 x.2.1] : List (List E)).getD 0 [] = roundP x.1 x.2.1 := rfl
      have e1 : ([r] : List E).getD 0 z = r := rfl
      rw [e0, e1, if_pos (ends_sum S hc hrt m2), verS, round_itp S hc hrt hr]
    rw [hver] at hc'
    subst hc'
    refine T.yes (by rfl) (T.yes (by rfl) (T.yes (by rfl) (T.yes (by rfl) (T.yes (inB_nat (i := 0) (by rw [roundP_len]; omega)) (T.yes (inB_nat (i := 1) (by rw [roundP_len]; omega)) (T.bind (add_X _ _) fun q hq => ?_))))))
    have : q = sumP x.1 x.2.1 := hq.trans (ends_sum S hc hrt m2)
    subst this
    exact T.yes (z_eq _) (T.pure (z_eq _))
  · rw [if_neg h0] at hv
    rw [hv] at h2; exact absurd h2 h0
/-! Proving. -/
end Go.Proofs.Ytplmejnoepkdgaa.H1
namespace Go.Proofs.Ytplmejnoepkdgaa.Fld
/-! Counting. -/
/-! Tables' values. -/
end Go.Proofs.Ytplmejnoepkdgaa.Fld
namespace Go.Proofs.Ytplmejnoepkdgaa.H1
open Go Go.Proofs.Ytplmejnoepkdgaa.Rf
/-! SumcheckCounts. -/
end Go.Proofs.Ytplmejnoepkdgaa.H1
namespace Go.Proofs.Ytplmejnoepkdgaa.H1
open Go Go.Proofs.Ytplmejnoepkdgaa.Rf
/-! ZeroCounts. -/
end Go.Proofs.Ytplmejnoepkdgaa.H1
