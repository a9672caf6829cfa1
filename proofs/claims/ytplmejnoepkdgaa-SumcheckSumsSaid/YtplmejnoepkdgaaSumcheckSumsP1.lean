/- A walk by reckoning: what a Go function comes to, reckoned out of its operations, and why that is so. -/
import Derived.Test.YtplmejnoepkdgaaSumcheckSumsH
import Derived.Test.YtplmejnoepkdgaaRf4
import Derived.Test.YtplmejnoepkdgaaSumcheckSumsP0
set_option linter.unusedVariables false
set_option linter.unusedSimpArgs false
namespace Go.Proofs.Ytplmejnoepkdgaa.H1
open Go Go.Proofs.Ytplmejnoepkdgaa.Rf
abbrev TE : Ty := .pair U (.pair U .unit)
abbrev TO : Ty := .pair I (.pair I (.pair I (.pair TE .unit)))
theorem wf_rng {n : Int} (h : (Lit.int .u64 n).wf = true) : rng n := by
  simp [Lit.wf, IntKind.min, IntKind.max, IntKind.signed, IntKind.bits] at h
  exact ⟨by omega, by omega⟩
theorem okE {x : E} (h : okD TE x) : rngE x := ⟨wf_rng h.1, wf_rng h.2.1⟩
theorem mem_getD {α : Type} {l : List α} {d : α} {i : Nat} (h : i < l.length) : l.getD i d ∈ l := by
  rw [List.getD_eq_getElem?_getD, List.getElem?_eq_getElem h]; exact List.getElem_mem h
theorem okEs {f : Bool} {l : List E} (h : okD (.sl f TE) l) : allR l := fun j => by
  by_cases hj : j < l.length
  · exact okE (h.2 _ (mem_getD hj))
  · rw [getD_none (by omega)]; exact rngE_z
theorem okTs {f g : Bool} {l : List (List E)} (h : okD (.sl f (.sl g TE)) l) : allRR l := fun j => by
  by_cases hj : j < l.length
  · exact okEs (h.2 _ (mem_getD hj))
  · rw [getD_none (by omega)]; exact fun j => rngE_z
theorem okOs {f : Bool} {l : List O} (h : okD (.sl f TO) l) : cR l := fun j => by
  by_cases hj : j < l.length
  · exact okE (h.2 _ (mem_getD hj)).2.2.2.1
  · rw [getD_none (by omega)]; exact rngE_z
theorem z_eq (x : E) : ((x.1 == x.1) && (x.2.1 == x.2.1)) = true := by simp
/-! ZeroMixes. -/
end Go.Proofs.Ytplmejnoepkdgaa.H1
namespace Go.Proofs.Ytplmejnoepkdgaa.Fld
/-- The field of the greatest level. -/
structure F where
  n : Nat
  lt : n < 2 ^ 2 ^ 7
theorem F.ext' {a b : F} (h : a.n = b.n) : a = b := by cases a; cases b; cases h; rfl
instance : DecidableEq F := fun a b => if h : a.n = b.n then .isTrue (F.ext' h) else .isFalse fun e => h (by rw [e])
instance : Add F := ⟨fun a b => ⟨a.n ^^^ b.n, Nat.xor_lt_two_pow a.lt b.lt⟩⟩
instance : Mul F := ⟨fun a b => ⟨Tow.mul 7 a.n b.n, Tow.mul_lt 7 _ _ a.lt b.lt⟩⟩
instance : OfNat F 0 := ⟨⟨0, Nat.two_pow_pos _⟩⟩
instance : OfNat F 1 := ⟨⟨1, Tow.one_lt 7⟩⟩
theorem add_comm (a b : F) : a + b = b + a := F.ext' (Nat.xor_comm _ _)
theorem add_assoc (a b c : F) : a + b + c = a + (b + c) := F.ext' (Nat.xor_assoc _ _ _)
theorem zero_add (a : F) : 0 + a = a := F.ext' (Nat.zero_xor _)
theorem mul_comm (a b : F) : a * b = b * a := F.ext' (Tow.mul_comm 7 _ _)
theorem mul_assoc (a b c : F) : a * b * c = a * (b * c) := F.ext' (Tow.mul_assoc 7 _ _ _ a.lt b.lt c.lt)
theorem one_mul (a : F) : 1 * a = a := F.ext' (Tow.one_mul a.lt)
theorem mul_one (a : F) : a * 1 = a := F.ext' (Tow.mul_one 7 _ a.lt)
theorem add_mul (a b c : F) : (a + b) * c = a * c + b * c := F.ext' (Tow.mul_xorl 7 _ _ _)
instance : Std.Associative (α := F) (· + ·) := ⟨add_assoc⟩
instance : Std.Commutative (α := F) (· + ·) := ⟨add_comm⟩
instance : Std.Associative (α := F) (· * ·) := ⟨mul_assoc⟩
instance : Std.Commutative (α := F) (· * ·) := ⟨mul_comm⟩
/-! Sums. -/
/-! Polynomials. -/
/-! Places. -/
end Go.Proofs.Ytplmejnoepkdgaa.Fld
namespace Go.Proofs.Ytplmejnoepkdgaa.H1
open Go Go.Proofs.Ytplmejnoepkdgaa.Rf
/-! Elements, as a field has them. -/
/-! Lines. -/
theorem fits_ok {lv d : Int} (h : fitsB lv d = true) : 0 ≤ lv ∧ lv ≤ 7 ∧ 0 ≤ d ∧ d ≤ 8 := by
  unfold fitsB at h
  simp only [Bool.and_eq_true, decide_eq_true_eq] at h
  obtain ⟨⟨⟨h1, h2⟩, h3⟩, h4⟩ := h
  refine ⟨h1, h2, h3, ?_⟩
  split at h4
  · omega
  · split at h4 <;> omega
theorem fits_plc {lv d : Int} (h : fitsB lv d = true) {j : Nat} (hj : (j : Int) ≤ d) : inL lv (plc j) := by
  obtain ⟨h1, h2, h3, h8⟩ := fits_ok h
  unfold fitsB at h
  simp only [Bool.and_eq_true, decide_eq_true_eq] at h
  obtain ⟨_, h4⟩ := h
  obtain ⟨l, rfl⟩ := Int.eq_ofNat_of_zero_le h1
  refine ⟨plc_rng (by omega), (plc_of (by omega) (by omega)).2 ?_⟩
  split at h4
  · have : l = 0 := by omega
    subst this
    have : (2:Nat) ^ 2 ^ 0 = 2 := rfl
    omega
  · split at h4
    · have : l = 1 := by omega
      subst this
      have : (2:Nat) ^ 2 ^ 1 = 4 := rfl
      omega
    · have h2l : 2 ≤ l := by omega
      have := pow_le h2l
      have e : (2:Nat) ^ 2 ^ 2 = 16 := rfl
      omega
end Go.Proofs.Ytplmejnoepkdgaa.H1
namespace Go.Proofs.Ytplmejnoepkdgaa.Fld
end Go.Proofs.Ytplmejnoepkdgaa.Fld
namespace Go.Proofs.Ytplmejnoepkdgaa.H1
open Go Go.Proofs.Ytplmejnoepkdgaa.Rf
end Go.Proofs.Ytplmejnoepkdgaa.H1
namespace Go.Proofs.Ytplmejnoepkdgaa.H1
open Go Go.Proofs.Ytplmejnoepkdgaa.Rf
theorem awake20_ev (k : Nat) : steeplelaw20_awake.f (k + 100) = some true := by kernel_rfl
theorem awake20_T : T (fun k => steeplelaw20_awake.f k) (fun b => b = true) := ⟨true, rfl, 100, fun k hk => by obtain ⟨j, rfl⟩ := Nat.exists_eq_add_of_le hk; rw [Nat.add_comm]; exact awake20_ev j⟩
end Go.Proofs.Ytplmejnoepkdgaa.H1
namespace Go.Proofs.Ytplmejnoepkdgaa.H1
open Go Go.Proofs.Ytplmejnoepkdgaa.Rf
theorem few9_X (t : List (List E)) {a b : Int} (ha : 0 ≤ a) (ha2 : a ≤ 1000) (hb : 0 ≤ b) : T (fun k => steeplelaw09_Few.f k t a b) (fun r => r = true → (t.length : Int) ≤ a ∧ ∀ i, ((t.getD i []).length : Int) ≤ b) := by
  refine T.eq (steeplelaw09_Few.f_eq · t a b) (T.ite (fun _ => T.pure (by simp)) fun h5 => ?_)
  have h5 : (t.length : Int) ≤ a := by have := of_decide_eq_false h5; omega
  refine T.loop0 (σ := Unit) (f := fun k _ i => steeplelaw09_Few.l58 k t b i) t.length (fun _ i => ∀ j, j < i → ((t.getD j []).length : Int) ≤ b) () (fun j h => absurd h (by omega)) fun s i hi hI ih => ?_
  refine T.eq (steeplelaw09_Few.l58_eq · t b _) (T.ite (fun h => ?_) (fun h => ?_))
  · have hlt := lt_dec h
    simp only [Int.toNat_natCast]
    refine T.yes (inB_nat hlt) (T.ite (fun _ => T.pure (by simp)) fun h16 => ?_)
    rw [inc (by omega)]
    refine ih () hlt fun j hj => ?_
    by_cases e : j = i
    · subst e
      have := of_decide_eq_false h16
      omega
    · exact hI j (by omega)
  · have e : i = t.length := by have := nlt_dec h; omega
    subst e
    refine T.pure fun _ => ⟨h5, fun i => ?_⟩
    by_cases hi : i < t.length
    · exact hI i hi
    · rw [getD_none (by omega)]; simpa using hb
/-! What hinders verifying. -/
theorem eqE (a b : E) : ((a.1 == b.1) && (a.2.1 == b.2.1)) = decide (a = b) := by
  rw [Bool.eq_iff_iff]
  simp only [Bool.and_eq_true, beq_iff_eq, decide_eq_true_eq]
  exact ⟨fun h => Prod.ext h.1 (Prod.ext h.2 rfl), fun h => by rw [h]; exact ⟨rfl, rfl⟩⟩
end Go.Proofs.Ytplmejnoepkdgaa.H1
namespace Go.Proofs.Ytplmejnoepkdgaa.H1
open Go Go.Proofs.Ytplmejnoepkdgaa.Rf
/-! Tables, bound in their first variable. -/
def btw (a b r : E) : E := Av a (Pr r (Av a b))
def bind1 (t : List E) (r : E) : List E := (List.range (t.length / 2)).map fun i => btw (t.getD (2 * i) z) (t.getD (2 * i + 1) z) r
def bindN (t : List E) (rs : List E) : List E := rs.foldl bind1 t
theorem bind1_len (t : List E) (r : E) : (bind1 t r).length = t.length / 2 := by simp [bind1]
theorem bind1_at {t : List E} {r : E} {i : Nat} (h : i < t.length / 2) : (bind1 t r).getD i z = btw (t.getD (2 * i) z) (t.getD (2 * i + 1) z) r := getD_range h
theorem inL_btw {lv : Int} {a b r : E} (ha : inL lv a) (hb : inL lv b) (hr : inL lv r) : inL lv (btw a b r) := inL_Av ha (inL_Pr hr (inL_Av ha hb))
theorem bind1_L {lv : Int} {t : List E} {r : E} (ht : allL lv t) (hr : inL lv r) : allL lv (bind1 t r) := fun j => by
  by_cases h : j < t.length / 2
  · rw [bind1_at h]; exact inL_btw (ht _) (ht _) hr
  · rw [getD_none (by rw [bind1_len]; omega)]
    have := ht t.length
    rwa [getD_none (Nat.le_refl _)] at this
theorem between_X {lv : Int} {a b r : E} (ha : inL lv a) (hb : inL lv b) (hr : inL lv r) : T (fun k => cube_between.f k lv a b r) (fun q => q = btw a b r) := by
  refine T.eq (cube_between.f_eq · lv a b r) (T.bind (add_X _ _) fun s hs => T.bind (p := fun q => q = Pr r s) (by subst hs; exact mul_X hr (inL_Av ha hb)) fun m hm => T.bind (add_X _ _) fun q hq => T.pure ?_)
  rw [hq, hm, hs]; rfl
noncomputable def firstE (lv : Int) (t rs : List E) : Int :=
  if lv < 0 ∨ lv > 7 then 1 else if logI t.length < 0 ∨ (rs.length : Int) > logI t.length then 6 else if allB lv t = false ∨ allB lv rs = false then 5 else 0
theorem cask_X (lv : Int) (t rs : List E) (h1 : t.length ≤ 100000000) (h2 : rs.length ≤ 100000000) : T (fun k => cube_ask.f k lv t rs) (fun e => e = firstE lv t rs) := by
  unfold firstE
  refine T.eq (cube_ask.f_eq · lv t rs) (T.bind (log_X _) fun q hq => T.bind (wide_X lv) fun w hw => T.ite (fun h => T.pure ?_) fun g1 => T.ite (fun h => T.pure ?_) fun g2 => T.ite (fun h => T.pure ?_) fun g3 => T.bind (cube_of_X lv t h1) fun b hb => ?_)
  · have h : w = 0 := by simpa using h
    rw [if_pos (hw.1 h)]
  all_goals have g1 : ¬ (lv < 0 ∨ lv > 7) := fun h => (by simpa using g1 : ¬ w = 0) (hw.2 h)
  all_goals subst hq
  · rw [if_neg g1, if_pos (.inl (of_decide_eq_true h))]
  · rw [if_neg g1, if_pos (.inr (of_decide_eq_true h))]
  have g2 := of_decide_eq_false g2
  have g3 := of_decide_eq_false g3
  rw [if_neg g1, if_neg (by omega)]
  subst hb
  refine T.ite (fun h => T.pure ?_) fun g4 => T.bind (cube_of_X lv rs h2) fun b hb => ?_
  · rw [if_pos (.inl (by simpa using h))]
  subst hb
  refine T.ite (fun h => T.pure ?_) fun g5 => T.pure ?_
  · rw [if_pos (.inr (by simpa using h))]
  · rw [if_neg]
    simp only [Bool.not_eq_false'] at g4 g5
    rw [g4, g5]; simp
structure FOk (lv : Int) (t rs : List E) : Prop where
  lv0 : 0 ≤ lv
  lv7 : lv ≤ 7
  lg : ∃ m : Nat, m ≤ 16 ∧ t.length = 2 ^ m ∧ rs.length ≤ m
  t : allB lv t = true
  r : allB lv rs = true
theorem firstE_ok {lv : Int} {t rs : List E} (h : firstE lv t rs = 0) : FOk lv t rs := by
  unfold firstE at h
  split at h
  · cases h
  split at h
  · cases h
  split at h
  · cases h
  rename_i c1 c2 c3
  obtain ⟨m, m1, m2, m3⟩ := logI_nn (n := (t.length : Int)) (by omega)
  exact ⟨by omega, by omega, ⟨m, m1, by exact_mod_cast m2, by omega⟩, eq_true_of_ne_false fun e => c3 (.inl e), eq_true_of_ne_false fun e => c3 (.inr e)⟩
theorem FOk.eq {lv : Int} {t rs : List E} (h : FOk lv t rs) : firstE lv t rs = 0 := by
  obtain ⟨m, m1, m2, m3⟩ := h.lg
  have := h.lv0; have := h.lv7
  have e : logI (t.length : Int) = (m : Int) := by rw [m2]; exact logI_pow m1
  unfold firstE
  rw [if_neg (by omega), e, if_neg (by omega), if_neg (by rw [h.t, h.r]; simp)]
theorem First_X (lv : Int) (t rs : List E) (h1 : t.length ≤ 1000000) (h2 : rs.length ≤ 100) (ht : allR t) (hr : allR rs) : T (fun k => cube_First.f k lv t rs) (fun q => (q = if firstE lv t rs = 0 then (bindN t rs, 0) else ([], firstE lv t rs)) ∧ (firstE lv t rs = 0 → allL lv q.1)) := by
  refine T.eq (cube_First.f_eq · lv t rs) (T.bind (cask_X lv t rs (by omega) (by omega)) fun e he => T.ite (fun h => T.pure ?_) fun h => ?_)
  · subst he
    have h : ¬ firstE lv t rs = 0 := by simpa using h
    rw [if_neg h]; exact ⟨rfl, fun h' => absurd h' h⟩
  subst he
  have h0 : firstE lv t rs = 0 := by simpa using h
  rw [if_pos h0]
  have F := firstE_ok h0
  have tL := allL_of F.lv0 F.lv7 ht F.t
  have rL := allL_of F.lv0 F.lv7 hr F.r
  refine T.bind (p := fun r => r = t) ?_ fun t' ht' => ?_
  · refine T.eq (slices_Clone_Elem.f_eq · t) ?_
    have hr : room t.length 16 = true := room_ok (by omega)
    have : nilB t (some []) (bif room t.length 16 then some t else none) = some t := by
      rw [hr]
      exact nilB_same t _ _ fun h => by rw [List.isEmpty_iff.1 h]; rfl
    rw [this]
    exact T.pure rfl
  subst ht'
  refine T.loop0 (f := fun k s i => cube_First.l122 k lv s rs (rs.length : Int) i) rs.length (fun s i => s = bindN t' (rs.take i) ∧ allL lv s ∧ s.length ≤ t'.length) t' ⟨by simp [bindN], tL, Nat.le_refl _⟩ fun s i hi hI ih => ?_
  obtain ⟨I1, I2, I3⟩ := hI
  refine T.eq (cube_First.l122_eq · lv s rs _ _) (T.ite (fun hlt => ?_) (fun hge => ?_))
  · have hlt := lt_dec hlt
    simp only [Int.toNat_natCast]
    have zr : rs.getD i (0, 0, ()) = rs.getD i z := rfl
    rw [zr]
    obtain ⟨x, ex⟩ : ∃ x, x = rs.getD i z := ⟨_, rfl⟩
    have hx : inL lv x := by rw [ex]; exact rL i
    rw [← ex]
    have hd : w64 (Int.tdiv (s.length : Int) 2) = ((s.length / 2 : Nat) : Int) := by
      show w64 ((s.length / 2 : Nat) : Int) = _
      exact w64_in (by omega) (by omega)
    rw [hd]
    refine T.yes (inB_nat hlt) (T.no (by decide) ?_)
    refine T.loop0 (f := fun k q j => cube_First.l125338 k lv q x ((s.length / 2 : Nat) : Int) rs (rs.length : Int) (i : Int) ((s.length / 2 : Nat) : Int) j) (s.length / 2) (fun q j => q.length = s.length ∧ (∀ n, n < j → q.getD n z = btw (s.getD (2 * n) z) (s.getD (2 * n + 1) z) x) ∧ ∀ n, j ≤ n → q.getD n z = s.getD n z) s ⟨rfl, fun n h => absurd h (by omega), fun n _ => rfl⟩ fun q j hj hq ih2 => ?_
    obtain ⟨q1, q2, q3⟩ := hq
    have e1 : w64 (2 * (j : Int)) = ((2 * j : Nat) : Int) := by rw [w64_in (by omega) (by omega)]; omega
    have e2 : w64 (((2 * j : Nat) : Int) + 1) = ((2 * j + 1 : Nat) : Int) := by rw [w64_in (by omega) (by omega)]; omega
    refine T.eq (cube_First.l125338_eq · lv q x _ rs _ _ _ _) ?_
    rw [e1, e2]
    refine T.ite (fun h => ?_) (fun h => ?_)
    · have hlt2 := lt_dec h
      simp only [Int.toNat_natCast]
      have z1 : q.getD (2 * j) (0, 0, ()) = s.getD (2 * j) z := q3 _ (by omega)
      have z2 : q.getD (2 * j + 1) (0, 0, ()) = s.getD (2 * j + 1) z := q3 _ (by omega)
      rw [z1, z2]
      refine T.yes (inB_nat (by omega)) (T.yes (inB_nat (by omega)) (T.bind (between_X (I2 _) (I2 _) hx) fun b hb => T.yes (inB_nat (by omega)) ?_))
      subst hb
      rw [inc (by omega)]
      refine ih2 _ hlt2 ⟨by simp [q1], fun n hn => ?_, fun n hn => ?_⟩
      · rw [set_get _ _ _ _ _ (by omega)]
        by_cases e : n = j
        · subst e; rw [if_pos rfl]
        · rw [if_neg e]; exact q2 n (by omega)
      · rw [set_get _ _ _ _ _ (by omega), if_neg (by omega)]
        exact q3 n (by omega)
    · have e : j = s.length / 2 := Nat.le_antisymm hj (nlt_dec h)
      subst e
      refine T.yes (by simp only [inS, Bool.and_eq_true, decide_eq_true_eq]; omega) ?_
      have hc : cutl q 0 ((s.length / 2 : Nat) : Int) = bind1 s x := by
        show (q.take ((s.length / 2 : Nat) : Int).toNat).drop (0 : Int).toNat = _
        rw [Int.toNat_natCast]
        show (q.take (s.length / 2)).drop 0 = _
        rw [List.drop_zero]
        refine list_eq z (by rw [bind1_len, List.length_take]; omega) fun n hn => ?_
        rw [bind1_len] at hn
        rw [bind1_at hn, List.getD_eq_getElem?_getD, List.getElem?_take, if_pos hn, ← List.getD_eq_getElem?_getD]
        exact q2 n hn
      rw [hc, inc (by omega)]
      refine ih _ hlt ⟨?_, bind1_L I2 hx, by rw [bind1_len]; omega⟩
      rw [take_snoc rs z hlt, bindN, List.foldl_append, ← ex]
      show bind1 s x = bind1 (bindN t' (rs.take i)) x
      rw [← I1]
  · have e : i = rs.length := Nat.le_antisymm hi (nlt_dec hge)
    subst e
    rw [List.take_length] at I1
    exact T.pure ⟨by rw [I1], fun _ => I2⟩
theorem rFirst_X {t : List E} {r : E} (h1 : t.length ≤ 1000000) (ht : allR t) (hr : rngE r) : T (fun k => steepleref15_First.f k t r) (fun q => q = bind1 t r) := by
  refine T.eq (steepleref15_First.f_eq · t r) ?_
  refine (?_ : T (fun k => steepleref15_First.l58 k t r [] ((2 * 0 : Nat) : Int)) _)
  refine T.loop (f := fun k s i => steepleref15_First.l58 k t r s (2 * i)) (t.length / 2) (fun s i => s = (List.range i).map fun i => btw (t.getD (2 * i) z) (t.getD (2 * i + 1) z) r) (fun s i hi hI ih => ?_) (t.length / 2) [] 0 rfl (by omega) rfl
  have hlen : s.length = i := by rw [hI]; simp
  have e0 : (2 * (i : Int)) = ((2 * i : Nat) : Int) := by omega
  have e1 : w64 (((2 * i : Nat) : Int) + 1) = ((2 * i + 1 : Nat) : Int) := by rw [w64_in (by omega) (by omega)]; omega
  have e2 : w64 (((2 * i : Nat) : Int) + 2) = 2 * ((i : Int) + 1) := by rw [w64_in (by omega) (by omega)]; omega
  rw [e0]
  refine T.eq (steepleref15_First.l58_eq · t r s _) ?_
  rw [e1, e2]
  refine T.ite (fun h => ?_) (fun h => T.pure ?_)
  · have hlt := lt_dec h
    simp only [Int.toNat_natCast]
    refine T.bind (p := fun o => o = one) (T.eq steepleref15_one.f_eq (T.pure rfl)) fun o ho => T.bind (rAdd_X _ _) fun a ha => T.yes (inB_nat (by omega)) ?_
    subst ho ha
    refine T.bind (prod_T (Av_rng _ _) (ht (2 * i))) fun p hp => T.yes (inB_nat hlt) (T.bind (prod_T hr (ht (2 * i + 1))) fun q hq => T.bind (rAdd_X _ _) fun u hu => T.yes (room_ok (by simp only [List.length_singleton]; omega)) ?_)
    refine ih _ (by omega) ?_
    rw [List.range_succ, List.map_append, ← hI]
    show s ++ [u] = s ++ [btw _ _ r]
    congr 2
    subst hp hq hu
    unfold btw
    have ra := ht (2 * i)
    have rb := ht (2 * i + 1)
    show Av (Pr (Av one r) (t.getD (2 * i) z)) (Pr r (t.getD (2 * i + 1) z)) = _
    rw [Pr_Avl rng_one hr ra, Pr_one ra, Pr_Avr r ra rb hr, Av_assoc ra (Pr_rng hr ra) (Pr_rng hr rb)]
  · have e : i = t.length / 2 := by have := nlt_dec h; omega
    subst e
    exact hI
def bindT (t : List (List E)) (r : E) : List (List E) := t.map (bind1 · r)
theorem bindT_at {t : List (List E)} {r : E} {i : Nat} : (bindT t r).getD i [] = bind1 (t.getD i []) r := by
  by_cases h : i < t.length
  · exact getD_map h
  · rw [getD_none (by simp [bindT]; omega), getD_none (by omega)]; rfl
theorem bindT_len (t : List (List E)) (r : E) : (bindT t r).length = t.length := by simp [bindT]
/-- Tables of some length. -/
def midT (t : List (List E)) : Prop := t.length ≤ 1000 ∧ ∀ i, (t.getD i []).length ≤ 1000000
theorem midT.few {t : List (List E)} (h : midT t) : fewT t := ⟨h.1, fun i => by have := h.2 i; omega⟩
theorem midT.bind {t : List (List E)} (h : midT t) (r : E) : midT (bindT t r) := ⟨by rw [bindT_len]; exact h.1, fun i => by rw [bindT_at, bind1_len]; have := h.2 i; omega⟩
noncomputable def bindE (lv : Int) (t : List (List E)) (r : E) : Int := errs (fun x => firstE lv x [r]) t
theorem allR_one {r : E} (h : rngE r) : allR [r] := fun j => by
  cases j with
  | zero => exact h
  | succ j => rw [getD_none (by simp)]; exact rngE_z
theorem Bind_X (lv : Int) (t : List (List E)) (r : E) (ht : midT t) (hr : rngE r) (htr : allRR t) : T (fun k => sumcheck_Bind.f k lv t r) (fun q => q = if bindE lv t r = 0 then (bindT t r, 0) else ([], bindE lv t r)) := by
  have h1000 := ht.1
  refine T.eq (sumcheck_Bind.f_eq · lv t r) (T.loop0 (f := fun k s i => sumcheck_Bind.l58 k lv r s t (t.length : Int) i) t.length (fun s i => s = bindT (t.take i) r ∧ ∀ j, j < i → firstE lv (t.getD j []) [r] = 0) [] ⟨rfl, fun j h => absurd h (by omega)⟩ fun s i hi hI ih => ?_)
  have hlen : s.length = i := by rw [hI.1, bindT_len, List.length_take]; omega
  refine T.eq (sumcheck_Bind.l58_eq · lv r s t _ _) (T.ite (fun hlt => ?_) (fun hge => T.pure ?_))
  · have hlt := lt_dec hlt
    simp only [Int.toNat_natCast]
    refine T.yes (inB_nat hlt) (T.bind (First_X lv _ [r] (ht.2 i) (by simp) (htr i) (allR_one hr)) fun q hq => ?_)
    have hq := hq.1
    by_cases h0 : firstE lv (t.getD i []) [r] = 0
    · rw [if_pos h0] at hq
      subst hq
      refine T.no (by rfl) (T.yes (room_ok (by simp only [List.length_singleton]; omega)) ?_)
      rw [inc (by omega)]
      refine ih _ hlt ⟨?_, fun j hj => ?_⟩
      · rw [take_snoc t [] hlt, hI.1, bindT, bindT, List.map_append]; rfl
      · by_cases e : j = i
        · subst e; exact h0
        · exact hI.2 j (by omega)
    · rw [if_neg h0] at hq
      subst hq
      have e1 := errs_drop (d := []) (e := fun x => firstE lv x [r]) i (by omega) hI.2
      rw [drop_cons t [] hlt, errs, if_neg h0] at e1
      refine T.yes (by simpa using h0) (T.pure ?_)
      unfold bindE
      rw [e1, if_neg h0]
  · have e : i = t.length := Nat.le_antisymm hi (nlt_dec hge)
    subst e
    have e1 := errs_drop (d := []) (e := fun x => firstE lv x [r]) _ (Nat.le_refl _) hI.2
    rw [List.drop_length] at e1
    have e1 : bindE lv t r = 0 := e1
    rw [e1, if_pos rfl, hI.1, List.take_length]
theorem rBind_X (t : List (List E)) (r : E) (ht : midT t) (hr : rngE r) (htr : allRR t) : T (fun k => steepleref20_Bind.f k t r) (fun q => q = bindT t r) := by
  have h1000 := ht.1
  exact T.eq (steepleref20_Bind.f_eq · t r) (map_X (f := fun k s i => steepleref20_Bind.l58 k t r s i) (g := fun k x => steepleref15_First.f k x r) t [] (bind1 · r) (b := 24) (by omega) (by omega) (fun k s i => steepleref20_Bind.l58_eq k t r s i) fun i hi => rFirst_X (ht.2 i) (htr i) hr)
/-- What is bound may be. -/
theorem SOk.ask {lv : Int} {l : List O} {t : List (List E)} (h : SOk lv l t) {m : Nat} (hm : (t.getD 0 []).length = 2 ^ (m + 1)) (h12 : m + 1 ≤ 16) {r : E} (hr : inL lv r) : bindE lv t r = 0 := by
  have : ∀ j, j < t.length → firstE lv (t.getD j []) [r] = 0 := fun j hj => FOk.eq ⟨h.x.lv0, h.x.lv7, ⟨m + 1, h12, by rw [h.len j hj, hm], by simp⟩, h.all j hj, by simp [allB, hr.2]⟩
  have e1 := errs_drop (d := []) (e := fun x => firstE lv x [r]) _ (Nat.le_refl _) this
  rw [List.drop_length] at e1
  exact e1
theorem SOk.bind {lv : Int} {l : List O} {t : List (List E)} (h : SOk lv l t) (htr : allRR t) {m : Nat} (hm : (t.getD 0 []).length = 2 ^ (m + 1)) {r : E} (hr : inL lv r) : SOk lv l (bindT t r) ∧ ((bindT t r).getD 0 []).length = 2 ^ m ∧ allRR (bindT t r) := by
  have hl : ((bindT t r).getD 0 []).length = 2 ^ m := by rw [bindT_at, bind1_len, hm, Nat.pow_succ]; omega
  have hL : ∀ i, i < t.length → allL lv (bind1 (t.getD i []) r) := fun i hi => bind1_L (allL_of h.x.lv0 h.x.lv7 (htr i) (h.all i hi)) hr
  refine ⟨⟨by rw [bindT_len]; exact h.x, by rw [bindT_len]; exact h.pos, h.fit, ?_, fun i hi => ?_, fun i hi => ?_⟩, hl, fun i => ?_⟩
  · obtain ⟨q, q1, q2⟩ := h.lg
    have := two_inj (hm.symm.trans q2)
    exact ⟨m, by omega, hl⟩
  · rw [bindT_len] at hi
    rw [bindT_at, bindT_at, bind1_len, bind1_len, h.len i hi]
  · rw [bindT_len] at hi
    rw [bindT_at]; exact allL_B (hL i hi)
  · rw [bindT_at]
    by_cases hi : i < t.length
    · exact allL_R (hL i hi)
    · rw [getD_none (by omega)]; exact fun j => rngE_z
/-- A round's values. -/
def roundP (l : List O) (t : List (List E)) : List E := (List.range ((dgI l).toNat + 1)).map fun i => sumP l (bindT t (plc i))
theorem roundP_len (l : List O) (t : List (List E)) : (roundP l t).length = (dgI l).toNat + 1 := by simp [roundP]
theorem SOk.plc {lv : Int} {l : List O} {t : List (List E)} (h : SOk lv l t) {i : Nat} (hi : i ≤ (dgI l).toNat) : inL lv (plc i) := by
  have := dgI_le h.x
  exact fits_plc h.fit (by omega)
theorem round_X {lv : Int} {l : List O} {t : List (List E)} (h : SOk lv l t) (ht : midT t) (hc : cR l) (htr : allRR t) {m : Nat} (hm : (t.getD 0 []).length = 2 ^ (m + 1)) (h12 : m + 1 ≤ 16) : T (fun k => sumcheck_round.f k lv l t) (fun r => r = roundP l t) := by
  have hd := dgI_le h.x
  have h1000 := ht.1
  refine T.eq (sumcheck_round.f_eq · lv l t) (T.bind (degree_X h.x (by omega)) fun d hd' => ?_)
  subst hd'
  have ew : w64 (dgI l + 1) = (((dgI l).toNat + 1 : Nat) : Int) := by rw [w64_in (by omega) (by omega)]; omega
  rw [ew]
  refine T.loop0 (f := fun k s i => sumcheck_round.l58 k lv l t s (((dgI l).toNat + 1 : Nat) : Int) i) ((dgI l).toNat + 1) (fun s i => s = (List.range i).map fun i => sumP l (bindT t (H1.plc i))) [] rfl fun s i hi hI ih => ?_
  have hlen : s.length = i := by rw [hI]; simp
  refine T.eq (sumcheck_round.l58_eq · lv l t s _ _) (T.ite (fun hlt => ?_) (fun hge => T.pure ?_))
  · have hlt := lt_dec hlt
    rw [wu_in (by omega) (by omega)]
    have hp : inL lv (H1.plc i) := h.plc (by omega)
    obtain ⟨b1, b2, b3⟩ := h.bind htr hm hp
    refine T.bind (Bind_X lv t (H1.plc i) ht hp.1 htr) fun q hq => ?_
    rw [h.ask hm h12 hp, if_pos rfl] at hq
    subst hq
    refine T.bind (sum_X b1 (ht.bind _).few hc b3) fun s' hs' => T.yes (room_ok (by simp only [List.length_singleton]; omega)) ?_
    subst hs'
    rw [inc (by omega)]
    refine ih _ hlt ?_
    rw [List.range_succ, List.map_append, hI]; rfl
  · have e : i = (dgI l).toNat + 1 := by have := nlt_dec hge; omega
    subst e
    exact hI
theorem rSum20_X {lv : Int} {l : List O} {t : List (List E)} (h : SOk lv l t) (ht : midT t) (hc : cR l) (htr : allRR t) : T (fun k => steepleref20_Sum.f k l t) (fun r => r = sumP l t) := by
  have h1000 := ht.1
  have h1 := h.okT
  refine T.eq (steepleref20_Sum.f_eq · l t) (T.loop0 (f := fun k s i => steepleref20_Sum.l58 k l t (0, 0, ()) s i) (t.getD 0 []).length (fun s i => s = fold (fun i => evP l (col t i)) i) (0, 0, ()) rfl fun acc i hi hI ih => ?_)
  refine T.eq (steepleref20_Sum.l58_eq · l t _ acc _) (T.yes (inB_nat (i := 0) h1.1) (T.ite (fun hlt => ?_) (fun hge => T.pure ?_)))
  · have hlt := lt_dec hlt
    have cl := col_L h.x.lv0 h.x.lv7 htr h.all i
    have hi2 := ht.2 0
    refine T.loop0 (f := fun k s j => steepleref20_Sum.l14922 k l t (0, 0, ()) acc (i : Int) s j) t.length (fun s j => s = col (t.take j) i) [] rfl fun s j hj hs ih2 => ?_
    have hlen : s.length = j := by rw [hs, col_len, List.length_take]; omega
    refine T.eq (steepleref20_Sum.l14922_eq · l t _ acc _ s _) (T.ite (fun h' => ?_) (fun h' => ?_))
    · have hlt2 := lt_dec h'
      simp only [Int.toNat_natCast]
      refine T.yes (inB_nat hlt2) (T.yes (inB_nat (by rw [h1.2 j hlt2]; exact hlt)) (T.yes (room_ok (by simp only [List.length_singleton]; omega)) ?_))
      rw [inc (by omega)]
      refine ih2 _ hlt2 ?_
      rw [hs, take_snoc t [] hlt2]
      simp [col]; rfl
    · have e : j = t.length := Nat.le_antisymm hj (nlt_dec h')
      subst e
      rw [List.take_length] at hs
      subst hs
      have hx := h.x
      rw [← col_len t i] at hx
      refine T.bind (rValue_X hx hc cl (by rw [col_len]; omega)) fun q hq => T.bind (rAdd_X _ _) fun a ha => ?_
      rw [inc (by omega)]
      refine ih _ hlt ?_
      rw [ha, hq, hI]; rfl
  · have e : i = (t.getD 0 []).length := Nat.le_antisymm hi (nlt_dec hge)
    subst e
    exact hI
theorem rRound_X {lv : Int} {l : List O} {t : List (List E)} (h : SOk lv l t) (ht : midT t) (hc : cR l) (htr : allRR t) {m : Nat} (hm : (t.getD 0 []).length = 2 ^ (m + 1)) : T (fun k => steepleref20_Round.f k l t) (fun r => r = roundP l t) := by
  have hd := dgI_le h.x
  have h1000 := ht.1
  refine T.eq (steepleref20_Round.f_eq · l t) ?_
  refine T.loop0 (f := fun k s i => steepleref20_Round.l58 k l t s i) ((dgI l).toNat + 1) (fun s i => s = (List.range i).map fun i => sumP l (bindT t (H1.plc i))) [] rfl fun s i hi hI ih => ?_
  have hlen : s.length = i := by rw [hI]; simp
  refine T.eq (steepleref20_Round.l58_eq · l t s _) (T.bind (rdegree_X h.x) fun d hd' => ?_)
  subst hd'
  refine T.ite (fun hlt => ?_) (fun hge => T.pure ?_)
  · have hlt : i ≤ (dgI l).toNat := by have := of_decide_eq_true hlt; omega
    rw [wu_in (by omega) (by omega)]
    have hp : inL lv (H1.plc i) := h.plc hlt
    obtain ⟨b1, b2, b3⟩ := h.bind htr hm hp
    refine T.bind (rBind_X t (H1.plc i) ht hp.1 htr) fun q hq => ?_
    subst hq
    refine T.bind (rSum20_X b1 (ht.bind _) hc b3) fun s' hs' => T.yes (room_ok (by simp only [List.length_singleton]; omega)) ?_
    subst hs'
    rw [inc (by omega)]
    refine ih _ (by omega) ?_
    rw [List.range_succ, List.map_append, hI]; rfl
  · have e : i = (dgI l).toNat + 1 := by have := of_decide_eq_false hge; omega
    subst e
    exact hI
theorem Round_X (lv : Int) (l : List O) (t : List (List E)) (ht : midT t) (hc : cR l) (htr : allRR t) : T (fun k => sumcheck_Round.f k lv l t) (fun r => r = if sChkV lv l t = 0 then (if (t.getD 0 []).length = 1 then ([], 1) else (roundP l t, 0)) else ([], sChkV lv l t)) := by
  refine T.eq (sumcheck_Round.f_eq · lv l t) (T.bind (sCheck_X lv l t ht.few) fun e he => T.ite (fun h => T.pure ?_) fun h => ?_)
  · subst he; rw [if_neg (by simpa using h)]
  subst he
  have h0 : sChkV lv l t = 0 := by simpa using h
  rw [if_pos h0]
  have S := sChkV_ok h0
  refine T.yes (inB_nat (i := 0) S.pos) (T.ite (fun h => T.pure ?_) fun h => ?_)
  · have h : ((t.getD 0 []).length : Int) = 1 := by simpa using h
    rw [if_pos (by omega)]
  · have h : ¬ (t.getD 0 []).length = 1 := by
      have : ¬ ((t.getD 0 []).length : Int) = 1 := by simpa using h
      omega
    rw [if_neg h]
    obtain ⟨m, m1, m2⟩ := S.lg
    obtain ⟨n, rfl⟩ : ∃ n, m = n + 1 := ⟨m - 1, by
      have : m ≠ 0 := by rintro rfl; exact h m2
      omega⟩
    exact T.bind (round_X S ht hc htr m2 (by omega)) fun r hr => T.pure (by rw [hr])
theorem same_X (a b : List E) (h : a.length ≤ 1000000) : T (fun k => steeplelaw01_Same.f k a b) (fun r => r = decide (a = b)) := by
  refine T.eq (steeplelaw01_Same.f_eq · a b) (T.ite (fun h => T.pure ?_) fun h => ?_)
  · symm; rw [decide_eq_false_iff_not]; rintro rfl; simp at h
  have hl : a.length = b.length := by have : (a.length : Int) = (b.length : Int) := by simpa using h
                                      omega
  refine T.loop0 (σ := Unit) (f := fun k _ i => steeplelaw01_Same.l58 k a b i) a.length (fun _ i => ∀ j, j < i → a.getD j z = b.getD j z) () (fun j h => absurd h (by omega)) fun s i hi hI ih => ?_
  refine T.eq (steeplelaw01_Same.l58_eq · a b _) (T.ite (fun hlt => ?_) (fun hge => T.pure ?_))
  · have hlt := lt_dec hlt
    simp only [Int.toNat_natCast]
    rw [eqE]
    refine T.yes (inB_nat hlt) (T.yes (inB_nat (by omega)) (T.ite (fun h => T.pure ?_) fun h => ?_))
    · have h : ¬ a.getD i z = b.getD i z := of_decide_eq_false (by rw [Bool.not_eq_true'] at h; exact h)
      symm; rw [decide_eq_false_iff_not]; rintro rfl; exact h rfl
    · have h : a.getD i z = b.getD i z := of_decide_eq_true (by rw [Bool.not_eq_false'] at h; exact h)
      rw [inc (by omega)]
      refine ih () hlt fun j hj => ?_
      by_cases e : j = i
      · subst e; exact h
      · exact hI j (by omega)
  · have e : i = a.length := Nat.le_antisymm hi (nlt_dec hge)
    subst e
    symm; rw [decide_eq_true_eq]
    exact list_eq z hl fun j hj => hI j (by omega)
theorem few20_X (x : List O × List (List E) × Unit) : T (fun k => steeplelaw20_Few.f k x) (fun b => b = true → x.1.length ≤ 12 ∧ x.2.1.length ≤ 5 ∧ ∀ i, (x.2.1.getD i []).length ≤ 16) := by
  refine T.eq (steeplelaw20_Few.f_eq · x) (T.ite (fun h => T.bind (few9_X x.2.1 (by decide) (by decide) (by decide)) fun b hb => T.pure fun h' => ?_) fun h => T.pure fun h => by cases h)
  have h := of_decide_eq_true h
  obtain ⟨h1, h2⟩ := hb h'
  exact ⟨by omega, by omega, fun i => by have := h2 i; omega⟩
abbrev TCase20 : Ty := .pair (.sl false TO) (.pair (.sl false (.sl false TE)) .unit)
theorem sums_T (lv : Int) (x : List O × List (List E) × Unit) (r : E) (hx : okD TCase20 x) (hr : okD TE r) : T (fun k => steeplelaw20_SumcheckSums.f k lv x r) (fun b => b = true) := by
  have hc : cR x.1 := okOs hx.1
  have hrt : allRR x.2.1 := okTs hx.2.1
  have hr : rngE r := okE hr
  refine T.eq (steeplelaw20_SumcheckSums.f_eq · lv x r) (T.bind (few20_X x) fun b hb => T.ite (fun _ => T.bind awake20_T fun a ha => T.pure ha) fun h1 => ?_)
  obtain ⟨h12, h5, h16⟩ := hb (by simpa using h1)
  have ht : midT x.2.1 := ⟨by omega, fun i => by have := h16 i; omega⟩
  refine T.bind (ref16_X x.1 (by omega)) fun l hl => T.bind (refs09_X x.2.1 (by omega) fun i => by have := h16 i; omega) fun t htt => T.bind (sCheck_X lv x.1 x.2.1 ht.few) fun e he => T.bind (sSum_X lv x.1 x.2.1 ht.few hc hrt) fun s hs => T.bind (Round_X lv x.1 x.2.1 ht hc hrt) fun v hv => T.bind (Bind_X lv x.2.1 r ht hr hrt) fun b hb => ?_
  subst hl htt he
  refine T.bind (r20Check_X lv x.1 x.2.1 ht.few hc hrt) fun w hw => ?_
  subst hw
  by_cases h0 : sChkV lv x.1 x.2.1 = 0
  · rw [if_pos h0] at hs hv
    have S := sChkV_ok h0
    subst hs
    refine T.no (by simp) (T.no (by rw [h0]; rfl) (T.no (by rw [h0]; rfl) (T.bind (rSum20_X S ht hc hrt) fun q hq => ?_)))
    subst hq
    refine T.no (by rw [z_eq]; rfl) (T.yes (inB_nat (i := 0) S.pos) (T.ite (fun h => ?_) (fun h => ?_)))
    · have h : (x.2.1.getD 0 []).length = 1 := by
        have : ((x.2.1.getD 0 []).length : Int) = 1 := by simpa using h
        omega
      rw [if_pos h] at hv
      subst hv
      refine T.bind awake20_T fun a ha => T.yes ha (T.yes (by rfl) (T.yes (by rfl) ?_))
      have e6 : bindE lv x.2.1 r = 6 := by
        unfold bindE
        have hf : firstE lv (x.2.1.getD 0 []) [r] = 6 := by
          unfold firstE
          have e : logI (((x.2.1.getD 0 []).length : Nat) : Int) = 0 := by rw [h]; exact logI_pow (m := 0) (by omega)
          have := S.x.lv0; have := S.x.lv7
          rw [if_neg (by omega), e, if_pos (.inr (by simp))]
        have : x.2.1 = x.2.1.getD 0 [] :: x.2.1.drop 1 := by
          have := drop_cons x.2.1 [] (i := 0) S.pos
          simpa using this
        rw [this, errs, if_neg (by rw [hf]; decide)]; exact hf
      rw [e6, if_neg (by decide)] at hb
      subst hb
      exact T.yes (by rfl) (T.pure (by rfl))
    · have h : ¬ (x.2.1.getD 0 []).length = 1 := by
        have : ¬ ((x.2.1.getD 0 []).length : Int) = 1 := by simpa using h
        omega
      rw [if_neg h] at hv
      subst hv
      obtain ⟨m, m1, m2⟩ := S.lg
      obtain ⟨n, rfl⟩ : ∃ n, m = n + 1 := ⟨m - 1, by
        have : m ≠ 0 := by rintro rfl; exact h m2
        omega⟩
      have hd := dgI_le S.x
      refine T.no (by rfl) (T.bind (rRound_X S ht hc hrt m2) fun q hq => ?_)
      subst hq
      refine T.bind (same_X _ _ (by rw [roundP_len]; omega)) fun q hq => T.no (by rw [hq]; simp) (T.bind (rof_X lv hr) fun o ho => ?_)
      subst ho
      refine T.ite (fun h => T.bind awake20_T fun a ha => T.yes ha ?_) (fun h => ?_)
      · have h : ofB lv r = false := by simpa using h
        have e5 : bindE lv x.2.1 r = 5 := by
          unfold bindE
          have hf : firstE lv (x.2.1.getD 0 []) [r] = 5 := by
            unfold firstE
            have e : logI (((x.2.1.getD 0 []).length : Nat) : Int) = ((n + 1 : Nat) : Int) := by rw [m2]; exact logI_pow (by omega)
            have := S.x.lv0; have := S.x.lv7
            rw [if_neg (by omega), e, if_neg (by simp only [List.length_singleton]; omega), if_pos (.inr (by simp [allB, h]))]
          have : x.2.1 = x.2.1.getD 0 [] :: x.2.1.drop 1 := by
            have := drop_cons x.2.1 [] (i := 0) S.pos
            simpa using this
          rw [this, errs, if_neg (by rw [hf]; decide)]; exact hf
        rw [e5, if_neg (by decide)] at hb
        subst hb
        exact T.yes (by rfl) (T.pure (by rfl))
      · have h : ofB lv r = true := by simpa using h
        rw [S.ask m2 (by omega) ⟨hr, h⟩, if_pos rfl] at hb
        subst hb
        refine T.bind (rBind_X x.2.1 r ht hr hrt) fun y hy => ?_
        subst hy
        have hbl : (bindT x.2.1 r).length ≤ 5 := by rw [bindT_len]; exact h5
        refine T.loop0 (σ := Unit) (f := fun k _ i => steeplelaw20_SumcheckSums.l524282 k (bindT x.2.1 r) 0 (bindT x.2.1 r) i) (bindT x.2.1 r).length (fun _ _ => True) () trivial fun s i hi _ ih => ?_
        refine T.eq (steeplelaw20_SumcheckSums.l524282_eq · _ _ _ _) (T.ite (fun hlt => ?_) (fun hge => T.bind awake20_T fun a ha => T.yes ha (T.yes (by rfl) (T.pure (by simp)))))
        have hlt := lt_dec hlt
        simp only [Int.toNat_natCast]
        refine T.no (by simp only [decide_eq_false_iff_not]; omega) (T.yes (inB_nat hlt) (T.yes (inB_nat hlt) (T.bind (same_X _ _ (by rw [bindT_at, bind1_len]; have := h16 i; omega)) fun q hq => T.no (by rw [hq]; simp) ?_)))
        rw [inc (by omega)]
        exact ih () hlt trivial
  · rw [if_neg h0] at hs hv
    subst hs hv
    exact T.no (by simp) (T.no (by simp) (T.yes (by simpa using h0) (T.bind awake20_T fun a ha => T.yes ha (T.yes (by simp) (T.yes (by rfl) (T.pure (by rfl)))))))
end Go.Proofs.Ytplmejnoepkdgaa.H1
namespace Go.Proofs.Ytplmejnoepkdgaa.Fld
end Go.Proofs.Ytplmejnoepkdgaa.Fld
namespace Go.Proofs.Ytplmejnoepkdgaa.H1
open Go Go.Proofs.Ytplmejnoepkdgaa.Rf
theorem SOk.eq {lv : Int} {l : List O} {t : List (List E)} (h : SOk lv l t) : sChkV lv l t = 0 := by
  obtain ⟨m, m1, m2⟩ := h.lg
  have e : logI (((t.getD 0 []).length : Nat) : Int) = (m : Int) := by rw [m2]; exact logI_pow (by omega)
  have hp := h.pos
  have e1 : (t.all fun x => decide (x.length = (t.getD 0 []).length)) = true := (all_getD [] _ t).2 fun i hi => by simpa using h.len i hi
  have e2 : t.all (allB lv) = true := (all_getD [] _ t).2 fun i hi => h.all i hi
  unfold sChkV
  rw [if_neg (by rw [h.x.eq]; simp), if_neg (by omega), if_neg (by rw [h.fit]; simp), e, if_neg (by omega), if_neg (by rw [e1]; simp), if_neg (by rw [e2]; simp)]
/-! Proving. -/
end Go.Proofs.Ytplmejnoepkdgaa.H1
namespace Go.Proofs.Ytplmejnoepkdgaa.Fld
/-! Counting. -/
/-! Tables' values. -/
end Go.Proofs.Ytplmejnoepkdgaa.Fld
namespace Go.Proofs.Ytplmejnoepkdgaa.H1
open Go Go.Proofs.Ytplmejnoepkdgaa.Rf
/-! SumcheckCounts. -/
end Go.Proofs.Ytplmejnoepkdgaa.H1
namespace Go.Proofs.Ytplmejnoepkdgaa.H1
open Go Go.Proofs.Ytplmejnoepkdgaa.Rf
/-! ZeroCounts. -/
end Go.Proofs.Ytplmejnoepkdgaa.H1
