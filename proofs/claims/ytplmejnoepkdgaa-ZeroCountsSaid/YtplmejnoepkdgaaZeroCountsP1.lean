/- A walk by reckoning: what a Go function comes to, reckoned out of its operations, and why that is so. -/
import Derived.Test.YtplmejnoepkdgaaZeroCountsH
import Derived.Test.YtplmejnoepkdgaaRf4
import Derived.Test.YtplmejnoepkdgaaZeroCountsP0
set_option linter.unusedVariables false
set_option linter.unusedSimpArgs false
namespace Go.Proofs.Ytplmejnoepkdgaa.H1
open Go Go.Proofs.Ytplmejnoepkdgaa.Rf
/-! Elements, as a field has them. -/
def toF (x : E) : Fld.F := ⟨nat x % 2 ^ 2 ^ 7, Nat.mod_lt _ (Nat.two_pow_pos _)⟩
def ofF (a : Fld.F) : E := mk a.n
theorem toF_n {x : E} (h : rngE x) : (toF x).n = nat x := Nat.mod_eq_of_lt (nat_lt h)
theorem ofF_toF {x : E} (h : rngE x) : ofF (toF x) = x := by unfold ofF; rw [toF_n h, mk_nat h]
theorem ofF_rng (a : Fld.F) : rngE (ofF a) := mk_rng a.lt
theorem nat_ofF (a : Fld.F) : nat (ofF a) = a.n := nat_mk _
theorem toF_ofF (a : Fld.F) : toF (ofF a) = a := Fld.F.ext' (by rw [toF_n (ofF_rng a), nat_ofF])
theorem ofF_inj {a b : Fld.F} (h : ofF a = ofF b) : a = b := by rw [← toF_ofF a, h, toF_ofF]
theorem ofF_add (a b : Fld.F) : ofF (a + b) = Av (ofF a) (ofF b) := mk_xor a.lt b.lt
theorem ofF_mul (a b : Fld.F) : ofF (a * b) = Pr (ofF a) (ofF b) := by unfold Pr; rw [nat_ofF, nat_ofF]; rfl
theorem toF_Av {a b : E} (ha : rngE a) (hb : rngE b) : toF (Av a b) = toF a + toF b := by
  rw [← toF_ofF (toF a + toF b), ofF_add, ofF_toF ha, ofF_toF hb]
theorem toF_Pr {a b : E} (ha : rngE a) (hb : rngE b) : toF (Pr a b) = toF a * toF b := by
  rw [← toF_ofF (toF a * toF b), ofF_mul, ofF_toF ha, ofF_toF hb]
theorem ofF_zero : ofF 0 = z := by decide
theorem ofF_one : ofF 1 = one := by decide
theorem toF_one : toF one = 1 := by rw [← ofF_one, toF_ofF]
theorem ofF_pl {i : Nat} (h : i < 2 ^ 64) : ofF (Fld.pl i) = plc i := by
  have := mk_nat (plc_rng h)
  rw [nat_plc] at this
  rw [← this]; unfold ofF; rw [Fld.pl_n h]
/-! Lines. -/
theorem fits_ok {lv d : Int} (h : fitsB lv d = true) : 0 ≤ lv ∧ lv ≤ 7 ∧ 0 ≤ d ∧ d ≤ 8 := by
  unfold fitsB at h
  simp only [Bool.and_eq_true, decide_eq_true_eq] at h
  obtain ⟨⟨⟨h1, h2⟩, h3⟩, h4⟩ := h
  refine ⟨h1, h2, h3, ?_⟩
  split at h4
  · omega
  · split at h4 <;> omega
theorem fits_plc {lv d : Int} (h : fitsB lv d = true) {j : Nat} (hj : (j : Int) ≤ d) : inL lv (plc j) := by
  obtain ⟨h1, h2, h3, h8⟩ := fits_ok h
  unfold fitsB at h
  simp only [Bool.and_eq_true, decide_eq_true_eq] at h
  obtain ⟨_, h4⟩ := h
  obtain ⟨l, rfl⟩ := Int.eq_ofNat_of_zero_le h1
  refine ⟨plc_rng (by omega), (plc_of (by omega) (by omega)).2 ?_⟩
  split at h4
  · have : l = 0 := by omega
    subst this
    have : (2:Nat) ^ 2 ^ 0 = 2 := rfl
    omega
  · split at h4
    · have : l = 1 := by omega
      subst this
      have : (2:Nat) ^ 2 ^ 1 = 4 := rfl
      omega
    · have h2l : 2 ≤ l := by omega
      have := pow_le h2l
      have e : (2:Nat) ^ 2 ^ 2 = 16 := rfl
      omega
end Go.Proofs.Ytplmejnoepkdgaa.H1
namespace Go.Proofs.Ytplmejnoepkdgaa.Fld
end Go.Proofs.Ytplmejnoepkdgaa.Fld
namespace Go.Proofs.Ytplmejnoepkdgaa.H1
open Go Go.Proofs.Ytplmejnoepkdgaa.Rf
end Go.Proofs.Ytplmejnoepkdgaa.H1
namespace Go.Proofs.Ytplmejnoepkdgaa.H1
open Go Go.Proofs.Ytplmejnoepkdgaa.Rf
end Go.Proofs.Ytplmejnoepkdgaa.H1
namespace Go.Proofs.Ytplmejnoepkdgaa.H1
open Go Go.Proofs.Ytplmejnoepkdgaa.Rf
theorem few9_X (t : List (List E)) {a b : Int} (ha : 0 ≤ a) (ha2 : a ≤ 1000) (hb : 0 ≤ b) : T (fun k => steeplelaw09_Few.f k t a b) (fun r => r = true → (t.length : Int) ≤ a ∧ ∀ i, ((t.getD i []).length : Int) ≤ b) := by
  refine T.eq (steeplelaw09_Few.f_eq · t a b) (T.ite (fun _ => T.pure (by simp)) fun h5 => ?_)
  have h5 : (t.length : Int) ≤ a := by have := of_decide_eq_false h5; omega
  refine T.loop0 (σ := Unit) (f := fun k _ i => steeplelaw09_Few.l58 k t b i) t.length (fun _ i => ∀ j, j < i → ((t.getD j []).length : Int) ≤ b) () (fun j h => absurd h (by omega)) fun s i hi hI ih => ?_
  refine T.eq (steeplelaw09_Few.l58_eq · t b _) (T.ite (fun h => ?_) (fun h => ?_))
  · have hlt := lt_dec h
    simp only [Int.toNat_natCast]
    refine T.yes (inB_nat hlt) (T.ite (fun _ => T.pure (by simp)) fun h16 => ?_)
    rw [inc (by omega)]
    refine ih () hlt fun j hj => ?_
    by_cases e : j = i
    · subst e
      have := of_decide_eq_false h16
      omega
    · exact hI j (by omega)
  · have e : i = t.length := by have := nlt_dec h; omega
    subst e
    refine T.pure fun _ => ⟨h5, fun i => ?_⟩
    by_cases hi : i < t.length
    · exact hI i hi
    · rw [getD_none (by omega)]; simpa using hb
/-! What hinders verifying. -/
theorem eqE (a b : E) : ((a.1 == b.1) && (a.2.1 == b.2.1)) = decide (a = b) := by
  rw [Bool.eq_iff_iff]
  simp only [Bool.and_eq_true, beq_iff_eq, decide_eq_true_eq]
  exact ⟨fun h => Prod.ext h.1 (Prod.ext h.2 rfl), fun h => by rw [h]; exact ⟨rfl, rfl⟩⟩
end Go.Proofs.Ytplmejnoepkdgaa.H1
namespace Go.Proofs.Ytplmejnoepkdgaa.H1
open Go Go.Proofs.Ytplmejnoepkdgaa.Rf
/-! Tables, bound in their first variable. -/
def btw (a b r : E) : E := Av a (Pr r (Av a b))
def bind1 (t : List E) (r : E) : List E := (List.range (t.length / 2)).map fun i => btw (t.getD (2 * i) z) (t.getD (2 * i + 1) z) r
theorem bind1_len (t : List E) (r : E) : (bind1 t r).length = t.length / 2 := by simp [bind1]
theorem bind1_at {t : List E} {r : E} {i : Nat} (h : i < t.length / 2) : (bind1 t r).getD i z = btw (t.getD (2 * i) z) (t.getD (2 * i + 1) z) r := getD_range h
theorem inL_btw {lv : Int} {a b r : E} (ha : inL lv a) (hb : inL lv b) (hr : inL lv r) : inL lv (btw a b r) := inL_Av ha (inL_Pr hr (inL_Av ha hb))
theorem bind1_L {lv : Int} {t : List E} {r : E} (ht : allL lv t) (hr : inL lv r) : allL lv (bind1 t r) := fun j => by
  by_cases h : j < t.length / 2
  · rw [bind1_at h]; exact inL_btw (ht _) (ht _) hr
  · rw [getD_none (by rw [bind1_len]; omega)]
    have := ht t.length
    rwa [getD_none (Nat.le_refl _)] at this
noncomputable def firstE (lv : Int) (t rs : List E) : Int :=
  if lv < 0 ∨ lv > 7 then 1 else if logI t.length < 0 ∨ (rs.length : Int) > logI t.length then 6 else if allB lv t = false ∨ allB lv rs = false then 5 else 0
def bindT (t : List (List E)) (r : E) : List (List E) := t.map (bind1 · r)
theorem bindT_at {t : List (List E)} {r : E} {i : Nat} : (bindT t r).getD i [] = bind1 (t.getD i []) r := by
  by_cases h : i < t.length
  · exact getD_map h
  · rw [getD_none (by simp [bindT]; omega), getD_none (by omega)]; rfl
theorem bindT_len (t : List (List E)) (r : E) : (bindT t r).length = t.length := by simp [bindT]
noncomputable def bindE (lv : Int) (t : List (List E)) (r : E) : Int := errs (fun x => firstE lv x [r]) t
theorem SOk.bind {lv : Int} {l : List O} {t : List (List E)} (h : SOk lv l t) (htr : allRR t) {m : Nat} (hm : (t.getD 0 []).length = 2 ^ (m + 1)) {r : E} (hr : inL lv r) : SOk lv l (bindT t r) ∧ ((bindT t r).getD 0 []).length = 2 ^ m ∧ allRR (bindT t r) := by
  have hl : ((bindT t r).getD 0 []).length = 2 ^ m := by rw [bindT_at, bind1_len, hm, Nat.pow_succ]; omega
  have hL : ∀ i, i < t.length → allL lv (bind1 (t.getD i []) r) := fun i hi => bind1_L (allL_of h.x.lv0 h.x.lv7 (htr i) (h.all i hi)) hr
  refine ⟨⟨by rw [bindT_len]; exact h.x, by rw [bindT_len]; exact h.pos, h.fit, ?_, fun i hi => ?_, fun i hi => ?_⟩, hl, fun i => ?_⟩
  · obtain ⟨q, q1, q2⟩ := h.lg
    have := two_inj (hm.symm.trans q2)
    exact ⟨m, by omega, hl⟩
  · rw [bindT_len] at hi
    rw [bindT_at, bindT_at, bind1_len, bind1_len, h.len i hi]
  · rw [bindT_len] at hi
    rw [bindT_at]; exact allL_B (hL i hi)
  · rw [bindT_at]
    by_cases hi : i < t.length
    · exact allL_R (hL i hi)
    · rw [getD_none (by omega)]; exact fun j => rngE_z
theorem SOk.plc {lv : Int} {l : List O} {t : List (List E)} (h : SOk lv l t) {i : Nat} (hi : i ≤ (dgI l).toNat) : inL lv (plc i) := by
  have := dgI_le h.x
  exact fits_plc h.fit (by omega)
end Go.Proofs.Ytplmejnoepkdgaa.H1
namespace Go.Proofs.Ytplmejnoepkdgaa.Fld
theorem sm_two (f : Nat → F) : ∀ n, sm f (2 * n) = sm (fun i => f (2 * i)) n + sm (fun i => f (2 * i + 1)) n
  | 0 => (add_self 0).symm
  | n + 1 => by
    rw [show 2 * (n + 1) = 2 * n + 1 + 1 by omega]
    simp only [sm, sm_two f n]; ac_rfl
end Go.Proofs.Ytplmejnoepkdgaa.Fld
namespace Go.Proofs.Ytplmejnoepkdgaa.H1
open Go Go.Proofs.Ytplmejnoepkdgaa.Rf
theorem fold_F {f : Nat → E} {g : Nat → Fld.F} : ∀ n, (∀ i, i < n → f i = ofF (g i)) → fold f n = ofF (Fld.sm g n)
  | 0, _ => ofF_zero.symm
  | n + 1, h => by rw [fold, fold_F n fun i hi => h i (by omega), h n (by omega), Fld.sm, ofF_add]
theorem fold_toF {f : Nat → E} {n : Nat} (h : ∀ i, i < n → rngE (f i)) : fold f n = ofF (Fld.sm (fun i => toF (f i)) n) := fold_F n fun i hi => (ofF_toF (h i hi)).symm
theorem SOk.ev {lv : Int} {l : List O} {t : List (List E)} (h : SOk lv l t) (hc : cR l) (htr : allRR t) (i : Nat) : inL lv (evP l (col t i)) := by
  have hx := h.x
  rw [← col_len t i] at hx
  exact (ev_ok hx hc (col_L h.x.lv0 h.x.lv7 htr h.all i)).2
theorem SOk.eq {lv : Int} {l : List O} {t : List (List E)} (h : SOk lv l t) : sChkV lv l t = 0 := by
  obtain ⟨m, m1, m2⟩ := h.lg
  have e : logI (((t.getD 0 []).length : Nat) : Int) = (m : Int) := by rw [m2]; exact logI_pow (by omega)
  have hp := h.pos
  have e1 : (t.all fun x => decide (x.length = (t.getD 0 []).length)) = true := (all_getD [] _ t).2 fun i hi => by simpa using h.len i hi
  have e2 : t.all (allB lv) = true := (all_getD [] _ t).2 fun i hi => h.all i hi
  unfold sChkV
  rw [if_neg (by rw [h.x.eq]; simp), if_neg (by omega), if_neg (by rw [h.fit]; simp), e, if_neg (by omega), if_neg (by rw [e1]; simp), if_neg (by rw [e2]; simp)]
/-! Proving. -/
end Go.Proofs.Ytplmejnoepkdgaa.H1
namespace Go.Proofs.Ytplmejnoepkdgaa.Fld
/-! Counting. -/
def cnt (p : Nat → Bool) : Nat → Nat
  | 0 => 0
  | n + 1 => cnt p n + (p n).toNat
theorem cnt_le (p : Nat → Bool) : ∀ n, cnt p n ≤ n
  | 0 => Nat.le_refl _
  | n + 1 => by rw [cnt]; have := cnt_le p n; have := Bool.toNat_le (p n); omega
theorem cnt_congr {p q : Nat → Bool} : ∀ n, (∀ i, i < n → p i = q i) → cnt p n = cnt q n
  | 0, _ => rfl
  | n + 1, h => by rw [cnt, cnt, cnt_congr n fun i hi => h i (by omega), h n (by omega)]
theorem cnt_none {p : Nat → Bool} : ∀ n, (∀ i, i < n → p i = false) → cnt p n = 0
  | 0, _ => rfl
  | n + 1, h => by rw [cnt, cnt_none n fun i hi => h i (by omega), h n (by omega)]; rfl
theorem cnt_filter (p : Nat → Bool) : ∀ n, cnt p n = ((List.range n).filter p).length
  | 0 => rfl
  | n + 1 => by
    rw [cnt, cnt_filter p n, List.range_succ, List.filter_append, List.length_append]
    cases h : p n <;> simp [h]
theorem cnt_roots {d n : Nat} {f : F → F} (hf : PolyD d f) (hn : n ≤ 2 ^ 64) (x : F) (hx : f x ≠ 0) : cnt (fun k => decide (f (pl k) = 0)) n ≤ d := by
  have := hf.roots (places_nodup hn) x hx
  rw [List.filter_map, List.length_map] at this
  rw [cnt_filter]; exact this
def tot (f : Nat → Nat) : Nat → Nat
  | 0 => 0
  | n + 1 => tot f n + f n
theorem tot_le {f g : Nat → Nat} : ∀ n, (∀ i, i < n → f i ≤ g i) → tot f n ≤ tot g n
  | 0, _ => Nat.le_refl _
  | n + 1, h => by rw [tot, tot]; have := tot_le n fun i hi => h i (by omega); have := h n (by omega); omega
theorem tot_if (p : Nat → Bool) (a b : Nat) : ∀ n, tot (fun i => if p i = true then a else b) n ≤ cnt p n * a + n * b
  | 0 => by simp [tot, cnt]
  | n + 1 => by
    rw [tot, cnt]
    have := tot_if p a b n
    cases h : p n with
    | false => simp only [Bool.false_eq_true, if_false, Bool.toNat_false, Nat.add_zero, Nat.add_mul, Nat.one_mul]; omega
    | true => simp only [if_true, Bool.toNat_true, Nat.add_mul, Nat.one_mul]; omega
theorem cnt_add (p : Nat → Bool) (a : Nat) : ∀ b, cnt p (a + b) = cnt p a + cnt (fun i => p (a + i)) b
  | 0 => rfl
  | b + 1 => by rw [← Nat.add_assoc, cnt, cnt_add p a b, cnt, Nat.add_assoc]
theorem tot_add (f g : Nat → Nat) : ∀ n, tot (fun i => f i + g i) n = tot f n + tot g n
  | 0 => rfl
  | n + 1 => by rw [tot, tot, tot, tot_add f g n]; omega
theorem cnt_tot (p : Nat → Bool) : ∀ n, cnt p n = tot (fun i => (p i).toNat) n
  | 0 => rfl
  | n + 1 => by rw [cnt, tot, cnt_tot p n]
theorem tot_zero : ∀ n, tot (fun _ => 0) n = 0
  | 0 => rfl
  | n + 1 => by rw [tot, tot_zero n]
theorem cnt_digits (Q : Nat → Nat → Bool) {s : Nat} (hs : 0 < s) : ∀ N, cnt (fun k => Q (k % s) (k / s)) (s * N) = tot (fun x => cnt (Q x) N) s
  | 0 => by rw [Nat.mul_zero]; simp only [cnt]; rw [tot_zero]
  | N + 1 => by
    rw [Nat.mul_succ, cnt_add, cnt_digits Q hs N]
    have : cnt (fun i => Q ((s * N + i) % s) ((s * N + i) / s)) s = tot (fun x => (Q x N).toNat) s := by
      rw [cnt_tot]
      have tc : ∀ n, n ≤ s → tot (fun i => (Q ((s * N + i) % s) ((s * N + i) / s)).toNat) n = tot (fun x => (Q x N).toNat) n := fun n => by
        induction n with
        | zero => intro _; rfl
        | succ n ih =>
          intro h
          rw [tot, tot, ih (by omega), Nat.mul_add_mod, Nat.mod_eq_of_lt (by omega : n < s), Nat.mul_add_div hs, Nat.div_eq_of_lt (by omega : n < s), Nat.add_zero]
      exact tc s (Nat.le_refl _)
    rw [this, ← tot_add]
    rfl
/-! Tables' values. -/
def mle (T : Nat → F) : List F → F
  | [] => T 0
  | x :: p => mle (fun i => T (2 * i) + x * (T (2 * i) + T (2 * i + 1))) p
theorem lin_root {a b : F} (h : a ≠ 0 ∨ b ≠ 0) {n : Nat} (hn : n ≤ 2 ^ 64) : cnt (fun k => decide (a + pl k * (a + b) = 0)) n ≤ 1 := by
  have hf : PolyD 1 fun x => a + x * (a + b) := ((PolyD.const a).mono (by omega)).add ((PolyD.id.mul (PolyD.const (a + b))).mono (by omega))
  by_cases ha : a = 0
  · subst ha
    have hb : b ≠ 0 := h.resolve_left fun h => h rfl
    exact cnt_roots hf hn 1 (by rw [zero_add, zero_add, one_mul]; exact hb)
  · exact cnt_roots hf hn 0 (by rw [zero_mul, add_zero]; exact ha)
/-- The digits of a number, as places. -/
def dig (s : Nat) : Nat → Nat → List F
  | 0, _ => []
  | n + 1, m => pl (m % s) :: dig s n (m / s)
theorem mle_zeros {s : Nat} (hs : 0 < s) (hs2 : s ≤ 2 ^ 64) : ∀ (n : Nat) (T : Nat → F) (i0 : Nat), i0 < 2 ^ n → T i0 ≠ 0 → cnt (fun m => decide (mle T (dig s n m) = 0)) (s ^ n) ≤ n * s ^ (n - 1)
  | 0, T, i0, h, hT => by
    have : i0 = 0 := by omega
    subst this
    rw [cnt_none _ fun i _ => by show decide (T 0 = 0) = false; rw [decide_eq_false_iff_not]; exact hT]
    omega
  | n + 1, T, i0, h, hT => by
    have e := cnt_digits (fun x m => decide (mle (fun i => T (2 * i) + pl x * (T (2 * i) + T (2 * i + 1))) (dig s n m) = 0)) hs (s ^ n)
    have e0 : (fun m => decide (mle T (dig s (n + 1) m) = 0)) = fun k => decide (mle (fun i => T (2 * i) + pl (k % s) * (T (2 * i) + T (2 * i + 1))) (dig s n (k / s)) = 0) := rfl
    rw [e0, Nat.pow_succ, Nat.mul_comm (s ^ n) s, e]
    have hi : i0 / 2 < 2 ^ n := by rw [Nat.pow_succ] at h; omega
    have hab : T (2 * (i0 / 2)) ≠ 0 ∨ T (2 * (i0 / 2) + 1) ≠ 0 := by
      rcases (show i0 = 2 * (i0 / 2) ∨ i0 = 2 * (i0 / 2) + 1 by omega) with k | k
      · left; rw [← k]; exact hT
      · right; rw [← k]; exact hT
    have h1 := lin_root hab hs2
    refine Nat.le_trans (tot_le (g := fun x => if decide (T (2 * (i0 / 2)) + pl x * (T (2 * (i0 / 2)) + T (2 * (i0 / 2) + 1)) = 0) = true then s ^ n else n * s ^ (n - 1)) s fun x hx => ?_) ?_
    · split
      · exact cnt_le _ _
      · rename_i hne
        exact mle_zeros hs hs2 n _ (i0 / 2) hi (by simpa using hne)
    · refine Nat.le_trans (tot_if _ _ _ _) ?_
      have e3 : s * (n * s ^ (n - 1)) ≤ n * s ^ n := by
        cases n with
        | zero => simp
        | succ n => rw [Nat.add_sub_cancel, Nat.pow_succ]; exact Nat.le_of_eq (by ac_rfl)
      have e2 : cnt (fun i => decide (T (2 * (i0 / 2)) + pl i * (T (2 * (i0 / 2)) + T (2 * (i0 / 2) + 1)) = 0)) s * s ^ n ≤ 1 * s ^ n := Nat.mul_le_mul_right _ h1
      rw [Nat.add_sub_cancel, Nat.add_mul]
      omega
theorem coef_zero : ∀ (c : List F), c.length ≤ 1000 → (∀ x, ev c x = 0) → ∀ a, a ∈ c → a = 0
  | [], _, _, a, h => absurd h (by simp)
  | b :: c, hl, h, a, ha => by
    have hb : b = 0 := by have := h 0; rwa [ev, zero_mul, add_zero] at this
    have h1 : ∀ x, x ≠ 0 → ev c x = 0 := fun x hx => by
      have := h x
      rw [ev, hb, zero_add] at this
      exact (mul_eq_zero this).resolve_left hx
    have hc : ∀ x, ev c x = 0 := roots_zero (((List.range 1001).map pl).filter fun x => decide (x ≠ 0)) c (filter_nodup _ (places_nodup (by decide))) (by
      simp only [List.length_cons] at hl
      have hlen : 1000 ≤ (((List.range 1001).map pl).filter fun x => decide (x ≠ 0)).length := by
        have e : (List.range 1001).map pl = pl 0 :: ((List.range 1000).map fun i => pl (i + 1)) := by
          rw [List.range_succ_eq_map, List.map_cons, List.map_map]; rfl
        rw [e, List.filter_cons]
        have e2 : ((List.range 1000).map fun i => pl (i + 1)).filter (fun x => decide (x ≠ 0)) = (List.range 1000).map fun i => pl (i + 1) := by
          rw [List.filter_eq_self]
          intro x hx
          obtain ⟨i, hi, rfl⟩ := List.mem_map.1 hx
          rw [List.mem_range] at hi
          rw [decide_eq_true_eq]
          intro e
          have := congrArg F.n e
          rw [pl_n (by omega)] at this
          cases this
        rw [e2]
        split
        · simp
        · simp
      omega) (fun x hx => h1 x (by simpa using (List.mem_filter.1 hx).2))
    rcases List.mem_cons.1 ha with e | e
    · rw [e]; exact hb
    · exact coef_zero c (by simp only [List.length_cons] at hl; omega) hc a e
end Go.Proofs.Ytplmejnoepkdgaa.Fld
namespace Go.Proofs.Ytplmejnoepkdgaa.H1
open Go Go.Proofs.Ytplmejnoepkdgaa.Rf
/-! SumcheckCounts. -/
def sizeN (lv : Int) : Nat := if lv = 0 then 2 else 4
theorem size_plc {lv : Int} (h0 : 0 ≤ lv) (h1 : lv ≤ 1) {i : Nat} (hi : i < sizeN lv) : inL lv (plc i) := by
  rcases (show lv = 0 ∨ lv = 1 by omega) with rfl | rfl
  · exact ⟨plc_rng (by unfold sizeN at hi; simp at hi; omega), (plc_of (l := 0) (by omega) (by unfold sizeN at hi; simp at hi; omega)).2 (by unfold sizeN at hi; simpa using hi)⟩
  · exact ⟨plc_rng (by unfold sizeN at hi; simp at hi; omega), (plc_of (l := 1) (by omega) (by unfold sizeN at hi; simp at hi; omega)).2 (by unfold sizeN at hi; simpa using hi)⟩
theorem size_at {lv : Int} (h0 : 0 ≤ lv) (h1 : lv ≤ 1) : ([2, 4] : List Int).getD lv.toNat 0 = ((sizeN lv : Nat) : Int) := by
  rcases (show lv = 0 ∨ lv = 1 by omega) with rfl | rfl <;> rfl
theorem size_le (lv : Int) : sizeN lv ≤ 4 ∧ 2 ≤ sizeN lv := by unfold sizeN; split <;> omega
end Go.Proofs.Ytplmejnoepkdgaa.H1
namespace Go.Proofs.Ytplmejnoepkdgaa.H1
open Go Go.Proofs.Ytplmejnoepkdgaa.Rf
/-! ZeroCounts. -/
theorem wgtN_rng {p : List E} (hp : allR p) : ∀ k i, rngE (wgtN p k i)
  | 0, i => rng_one
  | k + 1, i => Pr_rng (wgtN_rng hp k i) (by split; exact hp k; exact Av_rng _ _)
theorem wgtN_cons {x : E} {p : List E} (hx : rngE x) (hp : allR p) : ∀ k i, wgtN (x :: p) (k + 1) i = Pr (if i % 2 = 1 then x else Av one x) (wgtN p k (i / 2))
  | 0, i => by
    have rx : rngE (if i % 2 = 1 then x else Av one x) := by split; exact hx; exact Av_rng _ _
    rw [wgtN, wgtN, wgtN, Pr_oner rx]
    simp only [Nat.pow_zero, Nat.div_one]
    exact Pr_one rx
  | k + 1, i => by
    have rx : rngE (if i % 2 = 1 then x else Av one x) := by split; exact hx; exact Av_rng _ _
    have ry : rngE (if i / 2 ^ (k + 1) % 2 = 1 then p.getD k z else Av one (p.getD k z)) := by split; exact hp k; exact Av_rng _ _
    rw [wgtN, wgtN_cons hx hp k i, wgtN]
    have e : i / 2 / 2 ^ k = i / 2 ^ (k + 1) := by rw [Nat.div_div_eq_div_mul, Nat.pow_succ, Nat.mul_comm]
    rw [e, ← Pr_assoc rx (wgtN_rng hp k _) ry]; rfl
theorem fold_mle : ∀ (p : List E) (g : Nat → E), allR p → (∀ i, rngE (g i)) → fold (fun i => Pr (wgtN p p.length i) (g i)) (2 ^ p.length) = ofF (Fld.mle (fun i => toF (g i)) (p.map toF))
  | [], g, _, hg => by
    show Av z (Pr one (g 0)) = ofF (toF (g 0))
    rw [Pr_one (hg 0), Av_zl (hg 0), ofF_toF (hg 0)]
  | x :: p, g, hp, hg => by
    have hx : rngE x := hp 0
    have hp' : allR p := fun j => hp (j + 1)
    have ih := fold_mle p (fun i => Av (g (2 * i)) (Pr x (Av (g (2 * i)) (g (2 * i + 1))))) hp' (fun i => Av_rng _ _)
    have e1 : (fun i => toF (Av (g (2 * i)) (Pr x (Av (g (2 * i)) (g (2 * i + 1)))))) = fun i => toF (g (2 * i)) + toF x * (toF (g (2 * i)) + toF (g (2 * i + 1))) := by
      funext i
      rw [toF_Av (hg _) (Pr_rng hx (Av_rng _ _)), toF_Pr hx (Av_rng _ _), toF_Av (hg _) (hg _)]
    rw [e1] at ih
    show _ = ofF (Fld.mle (fun i => toF (g (2 * i)) + toF x * (toF (g (2 * i)) + toF (g (2 * i + 1)))) (p.map toF))
    rw [← ih]
    have W : ∀ i, rngE (wgtN p p.length i) := wgtN_rng hp' p.length
    rw [fold_toF (f := fun i => Pr (wgtN (x :: p) (x :: p).length i) (g i)) fun i _ => Pr_rng (wgtN_rng hp _ _) (hg i), fold_toF (f := fun i => Pr (wgtN p p.length i) _) fun i _ => Pr_rng (W i) (Av_rng _ _)]
    rw [List.length_cons, show 2 ^ (p.length + 1) = 2 * 2 ^ p.length by rw [Nat.pow_succ]; omega, Fld.sm_two, ← Fld.sm_add]
    congr 1
    refine Fld.sm_congr _ fun i hi => ?_
    rw [wgtN_cons hx hp', wgtN_cons hx hp', show 2 * i / 2 = i by omega, show (2 * i + 1) / 2 = i by omega, if_neg (by omega), if_pos (by omega)]
    rw [toF_Pr (Pr_rng (Av_rng _ _) (W i)) (hg _), toF_Pr (Av_rng _ _) (W i), toF_Av rng_one hx, toF_Pr (Pr_rng hx (W i)) (hg _), toF_Pr hx (W i), toF_Pr (W i) (Av_rng _ _), toF_Av (hg _) (Pr_rng hx (Av_rng _ _)), toF_Pr hx (Av_rng _ _), toF_Av (hg _) (hg _), toF_one]
    generalize toF (wgtN p p.length i) = w
    generalize toF x = y
    generalize toF (g (2 * i)) = a
    generalize toF (g (2 * i + 1)) = b
    simp only [Fld.mul_add, Fld.add_mul, Fld.one_mul]
    rw [show y * w * a = w * (y * a) by ac_rfl, show y * w * b = w * (y * b) by ac_rfl]
    ac_rfl
/-- A condition's values, as coefficients. -/
theorem mixed_poly {c : List (List O)} {v : List E} (hr : ∀ j, j < c.length → rngE (evP (c.getD j []) v)) : ∃ f, Fld.PolyD (c.length - 1) f ∧ (∀ x, mixedP c v (ofF x) = ofF (f x)) ∧ ((∃ j, j < c.length ∧ evP (c.getD j []) v ≠ z) → c.length ≤ 1000 → ∃ x, f x ≠ 0) := by
  obtain ⟨cs, ecs⟩ : ∃ cs : List Fld.F, cs = (List.range c.length).map fun j => toF (evP (c.getD j []) v) := ⟨_, rfl⟩
  have pwF : ∀ x j, pw (ofF x) j = ofF (Nat.rec 1 (fun _ s => s * x) j) := fun x j => by
    induction j with
    | zero => exact ofF_one.symm
    | succ j ih => rw [pw, ih, ofF_mul]
  have evs : ∀ (x : Fld.F) (n : Nat) (g : Nat → Fld.F) (s : Fld.F), Fld.sm (fun j => (Nat.rec s (fun _ s => s * x) j : Fld.F) * g j) n = s * Fld.ev ((List.range n).map g) x := fun x n => by
    induction n with
    | zero => intro g s; exact (Fld.mul_zero s).symm
    | succ n ih =>
      intro g s
      have hd : ∀ n (h : Nat → Fld.F), Fld.sm h (n + 1) = h 0 + Fld.sm (fun i => h (i + 1)) n := fun n => by
        induction n with
        | zero => intro h; simp only [Fld.sm]; rw [Fld.zero_add, Fld.add_zero]
        | succ n ih => intro h; rw [Fld.sm, ih h, Fld.sm, Fld.add_assoc]
      rw [hd, List.range_succ_eq_map, List.map_cons, List.map_map, Fld.ev]
      have := ih (fun i => g (i + 1)) (s * x)
      have e : ∀ j, (Nat.rec (s * x) (fun _ s => s * x) j : Fld.F) = Nat.rec s (fun _ s => s * x) (j + 1) := fun j => by
        induction j with
        | zero => rfl
        | succ j ih => show (_ * x : Fld.F) = _ * x; rw [ih]
      rw [Fld.sm_congr n (g := fun j => (Nat.rec (s * x) (fun _ s => s * x) j : Fld.F) * g (j + 1)) fun i _ => by rw [e], this, Fld.mul_add, Fld.mul_assoc]
      rfl
  have val : ∀ x, mixedP c v (ofF x) = ofF (Fld.ev cs x) := fun x => by
    unfold mixedP
    rw [fold_F (g := fun j => (Nat.rec 1 (fun _ s => s * x) j : Fld.F) * toF (evP (c.getD j []) v)) _ fun j hj => by rw [pwF, ofF_mul, ofF_toF (hr j hj)], evs, Fld.one_mul, ecs]
  have hcl : cs.length = c.length := by rw [ecs]; simp
  refine ⟨Fld.ev cs, ⟨cs, by omega, fun x => rfl⟩, val, fun ⟨j, hj, hne⟩ h1000 => Classical.byContradiction fun hno => ?_⟩
  have hz : ∀ x, Fld.ev cs x = 0 := fun x => Classical.byContradiction fun h => hno ⟨x, h⟩
  have := Fld.coef_zero cs (by omega) hz (toF (evP (c.getD j []) v)) (by rw [ecs]; exact List.mem_map.2 ⟨j, List.mem_range.2 hj, rfl⟩)
  apply hne
  rw [← ofF_toF (hr j hj), this, ofF_zero]
theorem dig_len (s : Nat) : ∀ n m, (Fld.dig s n m).length = n
  | 0, m => rfl
  | n + 1, m => by rw [Fld.dig, List.length_cons, dig_len s n]
def digE (s n m : Nat) : List E := (Fld.dig s n m).map ofF
theorem digE_len (s n m : Nat) : (digE s n m).length = n := by rw [digE, List.length_map, dig_len]
theorem digE_rng (s n m : Nat) : allR (digE s n m) := fun j => by
  by_cases h : j < (Fld.dig s n m).length
  · rw [digE, getD_map (d := 0) h]; exact ofF_rng _
  · rw [getD_none (by rw [digE, List.length_map]; omega)]; exact rngE_z
theorem digE_toF (s n m : Nat) : (digE s n m).map toF = Fld.dig s n m := by
  rw [digE, List.map_map]
  have : (toF ∘ ofF) = id := by funext x; exact toF_ofF x
  rw [this, List.map_id]
theorem dig_snoc (s : Nat) : ∀ n m, Fld.dig s (n + 1) m = Fld.dig s n m ++ [Fld.pl (m / s ^ n % s)]
  | 0, m => by simp [Fld.dig]
  | n + 1, m => by
    rw [Fld.dig, dig_snoc s n (m / s), Fld.dig, Nat.div_div_eq_div_mul, Nat.pow_succ, Nat.mul_comm s]; rfl
theorem zSumV_val {lv : Int} {c : List (List O)} {t : List (List E)} {a : E} {p : List E} (h : (zSumV lv c t a p).2 = 0) : (zSumV lv c t a p).1 = zsP c t a p := by
  unfold zSumV at h ⊢
  by_cases h1 : askV lv c t = 0
  · rw [if_pos h1] at h ⊢
    by_cases h2 : mixE lv t.length c a = 0
    · rw [if_pos h2] at h ⊢
      by_cases h3 : (p.length : Int) = logI (t.getD 0 []).length
      · rw [if_pos h3] at h ⊢
        by_cases h4 : allB lv p = true
        · rw [if_pos h4] at h ⊢
          by_cases h5 : sChkV lv (stepsP t.length c a) (t ++ [wgts p]) = 0
          · rw [if_pos h5]
          · rw [if_neg h5] at h; exact absurd h h5
        · rw [if_neg h4] at h; exact absurd (show (5 : Int) = 0 from h) (by decide)
      · rw [if_neg h3] at h; exact absurd (show (6 : Int) = 0 from h) (by decide)
    · rw [if_neg h2] at h; exact absurd h h2
  · rw [if_neg h1] at h; exact absurd h h1
theorem wnat {n : Nat} (h : n ≤ 1000000000) : w64 (n : Int) = (n : Int) := w64_in (by omega) (by omega)
theorem zeroCounts_T (lv : Int) (x : List (List O) × List (List E) × Unit) (hx : okD TCase21 x) : T (fun k => steeplelaw21_ZeroCounts.f k lv x) (fun b => b = true) := by
  have hr : ∀ j, cR (x.1.getD j []) := okOss hx.1
  have hrt : allRR x.2.1 := okTs hx.2.1
  have aw : T (fun k => (steeplelaw21_awake.f k).bind fun t => some t) (fun b => b = true) := T.bind awake_T fun a ha => T.pure ha
  refine T.eq (steeplelaw21_ZeroCounts.f_eq · lv x) (T.bind (few21_T x) fun b hb => T.ite (fun _ => aw) fun h1 => T.ite (fun _ => aw) fun h2 => T.ite (fun _ => aw) fun h3 => T.bind (few9_X x.2.1 (by decide) (by decide) (by decide)) fun b' hb' => T.ite (fun _ => aw) fun h4 => ?_)
  obtain ⟨hc, h5, h16⟩ := hb (by simpa using h1)
  obtain ⟨_, h4l⟩ := hb' (by simpa using h4)
  have h2 := of_decide_eq_false h2
  have h3 := of_decide_eq_false h3
  have l0 : 0 ≤ lv := by omega
  have l1 : lv ≤ 1 := by omega
  have h50 := hc.1
  have ht : fewT x.2.1 := ⟨by omega, fun i => by have := h16 i; omega⟩
  refine T.bind (Holds_X lv x.1 x.2.1 hc ht hr hrt) fun h hh => T.ite (fun _ => aw) fun g1 => T.ite (fun _ => aw) fun g2 => ?_
  obtain ⟨hh1, hh2⟩ := hh
  have h0 : askV lv x.1 x.2.1 = 0 := by rw [← hh1]; simpa using g1
  have hno : ¬ holdsP x.1 x.2.1 := fun h' => by rw [hh2.2 ⟨h0, h'⟩] at g2; cases g2
  obtain ⟨hcp, hS⟩ := askV_ok h0
  have S0 := hS 0 hcp
  obtain ⟨m, m12, hm⟩ := S0.lg
  have hm2 : m ≤ 2 := by
    have := h4l 0
    rw [hm] at this
    rcases Nat.lt_or_ge m 3 with h | h
    · omega
    · have : 2 ^ 3 ≤ 2 ^ m := Nat.pow_le_pow_right (by decide) h
      omega
  have hsz := size_le lv
  have ein : inB lv ([2, 4] : List Int).length = true := inB_int l0 (by show lv < 2; omega)
  rw [size_at l0 l1]
  obtain ⟨s, es⟩ : ∃ s, s = sizeN lv := ⟨_, rfl⟩
  have hpl : ∀ {i}, i < s → inL lv (plc i) := fun hi => size_plc l0 l1 (by rw [← es]; exact hi)
  rw [← es] at hsz ⊢
  have hsm : s ^ m ≤ 16 := by
    have : s ^ m ≤ 4 ^ m := Nat.pow_le_pow_left hsz.1 m
    have : (4 : Nat) ^ m ≤ 4 ^ 2 := Nat.pow_le_pow_right (by decide) hm2
    omega
  have hs0 : 0 < s := by omega
  have hsp : 0 < s ^ m := Nat.pow_pos hs0
  have zs : ((s : Int) == 0) = false := by simp; omega
  refine T.yes ein ?_
  -- the number of variables
  refine T.loop0 (σ := Unit) (f := fun k _ i => steeplelaw21_ZeroCounts.l508 k lv x (s : Int) i) m (fun _ _ => True) () trivial fun _ i hi _ ih => ?_
  refine T.eq (steeplelaw21_ZeroCounts.l508_eq · lv x _ _) (T.yes (inB_nat (i := 0) S0.pos) ?_)
  rw [wu_in (by omega) (by omega), shl_i (by omega)]
  refine T.no (nn i) (T.ite (fun hlt => ?_) (fun hge => ?_))
  · rw [inc (by omega)]
    refine ih () ?_ trivial
    have hlt : ((2 ^ i : Nat) : Int) < ((x.2.1.getD 0 []).length : Int) := of_decide_eq_true hlt
    rcases Nat.lt_or_ge i m with h | h
    · exact h
    · have : i = m := by omega
      subst this; omega
  have him : i = m := by
    have hge : ¬ ((2 ^ i : Nat) : Int) < ((x.2.1.getD 0 []).length : Int) := of_decide_eq_false hge
    rcases Nat.lt_or_ge i m with h | h
    · have : 2 ^ i < 2 ^ m := Nat.pow_lt_pow_right (by decide) h
      omega
    · omega
  subst him
  -- how many there are
  refine T.loop0 (f := fun k q j => steeplelaw21_ZeroCounts.l4090 k lv x (s : Int) (i : Int) q 0 j) i (fun q j => q = ((s ^ (j + 1) : Nat) : Int)) (s : Int) (by simp) fun q j hj hJ ihj => ?_
  subst hJ
  have hsj : s ^ (j + 1) ≤ 64 := by
    have h1 : s ^ j ≤ s ^ i := Nat.pow_le_pow_right hs0 hj
    rw [Nat.pow_succ]
    exact Nat.mul_le_mul (Nat.le_trans h1 hsm) hsz.1
  refine T.eq (steeplelaw21_ZeroCounts.l4090_eq · lv x _ _ _ _ _) (T.ite (fun hlt => ?_) (fun hge => ?_))
  · have hlt := lt_dec hlt
    have hb : s ^ (j + 1) * s ≤ 64 * 4 := Nat.mul_le_mul hsj hsz.1
    have e : ((s ^ (j + 1) : Nat) : Int) * (s : Int) = ((s ^ (j + 1) * s : Nat) : Int) := by rw [Int.natCast_mul]
    rw [e, w64_in (by omega) (by omega), inc (by omega)]
    exact ihj _ hlt (by rw [Nat.pow_succ s (j + 1)])
  have hji : j = i := Nat.le_antisymm hj (nlt_dec hge)
  subst hji
  clear ihj ih
  obtain ⟨N, eN⟩ : ∃ N, N = s ^ (j + 1) := ⟨_, rfl⟩
  rw [← eN] at hsj ⊢
  have eN2 : N = s * s ^ j := by rw [eN, Nat.pow_succ, Nat.mul_comm]
  -- what is counted
  obtain ⟨B, eB⟩ : ∃ B : Nat → Bool, B = fun k => decide (zsP x.1 x.2.1 (plc (k % s)) (digE s j (k / s)) = z) := ⟨_, rfl⟩
  have hB : ∀ k, B k = decide (zsP x.1 x.2.1 (plc (k % s)) (digE s j (k / s)) = z) := fun k => by rw [eB]
  have few : Fld.cnt B N ≤ (x.1.length - 1 + j) * s ^ j := by
    have hv : ∀ i q, q < x.1.length → rngE (evP (x.1.getD q []) (col x.2.1 i)) := fun i q hq => ((hS q hq).ev (hr q) hrt i).1
    have sk : ∀ i, ∃ f, Fld.PolyD (x.1.length - 1) f ∧ (∀ a, mixedP x.1 (col x.2.1 i) (ofF a) = ofF (f a)) ∧ ((∃ q, q < x.1.length ∧ evP (x.1.getD q []) (col x.2.1 i) ≠ z) → x.1.length ≤ 1000 → ∃ a, f a ≠ 0) := fun i => mixed_poly (hv i)
    obtain ⟨M, hM⟩ := Classical.skolem.1 sk
    have hbad : ∃ i0, i0 < 2 ^ j ∧ ∃ q, q < x.1.length ∧ evP (x.1.getD q []) (col x.2.1 i0) ≠ z := by
      refine Classical.byContradiction fun hall => hno fun i hi q hq => Classical.byContradiction fun hne => hall ⟨i, by rw [← hm]; exact hi, q, hq, hne⟩
    obtain ⟨i0, hi0, hq0⟩ := hbad
    obtain ⟨P0, _, P2⟩ := hM i0
    obtain ⟨a0, ha0⟩ := P2 hq0 (by omega)
    have hroots := Fld.cnt_roots P0 (n := s) (by omega) a0 ha0
    have eB2 : ∀ k, k < N → B k = (fun k => (fun (a m : Nat) => decide (Fld.mle (fun i => M i (Fld.pl a)) (Fld.dig s j m) = 0)) (k % s) (k / s)) k := fun k hk => by
      rw [hB]
      dsimp only
      have hks : k % s < s := Nat.mod_lt _ hs0
      have e1 : zsP x.1 x.2.1 (plc (k % s)) (digE s j (k / s)) = ofF (Fld.mle (fun i => M i (Fld.pl (k % s))) (Fld.dig s j (k / s))) := by
        unfold zsP
        have hl := digE_len s j (k / s)
        have := fold_mle (digE s j (k / s)) (fun i => mixedP x.1 (col x.2.1 i) (plc (k % s))) (digE_rng _ _ _) (fun i => fold_rng _)
        rw [hm, show 2 ^ j = 2 ^ (digE s j (k / s)).length by rw [hl], this, digE_toF]
        congr 2
        funext i
        rw [← ofF_pl (by omega), (hM i).2.1, toF_ofF]
      rw [e1, Bool.eq_iff_iff, decide_eq_true_eq, decide_eq_true_eq]
      exact ⟨fun h => ofF_inj (h.trans ofF_zero.symm), fun h => by rw [h, ofF_zero]⟩
    have ecd := Fld.cnt_digits (fun (a m : Nat) => decide (Fld.mle (fun i => M i (Fld.pl a)) (Fld.dig s j m) = 0)) hs0 (s ^ j)
    rw [Fld.cnt_congr N eB2, eN2]
    refine Nat.le_trans (Nat.le_of_eq ecd) ?_
    refine Nat.le_trans (Fld.tot_le (g := fun a => if decide (M i0 (Fld.pl a) = 0) = true then s ^ j else j * s ^ (j - 1)) s fun a ha => ?_) ?_
    · split
      · exact Fld.cnt_le _ _
      · rename_i hne
        exact Fld.mle_zeros hs0 (by omega) j (fun i => M i (Fld.pl a)) i0 hi0 (by simpa using hne)
    · refine Nat.le_trans (Fld.tot_if _ _ _ _) ?_
      have e1 : Fld.cnt (fun i => decide (M i0 (Fld.pl i) = 0)) s * s ^ j ≤ (x.1.length - 1) * s ^ j := Nat.mul_le_mul_right _ hroots
      have e2 : s * (j * s ^ (j - 1)) ≤ j * s ^ j := by
        cases j with
        | zero => simp
        | succ j => rw [Nat.add_sub_cancel, Nat.pow_succ]; exact Nat.le_of_eq (by ac_rfl)
      rw [Nat.add_mul]; omega
  -- the count
  refine T.loop0 (f := fun k q i => steeplelaw21_ZeroCounts.l8186 k lv x (s : Int) (j : Int) (N : Int) q i) N (fun q i => q = ((Fld.cnt B i : Nat) : Int)) 0 rfl fun q i hi hI ih => ?_
  subst hI
  have cl := Fld.cnt_le B i
  refine T.eq (steeplelaw21_ZeroCounts.l8186_eq · lv x _ _ _ _ _) (T.ite (fun hlt => ?_) (fun hge => ?_))
  · have hlt := lt_dec hlt
    refine T.no zs (T.no zs ?_)
    have hmod : i % s < s := Nat.mod_lt _ hs0
    have et : wu64 (Int.tmod (i : Int) (s : Int)) = ((i % s : Nat) : Int) := by
      show wu64 ((i % s : Nat) : Int) = _
      exact wu_in (by omega) (by omega)
    have ed : w64 (Int.tdiv (i : Int) (s : Int)) = ((i / s : Nat) : Int) := by
      show w64 ((i / s : Nat) : Int) = _
      have : i / s ≤ i := Nat.div_le_self _ _
      exact wnat (by omega)
    rw [et, ed]
    refine T.loop0 (σ := List E × Int) (f := fun k q d => steeplelaw21_ZeroCounts.l8382778 k lv x (s : Int) (j : Int) (N : Int) ((Fld.cnt B i : Nat) : Int) (i : Int) (plc (i % s)) q.1 q.2 d) j (fun q d => q = (digE s d (i / s), ((i / s / s ^ d : Nat) : Int))) ([], ((i / s : Nat) : Int)) (by simp [digE, Fld.dig]) fun q d hd hq ih2 => ?_
    subst hq
    dsimp only
    refine T.eq (steeplelaw21_ZeroCounts.l8382778_eq · lv x _ _ _ _ _ _ _ _ _) (T.ite (fun hlt2 => ?_) (fun hge => ?_))
    · have hlt2 := lt_dec hlt2
      obtain ⟨u, eu⟩ : ∃ u, u = i / s / s ^ d := ⟨_, rfl⟩
      have hu : u ≤ i := by rw [eu]; exact Nat.le_trans (Nat.div_le_self _ _) (Nat.div_le_self _ _)
      have hus : u % s < s := Nat.mod_lt _ hs0
      rw [← eu]
      have et : wu64 (Int.tmod (u : Int) (s : Int)) = ((u % s : Nat) : Int) := by
        show wu64 ((u % s : Nat) : Int) = _
        exact wu_in (by omega) (by omega)
      have ed : w64 (Int.tdiv (u : Int) (s : Int)) = ((u / s : Nat) : Int) := by
        show w64 ((u / s : Nat) : Int) = _
        have : u / s ≤ u := Nat.div_le_self _ _
        exact wnat (by omega)
      rw [et, ed]
      refine T.no zs (T.yes (room_ok (by rw [digE_len]; simp only [List.length_singleton]; omega)) (T.no zs ?_))
      rw [inc (by omega)]
      refine ih2 (_, _) hlt2 ?_
      have e1 : digE s (d + 1) (i / s) = digE s d (i / s) ++ [((0 : Int), ((u % s : Nat) : Int), ())] := by
        rw [digE, dig_snoc, List.map_append, ← eu]
        show _ ++ [ofF (Fld.pl (u % s))] = _
        rw [ofF_pl (by omega)]; rfl
      rw [e1, eu, Nat.pow_succ, Nat.div_div_eq_div_mul (i / s) (s ^ d) s]
    · have e : d = j := Nat.le_antisymm hd (nlt_dec hge)
      subst e
      refine T.bind (zSum_X lv x.1 x.2.1 (plc (i % s)) (digE s d (i / s)) hc ht (by rw [digE_len]; omega) (by omega) hr hrt (hpl hmod).1 (digE_rng _ _ _)) fun v hv => T.ite (fun _ => aw) fun hz => ?_
      have hz : v.2 = 0 := by simpa using hz
      have hval : v.1 = zsP x.1 x.2.1 (plc (i % s)) (digE s d (i / s)) := by
        rw [hv] at hz ⊢; exact zSumV_val hz
      have hE : ((v.1.1 == 0) && (v.1.2.1 == 0)) = B i := by
        rw [hB, ← hval]; exact eqE v.1 z
      rw [hE]
      refine T.ite (fun hb => ?_) (fun hb => ?_)
      · rw [w64_in (by omega) (by omega), inc (by omega)]
        exact ih _ hlt (by rw [Fld.cnt, hb]; rfl)
      · rw [inc (by omega)]
        exact ih _ hlt (by rw [Fld.cnt, hb]; rfl)
  · have e : i = N := Nat.le_antisymm hi (nlt_dec hge)
    subst e
    refine T.bind awake_T fun a ha => T.yes ha (T.no zs (T.pure ?_))
    have ed : w64 (Int.tdiv (i : Int) (s : Int)) = ((s ^ j : Nat) : Int) := by
      show w64 ((i / s : Nat) : Int) = _
      rw [eN2, Nat.mul_div_cancel_left _ hs0]
      exact wnat (by omega)
    have hb : (x.1.length - 1 + j) * s ^ j ≤ (50 + 2) * 16 := Nat.mul_le_mul (by omega) hsm
    have e1 : w64 ((x.1.length : Int) - 1) = ((x.1.length - 1 : Nat) : Int) := by rw [w64_in (by omega) (by omega)]; omega
    have e2 : w64 (((x.1.length - 1 : Nat) : Int) + (j : Int)) = ((x.1.length - 1 + j : Nat) : Int) := by rw [w64_in (by omega) (by omega)]; omega
    have e3 : ((x.1.length - 1 + j : Nat) : Int) * ((s ^ j : Nat) : Int) = (((x.1.length - 1 + j) * s ^ j : Nat) : Int) := by rw [Int.natCast_mul]
    rw [ed, e1, e2, e3, w64_in (by omega) (by omega), decide_eq_true_eq]
    omega
end Go.Proofs.Ytplmejnoepkdgaa.H1
