/- A walk by reckoning: what a Go function comes to, reckoned out of its operations, and why that is so. -/
import Derived.Test.YtplmejnoepkdgaaSumcheckProvesH
import Derived.Test.YtplmejnoepkdgaaRf4
import Derived.Test.YtplmejnoepkdgaaSumcheckProvesP0
set_option linter.unusedVariables false
set_option linter.unusedSimpArgs false
namespace Go.Proofs.Ytplmejnoepkdgaa.H1
open Go Go.Proofs.Ytplmejnoepkdgaa.Rf
/-! Elements, as a field has them. -/
def toF (x : E) : Fld.F := ⟨nat x % 2 ^ 2 ^ 7, Nat.mod_lt _ (Nat.two_pow_pos _)⟩
def ofF (a : Fld.F) : E := mk a.n
theorem toF_n {x : E} (h : rngE x) : (toF x).n = nat x := Nat.mod_eq_of_lt (nat_lt h)
theorem ofF_toF {x : E} (h : rngE x) : ofF (toF x) = x := by unfold ofF; rw [toF_n h, mk_nat h]
theorem ofF_rng (a : Fld.F) : rngE (ofF a) := mk_rng a.lt
theorem nat_ofF (a : Fld.F) : nat (ofF a) = a.n := nat_mk _
theorem toF_ofF (a : Fld.F) : toF (ofF a) = a := Fld.F.ext' (by rw [toF_n (ofF_rng a), nat_ofF])
theorem ofF_add (a b : Fld.F) : ofF (a + b) = Av (ofF a) (ofF b) := mk_xor a.lt b.lt
theorem ofF_mul (a b : Fld.F) : ofF (a * b) = Pr (ofF a) (ofF b) := by unfold Pr; rw [nat_ofF, nat_ofF]; rfl
theorem ofF_zero : ofF 0 = z := by decide
theorem ofF_one : ofF 1 = one := by decide
theorem ofF_pl {i : Nat} (h : i < 2 ^ 64) : ofF (Fld.pl i) = plc i := by
  have := mk_nat (plc_rng h)
  rw [nat_plc] at this
  rw [← this]; unfold ofF; rw [Fld.pl_n h]
/-- An inverse. -/
def Iv (x : E) : E := ofF (Fld.inv (toF x))
theorem inL_Iv {lv : Int} {x : E} (h : inL lv x) : inL lv (Iv x) := by
  obtain ⟨l, rfl, hl⟩ := inL_lv h
  rw [inL_iff hl] at h ⊢
  refine ⟨ofF_rng _, ?_⟩
  unfold Iv
  rw [nat_ofF]
  show Tow.inv 7 (toF x).n < _
  rw [toF_n h.1, Tow.inv_up hl h.2]
  exact Tow.inv_lt l _ h.2
theorem square_N : ∀ (l : Nat), l ≤ 6 → ∀ a : Nat, a < 2 ^ 2 ^ l → T (fun k => tower_square.f k (l : Int) (a : Int)) (fun r => r = ((Tow.mul l a a : Nat) : Int))
  | 0, h, a, ha => T.eq (tower_square.f_eq · _ _) (T.yes (by simp) (T.pure (by
      have : a = 0 ∨ a = 1 := by have : (2:Nat) ^ 2 ^ 0 = 2 := rfl; omega
      rcases this with rfl | rfl <;> rfl)))
  | l + 1, h, a, ha => by
    refine T.eq (tower_square.f_eq · _ _) (T.no (by simp; omega) (T.bind (halves_N (by omega) (lt64 h ha)) fun r hr => ?_))
    subst hr
    have ha' := ha
    rw [Tow.two_two] at ha
    have h1 := Tow.hi_lt ha
    have h2 := Tow.lo_lt (2 ^ l) a
    have L : ∀ {x}, x < 2 ^ 2 ^ l → x < 2 ^ 64 := lt64 (by omega)
    rw [lev (by omega)]
    have g1 := Tow.mul_lt l _ _ h1 h1
    have g2 := Tow.mul_lt l _ _ h2 h2
    refine T.bind (square_N l (by omega) _ h1) fun s hs => ?_
    subst hs
    refine T.bind (mulX_N l (by omega) _ g1) fun t ht => T.bind (square_N l (by omega) _ h2) fun u hu => ?_
    subst ht hu
    rw [xor_nat (L g2) (L g1)]
    refine T.bind (join_N (by omega) (Tow.mulX_lt l _ g1) (Nat.xor_lt_two_pow g2 g1)) fun q hq => T.pure ?_
    rw [hq]
    conv => rhs; rw [Tow.halves (2 ^ l) a, Tow.sq_cat h2]
theorem inv_N : ∀ (l : Nat), l ≤ 6 → ∀ a : Nat, a < 2 ^ 2 ^ l → T (fun k => tower_inv.f k (l : Int) (a : Int)) (fun r => r = ((Tow.inv l a : Nat) : Int))
  | 0, h, a, ha => T.eq (tower_inv.f_eq · _ _) (T.yes (by simp) (T.pure rfl))
  | l + 1, h, a, ha => by
    refine T.eq (tower_inv.f_eq · _ _) (T.no (by simp; omega) (T.bind (halves_N (by omega) (lt64 h ha)) fun r hr => ?_))
    subst hr
    rw [Tow.two_two] at ha
    have h1 := Tow.hi_lt ha
    have h2 := Tow.lo_lt (2 ^ l) a
    have L : ∀ {x}, x < 2 ^ 2 ^ l → x < 2 ^ 64 := lt64 (by omega)
    rw [lev (by omega)]
    have M := Tow.mul_lt l
    refine T.bind (mulX_N l (by omega) _ h1) fun x hx => ?_
    subst hx
    have h3 := Tow.mulX_lt l _ h1
    have h4 := Nat.xor_lt_two_pow h2 h3
    rw [xor_nat (L h2) (L h3)]
    refine T.bind (mul_N l (by omega) _ _ h2 h4) fun p hp => T.bind (square_N l (by omega) _ h1) fun s hs => ?_
    subst hp hs
    have h5 := Nat.xor_lt_two_pow (M _ _ h2 h4) (M _ _ h1 h1)
    rw [xor_nat (L (M _ _ h2 h4)) (L (M _ _ h1 h1))]
    refine T.bind (inv_N l (by omega) _ h5) fun n hn => ?_
    subst hn
    have h6 := Tow.inv_lt l _ h5
    refine T.bind (mul_N l (by omega) _ _ h1 h6) fun u hu => T.bind (mul_N l (by omega) _ _ h4 h6) fun v hv => ?_
    subst hu hv
    exact T.bind (join_N (by omega) (M _ _ h1 h6) (M _ _ h4 h6)) fun q hq => T.pure hq
theorem mk_low {n : Nat} (h : n < 2 ^ 64) : mk n = (0, (n : Int), ()) := by
  have := mk_cat (a := 0) (b := n) (by decide) h
  simpa using this
theorem Inv_X {lv : Int} {x : E} (hx : inL lv x) : T (fun k => tower_Inv.f k lv x) (fun r => r = Iv x) := by
  obtain ⟨l, rfl, hl⟩ := inL_lv hx
  have hx2 := (inL_iff hl).1 hx
  have e7 : Iv x = mk (Tow.inv l (nat x)) := by
    unfold Iv ofF
    show mk (Tow.inv 7 (toF x).n) = _
    rw [toF_n hx.1, Tow.inv_up hl hx2.2]
  rw [e7]
  refine T.eq (tower_Inv.f_eq · _ x) (T.bind (of_T _ x) fun b hb => T.no (by rw [hb, hx.2]; rfl) ?_)
  obtain ⟨x1, x2, ⟨⟩⟩ := x
  obtain ⟨x1, rfl, h1⟩ := rng_nat hx.1.1
  obtain ⟨x2, rfl, h2⟩ := rng_nat hx.1.2
  have ex : nat ((x1 : Int), (x2 : Int), ()) = x1 <<< 64 ^^^ x2 := rfl
  rw [ex] at hx2 ⊢
  refine T.ite (fun g => ?_) (fun g => ?_)
  · have hl6 : l ≤ 6 := by have := of_decide_eq_true g; omega
    have za : x1 = 0 := by have h := lt64 hl6 hx2.2; rw [← shr_zero, Tow.hi_of h2] at h; exact h
    subst za
    have e1 : (0 : Nat) <<< 64 ^^^ x2 = x2 := by simp
    rw [e1] at hx2 ⊢
    refine T.bind (inv_N l hl6 x2 hx2.2) fun r hr => T.pure ?_
    subst hr
    exact (mk_low (lt64 hl6 (Tow.inv_lt l _ hx2.2))).symm
  · have e : l = 7 := by have := of_decide_eq_false g; omega
    subst e
    have M := Tow.mul_lt 6
    have h1' : x1 < 2 ^ 2 ^ 6 := h1
    have h2' : x2 < 2 ^ 2 ^ 6 := h2
    refine T.bind (mulX_N 6 (by omega) x1 h1') fun r hr => ?_
    subst hr
    have h3 := Tow.mulX_lt 6 _ h1'
    have h4 := Nat.xor_lt_two_pow h2' h3
    show T (fun k => (tower_mul.f k 6 (x2 : Int) (xorI .u64 (x2 : Int) ((Tow.mulX 6 x1 : Nat) : Int))).bind _) _
    rw [xor_nat h2 h3]
    refine T.bind (mul_N 6 (by omega) x2 _ h2' h4) fun p hp => T.bind (square_N 6 (by omega) x1 h1') fun s hs => ?_
    subst hp hs
    have h5 := Nat.xor_lt_two_pow (M _ _ h2' h4) (M _ _ h1' h1')
    rw [xor_nat (M _ _ h2' h4) (M _ _ h1' h1')]
    refine T.bind (inv_N 6 (by omega) _ h5) fun n hn => ?_
    subst hn
    have h6 := Tow.inv_lt 6 _ h5
    refine T.bind (mul_N 6 (by omega) _ _ h1' h6) fun u hu => T.bind (mul_N 6 (by omega) _ _ h4 h6) fun v hv => T.pure ?_
    subst hu hv
    have := Tow.inv_cat (l := 6) (a1 := x1) h2'
    rw [this]
    exact (mk_cat (M _ _ h1' h6) (M _ _ h4 h6)).symm
theorem Div_X {lv : Int} {a b : E} (ha : inL lv a) (hb : inL lv b) : T (fun k => tower_Div.f k lv a b) (fun r => r = Pr a (Iv b)) :=
  T.eq (tower_Div.f_eq · lv a b) (T.bind (Inv_X hb) fun i hi => by subst hi; exact T.bind (mul_X ha (inL_Iv hb)) fun r hr => T.pure hr)
/-! Lines. -/
theorem place_X {i : Nat} (h : i < 2 ^ 63) : T (fun k => line_place.f k (i : Int)) (fun r => r = plc i) :=
  T.eq (line_place.f_eq · _) (T.pure (by rw [wu_in (by omega) (by omega)]; rfl))
theorem fits_ok {lv d : Int} (h : fitsB lv d = true) : 0 ≤ lv ∧ lv ≤ 7 ∧ 0 ≤ d ∧ d ≤ 8 := by
  unfold fitsB at h
  simp only [Bool.and_eq_true, decide_eq_true_eq] at h
  obtain ⟨⟨⟨h1, h2⟩, h3⟩, h4⟩ := h
  refine ⟨h1, h2, h3, ?_⟩
  split at h4
  · omega
  · split at h4 <;> omega
theorem fits_plc {lv d : Int} (h : fitsB lv d = true) {j : Nat} (hj : (j : Int) ≤ d) : inL lv (plc j) := by
  obtain ⟨h1, h2, h3, h8⟩ := fits_ok h
  unfold fitsB at h
  simp only [Bool.and_eq_true, decide_eq_true_eq] at h
  obtain ⟨_, h4⟩ := h
  obtain ⟨l, rfl⟩ := Int.eq_ofNat_of_zero_le h1
  refine ⟨plc_rng (by omega), (plc_of (by omega) (by omega)).2 ?_⟩
  split at h4
  · have : l = 0 := by omega
    subst this
    have : (2:Nat) ^ 2 ^ 0 = 2 := rfl
    omega
  · split at h4
    · have : l = 1 := by omega
      subst this
      have : (2:Nat) ^ 2 ^ 1 = 4 := rfl
      omega
    · have h2l : 2 ≤ l := by omega
      have := pow_le h2l
      have e : (2:Nat) ^ 2 ^ 2 = 16 := rfl
      omega
theorem weights9_X {lv : Int} {n : Nat} {x : E} (hn : 0 < n) (hf : fitsB lv ((n : Int) - 1) = true) (hx : inL lv x) : T (fun k => line_weights.f k lv ((n : Int) - 1) x) (fun w => w.length = 9 ∧ ∀ i, i < n → w.getD i z = ofF (Fld.lag n i (toF x)) ∧ inL lv (w.getD i z)) := by
  obtain ⟨h1, h2, h3, h8⟩ := fits_ok hf
  have pl : ∀ {j : Nat}, j < n → inL lv (plc j) := fun hj => fits_plc hf (by omega)
  have hw : w64 ((n : Int) - 1 + 1) = (n : Int) := by rw [w64_in (by omega) (by omega)]; omega
  refine T.eq (line_weights.f_eq · lv _ x) ?_
  rw [hw]
  refine T.loop0 (f := fun k s i => line_weights.l58 k lv ((n : Int) - 1) x (List.replicate 9 (0, 0, ())) s (n : Int) i) n (fun s i => s.length = 9 ∧ ∀ j, j < i → s.getD j z = ofF (Fld.lag n j (toF x)) ∧ inL lv (s.getD j z)) _ ⟨by simp, fun j h => absurd h (by omega)⟩ fun s i hi hI ih => ?_
  refine T.eq (line_weights.l58_eq · lv _ x _ s _ _) (T.ite (fun h => ?_) (fun h => ?_))
  · have hlt := lt_dec h
    rw [hw]
    refine T.bind (p := fun o => o = one) (T.eq tower_One.f_eq (T.pure rfl)) fun o1 e1 => T.bind (p := fun o => o = one) (T.eq tower_One.f_eq (T.pure rfl)) fun o2 e2 => ?_
    subst e1 e2
    refine T.loop0 (σ := E × E) (f := fun k q j => line_weights.l59802 k lv ((n : Int) - 1) x (List.replicate 9 (0, 0, ())) s (i : Int) q.1 q.2 (n : Int) (i : Int) (n : Int) j) n
      (fun q j => q.1 = ofF (Fld.prd (fun j => toF x + Fld.pl j) i j) ∧ q.2 = ofF (Fld.prd (fun j => Fld.pl i + Fld.pl j) i j) ∧ inL lv q.1 ∧ inL lv q.2) (one, one) ⟨ofF_one.symm, ofF_one.symm, inL_one h1 h2, inL_one h1 h2⟩ fun q j hj hq ih2 => ?_
    obtain ⟨q1, q2⟩ := q
    obtain ⟨a1, a2, a3, a4⟩ := hq
    dsimp only at a1 a2 a3 a4 ⊢
    refine T.eq (line_weights.l59802_eq · lv _ x _ s _ _ _ _ _ _ _) (T.ite (fun h => ?_) (fun h => ?_))
    · have hlt2 := lt_dec h
      refine T.ite (fun hne => ?_) (fun heq => ?_)
      · have hne : j ≠ i := by have : ¬ (j : Int) = (i : Int) := by simpa using hne
                               omega
        refine T.bind (place_X (by omega)) fun p1 e1 => T.bind (add_X _ _) fun s1 e2 => ?_
        subst e1 e2
        have g1 := inL_Av hx (pl hlt2)
        refine T.bind (mul_X a3 g1) fun m1 e3 => T.bind (place_X (by omega)) fun p2 e4 => T.bind (place_X (by omega)) fun p3 e5 => T.bind (add_X _ _) fun s2 e6 => ?_
        subst e4 e5 e6 e3
        have g2 := inL_Av (pl hlt) (pl hlt2)
        refine T.bind (mul_X a4 g2) fun m2 e7 => ?_
        subst e7
        rw [inc (by omega)]
        refine ih2 (Pr q1 (Av x (plc j)), Pr q2 (Av (plc i) (plc j))) hlt2 ⟨?_, ?_, inL_Pr a3 g1, inL_Pr a4 g2⟩
        · dsimp only
          rw [Fld.prd, if_neg hne, ofF_mul, ofF_add, ofF_toF hx.1, ofF_pl (by omega), a1]
        · dsimp only
          rw [Fld.prd, if_neg hne, ofF_mul, ofF_add, ofF_pl (by omega), ofF_pl (by omega), a2]
      · have heq : j = i := by have : (j : Int) = (i : Int) := by simpa using heq
                               omega
        rw [inc (by omega)]
        refine ih2 (q1, q2) hlt2 ⟨?_, ?_, a3, a4⟩
        · dsimp only; rw [Fld.prd, if_pos heq, a1]
        · dsimp only; rw [Fld.prd, if_pos heq, a2]
    · have e : j = n := Nat.le_antisymm hj (nlt_dec h)
      subst e
      refine T.bind (Div_X a3 a4) fun w hw => T.yes (inB_nat (by omega)) ?_
      subst hw
      rw [inc (by omega)]
      refine ih _ hlt ⟨by simp [hI.1], fun m hm => ?_⟩
      simp only [Int.toNat_natCast]
      rw [set_get _ _ _ _ _ (by rw [hI.1]; omega)]
      by_cases e : m = i
      · subst e
        rw [if_pos rfl]
        refine ⟨?_, inL_Pr a3 (inL_Iv a4)⟩
        unfold Iv Fld.lag
        rw [ofF_mul, a1, a2, toF_ofF]
      · rw [if_neg e]; exact hI.2 m (by omega)
  · have e : i = n := Nat.le_antisymm hi (nlt_dec h)
    subst e
    exact T.pure hI
/-- What a line's values come to at an element. -/
def itpE (v : List E) (x : E) : E := ofF (Fld.itp v.length (fun i => toF (v.getD i z)) (toF x))
theorem dot_X {lv : Int} {a b : List E} (hl : a.length = b.length) (h9 : a.length ≤ 100000) (ha : ∀ i, i < a.length → inL lv (a.getD i z)) (hb : ∀ i, i < a.length → inL lv (b.getD i z)) (h0 : 0 ≤ lv) (h7 : lv ≤ 7) : T (fun k => tower_Dot.f k lv a b) (fun r => r = ofF (Fld.sm (fun i => toF (a.getD i z) * toF (b.getD i z)) a.length) ∧ inL lv r) := by
  refine T.eq (tower_Dot.f_eq · lv a b) (T.no (by rw [hl]; simp) ?_)
  refine T.loop0 (f := fun k s i => tower_Dot.l122 k lv a b (0, 0, ()) s (a.length : Int) i) a.length (fun s i => s = ofF (Fld.sm (fun i => toF (a.getD i z) * toF (b.getD i z)) i) ∧ inL lv s) _ ⟨ofF_zero.symm, inL_z h0 h7⟩ fun s i hi hI ih => ?_
  refine T.eq (tower_Dot.l122_eq · lv a b _ s _ _) (T.ite (fun h => ?_) (fun h => ?_))
  · have hlt := lt_dec h
    simp only [Int.toNat_natCast]
    have ia := ha i hlt
    have ib := hb i hlt
    have za : a.getD i (0, 0, ()) = a.getD i z := rfl
    have zb : b.getD i (0, 0, ()) = b.getD i z := rfl
    rw [za, zb]
    refine T.yes (inB_nat hlt) (T.bind (of_T _ _) fun o1 e1 => T.no (by rw [e1, ia.2]; rfl) (T.yes (inB_nat (by omega)) (T.bind (of_T _ _) fun o2 e2 => T.no (by rw [e2, ib.2]; rfl) (T.yes (inB_nat hlt) (T.yes (inB_nat (by omega)) (T.bind (mul_X ia ib) fun m hm => T.bind (add_X _ _) fun q hq => ?_))))))
    subst hm hq
    rw [inc (by omega)]
    refine ih _ hlt ⟨?_, inL_Av hI.2 (inL_Pr ia ib)⟩
    rw [Fld.sm, ofF_add, ofF_mul, ofF_toF ia.1, ofF_toF ib.1, hI.1]
  · have e : i = a.length := Nat.le_antisymm hi (nlt_dec h)
    subst e
    exact T.pure hI
theorem line_of_X (lv : Int) (l : List E) (hl : l.length ≤ 100000000) : T (fun k => line_of.f k lv l) (fun b => b = allB lv l) := by
  refine T.eq (line_of.f_eq · lv l) (T.bind (p := fun b => b = !allB lv l) ?_ fun b hb => T.pure (by rw [hb]; simp))
  refine T.eq (slices_ContainsFunc_line_of_1.f_eq · l lv) (T.bind (p := fun r => decide (r ≥ 0) = l.any fun x => !ofB lv x) ?_ fun r hr => T.pure (by rw [hr, any_not]; rfl))
  exact T.eq (slices_IndexFunc_line_of_1.f_eq · l lv) (find_X (f := fun k i => slices_IndexFunc_line_of_1.l26 k l lv (l.length : Int) i) (g := fun k x => line_of_1.f k x lv) l z _ hl (fun k i => slices_IndexFunc_line_of_1.l26_eq k l lv _ i) fun i hi => T.eq (line_of_1.f_eq · _ lv) (T.bind (of_T _ _) fun b hb => T.pure (by rw [hb])))
theorem line_At_X {lv : Int} {v : List E} {x : E} (hp : 0 < v.length) (hf : fitsB lv ((v.length : Int) - 1) = true) (hv : allL lv v) (hx : inL lv x) : T (fun k => line_At.f k lv v x) (fun r => r = (itpE v x, 0) ∧ inL lv (itpE v x)) := by
  obtain ⟨h1, h2, h3, h8⟩ := fits_ok hf
  have hw : w64 ((v.length : Int) - 1) = (v.length : Int) - 1 := w64_in (by omega) (by omega)
  have hw2 : w64 ((v.length : Int) - 1 + 1) = (v.length : Int) := by rw [w64_in (by omega) (by omega)]; omega
  refine T.eq (line_At.f_eq · lv v x) ?_
  rw [hw]
  refine T.bind (p := fun e => e = 0) ?_ fun e he => ?_
  · refine T.eq (line_ask.f_eq · lv _ v) (T.bind (wide_X lv) fun w hw' => T.no (by
      have : ¬ w = 0 := by rw [hw']; omega
      simpa using this) (T.no (by simp; intro h; subst h; simp at hp) ?_))
    rw [hw2]
    refine T.no (by simp) (T.bind (fits_X lv _) fun b hb => T.no (by rw [hb, hf]; rfl) (T.bind (line_of_X lv v (by omega)) fun c hc => T.no (by rw [hc, allL_B hv]; rfl) (T.pure rfl)))
  · subst he
    refine T.no (by rfl) (T.bind (of_T _ _) fun b hb => T.no (by rw [hb, hx.2]; rfl) (T.bind (weights9_X hp hf hx) fun w hw => T.yes ?_ ?_))
    · simp only [inS, Bool.and_eq_true, decide_eq_true_eq]; omega
    · have hc : cutl w 0 (v.length : Int) = w.take v.length := by
        show (w.take ((v.length : Int)).toNat).drop (0 : Int).toNat = _
        simp
      rw [hc]
      have gt : ∀ i, i < v.length → (w.take v.length).getD i z = w.getD i z := fun i hi => by
        rw [List.getD_eq_getElem?_getD, List.getElem?_take, if_pos hi, ← List.getD_eq_getElem?_getD]
      refine T.bind (dot_X (a := v) (b := w.take v.length) (by rw [List.length_take, hw.1]; omega) (by omega) (fun i _ => hv i) (fun i hi => by rw [gt i hi]; exact (hw.2 i hi).2) h1 h2) fun r hr => T.pure ?_
      have e : r = itpE v x := by
        rw [hr.1]
        unfold itpE Fld.itp
        rw [Fld.sm_congr v.length fun i hi => by rw [gt i hi, (hw.2 i hi).1, toF_ofF]]
      rw [← e]
      exact ⟨rfl, hr.2⟩
end Go.Proofs.Ytplmejnoepkdgaa.H1
namespace Go.Proofs.Ytplmejnoepkdgaa.Fld
end Go.Proofs.Ytplmejnoepkdgaa.Fld
namespace Go.Proofs.Ytplmejnoepkdgaa.H1
open Go Go.Proofs.Ytplmejnoepkdgaa.Rf
end Go.Proofs.Ytplmejnoepkdgaa.H1
namespace Go.Proofs.Ytplmejnoepkdgaa.H1
open Go Go.Proofs.Ytplmejnoepkdgaa.Rf
theorem awake20_ev (k : Nat) : steeplelaw20_awake.f (k + 100) = some true := by kernel_rfl
theorem awake20_T : T (fun k => steeplelaw20_awake.f k) (fun b => b = true) := ⟨true, rfl, 100, fun k hk => by obtain ⟨j, rfl⟩ := Nat.exists_eq_add_of_le hk; rw [Nat.add_comm]; exact awake20_ev j⟩
end Go.Proofs.Ytplmejnoepkdgaa.H1
namespace Go.Proofs.Ytplmejnoepkdgaa.H1
open Go Go.Proofs.Ytplmejnoepkdgaa.Rf
theorem few9_X (t : List (List E)) {a b : Int} (ha : 0 ≤ a) (ha2 : a ≤ 1000) (hb : 0 ≤ b) : T (fun k => steeplelaw09_Few.f k t a b) (fun r => r = true → (t.length : Int) ≤ a ∧ ∀ i, ((t.getD i []).length : Int) ≤ b) := by
  refine T.eq (steeplelaw09_Few.f_eq · t a b) (T.ite (fun _ => T.pure (by simp)) fun h5 => ?_)
  have h5 : (t.length : Int) ≤ a := by have := of_decide_eq_false h5; omega
  refine T.loop0 (σ := Unit) (f := fun k _ i => steeplelaw09_Few.l58 k t b i) t.length (fun _ i => ∀ j, j < i → ((t.getD j []).length : Int) ≤ b) () (fun j h => absurd h (by omega)) fun s i hi hI ih => ?_
  refine T.eq (steeplelaw09_Few.l58_eq · t b _) (T.ite (fun h => ?_) (fun h => ?_))
  · have hlt := lt_dec h
    simp only [Int.toNat_natCast]
    refine T.yes (inB_nat hlt) (T.ite (fun _ => T.pure (by simp)) fun h16 => ?_)
    rw [inc (by omega)]
    refine ih () hlt fun j hj => ?_
    by_cases e : j = i
    · subst e
      have := of_decide_eq_false h16
      omega
    · exact hI j (by omega)
  · have e : i = t.length := by have := nlt_dec h; omega
    subst e
    refine T.pure fun _ => ⟨h5, fun i => ?_⟩
    by_cases hi : i < t.length
    · exact hI i hi
    · rw [getD_none (by omega)]; simpa using hb
/-! What hinders verifying. -/
def mayV (lv d : Int) (claim : E) (rounds : List (List E)) (r : List E) : Int :=
  if lv < 0 ∨ lv > 7 ∨ d < 1 ∨ fitsB lv d = false then 1
  else if rounds.length ≠ r.length ∨ (rounds.all fun v => decide ((v.length : Int) = d + 1)) = false then 6
  else if ofB lv claim = false ∨ allB lv r = false ∨ rounds.all (allB lv) = false then 5 else 0
theorem grow_X {n : Int} (h0 : 0 ≤ n) (h : n ≤ 1000000) : T (fun k => slices_Grow_Elem_v107.f k () n) (fun r => r = []) := by
  refine T.eq (slices_Grow_Elem_v107.f_eq · () n) (T.no (by simp only [decide_eq_false_iff_not]; omega) (T.eq (slices_Grow_Elem_v107.l7_eq · () n) ?_))
  have e0 : w64 (0 - 0) = 0 := by decide
  have e1 : w64 (n - 0) = n := by rw [w64_in (by omega) (by omega)]; omega
  rw [e0, e1]
  refine T.ite (fun h => T.yes ?_ (T.yes ?_ (T.pure rfl))) (fun _ => T.pure rfl)
  · simp only [zerosOk, Bool.and_eq_true, decide_eq_true_eq]
    exact ⟨h0, room_ok (by omega)⟩
  · simp [inS]; omega
theorem concat_X (t : List (List E)) (ht : t.length ≤ 1000) (h : ∀ i, (t.getD i []).length ≤ 1000) : T (fun k => slices_Concat_Elem.f k t) (fun r => r = t.flatten) := by
  have fl : ∀ i, i < t.length → (t.take (i + 1)).flatten = (t.take i).flatten ++ t.getD i [] := fun i hi => by
    rw [take_snoc t [] hi, List.flatten_append]; simp
  refine T.eq (slices_Concat_Elem.f_eq · t) (T.loop0 (f := fun k s i => slices_Concat_Elem.l58 k t s t (t.length : Int) i) t.length (fun s i => 0 ≤ s ∧ s ≤ 1000 * i) 0 ⟨by omega, by omega⟩ fun s i hi hI ih => ?_)
  refine T.eq (slices_Concat_Elem.l58_eq · t s t _ _) (T.ite (fun hlt => ?_) (fun hge => ?_))
  · have hlt := lt_dec hlt
    simp only [Int.toNat_natCast]
    have hl := h i
    have ew := w64_in (n := s + ((t.getD i []).length : Int)) (by omega) (by omega)
    refine T.yes (inB_nat hlt) (T.no (by rw [decide_eq_false_iff_not, ew]; omega) ?_)
    rw [inc (by omega), ew]
    exact ih _ hlt ⟨by omega, by omega⟩
  · refine T.bind (grow_X hI.1 (by omega)) fun r hr => ?_
    subst hr
    refine T.loop0 (f := fun k s i => slices_Concat_Elem.l250 k s t (t.length : Int) i) t.length (fun s i => s = (t.take i).flatten ∧ s.length ≤ 1000 * i) [] ⟨by simp, by simp⟩ fun s i hi hI ih => ?_
    refine T.eq (slices_Concat_Elem.l250_eq · s t _ _) (T.ite (fun hlt => ?_) (fun hge => T.pure ?_))
    · have hlt := lt_dec hlt
      simp only [Int.toNat_natCast]
      have hl := h i
      refine T.yes (inB_nat hlt) (T.yes (room_ok (by omega)) ?_)
      rw [inc (by omega)]
      exact ih _ hlt ⟨by rw [fl i hlt, hI.1], by rw [List.length_append]; omega⟩
    · have e : i = t.length := by have := nlt_dec hge; omega
      subst e
      rw [hI.1, List.take_length]
theorem allB_flatten (lv : Int) (t : List (List E)) : allB lv t.flatten = t.all (allB lv) := by
  induction t with
  | nil => rfl
  | cons a t ih =>
    show (a ++ t.flatten).all (ofB lv) = _
    rw [List.all_append]
    show (a.all (ofB lv) && allB lv t.flatten) = _
    rw [ih]; rfl
theorem may_X (lv d : Int) (claim : E) (rounds : List (List E)) (r : List E) (h1 : rounds.length ≤ 1000) (h2 : ∀ i, (rounds.getD i []).length ≤ 1000) (h3 : r.length ≤ 1000) : T (fun k => sumcheck_may.f k lv d claim rounds r) (fun e => e = mayV lv d claim rounds r) := by
  unfold mayV
  refine T.eq (sumcheck_may.f_eq · lv d claim rounds r) (T.bind (wide_X lv) fun w hw => T.ite (fun h => T.pure ?_) fun g1 => T.ite (fun h => T.pure ?_) fun g2 => T.bind (fits_X lv d) fun b hb => ?_)
  · have h : w = 0 := by simpa using h
    rw [if_pos (by have := hw.1 h; omega)]
  · rw [if_pos (by have := of_decide_eq_true h; omega)]
  subst hb
  have g1 : ¬ (lv < 0 ∨ lv > 7) := fun h => (by simpa using g1 : ¬ w = 0) (hw.2 h)
  have g2 := of_decide_eq_false g2
  refine T.ite (fun h => T.pure ?_) fun g3 => ?_
  · have h : fitsB lv d = false := by simpa using h
    rw [if_pos (.inr (.inr (.inr h)))]
  have g3 : fitsB lv d = true := by simpa using g3
  have h8 := fits_ok g3
  rw [if_neg (by rw [g3]; simp; omega)]
  refine T.ite (fun h => T.pure ?_) fun g4 => ?_
  · rw [if_pos (.inl (by intro e; rw [e] at h; simp at h))]
  have g4 : rounds.length = r.length := by have : (rounds.length : Int) = (r.length : Int) := by simpa using g4
                                           omega
  have hw1 : w64 (d + 1) = d + 1 := w64_in (by omega) (by omega)
  refine T.bind (p := fun b => b = !(rounds.all fun v => decide ((v.length : Int) = d + 1))) ?_ fun b hb => ?_
  · refine T.eq (slices_ContainsFunc_sumcheck_may_1.f_eq · rounds d) (T.bind (p := fun r => decide (r ≥ 0) = rounds.any fun v => !decide ((v.length : Int) = d + 1)) ?_ fun r hr => T.pure (by rw [hr, any_not]))
    refine T.eq (slices_IndexFunc_sumcheck_may_1.f_eq · rounds d) (find_X (f := fun k i => slices_IndexFunc_sumcheck_may_1.l26 k rounds d (rounds.length : Int) i) (g := fun k x => sumcheck_may_1.f k x d) rounds [] _ (by omega) (fun k i => slices_IndexFunc_sumcheck_may_1.l26_eq k rounds d _ i) fun i hi => T.eq (sumcheck_may_1.f_eq · _ d) (T.pure ?_))
    rw [hw1]
    by_cases e : ((rounds.getD i []).length : Int) = d + 1
    · rw [e]; simp
    · have : (((rounds.getD i []).length : Int) != d + 1) = true := by simpa using e
      rw [this]; simp only [e, decide_false, Bool.not_false]
  subst hb
  refine T.ite (fun h => T.pure ?_) fun g5 => ?_
  · rw [if_pos (.inr (by simpa only [Bool.not_eq_true'] using h))]
  have g5 : (rounds.all fun v => decide ((v.length : Int) = d + 1)) = true := by simpa only [Bool.not_eq_false'] using g5
  rw [if_neg (by rw [g5, g4]; simp)]
  refine T.bind (of_T lv claim) fun b hb => ?_
  subst hb
  refine T.ite (fun h => T.pure ?_) fun g6 => T.bind (of_all_X lv r (by omega)) fun b hb => ?_
  · rw [if_pos (.inl (by simpa only [Bool.not_eq_true'] using h))]
  subst hb
  refine T.ite (fun h => T.pure ?_) fun g7 => T.bind (concat_X rounds h1 h2) fun fl hfl => ?_
  · rw [if_pos (.inr (.inl (by simpa only [Bool.not_eq_true'] using h)))]
  subst hfl
  have hfl : rounds.flatten.length ≤ 100000000 := by
    have : ∀ t : List (List E), (∀ i, (t.getD i []).length ≤ 1000) → t.flatten.length ≤ 1000 * t.length := by
      intro t
      induction t with
      | nil => intro _; simp
      | cons a t ih =>
        intro h
        have h0 := h 0
        have := ih fun i => h (i + 1)
        simp only [List.flatten_cons, List.length_append, List.length_cons]
        have : ((a :: t).getD 0 []).length = a.length := rfl
        omega
    have := this rounds h2
    omega
  refine T.bind (of_all_X lv _ hfl) fun b hb => ?_
  subst hb
  rw [allB_flatten]
  refine T.ite (fun h => T.pure ?_) fun g8 => T.pure ?_
  · rw [if_pos (.inr (.inr (by simpa only [Bool.not_eq_true'] using h)))]
  · rw [if_neg]
    simp only [Bool.not_eq_false'] at g6 g7 g8
    rw [g6, g7, g8]; simp
structure MOk (lv d : Int) (claim : E) (rounds : List (List E)) (r : List E) : Prop where
  lv0 : 0 ≤ lv
  lv7 : lv ≤ 7
  d1 : 1 ≤ d
  fit : fitsB lv d = true
  len : rounds.length = r.length
  lens : ∀ i, i < rounds.length → ((rounds.getD i []).length : Int) = d + 1
  cl : ofB lv claim = true
  rs : allB lv r = true
  all : ∀ i, i < rounds.length → allB lv (rounds.getD i []) = true
theorem mayV_ok {lv d : Int} {claim : E} {rounds : List (List E)} {r : List E} (h : mayV lv d claim rounds r = 0) : MOk lv d claim rounds r := by
  unfold mayV at h
  split at h
  · cases h
  split at h
  · cases h
  split at h
  · cases h
  rename_i c1 c2 c3
  have c1' : ¬ lv < 0 ∧ ¬ lv > 7 ∧ ¬ d < 1 ∧ ¬ fitsB lv d = false := ⟨fun h => c1 (.inl h), fun h => c1 (.inr (.inl h)), fun h => c1 (.inr (.inr (.inl h))), fun h => c1 (.inr (.inr (.inr h)))⟩
  refine ⟨by omega, by omega, by omega, eq_true_of_ne_false c1'.2.2.2, Decidable.byContradiction fun e => c2 (.inl e), fun i hi => ?_, eq_true_of_ne_false fun e => c3 (.inl e), eq_true_of_ne_false fun e => c3 (.inr (.inl e)), fun i hi => ?_⟩
  · exact of_decide_eq_true ((all_getD [] _ rounds).1 (eq_true_of_ne_false fun e => c2 (.inr e)) i hi)
  · exact (all_getD [] _ rounds).1 (eq_true_of_ne_false fun e => c3 (.inr (.inr e))) i hi
/-- The claim behind so many rounds. -/
noncomputable def verS (rounds : List (List E)) (r : List E) : Nat → Nat → E → E × Int
  | 0, _, c => (c, 0)
  | m + 1, i, c => if Av ((rounds.getD i []).getD 0 z) ((rounds.getD i []).getD 1 z) = c then verS rounds r m (i + 1) (itpE (rounds.getD i []) (r.getD i z)) else (z, 8)
noncomputable def verV (lv d : Int) (claim : E) (rounds : List (List E)) (r : List E) : E × Int :=
  if mayV lv d claim rounds r = 0 then verS rounds r rounds.length 0 claim else (z, mayV lv d claim rounds r)
theorem tsum_X (l : List E) (hl : l.length ≤ 1000) : T (fun k => tower_Sum.f k l) (fun r => r = fold (fun i => l.getD i z) l.length) := by
  refine T.eq (tower_Sum.f_eq · l) (T.loop0 (f := fun k s i => tower_Sum.l58 k (0, 0, ()) s l (l.length : Int) i) l.length (fun s i => s = fold (fun i => l.getD i z) i) (0, 0, ()) rfl fun s i hi hI ih => ?_)
  refine T.eq (tower_Sum.l58_eq · _ s l _ _) (T.ite (fun hlt => ?_) (fun hge => ?_))
  · have hlt := lt_dec hlt
    simp only [Int.toNat_natCast]
    refine T.yes (inB_nat hlt) (T.bind (add_X _ _) fun t ht => ?_)
    rw [inc (by omega)]
    exact ih _ hlt (by rw [ht, hI]; rfl)
  · have e : i = l.length := by have := nlt_dec hge; omega
    subst e
    exact T.pure hI
theorem ends_X {v : List E} (h2 : 2 ≤ v.length) (h : v.length ≤ 1000) (hr : allR v) : T (fun k => line_Ends.f k v) (fun r => r = Av (v.getD 0 z) (v.getD 1 z)) := by
  refine T.eq (line_Ends.f_eq · v) ?_
  have e : (if (2 : Int) < (v.length : Int) then (2 : Int) else (v.length : Int)) = 2 := by split <;> omega
  rw [e]
  have hc : cutl v 0 2 = v.take 2 := by
    show (v.take (2 : Int).toNat).drop (0 : Int).toNat = _
    simp
  rw [hc]
  refine T.yes (by simp only [inS, Bool.and_eq_true, decide_eq_true_eq]; omega) (T.bind (tsum_X _ (by rw [List.length_take]; omega)) fun r hr' => T.pure ?_)
  have gt : ∀ i, i < 2 → (v.take 2).getD i z = v.getD i z := fun i hi => by
    rw [List.getD_eq_getElem?_getD, List.getElem?_take, if_pos hi, ← List.getD_eq_getElem?_getD]
  rw [hr', List.length_take, Nat.min_eq_left h2, fold, fold, fold, gt 0 (by omega), gt 1 (by omega), Av_zl (hr 0)]
theorem eqE (a b : E) : ((a.1 == b.1) && (a.2.1 == b.2.1)) = decide (a = b) := by
  rw [Bool.eq_iff_iff]
  simp only [Bool.and_eq_true, beq_iff_eq, decide_eq_true_eq]
  exact ⟨fun h => Prod.ext h.1 (Prod.ext h.2 rfl), fun h => by rw [h]; exact ⟨rfl, rfl⟩⟩
theorem verS_L {lv d : Int} {claim : E} {rounds : List (List E)} {r : List E} (h : MOk lv d claim rounds r) (hrr : allRR rounds) (hr : allR r) : (∀ i, i < rounds.length → allL lv (rounds.getD i [])) ∧ allL lv r :=
  ⟨fun i hi => allL_of h.lv0 h.lv7 (hrr i) (h.all i hi), allL_of h.lv0 h.lv7 hr h.rs⟩
theorem Verify_X (lv d : Int) (claim : E) (rounds : List (List E)) (r : List E) (h1 : rounds.length ≤ 1000) (h2 : ∀ i, (rounds.getD i []).length ≤ 1000) (h3 : r.length ≤ 1000) (hrr : allRR rounds) (hr : allR r) : T (fun k => sumcheck_Verify.f k lv d claim rounds r) (fun q => q = verV lv d claim rounds r) := by
  unfold verV
  refine T.eq (sumcheck_Verify.f_eq · lv d claim rounds r) (T.bind (may_X lv d claim rounds r h1 h2 h3) fun e he => T.ite (fun h => T.pure ?_) fun h => ?_)
  · subst he; rw [if_neg (by simpa using h)]; rfl
  subst he
  have h0 : mayV lv d claim rounds r = 0 := by simpa using h
  rw [if_pos h0]
  have M := mayV_ok h0
  obtain ⟨L1, L2⟩ := verS_L M hrr hr
  refine T.loop0 (f := fun k s i => sumcheck_Verify.l58 k lv rounds r s (0, 0, ()) (rounds.length : Int) i) rounds.length (fun s i => verS rounds r (rounds.length - i) i s = verS rounds r rounds.length 0 claim) claim rfl fun s i hi hI ih => ?_
  refine T.eq (sumcheck_Verify.l58_eq · lv rounds r s _ _ _) (T.ite (fun hlt => ?_) (fun hge => ?_))
  · have hlt := lt_dec hlt
    simp only [Int.toNat_natCast]
    have hl := M.lens i hlt
    have hd := M.d1
    have hli := h2 i
    have zr : r.getD i (0, 0, ()) = r.getD i z := rfl
    rw [zr]
    rw [show rounds.length - i = (rounds.length - (i + 1)) + 1 by omega, verS] at hI
    refine T.yes (inB_nat hlt) (T.bind (ends_X (by omega) hli (hrr i)) fun q hq => ?_)
    subst hq
    rw [eqE]
    refine T.ite (fun h => T.pure ?_) (fun h => T.yes (inB_nat hlt) (T.yes (inB_nat (by rw [← M.len]; exact hlt)) (T.bind (line_At_X (by omega) (by rw [show ((rounds.getD i []).length : Int) - 1 = d by omega]; exact M.fit) (L1 i hlt) (L2 i)) fun q hq => ?_)))
    · have h : ¬ Av ((rounds.getD i []).getD 0 z) ((rounds.getD i []).getD 1 z) = s := by simpa using h
      rw [if_neg h] at hI
      exact hI
    · have h : Av ((rounds.getD i []).getD 0 z) ((rounds.getD i []).getD 1 z) = s := by simpa using h
      rw [if_pos h] at hI
      rw [inc (by omega), hq.1]
      exact ih _ hlt hI
  · have e : i = rounds.length := Nat.le_antisymm hi (nlt_dec hge)
    subst e
    rw [Nat.sub_self, verS] at hI
    exact T.pure hI
end Go.Proofs.Ytplmejnoepkdgaa.H1
namespace Go.Proofs.Ytplmejnoepkdgaa.H1
open Go Go.Proofs.Ytplmejnoepkdgaa.Rf
/-! Tables, bound in their first variable. -/
def btw (a b r : E) : E := Av a (Pr r (Av a b))
def bind1 (t : List E) (r : E) : List E := (List.range (t.length / 2)).map fun i => btw (t.getD (2 * i) z) (t.getD (2 * i + 1) z) r
def bindN (t : List E) (rs : List E) : List E := rs.foldl bind1 t
theorem bind1_len (t : List E) (r : E) : (bind1 t r).length = t.length / 2 := by simp [bind1]
theorem bind1_at {t : List E} {r : E} {i : Nat} (h : i < t.length / 2) : (bind1 t r).getD i z = btw (t.getD (2 * i) z) (t.getD (2 * i + 1) z) r := getD_range h
theorem inL_btw {lv : Int} {a b r : E} (ha : inL lv a) (hb : inL lv b) (hr : inL lv r) : inL lv (btw a b r) := inL_Av ha (inL_Pr hr (inL_Av ha hb))
theorem bind1_L {lv : Int} {t : List E} {r : E} (ht : allL lv t) (hr : inL lv r) : allL lv (bind1 t r) := fun j => by
  by_cases h : j < t.length / 2
  · rw [bind1_at h]; exact inL_btw (ht _) (ht _) hr
  · rw [getD_none (by rw [bind1_len]; omega)]
    have := ht t.length
    rwa [getD_none (Nat.le_refl _)] at this
theorem between_X {lv : Int} {a b r : E} (ha : inL lv a) (hb : inL lv b) (hr : inL lv r) : T (fun k => cube_between.f k lv a b r) (fun q => q = btw a b r) := by
  refine T.eq (cube_between.f_eq · lv a b r) (T.bind (add_X _ _) fun s hs => T.bind (p := fun q => q = Pr r s) (by subst hs; exact mul_X hr (inL_Av ha hb)) fun m hm => T.bind (add_X _ _) fun q hq => T.pure ?_)
  rw [hq, hm, hs]; rfl
noncomputable def firstE (lv : Int) (t rs : List E) : Int :=
  if lv < 0 ∨ lv > 7 then 1 else if logI t.length < 0 ∨ (rs.length : Int) > logI t.length then 6 else if allB lv t = false ∨ allB lv rs = false then 5 else 0
theorem cask_X (lv : Int) (t rs : List E) (h1 : t.length ≤ 100000000) (h2 : rs.length ≤ 100000000) : T (fun k => cube_ask.f k lv t rs) (fun e => e = firstE lv t rs) := by
  unfold firstE
  refine T.eq (cube_ask.f_eq · lv t rs) (T.bind (log_X _) fun q hq => T.bind (wide_X lv) fun w hw => T.ite (fun h => T.pure ?_) fun g1 => T.ite (fun h => T.pure ?_) fun g2 => T.ite (fun h => T.pure ?_) fun g3 => T.bind (cube_of_X lv t h1) fun b hb => ?_)
  · have h : w = 0 := by simpa using h
    rw [if_pos (hw.1 h)]
  all_goals have g1 : ¬ (lv < 0 ∨ lv > 7) := fun h => (by simpa using g1 : ¬ w = 0) (hw.2 h)
  all_goals subst hq
  · rw [if_neg g1, if_pos (.inl (of_decide_eq_true h))]
  · rw [if_neg g1, if_pos (.inr (of_decide_eq_true h))]
  have g2 := of_decide_eq_false g2
  have g3 := of_decide_eq_false g3
  rw [if_neg g1, if_neg (by omega)]
  subst hb
  refine T.ite (fun h => T.pure ?_) fun g4 => T.bind (cube_of_X lv rs h2) fun b hb => ?_
  · rw [if_pos (.inl (by simpa using h))]
  subst hb
  refine T.ite (fun h => T.pure ?_) fun g5 => T.pure ?_
  · rw [if_pos (.inr (by simpa using h))]
  · rw [if_neg]
    simp only [Bool.not_eq_false'] at g4 g5
    rw [g4, g5]; simp
structure FOk (lv : Int) (t rs : List E) : Prop where
  lv0 : 0 ≤ lv
  lv7 : lv ≤ 7
  lg : ∃ m : Nat, m ≤ 16 ∧ t.length = 2 ^ m ∧ rs.length ≤ m
  t : allB lv t = true
  r : allB lv rs = true
theorem firstE_ok {lv : Int} {t rs : List E} (h : firstE lv t rs = 0) : FOk lv t rs := by
  unfold firstE at h
  split at h
  · cases h
  split at h
  · cases h
  split at h
  · cases h
  rename_i c1 c2 c3
  obtain ⟨m, m1, m2, m3⟩ := logI_nn (n := (t.length : Int)) (by omega)
  exact ⟨by omega, by omega, ⟨m, m1, by exact_mod_cast m2, by omega⟩, eq_true_of_ne_false fun e => c3 (.inl e), eq_true_of_ne_false fun e => c3 (.inr e)⟩
theorem FOk.eq {lv : Int} {t rs : List E} (h : FOk lv t rs) : firstE lv t rs = 0 := by
  obtain ⟨m, m1, m2, m3⟩ := h.lg
  have := h.lv0; have := h.lv7
  have e : logI (t.length : Int) = (m : Int) := by rw [m2]; exact logI_pow m1
  unfold firstE
  rw [if_neg (by omega), e, if_neg (by omega), if_neg (by rw [h.t, h.r]; simp)]
theorem First_X (lv : Int) (t rs : List E) (h1 : t.length ≤ 1000000) (h2 : rs.length ≤ 100) (ht : allR t) (hr : allR rs) : T (fun k => cube_First.f k lv t rs) (fun q => (q = if firstE lv t rs = 0 then (bindN t rs, 0) else ([], firstE lv t rs)) ∧ (firstE lv t rs = 0 → allL lv q.1)) := by
  refine T.eq (cube_First.f_eq · lv t rs) (T.bind (cask_X lv t rs (by omega) (by omega)) fun e he => T.ite (fun h => T.pure ?_) fun h => ?_)
  · subst he
    have h : ¬ firstE lv t rs = 0 := by simpa using h
    rw [if_neg h]; exact ⟨rfl, fun h' => absurd h' h⟩
  subst he
  have h0 : firstE lv t rs = 0 := by simpa using h
  rw [if_pos h0]
  have F := firstE_ok h0
  have tL := allL_of F.lv0 F.lv7 ht F.t
  have rL := allL_of F.lv0 F.lv7 hr F.r
  refine T.bind (p := fun r => r = t) ?_ fun t' ht' => ?_
  · refine T.eq (slices_Clone_Elem.f_eq · t) ?_
    have hr : room t.length 16 = true := room_ok (by omega)
    have : nilB t (some []) (bif room t.length 16 then some t else none) = some t := by
      rw [hr]
      exact nilB_same t _ _ fun h => by rw [List.isEmpty_iff.1 h]; rfl
    rw [this]
    exact T.pure rfl
  subst ht'
  refine T.loop0 (f := fun k s i => cube_First.l122 k lv s rs (rs.length : Int) i) rs.length (fun s i => s = bindN t' (rs.take i) ∧ allL lv s ∧ s.length ≤ t'.length) t' ⟨by simp [bindN], tL, Nat.le_refl _⟩ fun s i hi hI ih => ?_
  obtain ⟨I1, I2, I3⟩ := hI
  refine T.eq (cube_First.l122_eq · lv s rs _ _) (T.ite (fun hlt => ?_) (fun hge => ?_))
  · have hlt := lt_dec hlt
    simp only [Int.toNat_natCast]
    have zr : rs.getD i (0, 0, ()) = rs.getD i z := rfl
    rw [zr]
    obtain ⟨x, ex⟩ : ∃ x, x = rs.getD i z := ⟨_, rfl⟩
    have hx : inL lv x := by rw [ex]; exact rL i
    rw [← ex]
    have hd : w64 (Int.tdiv (s.length : Int) 2) = ((s.length / 2 : Nat) : Int) := by
      show w64 ((s.length / 2 : Nat) : Int) = _
      exact w64_in (by omega) (by omega)
    rw [hd]
    refine T.yes (inB_nat hlt) (T.no (by decide) ?_)
    refine T.loop0 (f := fun k q j => cube_First.l125338 k lv q x ((s.length / 2 : Nat) : Int) rs (rs.length : Int) (i : Int) ((s.length / 2 : Nat) : Int) j) (s.length / 2) (fun q j => q.length = s.length ∧ (∀ n, n < j → q.getD n z = btw (s.getD (2 * n) z) (s.getD (2 * n + 1) z) x) ∧ ∀ n, j ≤ n → q.getD n z = s.getD n z) s ⟨rfl, fun n h => absurd h (by omega), fun n _ => rfl⟩ fun q j hj hq ih2 => ?_
    obtain ⟨q1, q2, q3⟩ := hq
    have e1 : w64 (2 * (j : Int)) = ((2 * j : Nat) : Int) := by rw [w64_in (by omega) (by omega)]; omega
    have e2 : w64 (((2 * j : Nat) : Int) + 1) = ((2 * j + 1 : Nat) : Int) := by rw [w64_in (by omega) (by omega)]; omega
    refine T.eq (cube_First.l125338_eq · lv q x _ rs _ _ _ _) ?_
    rw [e1, e2]
    refine T.ite (fun h => ?_) (fun h => ?_)
    · have hlt2 := lt_dec h
      simp only [Int.toNat_natCast]
      have z1 : q.getD (2 * j) (0, 0, ()) = s.getD (2 * j) z := q3 _ (by omega)
      have z2 : q.getD (2 * j + 1) (0, 0, ()) = s.getD (2 * j + 1) z := q3 _ (by omega)
      rw [z1, z2]
      refine T.yes (inB_nat (by omega)) (T.yes (inB_nat (by omega)) (T.bind (between_X (I2 _) (I2 _) hx) fun b hb => T.yes (inB_nat (by omega)) ?_))
      subst hb
      rw [inc (by omega)]
      refine ih2 _ hlt2 ⟨by simp [q1], fun n hn => ?_, fun n hn => ?_⟩
      · rw [set_get _ _ _ _ _ (by omega)]
        by_cases e : n = j
        · subst e; rw [if_pos rfl]
        · rw [if_neg e]; exact q2 n (by omega)
      · rw [set_get _ _ _ _ _ (by omega), if_neg (by omega)]
        exact q3 n (by omega)
    · have e : j = s.length / 2 := Nat.le_antisymm hj (nlt_dec h)
      subst e
      refine T.yes (by simp only [inS, Bool.and_eq_true, decide_eq_true_eq]; omega) ?_
      have hc : cutl q 0 ((s.length / 2 : Nat) : Int) = bind1 s x := by
        show (q.take ((s.length / 2 : Nat) : Int).toNat).drop (0 : Int).toNat = _
        rw [Int.toNat_natCast]
        show (q.take (s.length / 2)).drop 0 = _
        rw [List.drop_zero]
        refine list_eq z (by rw [bind1_len, List.length_take]; omega) fun n hn => ?_
        rw [bind1_len] at hn
        rw [bind1_at hn, List.getD_eq_getElem?_getD, List.getElem?_take, if_pos hn, ← List.getD_eq_getElem?_getD]
        exact q2 n hn
      rw [hc, inc (by omega)]
      refine ih _ hlt ⟨?_, bind1_L I2 hx, by rw [bind1_len]; omega⟩
      rw [take_snoc rs z hlt, bindN, List.foldl_append, ← ex]
      show bind1 s x = bind1 (bindN t' (rs.take i)) x
      rw [← I1]
  · have e : i = rs.length := Nat.le_antisymm hi (nlt_dec hge)
    subst e
    rw [List.take_length] at I1
    exact T.pure ⟨by rw [I1], fun _ => I2⟩
def bindT (t : List (List E)) (r : E) : List (List E) := t.map (bind1 · r)
theorem bindT_at {t : List (List E)} {r : E} {i : Nat} : (bindT t r).getD i [] = bind1 (t.getD i []) r := by
  by_cases h : i < t.length
  · exact getD_map h
  · rw [getD_none (by simp [bindT]; omega), getD_none (by omega)]; rfl
theorem bindT_len (t : List (List E)) (r : E) : (bindT t r).length = t.length := by simp [bindT]
/-- Tables of some length. -/
def midT (t : List (List E)) : Prop := t.length ≤ 1000 ∧ ∀ i, (t.getD i []).length ≤ 1000000
theorem midT.few {t : List (List E)} (h : midT t) : fewT t := ⟨h.1, fun i => by have := h.2 i; omega⟩
theorem midT.bind {t : List (List E)} (h : midT t) (r : E) : midT (bindT t r) := ⟨by rw [bindT_len]; exact h.1, fun i => by rw [bindT_at, bind1_len]; have := h.2 i; omega⟩
noncomputable def bindE (lv : Int) (t : List (List E)) (r : E) : Int := errs (fun x => firstE lv x [r]) t
theorem allR_one {r : E} (h : rngE r) : allR [r] := fun j => by
  cases j with
  | zero => exact h
  | succ j => rw [getD_none (by simp)]; exact rngE_z
theorem Bind_X (lv : Int) (t : List (List E)) (r : E) (ht : midT t) (hr : rngE r) (htr : allRR t) : T (fun k => sumcheck_Bind.f k lv t r) (fun q => q = if bindE lv t r = 0 then (bindT t r, 0) else ([], bindE lv t r)) := by
  have h1000 := ht.1
  refine T.eq (sumcheck_Bind.f_eq · lv t r) (T.loop0 (f := fun k s i => sumcheck_Bind.l58 k lv r s t (t.length : Int) i) t.length (fun s i => s = bindT (t.take i) r ∧ ∀ j, j < i → firstE lv (t.getD j []) [r] = 0) [] ⟨rfl, fun j h => absurd h (by omega)⟩ fun s i hi hI ih => ?_)
  have hlen : s.length = i := by rw [hI.1, bindT_len, List.length_take]; omega
  refine T.eq (sumcheck_Bind.l58_eq · lv r s t _ _) (T.ite (fun hlt => ?_) (fun hge => T.pure ?_))
  · have hlt := lt_dec hlt
    simp only [Int.toNat_natCast]
    refine T.yes (inB_nat hlt) (T.bind (First_X lv _ [r] (ht.2 i) (by simp) (htr i) (allR_one hr)) fun q hq => ?_)
    have hq := hq.1
    by_cases h0 : firstE lv (t.getD i []) [r] = 0
    · rw [if_pos h0] at hq
      subst hq
      refine T.no (by rfl) (T.yes (room_ok (by simp only [List.length_singleton]; omega)) ?_)
      rw [inc (by omega)]
      refine ih _ hlt ⟨?_, fun j hj => ?_⟩
      · rw [take_snoc t [] hlt, hI.1, bindT, bindT, List.map_append]; rfl
      · by_cases e : j = i
        · subst e; exact h0
        · exact hI.2 j (by omega)
    · rw [if_neg h0] at hq
      subst hq
      have e1 := errs_drop (d := []) (e := fun x => firstE lv x [r]) i (by omega) hI.2
      rw [drop_cons t [] hlt, errs, if_neg h0] at e1
      refine T.yes (by simpa using h0) (T.pure ?_)
      unfold bindE
      rw [e1, if_neg h0]
  · have e : i = t.length := Nat.le_antisymm hi (nlt_dec hge)
    subst e
    have e1 := errs_drop (d := []) (e := fun x => firstE lv x [r]) _ (Nat.le_refl _) hI.2
    rw [List.drop_length] at e1
    have e1 : bindE lv t r = 0 := e1
    rw [e1, if_pos rfl, hI.1, List.take_length]
/-- What is bound may be. -/
theorem SOk.ask {lv : Int} {l : List O} {t : List (List E)} (h : SOk lv l t) {m : Nat} (hm : (t.getD 0 []).length = 2 ^ (m + 1)) (h12 : m + 1 ≤ 16) {r : E} (hr : inL lv r) : bindE lv t r = 0 := by
  have : ∀ j, j < t.length → firstE lv (t.getD j []) [r] = 0 := fun j hj => FOk.eq ⟨h.x.lv0, h.x.lv7, ⟨m + 1, h12, by rw [h.len j hj, hm], by simp⟩, h.all j hj, by simp [allB, hr.2]⟩
  have e1 := errs_drop (d := []) (e := fun x => firstE lv x [r]) _ (Nat.le_refl _) this
  rw [List.drop_length] at e1
  exact e1
theorem SOk.bind {lv : Int} {l : List O} {t : List (List E)} (h : SOk lv l t) (htr : allRR t) {m : Nat} (hm : (t.getD 0 []).length = 2 ^ (m + 1)) {r : E} (hr : inL lv r) : SOk lv l (bindT t r) ∧ ((bindT t r).getD 0 []).length = 2 ^ m ∧ allRR (bindT t r) := by
  have hl : ((bindT t r).getD 0 []).length = 2 ^ m := by rw [bindT_at, bind1_len, hm, Nat.pow_succ]; omega
  have hL : ∀ i, i < t.length → allL lv (bind1 (t.getD i []) r) := fun i hi => bind1_L (allL_of h.x.lv0 h.x.lv7 (htr i) (h.all i hi)) hr
  refine ⟨⟨by rw [bindT_len]; exact h.x, by rw [bindT_len]; exact h.pos, h.fit, ?_, fun i hi => ?_, fun i hi => ?_⟩, hl, fun i => ?_⟩
  · obtain ⟨q, q1, q2⟩ := h.lg
    have := two_inj (hm.symm.trans q2)
    exact ⟨m, by omega, hl⟩
  · rw [bindT_len] at hi
    rw [bindT_at, bindT_at, bind1_len, bind1_len, h.len i hi]
  · rw [bindT_len] at hi
    rw [bindT_at]; exact allL_B (hL i hi)
  · rw [bindT_at]
    by_cases hi : i < t.length
    · exact allL_R (hL i hi)
    · rw [getD_none (by omega)]; exact fun j => rngE_z
/-- A round's values. -/
def roundP (l : List O) (t : List (List E)) : List E := (List.range ((dgI l).toNat + 1)).map fun i => sumP l (bindT t (plc i))
theorem roundP_len (l : List O) (t : List (List E)) : (roundP l t).length = (dgI l).toNat + 1 := by simp [roundP]
theorem roundP_at {l : List O} {t : List (List E)} {i : Nat} (h : i ≤ (dgI l).toNat) : (roundP l t).getD i z = sumP l (bindT t (plc i)) := getD_range (by omega)
theorem SOk.plc {lv : Int} {l : List O} {t : List (List E)} (h : SOk lv l t) {i : Nat} (hi : i ≤ (dgI l).toNat) : inL lv (plc i) := by
  have := dgI_le h.x
  exact fits_plc h.fit (by omega)
theorem round_X {lv : Int} {l : List O} {t : List (List E)} (h : SOk lv l t) (ht : midT t) (hc : cR l) (htr : allRR t) {m : Nat} (hm : (t.getD 0 []).length = 2 ^ (m + 1)) (h12 : m + 1 ≤ 16) : T (fun k => sumcheck_round.f k lv l t) (fun r => r = roundP l t) := by
  have hd := dgI_le h.x
  have h1000 := ht.1
  refine T.eq (sumcheck_round.f_eq · lv l t) (T.bind (degree_X h.x (by omega)) fun d hd' => ?_)
  subst hd'
  have ew : w64 (dgI l + 1) = (((dgI l).toNat + 1 : Nat) : Int) := by rw [w64_in (by omega) (by omega)]; omega
  rw [ew]
  refine T.loop0 (f := fun k s i => sumcheck_round.l58 k lv l t s (((dgI l).toNat + 1 : Nat) : Int) i) ((dgI l).toNat + 1) (fun s i => s = (List.range i).map fun i => sumP l (bindT t (H1.plc i))) [] rfl fun s i hi hI ih => ?_
  have hlen : s.length = i := by rw [hI]; simp
  refine T.eq (sumcheck_round.l58_eq · lv l t s _ _) (T.ite (fun hlt => ?_) (fun hge => T.pure ?_))
  · have hlt := lt_dec hlt
    rw [wu_in (by omega) (by omega)]
    have hp : inL lv (H1.plc i) := h.plc (by omega)
    obtain ⟨b1, b2, b3⟩ := h.bind htr hm hp
    refine T.bind (Bind_X lv t (H1.plc i) ht hp.1 htr) fun q hq => ?_
    rw [h.ask hm h12 hp, if_pos rfl] at hq
    subst hq
    refine T.bind (sum_X b1 (ht.bind _).few hc b3) fun s' hs' => T.yes (room_ok (by simp only [List.length_singleton]; omega)) ?_
    subst hs'
    rw [inc (by omega)]
    refine ih _ hlt ?_
    rw [List.range_succ, List.map_append, hI]; rfl
  · have e : i = (dgI l).toNat + 1 := by have := nlt_dec hge; omega
    subst e
    exact hI
theorem few20_X (x : List O × List (List E) × Unit) : T (fun k => steeplelaw20_Few.f k x) (fun b => b = true → x.1.length ≤ 12 ∧ x.2.1.length ≤ 5 ∧ ∀ i, (x.2.1.getD i []).length ≤ 16) := by
  refine T.eq (steeplelaw20_Few.f_eq · x) (T.ite (fun h => T.bind (few9_X x.2.1 (by decide) (by decide) (by decide)) fun b hb => T.pure fun h' => ?_) fun h => T.pure fun h => by cases h)
  have h := of_decide_eq_true h
  obtain ⟨h1, h2⟩ := hb h'
  exact ⟨by omega, by omega, fun i => by have := h2 i; omega⟩
abbrev TEs : Ty := .sl false TE
abbrev TCase20 : Ty := .pair (.sl false TO) (.pair (.sl false (.sl false TE)) .unit)
end Go.Proofs.Ytplmejnoepkdgaa.H1
namespace Go.Proofs.Ytplmejnoepkdgaa.Fld
theorem sm_two (f : Nat → F) : ∀ n, sm f (2 * n) = sm (fun i => f (2 * i)) n + sm (fun i => f (2 * i + 1)) n
  | 0 => (add_self 0).symm
  | n + 1 => by
    rw [show 2 * (n + 1) = 2 * n + 1 + 1 by omega]
    simp only [sm, sm_two f n]; ac_rfl
end Go.Proofs.Ytplmejnoepkdgaa.Fld
namespace Go.Proofs.Ytplmejnoepkdgaa.H1
open Go Go.Proofs.Ytplmejnoepkdgaa.Rf
theorem fold_F {f : Nat → E} {g : Nat → Fld.F} : ∀ n, (∀ i, i < n → f i = ofF (g i)) → fold f n = ofF (Fld.sm g n)
  | 0, _ => ofF_zero.symm
  | n + 1, h => by rw [fold, fold_F n fun i hi => h i (by omega), h n (by omega), Fld.sm, ofF_add]
theorem fold_toF {f : Nat → E} {n : Nat} (h : ∀ i, i < n → rngE (f i)) : fold f n = ofF (Fld.sm (fun i => toF (f i)) n) := fold_F n fun i hi => (ofF_toF (h i hi)).symm
/-- Steps are polynomials where the variables are lines. -/
theorem steps_poly {lv vars : Int} {l : List O} (h : XOk lv vars l) (hc : cR l) {V : Fld.F → List E} (hV : ∀ k, ∃ g, Fld.PolyD 1 g ∧ ∀ x, (V x).getD k z = ofF (g x)) :
    ∀ i, i ≤ l.length → ∃ H : Nat → Fld.F → Fld.F, ∀ j, j < i → Fld.PolyD ((degL [] (l.take i)).getD j 0).toNat (H j) ∧ ∀ x, (outP (V x) [] (l.take i)).getD j z = ofF (H j x)
  | 0, _ => ⟨fun _ _ => 0, fun j hj => absurd hj (by omega)⟩
  | i + 1, hi => by
    obtain ⟨H, hH⟩ := steps_poly h hc hV i (by omega)
    have hds := h.ds (k := i) (by omega)
    have hlen : (degL [] (l.take i)).length = i := by rw [degL_length, List.length_take]; simp; omega
    have hol : ∀ x, (outP (V x) [] (l.take i)).length = i := fun x => by rw [outP_length, List.length_take]; simp; omega
    obtain ⟨u1, u2, u3⟩ := h.ok i (by omega)
    have new : ∃ q, Fld.PolyD (dgr (degL [] (l.take i)) (l.getD i zo)).toNat q ∧ ∀ x, nxtP (V x) (outP (V x) [] (l.take i)) (l.getD i zo) = ofF (q x) := by
      obtain ⟨o, eo⟩ : ∃ o, o = l.getD i zo := ⟨_, rfl⟩
      have hco : rngE o.2.2.2.1 := by rw [eo]; exact hc i
      rw [← eo] at u1 u2 u3 ⊢
      rcases u1 with k | k | k | k
      · refine ⟨fun _ => toF o.2.2.2.1, (Fld.PolyD.const _).mono (Nat.zero_le _), fun x => ?_⟩
        unfold nxtP; rw [if_pos k, ofF_toF hco]
      · obtain ⟨g, g1, g2⟩ := hV o.2.1.toNat
        refine ⟨g, ?_, fun x => ?_⟩
        · unfold dgr; rw [if_pos k]; exact g1
        · unfold nxtP; rw [if_neg (by omega), if_pos k]; exact g2 x
      · obtain ⟨v1, v2, v3, v4⟩ := u3 (.inl k)
        obtain ⟨p1, p2⟩ := hH o.2.1.toNat (by omega)
        obtain ⟨q1, q2⟩ := hH o.2.2.1.toNat (by omega)
        refine ⟨fun x => H o.2.1.toNat x + H o.2.2.1.toNat x, ?_, fun x => ?_⟩
        · unfold dgr
          rw [if_neg (by omega), if_pos k]
          split
          · exact (p1.mono (by omega)).add (q1.mono (by omega))
          · exact (p1.mono (by omega)).add (q1.mono (by omega))
        · unfold nxtP; rw [if_neg (by omega), if_neg (by omega), if_pos k, p2, q2, ofF_add]
      · obtain ⟨v1, v2, v3, v4⟩ := u3 (.inr k)
        obtain ⟨p1, p2⟩ := hH o.2.1.toNat (by omega)
        obtain ⟨q1, q2⟩ := hH o.2.2.1.toNat (by omega)
        refine ⟨fun x => H o.2.1.toNat x * H o.2.2.1.toNat x, ?_, fun x => ?_⟩
        · unfold dgr
          have d1 := hds o.2.1.toNat
          have d2 := hds o.2.2.1.toNat
          rw [if_neg (by omega), if_neg (by omega), if_pos k]
          exact (p1.mul q1).mono (by omega)
        · unfold nxtP; rw [if_neg (by omega), if_neg (by omega), if_neg (by omega), if_pos k, p2, q2, ofF_mul]
    obtain ⟨q, q1, q2⟩ := new
    refine ⟨fun j => if j < i then H j else q, fun j hj => ?_⟩
    rw [degL_snoc l (by omega : i < l.length)]
    by_cases hji : j < i
    · rw [getD_app_lt _ _ _ (by omega)]
      obtain ⟨p1, p2⟩ := hH j hji
      refine ⟨by simpa only [if_pos hji] using p1, fun x => ?_⟩
      rw [outP_snoc _ l (by omega : i < l.length), getD_app_lt _ _ _ (by rw [hol]; omega), p2 x]
      simp only [if_pos hji]
    · have e : j = i := by omega
      subst e
      rw [getD_snoc, hlen, if_neg (by omega), if_pos rfl]
      refine ⟨by simpa only [if_neg hji] using q1, fun x => ?_⟩
      rw [outP_snoc _ l (by omega : j < l.length), getD_snoc, hol, if_neg (by omega), if_pos rfl, q2 x]
      simp only [if_neg hji]
theorem evP_poly {lv vars : Int} {l : List O} (h : XOk lv vars l) (hc : cR l) {V : Fld.F → List E} (hV : ∀ k, ∃ g, Fld.PolyD 1 g ∧ ∀ x, (V x).getD k z = ofF (g x)) : ∃ q, Fld.PolyD (dgI l).toNat q ∧ ∀ x, evP l (V x) = ofF (q x) := by
  obtain ⟨H, hH⟩ := steps_poly h hc hV l.length (Nat.le_refl _)
  have hp := h.pos
  obtain ⟨p1, p2⟩ := hH (l.length - 1) (by omega)
  rw [List.take_length] at p1 p2
  refine ⟨H (l.length - 1), p1.mono ?_, p2⟩
  unfold dgI; split <;> omega
theorem btw_F {a b : E} (ha : rngE a) (hb : rngE b) (x : Fld.F) : btw a b (ofF x) = ofF (toF a + x * (toF a + toF b)) := by
  rw [ofF_add, ofF_mul, ofF_add, ofF_toF ha, ofF_toF hb]; rfl
theorem col_bind {t : List (List E)} {r : E} {i k : Nat} (hk : k < t.length) (hi : i < (t.getD k []).length / 2) : (col (bindT t r) i).getD k z = btw ((t.getD k []).getD (2 * i) z) ((t.getD k []).getD (2 * i + 1) z) r := by
  rw [col_at _ _ _ (by rw [bindT_len]; exact hk), bindT_at, bind1_at hi]
theorem sumP_poly {lv : Int} {l : List O} {t : List (List E)} (h : SOk lv l t) (hc : cR l) (htr : allRR t) : ∃ f, Fld.PolyD (dgI l).toNat f ∧ ∀ x, sumP l (bindT t (ofF x)) = ofF (f x) := by
  have hn : ∀ r, ((bindT t r).getD 0 []).length = (t.getD 0 []).length / 2 := fun r => by rw [bindT_at, bind1_len]
  obtain ⟨n, en⟩ : ∃ n, n = (t.getD 0 []).length / 2 := ⟨_, rfl⟩
  have : ∀ i, ∃ q : Fld.F → Fld.F, i < n → Fld.PolyD (dgI l).toNat q ∧ ∀ x, evP l (col (bindT t (ofF x)) i) = ofF (q x) := fun i => by
    by_cases hi : i < n
    · obtain ⟨q, q1, q2⟩ := evP_poly h.x hc (V := fun x => col (bindT t (ofF x)) i) (fun k => by
        by_cases hk : k < t.length
        · refine ⟨fun x => toF ((t.getD k []).getD (2 * i) z) + x * (toF ((t.getD k []).getD (2 * i) z) + toF ((t.getD k []).getD (2 * i + 1) z)), ?_, fun x => ?_⟩
          · exact ((Fld.PolyD.const _).mono (by omega)).add ((Fld.PolyD.id.mul (Fld.PolyD.const _)).mono (by omega))
          · rw [col_bind hk (by rw [h.len k hk]; omega), btw_F (htr k _) (htr k _)]
        · exact ⟨fun _ => 0, (Fld.PolyD.const 0).mono (by omega), fun x => by rw [getD_none (by rw [col_len, bindT_len]; omega), ofF_zero]⟩)
      exact ⟨q, fun _ => ⟨q1, q2⟩⟩
    · exact ⟨fun _ => 0, fun h' => absurd h' hi⟩
  obtain ⟨H, hH⟩ := Classical.skolem.1 this
  refine ⟨fun x => Fld.sm (fun i => H i x) n, Fld.PolyD.sm n fun i hi => (hH i hi).1, fun x => ?_⟩
  unfold sumP
  rw [hn, ← en]
  exact fold_F n fun i hi => (hH i hi).2 x
theorem round_itp {lv : Int} {l : List O} {t : List (List E)} (h : SOk lv l t) (hc : cR l) (htr : allRR t) {r : E} (hr : rngE r) : itpE (roundP l t) r = sumP l (bindT t r) := by
  obtain ⟨f, f1, f2⟩ := sumP_poly h hc htr
  have hd := dgI_le h.x
  unfold itpE
  rw [roundP_len]
  have := Fld.itp_eq (n := (dgI l).toNat + 1) (f := f) (v := fun i => toF ((roundP l t).getD i z)) (by omega) (by omega) f1 (fun i hi => by
    rw [roundP_at (by omega), ← ofF_pl (by omega), f2, toF_ofF]) (toF r)
  rw [← this, ← f2, ofF_toF hr]
theorem inL_fold {lv : Int} {f : Nat → E} (h0 : 0 ≤ lv) (h7 : lv ≤ 7) : ∀ n, (∀ i, i < n → inL lv (f i)) → inL lv (fold f n)
  | 0, _ => inL_z h0 h7
  | n + 1, h => inL_Av (inL_fold h0 h7 n fun i hi => h i (by omega)) (h n (by omega))
theorem SOk.ev {lv : Int} {l : List O} {t : List (List E)} (h : SOk lv l t) (hc : cR l) (htr : allRR t) (i : Nat) : inL lv (evP l (col t i)) := by
  have hx := h.x
  rw [← col_len t i] at hx
  exact (ev_ok hx hc (col_L h.x.lv0 h.x.lv7 htr h.all i)).2
theorem sumP_L {lv : Int} {l : List O} {t : List (List E)} (h : SOk lv l t) (hc : cR l) (htr : allRR t) : inL lv (sumP l t) := inL_fold h.x.lv0 h.x.lv7 _ fun i _ => h.ev hc htr i
theorem plc_0 : plc 0 = z := rfl
theorem plc_1 : plc 1 = one := rfl
theorem btw_z {a b : E} (ha : rngE a) : btw a b z = a := by unfold btw; rw [Pr_zl, Av_zr ha]
theorem btw_one {a b : E} (ha : rngE a) (hb : rngE b) : btw a b one = b := by
  unfold btw
  rw [Pr_one (Av_rng _ _), ← Av_assoc ha ha hb, Av_self ha, Av_zl hb]
theorem ends_sum {lv : Int} {l : List O} {t : List (List E)} (h : SOk lv l t) (hc : cR l) (htr : allRR t) {m : Nat} (hm : (t.getD 0 []).length = 2 ^ (m + 1)) : Av ((roundP l t).getD 0 z) ((roundP l t).getD 1 z) = sumP l t := by
  have hd := dgI_le h.x
  rw [roundP_at (by omega), roundP_at (by omega), plc_0, plc_1]
  have hn : ∀ r, ((bindT t r).getD 0 []).length = 2 ^ m := fun r => by rw [bindT_at, bind1_len, hm, Nat.pow_succ]; omega
  have c0 : ∀ i, i < 2 ^ m → col (bindT t z) i = col t (2 * i) := fun i hi => list_eq z (by rw [col_len, col_len, bindT_len]) fun k hk => by
    rw [col_len] at hk
    rw [col_bind hk (by rw [h.len k hk, hm, Nat.pow_succ]; omega), btw_z (htr k _), col_at _ _ _ hk]
  have c1 : ∀ i, i < 2 ^ m → col (bindT t one) i = col t (2 * i + 1) := fun i hi => list_eq z (by rw [col_len, col_len, bindT_len]) fun k hk => by
    rw [col_len] at hk
    rw [col_bind hk (by rw [h.len k hk, hm, Nat.pow_succ]; omega), btw_one (htr k _) (htr k _), col_at _ _ _ hk]
  unfold sumP
  rw [hn, hn, hm, show 2 ^ (m + 1) = 2 * 2 ^ m by rw [Nat.pow_succ]; omega]
  have hr : ∀ i, rngE (evP l (col t i)) := fun i => (h.ev hc htr i).1
  rw [fold_congr (f := fun i => evP l (col (bindT t z) i)) (g := fun i => evP l (col t (2 * i))) (2 ^ m) (fun i hi => by rw [c0 i hi]), fold_congr (f := fun i => evP l (col (bindT t one) i)) (g := fun i => evP l (col t (2 * i + 1))) (2 ^ m) (fun i hi => by rw [c1 i hi])]
  rw [fold_toF fun i _ => hr _, fold_toF fun i _ => hr _, fold_toF fun i _ => hr _, ← ofF_add, Fld.sm_two]
theorem SOk.eq {lv : Int} {l : List O} {t : List (List E)} (h : SOk lv l t) : sChkV lv l t = 0 := by
  obtain ⟨m, m1, m2⟩ := h.lg
  have e : logI (((t.getD 0 []).length : Nat) : Int) = (m : Int) := by rw [m2]; exact logI_pow (by omega)
  have hp := h.pos
  have e1 : (t.all fun x => decide (x.length = (t.getD 0 []).length)) = true := (all_getD [] _ t).2 fun i hi => by simpa using h.len i hi
  have e2 : t.all (allB lv) = true := (all_getD [] _ t).2 fun i hi => h.all i hi
  unfold sChkV
  rw [if_neg (by rw [h.x.eq]; simp), if_neg (by omega), if_neg (by rw [h.fit]; simp), e, if_neg (by omega), if_neg (by rw [e1]; simp), if_neg (by rw [e2]; simp)]
theorem round_L {lv : Int} {l : List O} {t : List (List E)} (h : SOk lv l t) (hc : cR l) (htr : allRR t) {m : Nat} (hm : (t.getD 0 []).length = 2 ^ (m + 1)) : allL lv (roundP l t) := fun j => by
  by_cases hj : j ≤ (dgI l).toNat
  · obtain ⟨b1, b2, b3⟩ := h.bind htr hm (h.plc hj)
    rw [roundP_at hj]; exact sumP_L b1 hc b3
  · rw [getD_none (by rw [roundP_len]; omega)]; exact inL_z h.x.lv0 h.x.lv7
/-! Proving. -/
def tabN (t : List (List E)) (rs : List E) : List (List E) := rs.foldl bindT t
def rndsP (l : List O) : List (List E) → List E → List (List E)
  | _, [] => []
  | t, x :: rs => roundP l t :: rndsP l (bindT t x) rs
theorem tabN_snoc (t : List (List E)) (rs : List E) (x : E) : tabN t (rs ++ [x]) = bindT (tabN t rs) x := by simp [tabN]
theorem rndsP_snoc (l : List O) : ∀ (rs : List E) (t : List (List E)) (x : E), rndsP l t (rs ++ [x]) = rndsP l t rs ++ [roundP l (tabN t rs)]
  | [], t, x => rfl
  | y :: rs, t, x => by
    show roundP l t :: rndsP l (bindT t y) (rs ++ [x]) = roundP l t :: rndsP l (bindT t y) rs ++ _
    rw [rndsP_snoc l rs (bindT t y) x]; rfl
theorem rndsP_len (l : List O) : ∀ (rs : List E) (t : List (List E)), (rndsP l t rs).length = rs.length
  | [], t => rfl
  | y :: rs, t => by rw [rndsP, List.length_cons, rndsP_len l rs, List.length_cons]
theorem rndsP_at (l : List O) : ∀ (rs : List E) (t : List (List E)) (i : Nat), i < rs.length → (rndsP l t rs).getD i [] = roundP l (tabN t (rs.take i))
  | [], t, i, h => absurd h (by simp)
  | y :: rs, t, 0, h => rfl
  | y :: rs, t, i + 1, h => rndsP_at l rs (bindT t y) i (by simpa using h)
theorem tabN_len (t : List (List E)) : ∀ rs : List E, (tabN t rs).length = t.length := fun rs => by
  induction rs generalizing t with
  | nil => rfl
  | cons x rs ih => show (tabN (bindT t x) rs).length = _; rw [ih, bindT_len]
theorem tabN_at (t : List (List E)) (i : Nat) : ∀ rs : List E, (tabN t rs).getD i [] = bindN (t.getD i []) rs := fun rs => by
  induction rs generalizing t with
  | nil => rfl
  | cons x rs ih => show (tabN (bindT t x) rs).getD i [] = _; rw [ih, bindT_at]; rfl
theorem midT.tabN {t : List (List E)} (h : midT t) : ∀ rs : List E, midT (tabN t rs) := fun rs => by
  induction rs generalizing t with
  | nil => exact h
  | cons x rs ih => exact ih (h.bind x)
theorem SOk.tabN {lv : Int} {l : List O} : ∀ (rs : List E) {t : List (List E)} {m : Nat}, SOk lv l t → allRR t → (t.getD 0 []).length = 2 ^ (m + rs.length) → allL lv rs → SOk lv l (H1.tabN t rs) ∧ allRR (H1.tabN t rs) ∧ ((H1.tabN t rs).getD 0 []).length = 2 ^ m
  | [], t, m, h, htr, hm, _ => ⟨h, htr, hm⟩
  | x :: rs, t, m, h, htr, hm, hL => by
    obtain ⟨b1, b2, b3⟩ := h.bind htr (m := m + rs.length) hm (hL 0)
    exact SOk.tabN rs b1 b3 b2 fun j => hL (j + 1)
theorem ver_rnds {lv : Int} {l : List O} {t : List (List E)} {r : List E} (h : SOk lv l t) (hc : cR l) (htr : allRR t) (hm : (t.getD 0 []).length = 2 ^ r.length) (hr : allL lv r) : ∀ m i, i + m = r.length → verS (rndsP l t r) r m i (sumP l (tabN t (r.take i))) = (sumP l (tabN t r), 0)
  | 0, i, e => by rw [verS, show i = r.length by omega, List.take_length]
  | m + 1, i, e => by
    have hL : allL lv (r.take i) := fun j => by
      by_cases hj : j < i
      · rw [List.getD_eq_getElem?_getD, List.getElem?_take, if_pos hj, ← List.getD_eq_getElem?_getD]; exact hr j
      · rw [getD_none (by rw [List.length_take]; omega)]; exact inL_z h.x.lv0 h.x.lv7
    have hl : (r.take i).length = i := by rw [List.length_take]; omega
    obtain ⟨s1, s2, s3⟩ := SOk.tabN (r.take i) (m := m + 1) h htr (by rw [hm, hl]; congr 1; omega) hL
    rw [verS, rndsP_at l r t i (by omega), if_pos (ends_sum s1 hc s2 s3), round_itp s1 hc s2 (hr i).1, ← tabN_snoc, ← take_snoc r z (by omega)]
    exact ver_rnds h hc htr hm hr m (i + 1) (by omega)
noncomputable def provV (lv : Int) (l : List O) (t : List (List E)) (r : List E) : Int :=
  if sChkV lv l t = 0 then (if (r.length : Int) = logI (t.getD 0 []).length then (if allB lv r = true then 0 else 5) else 1) else sChkV lv l t
theorem Prove_X (lv : Int) (l : List O) (t : List (List E)) (r : List E) (ht : midT t) (hc : cR l) (htr : allRR t) (hr : allR r) (h6 : r.length ≤ 100) : T (fun k => sumcheck_Prove.f k lv l t r) (fun q => q = if provV lv l t r = 0 then ((rndsP l t r, col (tabN t r) 0, ()), 0) else (([], [], ()), provV lv l t r)) := by
  have h1000 := ht.1
  refine T.eq (sumcheck_Prove.f_eq · lv l t r) (T.bind (sCheck_X lv l t ht.few) fun e he => T.ite (fun h => T.pure ?_) fun h => ?_)
  · subst he
    have h : ¬ sChkV lv l t = 0 := by simpa using h
    have e : provV lv l t r = sChkV lv l t := by unfold provV; rw [if_neg h]
    rw [e, if_neg h]
  subst he
  have h0 : sChkV lv l t = 0 := by simpa using h
  have S := sChkV_ok h0
  refine T.yes (inB_nat (i := 0) S.pos) (T.bind (log_X _) fun q hq => ?_)
  have hq : q = logI ((t.getD 0 []).length : Int) := hq
  subst hq
  refine T.ite (fun h => T.pure ?_) fun h => ?_
  · have e : provV lv l t r = 1 := by unfold provV; rw [if_pos h0, if_neg (by simpa using h)]
    rw [e]; rfl
  have hpl : (r.length : Int) = logI ((t.getD 0 []).length : Int) := by simpa using h
  have hn := pow_log hpl
  refine T.bind (of_all_X lv r (by omega)) fun b hb => ?_
  subst hb
  refine T.ite (fun h => T.pure ?_) fun h => ?_
  · have e : provV lv l t r = 5 := by unfold provV; rw [if_pos h0, if_pos hpl, if_neg (by simpa using h)]
    rw [e]; rfl
  have hal : allB lv r = true := by simpa using h
  have e : provV lv l t r = 0 := by unfold provV; rw [if_pos h0, if_pos hpl, if_pos hal]
  rw [e, if_pos rfl]
  have rL := allL_of S.x.lv0 S.x.lv7 hr hal
  obtain ⟨m12, q1, q2⟩ := S.lg
  have hr12 : r.length = m12 := two_inj (hn.symm.trans q2)
  have tk : ∀ i, i ≤ r.length → SOk lv l (tabN t (r.take i)) ∧ allRR (tabN t (r.take i)) ∧ ((tabN t (r.take i)).getD 0 []).length = 2 ^ (r.length - i) := fun i hi => by
    have hl : (r.take i).length = i := by rw [List.length_take]; omega
    refine SOk.tabN (r.take i) (m := r.length - i) S htr (by rw [hn, hl]; congr 1; omega) fun j => ?_
    by_cases hj : j < i
    · rw [List.getD_eq_getElem?_getD, List.getElem?_take, if_pos hj, ← List.getD_eq_getElem?_getD]; exact rL j
    · rw [getD_none (by rw [hl]; omega)]; exact inL_z S.x.lv0 S.x.lv7
  refine T.loop0 (σ := List (List E) × List (List E)) (f := fun k s i => sumcheck_Prove.l250 k lv l s.1 ((), (), ()) (s.2, (), ()) r (r.length : Int) i) r.length (fun s i => s = (tabN t (r.take i), rndsP l t (r.take i))) (t, []) (by simp [tabN, rndsP]) fun s i hi hI ih => ?_
  subst hI
  dsimp only
  obtain ⟨t1, t2, t3⟩ := tk i hi
  have hmid := ht.tabN (r.take i)
  refine T.eq (sumcheck_Prove.l250_eq · lv l _ _ _ r _ _) (T.ite (fun hlt => ?_) (fun hge => ?_))
  · have hlt := lt_dec hlt
    simp only [Int.toNat_natCast]
    have t3' : ((tabN t (r.take i)).getD 0 []).length = 2 ^ ((r.length - i - 1) + 1) := by rw [t3]; congr 1; omega
    have zr : r.getD i (0, 0, ()) = r.getD i z := rfl
    rw [zr]
    refine T.yes (inB_nat hlt) (T.bind (round_X t1 hmid hc t2 t3' (by omega)) fun v hv => T.yes (room_ok (by rw [rndsP_len, List.length_take]; simp only [List.length_singleton]; omega)) (T.bind (Bind_X lv _ (r.getD i z) hmid (rL i).1 t2) fun b hb => ?_))
    rw [t1.ask t3' (by omega) (rL i), if_pos rfl] at hb
    subst hb hv
    rw [inc (by omega)]
    refine ih (_, _) hlt ?_
    rw [take_snoc r z hlt, tabN_snoc, rndsP_snoc]
  · have e : i = r.length := Nat.le_antisymm hi (nlt_dec hge)
    subst e
    rw [List.take_length] at t1 t2 t3 hmid ⊢
    rw [Nat.sub_self] at t3
    obtain ⟨tt, ett⟩ : ∃ tt, tt = tabN t r := ⟨_, rfl⟩
    rw [← ett] at t1 t2 t3 hmid ⊢
    have hm1 := hmid.1
    refine T.loop0 (f := fun k s i => sumcheck_Prove.l506 k ((), (), ()) (rndsP l t r, s, ()) tt (tt.length : Int) i) tt.length (fun s i => s = col (tt.take i) 0) [] rfl fun s j hj hs ih2 => ?_
    have hlen : s.length = j := by rw [hs, col_len, List.length_take]; omega
    refine T.eq (sumcheck_Prove.l506_eq · _ _ tt _ _) (T.ite (fun h => ?_) (fun h => ?_))
    · have hlt2 := lt_dec h
      simp only [Int.toNat_natCast]
      refine T.yes (inB_nat hlt2) (T.yes (inB_nat (i := 0) (by rw [t1.len j hlt2, t3]; decide)) (T.yes (room_ok (by simp only [List.length_singleton]; omega)) ?_))
      rw [inc (by omega)]
      refine ih2 _ hlt2 ?_
      rw [hs, take_snoc tt [] hlt2]
      simp [col]; rfl
    · have e : j = tt.length := Nat.le_antisymm hj (nlt_dec h)
      subst e
      rw [List.take_length] at hs
      subst hs
      exact T.pure rfl
theorem At_X {lv : Int} {t p : List E} (h : FOk lv t p) (hl : t.length = 2 ^ p.length) (h1 : t.length ≤ 1000000) (h2 : p.length ≤ 16) (ht : allR t) (hr : allR p) : T (fun k => cube_At.f k lv t p) (fun q => q = ((bindN t p).getD 0 z, 0)) := by
  refine T.eq (cube_At.f_eq · lv t p) (T.bind (wide_X lv) fun w hw => T.no (by
    have : ¬ w = 0 := by rw [hw]; have := h.lv0; have := h.lv7; omega
    simpa using this) (T.bind (log_X _) fun q hq => ?_))
  have e : logI (t.length : Int) = (p.length : Int) := by rw [hl]; exact logI_pow h2
  rw [e] at hq
  subst hq
  refine T.no (by simp) (T.bind (First_X lv t p h1 (by omega) ht hr) fun r hr' => ?_)
  have hr' := hr'.1
  rw [h.eq, if_pos rfl] at hr'
  subst hr'
  have len : ∀ (p : List E) (t : List E), t.length = 2 ^ p.length → (bindN t p).length = 1 := fun p => by
    induction p with
    | nil => intro t h; exact h
    | cons x p ih => intro t h; exact ih (bind1 t x) (by rw [bind1_len, h, List.length_cons, Nat.pow_succ]; omega)
  exact T.no (by rfl) (T.yes (inB_nat (i := 0) (by rw [len p t hl]; decide)) (T.pure rfl))
theorem proves_T (lv : Int) (x : List O × List (List E) × Unit) (r : List E) (hx : okD TCase20 x) (hr : okD (.sl false TE) r) : T (fun k => steeplelaw20_SumcheckProves.f k lv x r) (fun b => b = true) := by
  have hc : cR x.1 := okOs hx.1
  have hrt : allRR x.2.1 := okTs hx.2.1
  have hr : allR r := okEs hr
  refine T.eq (steeplelaw20_SumcheckProves.f_eq · lv x r) (T.bind (few20_X x) fun b hb => T.ite (fun _ => T.bind awake20_T fun a ha => T.pure ha) fun h1 => T.ite (fun _ => T.bind awake20_T fun a ha => T.pure ha) fun h6 => ?_)
  obtain ⟨h12, h5, h16⟩ := hb (by simpa using h1)
  have h6 : r.length ≤ 6 := by have := of_decide_eq_false h6; omega
  have ht : midT x.2.1 := ⟨by omega, fun i => by have := h16 i; omega⟩
  refine T.bind (ref16_X x.1 (by omega)) fun l hl => T.bind (refs09_X x.2.1 (by omega) fun i => by have := h16 i; omega) fun t htt => T.bind (Prove_X lv x.1 x.2.1 r ht hc hrt hr (by omega)) fun p hp => ?_
  subst hl htt
  refine T.bind (r20Check_X lv x.1 x.2.1 ht.few hc hrt) fun w hw => ?_
  subst hw
  -- where something hinders
  have bad : ∀ e : Int, e ≠ 0 → p.2 = e → p.1 = ([], [], ()) → ∀ g, T g (fun b => b = true) → T (fun k => bif (e != 0) then ((steeplelaw20_awake.f k).bind fun t83 => (bif t83 then (bif (p.2 == e) then (some ((w64 ((p.1.1.length : Int) + (p.1.2.1.length : Int))) == 0)) else (some false)) else (some false))) else g k) (fun b => b = true) := fun e h1 h2 h3 g hg => by
    refine T.yes (by simpa using h1) (T.bind awake20_T fun a ha => T.yes ha (T.yes (by simpa using h2) (T.pure ?_)))
    rw [h3]; rfl
  have stop : ∀ e : Int, e ≠ 0 → p.2 = e → p.1 = ([], [], ()) → ∀ i : Nat, T (fun k => steeplelaw20_SumcheckProves.l1018 k lv r x x.1 p.1 p.2 e (i : Int)) (fun b => b = true) := fun e h1 h2 h3 i => by
    refine T.eq (steeplelaw20_SumcheckProves.l1018_eq · lv r x x.1 p.1 p.2 e _) (T.no (by simpa using h1) (T.yes (by simpa using h1) (T.bind awake20_T fun a ha => T.yes ha (T.yes (by simpa using h2) (T.pure ?_)))))
    rw [h3]; rfl
  have go : ∀ e : Int, (e ≠ 0 → p.2 = e ∧ p.1 = ([], [], ())) → (e = 0 → sChkV lv x.1 x.2.1 = 0 ∧ (r.length : Int) = logI (x.2.1.getD 0 []).length) → T (fun k => steeplelaw20_SumcheckProves.l127 k lv r x x.1 p.1 p.2 e) (fun b => b = true) := fun e h1 h2 => by
    refine T.eq (steeplelaw20_SumcheckProves.l127_eq · lv r x x.1 p.1 p.2 e) ?_
    by_cases he : e = 0
    · subst he
      obtain ⟨h0, hpl⟩ := h2 rfl
      have S := sChkV_ok h0
      have hn := pow_log hpl
      unfold provV at hp
      rw [if_pos h0, if_pos hpl] at hp
      refine T.loop0 (σ := Unit) (f := fun k _ i => steeplelaw20_SumcheckProves.l1018 k lv r x x.1 p.1 p.2 0 i) r.length (fun _ i => ∀ j, j < i → ofB lv (r.getD j z) = true) () (fun j h => absurd h (by omega)) fun _ i hi hI ih => ?_
      refine T.eq (steeplelaw20_SumcheckProves.l1018_eq · lv r x x.1 p.1 p.2 0 _) (T.yes (by rfl) (T.ite (fun hlt => ?_) (fun hge => T.no (by rfl) ?_)))
      · have hlt := lt_dec hlt
        simp only [Int.toNat_natCast]
        refine T.yes (inB_nat hlt) (T.bind (rof_X lv (hr i)) fun b hb => ?_)
        have hb : b = ofB lv (r.getD i z) := hb
        rw [inc (by omega)]
        refine T.ite (fun h => ?_) (fun h => ?_)
        · have hbad : ¬ allB lv r = true := fun hh => by
            have := (all_getD z _ r).1 hh i hlt
            rw [← hb] at this; rw [this] at h; cases h
          rw [if_neg hbad, if_neg (by decide)] at hp
          have := stop 5 (by decide) (by rw [hp]) (by rw [hp]) (i + 1)
          simpa using this
        · refine ih () hlt fun j hj => ?_
          by_cases e : j = i
          · subst e; rw [← hb]; simpa using h
          · exact hI j (by omega)
      · have e : i = r.length := Nat.le_antisymm hi (nlt_dec hge)
        subst e
        have hal : allB lv r = true := (all_getD z _ r).2 hI
        rw [if_pos hal, if_pos rfl] at hp
        subst hp
        have rL := allL_of S.x.lv0 S.x.lv7 hr hal
        obtain ⟨s1, s2, s3⟩ := SOk.tabN r (m := 0) S hrt (by rw [hn, Nat.zero_add]) rL
        have hd := dgI_le S.x
        have sL := sumP_L S hc hrt
        have tk : ∀ i, i < r.length → allL lv ((rndsP x.1 x.2.1 r).getD i []) ∧ ((rndsP x.1 x.2.1 r).getD i []).length = (dgI x.1).toNat + 1 := fun i hi => by
          have hl : (r.take i).length = i := by rw [List.length_take]; omega
          obtain ⟨t1, t2, t3⟩ := SOk.tabN (r.take i) (m := r.length - i - 1 + 1) S hrt (by rw [hn, hl]; congr 1; omega) (fun j => by
            by_cases hj : j < i
            · rw [List.getD_eq_getElem?_getD, List.getElem?_take, if_pos hj, ← List.getD_eq_getElem?_getD]; exact rL j
            · rw [getD_none (by rw [hl]; omega)]; exact inL_z S.x.lv0 S.x.lv7)
          rw [rndsP_at _ _ _ _ hi]
          exact ⟨round_L t1 hc t2 t3, roundP_len _ _⟩
        have hrl := rndsP_len x.1 r x.2.1
        refine T.bind (sSum_X lv x.1 x.2.1 ht.few hc hrt) fun s hs => T.bind (rdegree_X S.x) fun d hd' => ?_
        rw [if_pos h0] at hs
        subst hs hd'
        refine T.bind (Verify_X lv (dgI x.1) (sumP x.1 x.2.1) (rndsP x.1 x.2.1 r) r (by omega) (fun i => by
          by_cases hi : i < r.length
          · rw [(tk i hi).2]; omega
          · rw [getD_none (by omega)]; simp) (by omega) (fun i => by
          by_cases hi : i < r.length
          · exact allL_R (tk i hi).1
          · rw [getD_none (by omega)]; exact fun j => rngE_z) hr) fun c hc' => ?_
        have hmay : mayV lv (dgI x.1) (sumP x.1 x.2.1) (rndsP x.1 x.2.1 r) r = 0 := by
          have := S.x.lv0; have := S.x.lv7
          have q1 : ((rndsP x.1 x.2.1 r).all fun v => decide ((v.length : Int) = dgI x.1 + 1)) = true := (all_getD [] _ _).2 fun i hi => by
            rw [(tk i (by omega)).2]; simp; omega
          have q2 : (rndsP x.1 x.2.1 r).all (allB lv) = true := (all_getD [] _ _).2 fun i hi => allL_B (tk i (by omega)).1
          unfold mayV
          rw [if_neg (by rw [S.fit]; simp; omega), if_neg (by rw [q1, hrl]; simp), if_neg (by rw [q2, sL.2, hal]; simp)]
        have hver : verV lv (dgI x.1) (sumP x.1 x.2.1) (rndsP x.1 x.2.1 r) r = (sumP x.1 (tabN x.2.1 r), 0) := by
          unfold verV
          rw [if_pos hmay, hrl]
          exact ver_rnds S hc hrt hn rL r.length 0 (by omega)
        rw [hver] at hc'
        subst hc'
        have hce : (col (tabN x.2.1 r) 0).length = x.2.1.length := by rw [col_len, tabN_len]
        refine T.no (by rfl) (T.no (by rfl) (T.no (by rfl) (T.no (by
          show (((col (tabN x.2.1 r) 0).length : Int) != (x.2.1.length : Int)) = false
          rw [hce]; simp) ?_)))
        refine T.loop0 (σ := Unit) (f := fun k _ i => steeplelaw20_SumcheckProves.l32762 k lv r x (rndsP x.1 x.2.1 r, col (tabN x.2.1 r) 0, ()) (sumP x.1 (tabN x.2.1 r)) i) x.2.1.length (fun _ _ => True) () trivial fun _ i hi _ ih2 => ?_
        refine T.eq (steeplelaw20_SumcheckProves.l32762_eq · lv r x _ _ _) (T.ite (fun hlt => ?_) (fun hge => ?_))
        · have hlt : i < x.2.1.length := by rw [← hce]; exact lt_dec hlt
          simp only [Int.toNat_natCast]
          have hli : (x.2.1.getD i []).length = 2 ^ r.length := by rw [S.len i hlt, hn]
          refine T.yes (inB_nat hlt) (T.bind (At_X ⟨S.x.lv0, S.x.lv7, ⟨r.length, by omega, hli, Nat.le_refl _⟩, S.all i hlt, hal⟩ hli (ht.2 i) (by omega) (hrt i) hr) fun q hq => ?_)
          subst hq
          have e1 : (col (tabN x.2.1 r) 0).getD i (0, 0, ()) = (bindN (x.2.1.getD i []) r).getD 0 z := by
            have := col_at (tabN x.2.1 r) 0 i (by rw [tabN_len]; exact hlt)
            rw [tabN_at] at this; exact this
          rw [e1]
          refine T.no (by rfl) (T.yes (inB_nat (by rw [hce]; exact hlt)) (T.no (by rw [z_eq]; rfl) ?_))
          rw [inc (by omega)]
          exact ih2 () hlt trivial
        · have cl := col_L s1.x.lv0 s1.x.lv7 s2 s1.all 0
          refine T.bind (Eval_X lv x.1 (col (tabN x.2.1 r) 0) (by omega) hc (allL_R cl)) fun q hq => T.bind awake20_T fun a ha => T.yes ha ?_
          rw [hce, if_pos S.x.eq, if_pos (allL_B cl)] at hq
          subst hq
          have e1 : sumP x.1 (tabN x.2.1 r) = evP x.1 (col (tabN x.2.1 r) 0) := by
            unfold sumP
            rw [s3]
            show Av z _ = _
            exact Av_zl (s1.ev hc s2 0).1
          rw [e1]
          exact T.yes (by rfl) (T.pure (z_eq _))
    · have := stop e he (h1 he).1 (h1 he).2 0
      simpa using this
  by_cases h0 : sChkV lv x.1 x.2.1 = 0
  · have S := sChkV_ok h0
    refine T.yes (by simpa using h0) (T.yes (inB_nat (i := 0) S.pos) (T.bind (rlog_X _) fun q hq => ?_))
    have hq : q = logI ((x.2.1.getD 0 []).length : Int) := hq
    subst hq
    by_cases hpl : (r.length : Int) = logI ((x.2.1.getD 0 []).length : Int)
    · refine T.no (by rw [hpl]; simp) ?_
      rw [h0]
      exact go 0 (fun h => absurd rfl h) (fun _ => ⟨h0, hpl⟩)
    · have hp2 := hp
      unfold provV at hp2
      rw [if_pos h0, if_neg hpl, if_neg (by decide)] at hp2
      exact T.yes (by simpa using fun e => hpl e.symm) (go 1 (fun _ => ⟨by rw [hp2], by rw [hp2]⟩) (fun h => absurd h (by decide)))
  · have hp2 := hp
    unfold provV at hp2
    rw [if_neg h0, if_neg h0] at hp2
    exact T.no (by simpa using h0) (go _ (fun _ => ⟨by rw [hp2], by rw [hp2]⟩) (fun h => absurd h h0))
end Go.Proofs.Ytplmejnoepkdgaa.H1
