/- A walk by reckoning: what a Go function comes to, reckoned out of its operations, and why that is so. -/
import Derived.Test.YtlmcalffemklnaaWitnessCondsH
import Derived.Test.YtlmcalffemklnaaRf5
import Derived.Test.YtlmcalffemklnaaWitnessCondsP0
set_option linter.unusedVariables false
set_option linter.unusedSimpArgs false
-- Pe
namespace Go.Proofs.Ytlmcalffemklnaa.H1
open Go Go.Proofs.Ytlmcalffemklnaa.Rf
def fewC (c : List (List O)) : Prop := c.length ≤ 50 ∧ ∀ j, (c.getD j []).length ≤ 12
end Go.Proofs.Ytlmcalffemklnaa.H1

-- Pg
namespace Go.Proofs.Ytlmcalffemklnaa.H1
open Go Go.Proofs.Ytlmcalffemklnaa.Rf
theorem wrap_rng (n : Int) : rng (IntKind.u64.wrap n) := by
  have : IntKind.u64.wrap n = n % 18446744073709551616 := by unfold IntKind.wrap; simp [IntKind.signed, IntKind.bits]
  rw [this]; exact ⟨Int.emod_nonneg _ (by decide), Int.emod_lt_of_pos _ (by decide)⟩
theorem xor_rng (a b : Int) : rng (xorI .u64 a b) := wrap_rng _
def rngE (x : E) : Prop := rng x.1 ∧ rng x.2.1
theorem rngE_z : rngE z := ⟨⟨by decide, by decide⟩, by decide, by decide⟩
def one : E := (0, 1, ())
theorem ofB_bit {lv : Int} (h1 : 0 ≤ lv) (h2 : lv ≤ 7) : ofB lv z = true ∧ ofB lv one = true := by
  have hl : lv = 0 ∨ lv = 1 ∨ lv = 2 ∨ lv = 3 ∨ lv = 4 ∨ lv = 5 ∨ lv = 6 ∨ lv = 7 := by omega
  rcases hl with rfl | rfl | rfl | rfl | rfl | rfl | rfl | rfl <;> decide
end Go.Proofs.Ytlmcalffemklnaa.H1

-- Pj
namespace Go.Proofs.Ytlmcalffemklnaa.H1
open Go Go.Proofs.Ytlmcalffemklnaa.Rf
/-- All elements are of a level. -/
def allOf (lv : Int) (l : List E) : Prop := ∀ j, j < l.length → ofB lv (l.getD j z) = true
theorem of1_S (x : E) (lv : Int) : T (fun k => sumcheck_of_1.f k x lv) (fun b => b = !ofB lv x) := T.eq (sumcheck_of_1.f_eq · x lv) (T.bind (of_T lv x) fun b hb => T.pure (by rw [hb]))
/-- Evaluating what may be evaluated is no error. -/
theorem Eval_ok (lv : Int) (l : List O) (v : List E) (hv : v.length ≤ 100000) (hc : Ev (fun k => expr_Check.f k lv (v.length : Int) l) 0) (ho : allOf lv v) : T (fun k => expr_Eval.f k lv l v) (fun r => r.2 = 0) := by
  obtain ⟨q1, q2, q3⟩ := (Check_T lv _ l).of hc rfl
  refine T.eq (expr_Eval.f_eq · lv l v) (T.bindE (Check_T lv _ l) fun e he hE => T.ite (fun h => ?_) fun h => ?_)
  · have := hE.uniq hc; subst this; simp at h
  refine T.loop0 (σ := Unit) (f := fun k _ i => expr_Eval.l58 k lv l v (0, 0, ()) v (v.length : Int) i) v.length (fun _ i => True) () trivial fun s i hi hI ih => ?_
  refine T.eq (expr_Eval.l58_eq · lv l v _ v _ _) (T.ite (fun h => ?_) (fun h => ?_))
  · have hlt := lt_dec h
    simp only [Int.toNat_natCast]
    refine T.yes (inB_nat hlt) (T.bind (of_T _ _) fun b hb => T.no ?_ ?_)
    · rw [hb, show v.getD i (0, 0, ()) = v.getD i z from rfl, ho i hlt]; rfl
    · rw [inc (by omega)]; exact ih () hlt trivial
  · refine T.loop0 (f := fun k s i => expr_Eval.l250 k lv v (0, 0, ()) s l (l.length : Int) i) l.length (fun s i => s.length = i) [] rfl fun s i hi hI' ih => ?_
    refine T.eq (expr_Eval.l250_eq · lv v _ s l _ _) (T.ite (fun h => ?_) (fun h => ?_))
    · have hlt := lt_dec h
      simp only [Int.toNat_natCast]
      have hok := q3 i hlt
      obtain ⟨o, hoo⟩ : ∃ o, o = l.getD i zo := ⟨_, rfl⟩
      have ho' : l.getD i (0, 0, 0, (0, 0, ()), ()) = o := hoo.symm
      rw [← hoo] at hok
      have hroom : ∀ t : E, room (s.length + ([t] : List E).length) 16 = true := fun t => room_ok (by simp only [List.length_singleton]; omega)
      have go : ∀ t, T (fun k => expr_Eval.l250 k lv v (0, 0, ()) (s ++ [t]) l (l.length : Int) (w64 ((i : Int) + 1))) _ := fun t => by
        rw [inc (by omega)]
        exact ih _ hlt (by simp [hI'])
      simp only [ho']
      obtain ⟨u1, u2, u3⟩ := hok
      rw [← hI'] at u3
      refine T.yes (inB_nat hlt) (T.ite (fun k1 => T.yes (hroom _) (go _)) fun k1 => T.ite (fun k2 => T.yes ?_ (T.yes (hroom _) (go _))) fun k2 => T.ite (fun k3 => T.yes ?_ (T.yes ?_ (T.bind (add_T _ _) fun t ht => T.yes (hroom _) (go _)))) fun k3 => T.ite (fun k4 => T.yes ?_ (T.yes ?_ (T.bind (Mv_T _ _ _) fun t ht => T.yes (hroom _) (go _)))) fun k4 => T.yes (hroom _) (go _))
      all_goals simp only [beq_iff_eq, beq_eq_false_iff_ne, ne_eq] at *
      · exact inB_int (u2 k2).1 (u2 k2).2
      · exact inB_int (u3 (.inl k3)).1 (u3 (.inl k3)).2.1
      · exact inB_int (u3 (.inl k3)).2.2.1 (u3 (.inl k3)).2.2.2
      · exact inB_int (u3 (.inr k4)).1 (u3 (.inr k4)).2.1
      · exact inB_int (u3 (.inr k4)).2.2.1 (u3 (.inr k4)).2.2.2
    · have e : i = l.length := by have := nlt_dec h; omega
      subst e
      have hw : w64 ((s.length : Int) - 1) = ((l.length - 1 : Nat) : Int) := by rw [w64_in (by omega) (by omega)]; omega
      rw [hw]
      exact T.yes (inB_nat (by omega)) (T.pure rfl)
end Go.Proofs.Ytlmcalffemklnaa.H1

-- Qa
namespace Go.Proofs.Ytlmcalffemklnaa.Tow
theorem mulX_xor : ∀ l a b, mulX l (a ^^^ b) = mulX l a ^^^ mulX l b
  | 0, a, b => rfl
  | l + 1, a, b => by
    simp only [mulX, Nat.shiftRight_xor_distrib, Nat.and_xor_distrib_right, mulX_xor l, Nat.shiftLeft_xor_distrib]
    ac_rfl
theorem mul_xorl : ∀ l a a' b, mul l (a ^^^ a') b = mul l a b ^^^ mul l a' b
  | 0, a, a', b => by simp only [mul, Nat.and_xor_distrib_right]
  | l + 1, a, a', b => by
    have e : ((a ^^^ a') >>> 2 ^ l) ^^^ ((a ^^^ a') &&& (2 ^ 2 ^ l - 1)) = ((a >>> 2 ^ l) ^^^ (a &&& (2 ^ 2 ^ l - 1))) ^^^ ((a' >>> 2 ^ l) ^^^ (a' &&& (2 ^ 2 ^ l - 1))) := by
      simp only [Nat.shiftRight_xor_distrib, Nat.and_xor_distrib_right]; ac_rfl
    simp only [mul_eq, e]
    simp only [Nat.shiftRight_xor_distrib, Nat.and_xor_distrib_right, mul_xorl l, mulX_xor, Nat.shiftLeft_xor_distrib]
    ac_rfl
theorem mul_xorr : ∀ l a b b', mul l a (b ^^^ b') = mul l a b ^^^ mul l a b'
  | 0, a, b, b' => by simp only [mul, Nat.and_xor_distrib_left, Nat.and_xor_distrib_right]
  | l + 1, a, b, b' => by
    have e : ((b ^^^ b') >>> 2 ^ l) ^^^ ((b ^^^ b') &&& (2 ^ 2 ^ l - 1)) = ((b >>> 2 ^ l) ^^^ (b &&& (2 ^ 2 ^ l - 1))) ^^^ ((b' >>> 2 ^ l) ^^^ (b' &&& (2 ^ 2 ^ l - 1))) := by
      simp only [Nat.shiftRight_xor_distrib, Nat.and_xor_distrib_right]; ac_rfl
    simp only [mul_eq, e]
    simp only [Nat.shiftRight_xor_distrib, Nat.and_xor_distrib_right, mul_xorr l, mulX_xor, Nat.shiftLeft_xor_distrib]
    ac_rfl
theorem hi_of {w x y : Nat} (h : y < 2 ^ w) : (x <<< w ^^^ y) >>> w = x := by
  rw [← xor_shl h, Nat.shiftRight_eq_div_pow, Nat.shiftLeft_eq, Nat.add_comm, Nat.add_mul_div_right _ _ (Nat.two_pow_pos w), Nat.div_eq_of_lt h, Nat.zero_add]
theorem lo_of {w x y : Nat} (h : y < 2 ^ w) : (x <<< w ^^^ y) &&& (2 ^ w - 1) = y := by
  rw [← xor_shl h, Nat.and_two_pow_sub_one_eq_mod, Nat.shiftLeft_eq, Nat.add_comm, Nat.add_mul_mod_self_right, Nat.mod_eq_of_lt h]
theorem cat_lt {w x y : Nat} (hx : x < 2 ^ w) (hy : y < 2 ^ w) : x <<< w ^^^ y < 2 ^ (w + w) := by
  rw [← xor_shl hy, Nat.shiftLeft_eq, Nat.pow_add]
  have : (x + 1) * 2 ^ w ≤ 2 ^ w * 2 ^ w := Nat.mul_le_mul_right _ hx
  rw [Nat.add_mul] at this; omega
theorem mulX_lt : ∀ (l : Nat) (a : Nat), a < 2 ^ 2 ^ l → mulX l a < 2 ^ 2 ^ l
  | 0, a, h => h
  | l + 1, a, h => by
    rw [two_two] at h ⊢
    exact cat_lt (Nat.xor_lt_two_pow (lo_lt _ _) (mulX_lt l _ (hi_lt h))) (hi_lt h)
theorem mul_lt : ∀ (l : Nat) (a b : Nat), a < 2 ^ 2 ^ l → b < 2 ^ 2 ^ l → mul l a b < 2 ^ 2 ^ l
  | 0, a, b, _, _ => by
    simp only [mul]
    have : a &&& b &&& 1 ≤ 1 := Nat.and_le_right
    have e : (2 : Nat) ^ 2 ^ 0 = 2 := rfl
    omega
  | l + 1, a, b, ha, hb => by
    rw [two_two] at ha hb ⊢
    rw [mul_eq]
    have h1 := hi_lt ha
    have h2 := hi_lt hb
    have h3 := lo_lt (2 ^ l) a
    have h4 := lo_lt (2 ^ l) b
    have hh := mul_lt l _ _ h1 h2
    have hl := mul_lt l _ _ h3 h4
    have hm := mul_lt l _ _ (Nat.xor_lt_two_pow h1 h3) (Nat.xor_lt_two_pow h2 h4)
    exact cat_lt (Nat.xor_lt_two_pow (Nat.xor_lt_two_pow (Nat.xor_lt_two_pow hm hh) hl) (mulX_lt l _ hh)) (Nat.xor_lt_two_pow hl hh)
/-- A lower level's words multiply as before. -/
theorem mul_up {l a b : Nat} (ha : a < 2 ^ 2 ^ l) (hb : b < 2 ^ 2 ^ l) : mul (l + 1) a b = mul l a b := by
  rw [mul_eq]
  have h1 : a >>> 2 ^ l = 0 := by rw [Nat.shiftRight_eq_div_pow]; exact Nat.div_eq_of_lt ha
  have h2 : b >>> 2 ^ l = 0 := by rw [Nat.shiftRight_eq_div_pow]; exact Nat.div_eq_of_lt hb
  have h3 : a &&& (2 ^ 2 ^ l - 1) = a := by rw [Nat.and_two_pow_sub_one_eq_mod]; exact Nat.mod_eq_of_lt ha
  have h4 : b &&& (2 ^ 2 ^ l - 1) = b := by rw [Nat.and_two_pow_sub_one_eq_mod]; exact Nat.mod_eq_of_lt hb
  rw [h1, h2, h3, h4]
  simp [mul0l, mulX0]
end Go.Proofs.Ytlmcalffemklnaa.Tow

-- Qb
namespace Go.Proofs.Ytlmcalffemklnaa.Tow
theorem x4 (p q r s : Nat) : (p ^^^ q) ^^^ (r ^^^ s) = (p ^^^ r) ^^^ (q ^^^ s) := by ac_rfl
/-- What is checked bit by bit. -/
def allB : Nat → (Nat → Bool) → Bool
  | 0, _ => true
  | n + 1, p => p n && allB n p
end Go.Proofs.Ytlmcalffemklnaa.Tow

-- Qc
namespace Go.Proofs.Ytlmcalffemklnaa.Tow
theorem mul_to7 {l a b : Nat} (hl : l ≤ 7) (ha : a < 2 ^ 2 ^ l) (hb : b < 2 ^ 2 ^ l) : mul 7 a b = mul l a b := by
  have up : ∀ m, l ≤ m → m ≤ 7 → mul m a b = mul l a b := by
    intro m
    induction m with
    | zero => intro h _; have : l = 0 := by omega
              subst this; rfl
    | succ m ih =>
      intro h1 h2
      by_cases e : l = m + 1
      · subst e; rfl
      · have hle : 2 ^ 2 ^ l ≤ 2 ^ 2 ^ m := Nat.pow_le_pow_right (by decide) (Nat.pow_le_pow_right (by decide) (by omega))
        rw [mul_up (Nat.lt_of_lt_of_le ha hle) (Nat.lt_of_lt_of_le hb hle)]
        exact ih (by omega) (by omega)
  exact up 7 hl (Nat.le_refl _)
end Go.Proofs.Ytlmcalffemklnaa.Tow

-- Fa
namespace Go.Proofs.Ytlmcalffemklnaa.Tow
/-! The tower's fields. -/
theorem xa (p q r s x : Nat) : (p ^^^ q ^^^ (r ^^^ s)) ^^^ p ^^^ s ^^^ x = q ^^^ r ^^^ x := by
  have e : (p ^^^ q ^^^ (r ^^^ s)) ^^^ p ^^^ s ^^^ x = (p ^^^ p) ^^^ ((s ^^^ s) ^^^ (q ^^^ r ^^^ x)) := by ac_rfl
  rw [e, Nat.xor_self, Nat.xor_self, Nat.zero_xor, Nat.zero_xor]
theorem mul_cat {l a1 a0 b1 b0 : Nat} (h1 : a0 < 2 ^ 2 ^ l) (h2 : b0 < 2 ^ 2 ^ l) : mul (l + 1) (a1 <<< 2 ^ l ^^^ a0) (b1 <<< 2 ^ l ^^^ b0) =
    (mul l a1 b0 ^^^ mul l a0 b1 ^^^ mulX l (mul l a1 b1)) <<< 2 ^ l ^^^ (mul l a0 b0 ^^^ mul l a1 b1) := by
  rw [mul_eq, hi_of h1, hi_of h2, lo_of h1, lo_of h2, mul_xorl, mul_xorr, mul_xorr, xa]
theorem one_lt (l : Nat) : 1 < 2 ^ 2 ^ l := by
  have : 2 ^ 1 ≤ 2 ^ 2 ^ l := Nat.pow_le_pow_right (by decide) (Nat.two_pow_pos l)
  omega
theorem one_cat (l : Nat) : 1 = 0 <<< 2 ^ l ^^^ 1 := by simp
theorem mul_one : ∀ (l a : Nat), a < 2 ^ 2 ^ l → mul l a 1 = a
  | 0, a, h => by
    have : a = 0 ∨ a = 1 := by have : (2:Nat) ^ 2 ^ 0 = 2 := rfl; omega
    rcases this with rfl | rfl <;> rfl
  | l + 1, a, h => by
    obtain ⟨a1, a0, g1, g0, rfl⟩ := split h
    have e := mul_cat (l := l) (a1 := a1) (b1 := 0) g0 (one_lt l)
    rw [← one_cat] at e
    rw [e, mul_one l _ g1, mul_one l _ g0, mul0r, mul0r, mulX0]; simp
theorem one_mul {l a : Nat} (h : a < 2 ^ 2 ^ l) : mul l 1 a = a := by rw [mul_comm, mul_one l a h]
/-! Frobenius. -/
end Go.Proofs.Ytlmcalffemklnaa.Tow

-- Ua
namespace Go.Proofs.Ytlmcalffemklnaa.H1
open Go Go.Proofs.Ytlmcalffemklnaa.Rf
theorem or_shl {w x y : Nat} (h : y < 2 ^ w) : x <<< w ||| y = x <<< w ^^^ y := by
  rw [← Tow.xor_shl h, Nat.shiftLeft_eq, Nat.mul_comm, ← Nat.two_pow_add_eq_or_of_lt h x]
theorem mask_eq {l : Nat} (h : l ≤ 5) : wu64 (shlI .u64 1 ((2 ^ l : Nat) : Int) - 1) = ((2 ^ 2 ^ l - 1 : Nat) : Int) := by
  rcases (show l = 0 ∨ l = 1 ∨ l = 2 ∨ l = 3 ∨ l = 4 ∨ l = 5 by omega) with rfl | rfl | rfl | rfl | rfl | rfl <;> decide
theorem nn (n : Nat) : decide ((n : Int) < 0) = false := by simp
theorem halves_N {l a : Nat} (hl : l ≤ 5) (ha : a < 2 ^ 64) : T (fun k => tower_halves.f k ((l + 1 : Nat) : Int) (a : Int)) (fun r => r = (((a >>> 2 ^ l : Nat) : Int), ((a &&& (2 ^ 2 ^ l - 1) : Nat) : Int))) := by
  refine T.eq (tower_halves.f_eq · _ _) ?_
  rw [lev (by omega), shl_pow (by omega)]
  have h5 : 2 ^ l ≤ 32 := p2le hl
  have h6 : (2:Nat) ^ 2 ^ l ≤ 2 ^ 32 := Nat.pow_le_pow_right (by decide) h5
  refine T.no (by simp) (T.no (nn _) (T.no (nn _) (T.pure ?_)))
  rw [mask_eq hl, shr_nat (by omega), and_nat ha (Nat.lt_of_le_of_lt (Nat.sub_le _ _) (Nat.lt_of_le_of_lt h6 (by decide)))]
theorem join_N {l a b : Nat} (hl : l ≤ 5) (ha : a < 2 ^ 2 ^ l) (hb : b < 2 ^ 2 ^ l) : T (fun k => tower_join.f k ((l + 1 : Nat) : Int) (a : Int) (b : Int)) (fun r => r = ((a <<< 2 ^ l ^^^ b : Nat) : Int)) := by
  refine T.eq (tower_join.f_eq · _ _ _) ?_
  rw [lev (by omega), shl_pow_u (by omega)]
  have h5 : 2 ^ l ≤ 32 := p2le hl
  refine T.no (by simp) (T.no (nn _) (T.pure ?_))
  have hs : a <<< 2 ^ l < 2 ^ 64 := by
    have := Tow.cat_lt (w := 2 ^ l) ha (Nat.two_pow_pos _ : 0 < 2 ^ 2 ^ l)
    rw [Nat.xor_zero] at this
    exact Nat.lt_of_lt_of_le this (Nat.pow_le_pow_right (by decide) (by omega))
  rw [shl_nat (by omega) hs, or_nat hs (lt64 (by omega) hb), or_shl hb]
theorem mulX_N : ∀ (l : Nat), l ≤ 6 → ∀ a : Nat, a < 2 ^ 2 ^ l → T (fun k => tower_mulX.f k (l : Int) (a : Int)) (fun r => r = ((Tow.mulX l a : Nat) : Int))
  | 0, h, a, ha => T.eq (tower_mulX.f_eq · _ _) (T.yes (by simp) (T.pure rfl))
  | l + 1, h, a, ha => by
    refine T.eq (tower_mulX.f_eq · _ _) (T.no (by simp; omega) (T.bind (halves_N (by omega) (lt64 h ha)) fun r hr => ?_))
    subst hr
    rw [Tow.two_two] at ha
    have h1 := Tow.hi_lt ha
    have h2 := Tow.lo_lt (2 ^ l) a
    rw [lev (by omega)]
    refine T.bind (mulX_N l (by omega) _ h1) fun s hs => ?_
    subst hs
    have h3 := Tow.mulX_lt l _ h1
    rw [xor_nat (lt64 (by omega) h2) (lt64 (by omega) h3)]
    exact T.bind (join_N (by omega) (Nat.xor_lt_two_pow h2 h3) h1) fun t ht => T.pure ht
theorem and1 {a b : Nat} (ha : a < 2 ^ 64) (hb : b < 2 ^ 64) : andI .u64 (andI .u64 (a : Int) (b : Int)) 1 = ((a &&& b &&& 1 : Nat) : Int) := by
  rw [and_nat ha hb]
  exact and_nat (Nat.lt_of_le_of_lt Nat.and_le_left ha) (b := 1) (by decide)
theorem mul_N : ∀ (l : Nat), l ≤ 6 → ∀ a b : Nat, a < 2 ^ 2 ^ l → b < 2 ^ 2 ^ l → T (fun k => tower_mul.f k (l : Int) (a : Int) (b : Int)) (fun r => r = ((Tow.mul l a b : Nat) : Int))
  | 0, h, a, b, ha, hb => T.eq (tower_mul.f_eq · _ _ _) (T.yes (by simp) (T.pure (and1 (lt64 h ha) (lt64 h hb))))
  | l + 1, h, a, b, ha, hb => by
    refine T.eq (tower_mul.f_eq · _ _ _) (T.no (by simp; omega) (T.ite (fun e => T.pure ?_) fun _ => T.ite (fun e => T.pure ?_) fun _ => ?_))
    · have : a = 0 := by simpa using e
      subst this
      rw [and1 (by decide) (lt64 h hb), Tow.mul0l]; simp
    · have : b = 0 := by simpa using e
      subst this
      rw [and1 (lt64 h ha) (by decide), Tow.mul0r]; simp
    · refine T.bind (halves_N (by omega) (lt64 h ha)) fun r hr => T.bind (halves_N (by omega) (lt64 h hb)) fun s hs => ?_
      subst hr hs
      rw [Tow.two_two] at ha hb
      have h1 := Tow.hi_lt ha
      have h2 := Tow.lo_lt (2 ^ l) a
      have h3 := Tow.hi_lt hb
      have h4 := Tow.lo_lt (2 ^ l) b
      have L : ∀ {x}, x < 2 ^ 2 ^ l → x < 2 ^ 64 := lt64 (by omega)
      rw [lev (by omega)]
      refine T.bind (mul_N l (by omega) _ _ h1 h3) fun t1 e1 => T.bind (mul_N l (by omega) _ _ h2 h4) fun t2 e2 => ?_
      simp only [xor_nat (L h1) (L h2), xor_nat (L h3) (L h4)]
      refine T.bind (mul_N l (by omega) _ _ (Nat.xor_lt_two_pow h1 h2) (Nat.xor_lt_two_pow h3 h4)) fun t3 e3 => ?_
      have g1 := Tow.mul_lt l _ _ h1 h3
      have g2 := Tow.mul_lt l _ _ h2 h4
      have g3 := Tow.mul_lt l _ _ (Nat.xor_lt_two_pow h1 h2) (Nat.xor_lt_two_pow h3 h4)
      subst e1 e2 e3
      refine T.bind (mulX_N l (by omega) _ g1) fun t4 e4 => ?_
      have g4 := Tow.mulX_lt l _ g1
      subst e4
      rw [xor_nat (L g3) (L g1), xor_nat (L (Nat.xor_lt_two_pow g3 g1)) (L g2), xor_nat (L (Nat.xor_lt_two_pow (Nat.xor_lt_two_pow g3 g1) g2)) (L g4), xor_nat (L g2) (L g1)]
      refine T.bind (join_N (by omega) (Nat.xor_lt_two_pow (Nat.xor_lt_two_pow (Nat.xor_lt_two_pow g3 g1) g2) g4) (Nat.xor_lt_two_pow g2 g1)) fun t ht => T.pure ?_
      rw [ht, Tow.mul_eq]
end Go.Proofs.Ytlmcalffemklnaa.H1

-- Ub
namespace Go.Proofs.Ytlmcalffemklnaa.H1
open Go Go.Proofs.Ytlmcalffemklnaa.Rf
def nat (x : E) : Nat := x.1.toNat <<< 64 ^^^ x.2.1.toNat
def mk (n : Nat) : E := (((n >>> 64 : Nat) : Int), ((n &&& (2 ^ 64 - 1) : Nat) : Int), ())
/-- The product of the greatest level. -/
def Pr (a b : E) : E := mk (Tow.mul 7 (nat a) (nat b))
theorem p128 : (2 : Nat) ^ 2 ^ 7 = 2 ^ (64 + 64) := by decide
theorem rng_toNat {n : Int} (h : rng n) : n.toNat < 2 ^ 64 := by obtain ⟨m, rfl, hm⟩ := rng_nat h; simpa using hm
theorem nat_lt {x : E} (h : rngE x) : nat x < 2 ^ 2 ^ 7 := by rw [p128]; exact Tow.cat_lt (rng_toNat h.1) (rng_toNat h.2)
theorem mk_cat {a b : Nat} (ha : a < 2 ^ 64) (hb : b < 2 ^ 64) : mk (a <<< 64 ^^^ b) = ((a : Int), (b : Int), ()) := by
  unfold mk; rw [Tow.hi_of hb, Tow.lo_of hb]
theorem mk_nat {x : E} (h : rngE x) : mk (nat x) = x := by
  obtain ⟨a, b, ⟨⟩⟩ := x
  obtain ⟨a, rfl, ha⟩ := rng_nat h.1
  obtain ⟨b, rfl, hb⟩ := rng_nat h.2
  exact mk_cat ha hb
theorem mk_rng {n : Nat} (h : n < 2 ^ 2 ^ 7) : rngE (mk n) := by
  rw [p128] at h
  exact ⟨nat_rng (Tow.hi_lt h), nat_rng (Tow.lo_lt 64 n)⟩
theorem nat_mk (n : Nat) : nat (mk n) = n := by
  unfold nat mk
  simp only [Int.toNat_natCast]
  exact (Tow.halves 64 n).symm
theorem nat_Av {x y : E} (hx : rngE x) (hy : rngE y) : nat (Av x y) = nat x ^^^ nat y := by
  obtain ⟨a, b, ⟨⟩⟩ := x
  obtain ⟨c, d, ⟨⟩⟩ := y
  obtain ⟨a, rfl, ha⟩ := rng_nat hx.1
  obtain ⟨b, rfl, hb⟩ := rng_nat hx.2
  obtain ⟨c, rfl, hc⟩ := rng_nat hy.1
  obtain ⟨d, rfl, hd⟩ := rng_nat hy.2
  unfold nat Av
  rw [xor_nat ha hc, xor_nat hb hd]
  simp only [Int.toNat_natCast, Nat.shiftLeft_xor_distrib]
  exact Tow.x4 _ _ _ _
theorem Av_rng (x y : E) : rngE (Av x y) := ⟨xor_rng _ _, xor_rng _ _⟩
theorem Pr_rng {a b : E} (ha : rngE a) (hb : rngE b) : rngE (Pr a b) := mk_rng (Tow.mul_lt 7 _ _ (nat_lt ha) (nat_lt hb))
theorem nat_Pr (a b : E) : nat (Pr a b) = Tow.mul 7 (nat a) (nat b) := nat_mk _
theorem shr_zero {a w : Nat} : (a >>> w = 0) ↔ a < 2 ^ w := by
  rw [Nat.shiftRight_eq_div_pow, Nat.div_eq_zero_iff_lt (Nat.two_pow_pos w)]
theorem ofB_iff {l : Nat} (hl : l ≤ 7) {x : E} (hx : rngE x) : ofB (l : Int) x = true ↔ nat x < 2 ^ 2 ^ l := by
  have hn := nat_lt hx
  obtain ⟨a, b, ⟨⟩⟩ := x
  obtain ⟨a, rfl, ha⟩ := rng_nat hx.1
  obtain ⟨b, rfl, hb⟩ := rng_nat hx.2
  have e : nat ((a : Int), (b : Int), ()) = a <<< 64 ^^^ b := rfl
  rw [e] at hn ⊢
  unfold ofB
  rw [if_neg (by omega), if_neg (by omega)]
  by_cases h7 : l = 7
  · subst h7; rw [if_pos (show ((7 : Nat) : Int) = 7 from rfl)]; exact ⟨fun _ => hn, fun _ => rfl⟩
  rw [if_neg (by omega)]
  have hz : a <<< 64 ^^^ b < 2 ^ 64 ↔ a = 0 := by
    rw [← shr_zero, Tow.hi_of hb]
  by_cases h6 : l = 6
  · subst h6; rw [if_pos (show ((6 : Nat) : Int) = 6 from rfl)]
    show ((a : Int) == 0) = true ↔ a <<< 64 ^^^ b < 2 ^ 64
    rw [hz]; simp
  rw [if_neg (by omega), shl_pow_u (by omega)]
  have h5 : 2 ^ l ≤ 32 := p2le (m := 5) (by omega)
  by_cases ha0 : a = 0
  · subst ha0
    have e1 : (0 : Nat) <<< 64 ^^^ b = b := by simp
    rw [e1, ← shr_zero]
    show (if ((0 : Nat) : Int) == 0 then (shrI .u64 (b : Int) ((2 ^ l : Nat) : Int) == 0) else false) = true ↔ _
    rw [shr_nat (by omega)]
    generalize b >>> 2 ^ l = q
    have e0 : (((0 : Nat) : Int) == 0) = true := rfl
    rw [e0, if_pos rfl, beq_iff_eq]
    exact ⟨fun h => (by omega), fun h => (by omega)⟩
  · have n1 : ¬ (a <<< 64 ^^^ b < 2 ^ 2 ^ l) := fun h => ha0 (hz.1 (lt64 (by omega) h))
    have n2 : ((a : Int) == 0) = false := by simpa using ha0
    rw [n2]
    exact ⟨fun h => (by cases h), fun h => absurd h n1⟩
theorem ofB_lv {lv : Int} {x : E} (h : ofB lv x = true) : ∃ l : Nat, lv = (l : Int) ∧ l ≤ 7 := by
  unfold ofB at h
  by_cases k1 : lv < 0
  · simp [k1] at h
  · by_cases k2 : lv > 7
    · simp [k1, k2] at h
    · exact ⟨lv.toNat, by omega, by omega⟩
theorem Mul_N {l : Nat} (hl : l ≤ 7) {a b : E} (ha : rngE a) (hb : rngE b) (oa : ofB (l : Int) a = true) (ob : ofB (l : Int) b = true) : Mv (l : Int) a b = Pr a b := by
  refine ((?_ : T (fun k => tower_Mul.f k (l : Int) a b) (fun r => r = Pr a b)).of (Mv_ev (l : Int) a b))
  have na := (ofB_iff hl ha).1 oa
  have nb := (ofB_iff hl hb).1 ob
  refine T.eq (tower_Mul.f_eq · _ a b) (T.bind (of_T _ a) fun o1 h1 => T.no (by rw [h1, oa]; rfl) (T.bind (of_T _ b) fun o2 h2 => T.no (by rw [h2, ob]; rfl) ?_))
  obtain ⟨a1, a2, ⟨⟩⟩ := a
  obtain ⟨b1, b2, ⟨⟩⟩ := b
  obtain ⟨a1, rfl, ha1⟩ := rng_nat ha.1
  obtain ⟨a2, rfl, ha2⟩ := rng_nat ha.2
  obtain ⟨b1, rfl, hb1⟩ := rng_nat hb.1
  obtain ⟨b2, rfl, hb2⟩ := rng_nat hb.2
  have ea : nat ((a1 : Int), (a2 : Int), ()) = a1 <<< 64 ^^^ a2 := rfl
  have eb : nat ((b1 : Int), (b2 : Int), ()) = b1 <<< 64 ^^^ b2 := rfl
  rw [ea] at na
  rw [eb] at nb
  refine T.ite (fun g => ?_) (fun g => ?_)
  · have hl6 : l ≤ 6 := by have := of_decide_eq_true g; omega
    have za : a1 = 0 := by have h := lt64 hl6 na; rw [← shr_zero, Tow.hi_of ha2] at h; exact h
    have zb : b1 = 0 := by have h := lt64 hl6 nb; rw [← shr_zero, Tow.hi_of hb2] at h; exact h
    subst za zb
    have e1 : ∀ x : Nat, (0 : Nat) <<< 64 ^^^ x = x := fun x => by simp
    rw [e1] at na nb
    refine T.bind (mul_N l hl6 a2 b2 na nb) fun r hr => T.pure ?_
    subst hr
    unfold Pr
    rw [ea, eb, e1, e1, Tow.mul_to7 (by omega) na nb]
    have hlt := lt64 hl6 (Tow.mul_lt l _ _ na nb)
    have := mk_cat (a := 0) (by decide) hlt
    rw [e1] at this
    exact this.symm
  · have hl7 : l = 7 := by have := of_decide_eq_false g; omega
    subst hl7
    refine T.bind (mul_N 6 (by omega) a1 b1 ha1 hb1) fun t1 e1 => T.bind (mul_N 6 (by omega) a2 b2 ha2 hb2) fun t2 e2 => ?_
    simp only [xor_nat ha1 ha2, xor_nat hb1 hb2]
    refine T.bind (mul_N 6 (by omega) _ _ (Nat.xor_lt_two_pow ha1 ha2) (Nat.xor_lt_two_pow hb1 hb2)) fun t3 e3 => ?_
    have g1 : _ < 2 ^ 64 := Tow.mul_lt 6 _ _ ha1 hb1
    have g2 : _ < 2 ^ 64 := Tow.mul_lt 6 _ _ ha2 hb2
    have g3 : _ < 2 ^ 64 := Tow.mul_lt 6 _ _ (Nat.xor_lt_two_pow ha1 ha2) (Nat.xor_lt_two_pow hb1 hb2)
    subst e1 e2 e3
    refine T.bind (mulX_N 6 (by omega) _ g1) fun t4 e4 => T.pure ?_
    have g4 : _ < 2 ^ 64 := Tow.mulX_lt 6 _ g1
    subst e4
    rw [xor_nat g3 g1, xor_nat (Nat.xor_lt_two_pow g3 g1) g2, xor_nat (Nat.xor_lt_two_pow (Nat.xor_lt_two_pow g3 g1) g2) g4, xor_nat g2 g1]
    have m := Tow.mul_eq 6 (nat ((a1 : Int), (a2 : Int), ())) (nat ((b1 : Int), (b2 : Int), ()))
    have s6 : (2 : Nat) ^ 6 = 64 := rfl
    rw [s6, ea, eb, Tow.hi_of ha2, Tow.lo_of ha2, Tow.hi_of hb2, Tow.lo_of hb2] at m
    unfold Pr
    rw [ea, eb, m, mk_cat (Nat.xor_lt_two_pow (Nat.xor_lt_two_pow (Nat.xor_lt_two_pow g3 g1) g2) g4) (Nat.xor_lt_two_pow g2 g1)]
end Go.Proofs.Ytlmcalffemklnaa.H1

-- Ud
namespace Go.Proofs.Ytlmcalffemklnaa.H1
open Go Go.Proofs.Ytlmcalffemklnaa.Rf
/-- A step's degree. -/
def dgr (ds : List Int) (o : O) : Int :=
  if o.1 = 2 then 1 else if o.1 = 3 then (if ds.getD o.2.2.1.toNat 0 > ds.getD o.2.1.toNat 0 then ds.getD o.2.2.1.toNat 0 else ds.getD o.2.1.toNat 0)
  else if o.1 = 4 then ds.getD o.2.1.toNat 0 + ds.getD o.2.2.1.toNat 0 else 0
/-- What is wrong with a step. -/
def stepE (lv vars : Int) (j : Nat) (o : O) : Int :=
  if o.1 = 1 ∧ o.2.1 = 0 ∧ o.2.2.1 = 0 then (if ofB lv o.2.2.2.1 = true then 0 else 5)
  else if o.1 = 2 ∧ o.2.2.1 = 0 ∧ o.2.2.2.1.1 = 0 ∧ o.2.2.2.1.2.1 = 0 then (if 0 ≤ o.2.1 ∧ o.2.1 < vars then 0 else 4)
  else if (o.1 = 3 ∨ o.1 = 4) ∧ o.2.2.2.1.1 = 0 ∧ o.2.2.2.1.2.1 = 0 ∧ (0 ≤ o.2.1 ∧ o.2.1 < j ∧ 0 ≤ o.2.2.1 ∧ o.2.2.1 < j) then 0 else 3
theorem stepE_of {lv vars : Int} {j : Nat} {o : O} (h : stepE lv vars j o = 0) (h1 : o.1 = 1) : ofB lv o.2.2.2.1 = true := by
  unfold stepE at h
  split at h
  · split at h
    · assumption
    · cases h
  · split at h
    · omega
    · split at h
      · omega
      · cases h
theorem ahead_X (o : O) (i : Int) : T (fun k => expr_ahead.f k o i) (fun b => b = decide (0 ≤ o.2.1 ∧ o.2.1 < i ∧ 0 ≤ o.2.2.1 ∧ o.2.2.1 < i)) := by
  refine T.eq (expr_ahead.f_eq · o i) (T.ite (fun h1 => T.ite (fun h2 => T.ite (fun h3 => T.pure ?_) (fun h3 => T.pure ?_)) (fun h2 => T.pure ?_)) (fun h1 => T.pure ?_))
  all_goals simp only [decide_eq_true_eq, decide_eq_false_iff_not, ge_iff_le] at *
  · simp [h1, h2, h3]
  all_goals (symm; simp only [decide_eq_false_iff_not]; omega)
def dsOk (ds : List Int) : Prop := ∀ j, 0 ≤ ds.getD j 0 ∧ ds.getD j 0 ≤ 8
theorem step_X (lv vars : Int) (o : O) (ds : List Int) (hds : dsOk ds) : T (fun k => expr_step.f k lv vars o ds) (fun r => r.2 = stepE lv vars ds.length o ∧ (r.2 = 0 → r.1 = dgr ds o)) := by
  have hw : w64 (ds.getD o.2.1.toNat 0 + ds.getD o.2.2.1.toNat 0) = ds.getD o.2.1.toNat 0 + ds.getD o.2.2.1.toNat 0 := by
    have h1 := hds o.2.1.toNat
    have h2 := hds o.2.2.1.toNat
    exact w64_in (by omega) (by omega)
  refine T.eq (expr_step.f_eq · lv vars o ds) ?_
  rw [hw]
  by_cases k1 : o.1 = 1
  · have n2 : ¬ o.1 = 2 := by omega
    have n3 : ¬ o.1 = 3 := by omega
    have n4 : ¬ o.1 = 4 := by omega
    have b1 : (o.1 == 1) = true := by simpa using k1
    have b2 : (o.1 == 2) = false := by simpa using n2
    have b3 : (o.1 == 3) = false := by simpa using n3
    have b4 : (o.1 == 4) = false := by simpa using n4
    simp only [b1, b2, b3, b4, cond_true, cond_false]
    refine T.ite (fun a => T.ite (fun b => T.bind (of_T _ _) fun c hc => T.ite (fun d => T.pure ?_) (fun d => T.pure ?_)) (fun b => T.pure ?_)) (fun a => T.pure ?_) <;> simp_all [stepE, dgr]
  · have b1 : (o.1 == 1) = false := by simpa using k1
    by_cases k2 : o.1 = 2
    · have n3 : ¬ o.1 = 3 := by omega
      have n4 : ¬ o.1 = 4 := by omega
      have b2 : (o.1 == 2) = true := by simpa using k2
      have b3 : (o.1 == 3) = false := by simpa using n3
      have b4 : (o.1 == 4) = false := by simpa using n4
      simp only [b1, b2, b3, b4, cond_true, cond_false]
      refine T.ite (fun a => T.ite (fun b => T.ite (fun c => T.pure ?_) (fun c => T.ite (fun d => T.pure ?_) (fun d => T.pure ?_))) (fun b => T.pure ?_)) (fun a => T.pure ?_)
      all_goals simp only [beq_iff_eq, beq_eq_false_iff_ne, Bool.and_eq_true, Bool.and_eq_false_iff, decide_eq_true_eq, decide_eq_false_iff_not, ne_eq] at *
      all_goals (unfold stepE dgr)
      · refine ⟨?_, fun h => by cases h⟩
        rw [if_neg (by omega), if_pos (by omega), if_neg (by omega)]
      · refine ⟨?_, fun h => by cases h⟩
        rw [if_neg (by omega), if_pos (by omega), if_neg (by omega)]
      · refine ⟨?_, fun _ => by rw [if_pos k2]⟩
        rw [if_neg (by omega), if_pos (by omega), if_pos (by omega)]
      · refine ⟨?_, fun h => by cases h⟩
        rw [if_neg (by omega), if_neg (by omega), if_neg (by omega)]
      · refine ⟨?_, fun h => by cases h⟩
        rw [if_neg (by omega), if_neg (by omega), if_neg (by omega)]
    · have b2 : (o.1 == 2) = false := by simpa using k2
      by_cases k3 : o.1 = 3
      · have n4 : ¬ o.1 = 4 := by omega
        have b3 : (o.1 == 3) = true := by simpa using k3
        have b4 : (o.1 == 4) = false := by simpa using n4
        simp only [b1, b2, b3, b4, cond_true, cond_false]
        refine T.ite (fun a => T.bind (ahead_X _ _) fun b hb => T.ite (fun c => ?_) (fun c => T.pure ?_)) (fun a => T.pure ?_)
        · subst hb
          simp only [decide_eq_true_eq] at c
          refine T.yes (inB_int c.1 c.2.1) (T.yes (inB_int c.2.2.1 c.2.2.2) (T.pure ?_))
          simp only [beq_iff_eq, Bool.and_eq_true] at a
          refine ⟨show (0 : Int) = _ from ?_, fun _ => ?_⟩
          · unfold stepE; rw [if_neg (by omega), if_neg (by omega), if_pos (by omega)]
          · unfold dgr; rw [if_neg (show ¬ o.1 = 2 from k2), if_pos k3]
        · subst hb
          simp only [decide_eq_false_iff_not] at c
          unfold stepE
          refine ⟨?_, fun h => by cases h⟩
          rw [if_neg (by omega), if_neg (by omega), if_neg (by omega)]
        · simp only [beq_iff_eq, beq_eq_false_iff_ne, Bool.and_eq_false_iff, ne_eq] at a
          unfold stepE
          refine ⟨?_, fun h => by cases h⟩
          rw [if_neg (by omega), if_neg (by omega), if_neg (by omega)]
      · have b3 : (o.1 == 3) = false := by simpa using k3
        simp only [b1, b2, b3, cond_true, cond_false]
        refine T.ite (fun k4 => T.ite (fun a => T.bind (ahead_X _ _) fun b hb => T.ite (fun c => ?_) (fun c => T.pure ?_)) (fun a => T.pure ?_)) (fun k4 => T.pure ?_)
        · subst hb
          simp only [decide_eq_true_eq] at c
          refine T.yes (inB_int c.1 c.2.1) (T.yes (inB_int c.2.2.1 c.2.2.2) (T.pure ?_))
          simp only [beq_iff_eq, Bool.and_eq_true] at a k4
          refine ⟨show (0 : Int) = _ from ?_, fun _ => ?_⟩
          · unfold stepE; rw [if_neg (by omega), if_neg (by omega), if_pos (by omega)]
          · unfold dgr; rw [if_neg (show ¬ o.1 = 2 from k2), if_neg (show ¬ o.1 = 3 from k3), if_pos k4]
        · subst hb
          simp only [decide_eq_false_iff_not] at c
          unfold stepE
          refine ⟨?_, fun h => by cases h⟩
          rw [if_neg (by omega), if_neg (by omega), if_neg (by omega)]
        · simp only [beq_iff_eq, beq_eq_false_iff_ne, Bool.and_eq_false_iff, ne_eq] at a
          unfold stepE
          refine ⟨?_, fun h => by cases h⟩
          rw [if_neg (by omega), if_neg (by omega), if_neg (by omega)]
        · simp only [beq_eq_false_iff_ne, ne_eq] at k4
          unfold stepE
          refine ⟨?_, fun h => by cases h⟩
          rw [if_neg (by omega), if_neg (by omega), if_neg (by omega)]
/-- What is wrong with steps behind others, of these degrees. -/
def echk (lv vars : Int) : List Int → List O → Int
  | _, [] => 0
  | ds, o :: l => if stepE lv vars ds.length o = 0 then (if dgr ds o > 8 then 7 else echk lv vars (ds ++ [dgr ds o]) l) else stepE lv vars ds.length o
def degL : List Int → List O → List Int
  | ds, [] => ds
  | ds, o :: l => degL (ds ++ [dgr ds o]) l
/-- What is wrong with an expression. -/
def chkX (lv vars : Int) (l : List O) : Int := if lv < 0 ∨ lv > 7 ∨ vars < 0 then 1 else if l.length = 0 then 3 else if l.length > 200 then 2 else echk lv vars [] l
theorem wide_X (l : Int) : T (fun k => octet_Wide.f k l) (fun r => r = 0 ↔ (l < 0 ∨ l > 7)) := by
  refine T.eq (octet_Wide.f_eq · l) (T.ite (fun h1 => T.pure ?_) fun h1 => T.ite (fun h2 => T.pure ?_) fun h2 => T.ite (fun h3 => T.pure ?_) fun h3 => T.no ?_ (T.pure ?_))
  · exact ⟨fun _ => .inl (of_decide_eq_true h1), fun _ => rfl⟩
  · exact ⟨fun _ => .inr (of_decide_eq_true h2), fun _ => rfl⟩
  · have h1 := of_decide_eq_false h1
    have h2 := of_decide_eq_false h2
    exact ⟨fun h => (by cases h), fun h => (by omega)⟩
  · have h1 := of_decide_eq_false h1
    have h2 := of_decide_eq_false h2
    have h3 := of_decide_eq_false h3
    rw [w64_in (by omega) (by omega)]; simp only [decide_eq_false_iff_not]; omega
  · have h1 := of_decide_eq_false h1
    have h2 := of_decide_eq_false h2
    have h3 := of_decide_eq_false h3
    have hc : l = 4 ∨ l = 5 ∨ l = 6 ∨ l = 7 := by omega
    rcases hc with rfl | rfl | rfl | rfl <;> decide
theorem drop_cons {α : Type} (l : List α) (d : α) {i : Nat} (h : i < l.length) : l.drop i = l.getD i d :: l.drop (i + 1) := by
  rw [List.drop_eq_getElem_cons h, List.getD_eq_getElem?_getD, List.getElem?_eq_getElem h]; rfl
theorem degL_app : ∀ (l m : List O) (ds : List Int), degL ds (l ++ m) = degL (degL ds l) m
  | [], m, ds => rfl
  | o :: l, m, ds => degL_app l m _
theorem degL_length : ∀ (l : List O) (ds : List Int), (degL ds l).length = ds.length + l.length
  | [], ds => rfl
  | o :: l, ds => by rw [degL, degL_length l, List.length_append, List.length_cons]; simp only [List.length_cons, List.length_nil]; omega
theorem degL_snoc (l : List O) {i : Nat} (h : i < l.length) : degL [] (l.take (i + 1)) = degL [] (l.take i) ++ [dgr (degL [] (l.take i)) (l.getD i zo)] := by
  rw [take_snoc l zo h, degL_app]; rfl
theorem dgr_nn {ds : List Int} (h : dsOk ds) (o : O) : 0 ≤ dgr ds o ∧ dgr ds o ≤ 16 := by
  have h1 := h o.2.1.toNat
  have h2 := h o.2.2.1.toNat
  unfold dgr
  split
  · omega
  · split
    · split <;> omega
    · split <;> omega
theorem dsOk_snoc {ds : List Int} (h : dsOk ds) {d : Int} (h1 : 0 ≤ d) (h2 : d ≤ 8) : dsOk (ds ++ [d]) := fun j => by
  by_cases hj : j < ds.length
  · rw [getD_app_lt ds d 0 hj]; exact h j
  · by_cases e : j = ds.length
    · subst e; simp; exact ⟨h1, h2⟩
    · have : (ds ++ [d]).getD j 0 = 0 := by simp [List.getD_eq_getElem?_getD]; rw [List.getElem?_eq_none (by simp; omega)]; rfl
      rw [this]; exact ⟨by decide, by decide⟩
theorem degrees_X (lv vars : Int) (l : List O) : T (fun k => expr_degrees.f k lv vars l) (fun r => r.2 = chkX lv vars l ∧ (r.2 = 0 → r.1 = degL [] l)) := by
  unfold chkX
  refine T.eq (expr_degrees.f_eq · lv vars l) (T.bind (wide_X lv) fun w hw => T.ite (fun h => T.pure ?_) fun h1 => T.ite (fun h => T.pure ?_) fun h2 => T.ite (fun h => T.pure ?_) fun h3 => T.ite (fun h => T.pure ?_) fun h4 => ?_)
  · have h : w = 0 := by simpa using h
    rw [if_pos (by have := hw.1 h; omega)]; exact ⟨rfl, fun h => by cases h⟩
  · have h := of_decide_eq_true h
    rw [if_pos (by omega)]; exact ⟨rfl, fun h => by cases h⟩
  · have h1 : ¬ w = 0 := by simpa using h1
    have : ¬ (lv < 0 ∨ lv > 7) := fun h => h1 (hw.2 h)
    have h2 := of_decide_eq_false h2
    have h : ((l.length : Int) = 0) := by simpa using h
    rw [if_neg (by omega), if_pos (by omega)]; exact ⟨rfl, fun h => by cases h⟩
  · have h1 : ¬ w = 0 := by simpa using h1
    have : ¬ (lv < 0 ∨ lv > 7) := fun h => h1 (hw.2 h)
    have h2 := of_decide_eq_false h2
    have h3 : ¬ ((l.length : Int) = 0) := by simpa using h3
    have h := of_decide_eq_true h
    rw [if_neg (by omega), if_neg (by omega), if_pos (by omega)]; exact ⟨rfl, fun h => by cases h⟩
  · have h1 : ¬ w = 0 := by simpa using h1
    have : ¬ (lv < 0 ∨ lv > 7) := fun h => h1 (hw.2 h)
    have h2 := of_decide_eq_false h2
    have h3 : ¬ ((l.length : Int) = 0) := by simpa using h3
    have h4 := of_decide_eq_false h4
    rw [if_neg (by omega), if_neg (by omega), if_neg (by omega)]
    refine T.loop0 (f := fun k s i => expr_degrees.l122 k lv vars s l (l.length : Int) i) l.length (fun s i => s = degL [] (l.take i) ∧ dsOk s ∧ echk lv vars [] l = echk lv vars s (l.drop i)) [] ⟨rfl, fun j => ⟨by simp, by simp⟩, rfl⟩ fun s i hi hI ih => ?_
    obtain ⟨I1, I2, I3⟩ := hI
    have hlen : s.length = i := by rw [I1, degL_length, List.length_take]; simp; omega
    refine T.eq (expr_degrees.l122_eq · lv vars s l _ _) (T.ite (fun hlt => ?_) (fun hge => ?_))
    · have hlt := lt_dec hlt
      have hroom : ∀ t : Int, room (s.length + ([t] : List Int).length) 8 = true := fun t => room_ok (by simp only [List.length_singleton]; omega)
      rw [drop_cons l zo hlt] at I3
      simp only [echk] at I3
      refine T.yes (inB_nat hlt) (T.bind (step_X _ _ _ _ I2) fun r hr => ?_)
      simp only [Int.toNat_natCast] at hr
      have e0 : (l.getD i (0, 0, 0, (0, 0, ()), ())) = l.getD i zo := rfl
      rw [e0] at hr
      rw [inc (by omega)]
      have go : r.2 = 0 → r.1 ≤ 8 → T (fun k => expr_degrees.l122 k lv vars (s ++ [r.1]) l (l.length : Int) ((i : Int) + 1)) _ := fun h h8 => ih _ hlt (by
        rw [hr.2 h] at h8 ⊢
        rw [hr.1] at h
        rw [if_pos h, if_neg (by omega)] at I3
        refine ⟨?_, dsOk_snoc I2 (dgr_nn I2 _).1 h8, I3⟩
        rw [degL_snoc l hlt, ← I1])
      refine T.ite (fun h2 => ?_) (fun h2 => ?_)
      · have h2 : r.2 = 0 := by simpa using h2
        refine T.ite (fun h8 => T.yes (by decide) (T.pure ?_)) (fun h8 => T.no (by simpa using h2) (T.yes (hroom _) (go h2 (by simpa using h8))))
        have h8 : r.1 > 8 := by simpa using h8
        rw [hr.2 h2] at h8
        rw [hr.1] at h2
        rw [if_pos h2, if_pos h8] at I3
        exact ⟨I3.symm, fun h => by cases h⟩
      · have h2 : ¬ r.2 = 0 := by simpa using h2
        refine T.yes (by simpa using h2) (T.pure ?_)
        rw [hr.1] at h2
        rw [if_neg h2] at I3
        exact ⟨by rw [I3]; exact hr.1, fun h => by rw [← hr.1] at h2; exact absurd h h2⟩
    · have hge := nlt_dec hge
      have e : i = l.length := by omega
      subst e
      rw [List.drop_length] at I3
      rw [List.take_length] at I1
      exact T.pure ⟨by rw [I3]; rfl, fun _ => I1⟩
theorem Check_X (lv vars : Int) (l : List O) : T (fun k => expr_Check.f k lv vars l) (fun e => e = chkX lv vars l) :=
  T.eq (expr_Check.f_eq · lv vars l) (T.bind (degrees_X lv vars l) fun r hr => T.pure hr.1)
end Go.Proofs.Ytlmcalffemklnaa.H1

-- Ue
namespace Go.Proofs.Ytlmcalffemklnaa.H1
open Go Go.Proofs.Ytlmcalffemklnaa.Rf
/-- Elements of words. -/
def allR (l : List E) : Prop := ∀ j, rngE (l.getD j z)
end Go.Proofs.Ytlmcalffemklnaa.H1

-- Uf
namespace Go.Proofs.Ytlmcalffemklnaa.H1
open Go Go.Proofs.Ytlmcalffemklnaa.Rf
theorem any_getD {α : Type} (d : α) (p : α → Bool) (l : List α) : l.any p = true ↔ ∃ i, i < l.length ∧ p (l.getD i d) = true := by
  rw [List.any_eq_true]
  constructor
  · rintro ⟨x, hx, hp⟩
    obtain ⟨i, hi, rfl⟩ := List.getElem_of_mem hx
    exact ⟨i, hi, by rw [List.getD_eq_getElem?_getD, List.getElem?_eq_getElem hi]; exact hp⟩
  · rintro ⟨i, hi, hp⟩
    rw [List.getD_eq_getElem?_getD, List.getElem?_eq_getElem hi] at hp
    exact ⟨l[i], List.getElem_mem hi, hp⟩
theorem all_getD {α : Type} (d : α) (p : α → Bool) (l : List α) : l.all p = true ↔ ∀ i, i < l.length → p (l.getD i d) = true := by
  rw [List.all_eq_true]
  constructor
  · intro h i hi
    rw [List.getD_eq_getElem?_getD, List.getElem?_eq_getElem hi]; exact h _ (List.getElem_mem hi)
  · intro h x hx
    obtain ⟨i, hi, rfl⟩ := List.getElem_of_mem hx
    have := h i hi
    rw [List.getD_eq_getElem?_getD, List.getElem?_eq_getElem hi] at this
    exact this
theorem any_none {α : Type} {d : α} {p : α → Bool} {l : List α} (h : ∀ i, i < l.length → p (l.getD i d) = false) : l.any p = false := by
  rw [Bool.eq_false_iff]; intro hh
  obtain ⟨i, hi, hp⟩ := (any_getD d p l).1 hh
  rw [h i hi] at hp; cases hp
theorem all_not {α : Type} {d : α} {p : α → Bool} {l : List α} {i : Nat} (hi : i < l.length) (h : p (l.getD i d) = false) : l.all p = false := by
  rw [Bool.eq_false_iff]; intro hh
  rw [(all_getD d p l).1 hh i hi] at h; cases h
/-- A search. -/
theorem find_X {α : Type} (l : List α) (d : α) (p : α → Bool) (hl : l.length ≤ 100000000) {f : Nat → Int → Option Int} {g : Nat → α → Option Bool}
    (he : ∀ k (i : Int), f (k + 1) i = (bif (decide (i < (l.length : Int))) then (bif (inB i l.length) then ((g k (l.getD i.toNat d)).bind fun t => (bif t then (some i) else (f k (w64 (i + 1))))) else none) else (some (-1))))
    (hg : ∀ i, i < l.length → T (fun k => g k (l.getD i d)) (fun b => b = p (l.getD i d))) : T (fun k => f k 0) (fun r => decide (r ≥ 0) = l.any p) := by
  refine T.loop0 (σ := Unit) (f := fun k _ i => f k i) l.length (fun _ i => ∀ j, j < i → p (l.getD j d) = false) () (fun j h => absurd h (by omega)) fun s i hi hI ih => ?_
  refine T.eq (he · _) (T.ite (fun h => ?_) (fun h => T.pure ?_))
  · have hlt := lt_dec h
    simp only [Int.toNat_natCast]
    refine T.yes (inB_nat hlt) (T.bind (hg i hlt) fun b hb => T.ite (fun h => T.pure ?_) (fun h => ?_))
    · subst hb
      rw [(any_getD d p l).2 ⟨i, hlt, h⟩]; simp
    · subst hb
      rw [inc (by omega)]
      refine ih () hlt fun j hj => ?_
      by_cases e : j = i
      · subst e; exact h
      · exact hI j (by omega)
  · have e : i = l.length := by have := nlt_dec h; omega
    subst e
    rw [any_none hI]; rfl
/-- All of a level. -/
def allB (lv : Int) (l : List E) : Bool := l.all (ofB lv)
theorem any_not {α : Type} (p : α → Bool) (l : List α) : (l.any fun x => !p x) = !l.all p := by
  induction l with
  | nil => rfl
  | cons a l ih => simp only [List.any_cons, List.all_cons, ih, Bool.not_and]
theorem of_all_X (lv : Int) (l : List E) (hl : l.length ≤ 100000000) : T (fun k => sumcheck_of.f k lv l) (fun b => b = allB lv l) := by
  refine T.eq (sumcheck_of.f_eq · lv l) (T.bind (p := fun b => b = !allB lv l) ?_ fun b hb => T.pure (by rw [hb]; simp))
  refine T.eq (slices_ContainsFunc_sumcheck_of_1.f_eq · l lv) (T.bind (p := fun r => decide (r ≥ 0) = l.any fun x => !ofB lv x) ?_ fun r hr => T.pure (by rw [hr, any_not]; rfl))
  exact T.eq (slices_IndexFunc_sumcheck_of_1.f_eq · l lv) (find_X (f := fun k i => slices_IndexFunc_sumcheck_of_1.l26 k l lv (l.length : Int) i) (g := fun k x => sumcheck_of_1.f k x lv) l z _ hl (fun k i => slices_IndexFunc_sumcheck_of_1.l26_eq k l lv _ i) fun i hi => of1_S _ lv)
theorem chk1_X (l : List E) (lv : Int) (hl : l.length ≤ 100000000) : T (fun k => sumcheck_Check_1.f k l lv) (fun b => b = !allB lv l) := T.eq (sumcheck_Check_1.f_eq · l lv) (T.bind (of_all_X lv l hl) fun b hb => T.pure (by rw [hb]))
theorem cont_X (t : List (List E)) (lv : Int) (ht : fewT t) : T (fun k => slices_ContainsFunc_sumcheck_Check_1.f k t lv) (fun b => b = !t.all (allB lv)) := by
  refine T.eq (slices_ContainsFunc_sumcheck_Check_1.f_eq · t lv) (T.bind (p := fun r => decide (r ≥ 0) = t.any fun x => !allB lv x) ?_ fun r hr => T.pure (by rw [hr, any_not]))
  have h1 := ht.1
  exact T.eq (slices_IndexFunc_sumcheck_Check_1.f_eq · t lv) (find_X (f := fun k i => slices_IndexFunc_sumcheck_Check_1.l26 k t lv (t.length : Int) i) (g := fun k x => sumcheck_Check_1.f k x lv) t [] _ (by omega) (fun k i => slices_IndexFunc_sumcheck_Check_1.l26_eq k t lv _ i) fun i hi => chk1_X _ lv (ht.2 i))
theorem allOf_iff {lv : Int} {l : List E} : allB lv l = true ↔ allOf lv l := all_getD z (ofB lv) l
/-! Logarithms. -/
theorem shl_i {m : Nat} (h : m ≤ 16) : shlI .i64 1 (m : Int) = ((2 ^ m : Nat) : Int) := by
  have : ∀ n : Fin 17, shlI .i64 1 ((n.val : Nat) : Int) = ((2 ^ n.val : Nat) : Int) := by decide
  exact this ⟨m, by omega⟩
def IsLog (n r : Int) : Prop := (∃ m : Nat, m ≤ 16 ∧ n = ((2 ^ m : Nat) : Int) ∧ r = (m : Int)) ∨ (r = -1 ∧ ∀ m : Nat, m ≤ 16 → n ≠ ((2 ^ m : Nat) : Int))
theorem two_inj {a b : Nat} (h : 2 ^ a = 2 ^ b) : a = b := by
  rcases Nat.lt_trichotomy a b with h1 | h1 | h1
  · have := Nat.pow_lt_pow_right (show 1 < 2 by decide) h1; omega
  · exact h1
  · have := Nat.pow_lt_pow_right (show 1 < 2 by decide) h1; omega
theorem IsLog.uniq {n r s : Int} (h : IsLog n r) (k : IsLog n s) : r = s := by
  rcases h with ⟨m, h1, h2, h3⟩ | ⟨h1, h2⟩ <;> rcases k with ⟨m', k1, k2, k3⟩ | ⟨k1, k2⟩
  · have : 2 ^ m = 2 ^ m' := by rw [h2] at k2; exact_mod_cast k2
    have := two_inj this
    omega
  · exact absurd h2 (k2 m h1)
  · exact absurd k2 (h2 m' k1)
  · omega
open Classical in
noncomputable def logI (n : Int) : Int := if h : ∃ m : Nat, m ≤ 16 ∧ n = ((2 ^ m : Nat) : Int) then (h.choose : Int) else -1
theorem logI_is (n : Int) : IsLog n (logI n) := by
  unfold logI
  split
  · rename_i h; exact .inl ⟨h.choose, h.choose_spec.1, h.choose_spec.2, rfl⟩
  · rename_i h; exact .inr ⟨rfl, fun m hm e => h ⟨m, hm, e⟩⟩
theorem log_X (n : Int) : T (fun k => cube_Log.f k n) (fun r => r = logI n) := by
  refine T.eq (cube_Log.f_eq · n) (T.loop0 (σ := Unit) (f := fun k _ i => cube_Log.l26 k n i) 17 (fun _ i => ∀ m : Nat, m < i → n ≠ ((2 ^ m : Nat) : Int)) () (fun m h => absurd h (by omega)) fun s i hi hI ih => ?_)
  refine T.eq (cube_Log.l26_eq · n _) (T.ite (fun h => T.no (nn i) (T.ite (fun h2 => T.pure ?_) (fun h2 => ?_))) (fun h => T.pure ?_))
  · have h : i < 17 := by have := of_decide_eq_true h; omega
    rw [shl_i (by omega)] at h2
    exact IsLog.uniq (.inl ⟨i, by omega, by simpa using h2, rfl⟩) (logI_is n)
  · have h : i < 17 := by have := of_decide_eq_true h; omega
    rw [shl_i (by omega)] at h2
    rw [inc (by omega)]
    refine ih () h fun m hm => ?_
    by_cases e : m = i
    · subst e; simpa using h2
    · exact hI m (by omega)
  · have h : i = 17 := by have := of_decide_eq_false h; omega
    subst h
    exact IsLog.uniq (.inr ⟨rfl, fun m hm => hI m (by omega)⟩) (logI_is n)
theorem logI_pow {m : Nat} (h : m ≤ 16) : logI ((2 ^ m : Nat) : Int) = (m : Int) := IsLog.uniq (logI_is _) (.inl ⟨m, h, rfl, rfl⟩)
theorem logI_nn {n : Int} (h : 0 ≤ logI n) : ∃ m : Nat, m ≤ 16 ∧ n = ((2 ^ m : Nat) : Int) ∧ logI n = (m : Int) := by
  rcases logI_is n with h1 | h1
  · exact h1
  · omega
/-! How many places there are. -/
def fitsB (lv d : Int) : Bool := decide (0 ≤ lv) && decide (lv ≤ 7) && decide (0 ≤ d) && decide (d ≤ (if lv = 0 then 1 else if lv = 1 then 3 else 8))
def plc (i : Nat) : E := (0, (i : Int), ())
theorem plc_rng {i : Nat} (h : i < 2 ^ 64) : rngE (plc i) := show rng 0 ∧ rng (i : Int) from ⟨⟨by decide, by decide⟩, nat_rng h⟩
theorem nat_plc (i : Nat) : nat (plc i) = i := by
  show (0 : Int).toNat <<< 64 ^^^ ((i : Int)).toNat = i
  simp
theorem plc_of {l i : Nat} (hl : l ≤ 7) (h : i < 2 ^ 64) : ofB (l : Int) (plc i) = true ↔ i < 2 ^ 2 ^ l := by
  rw [ofB_iff hl (plc_rng h), nat_plc]
theorem fits_X (lv d : Int) : T (fun k => line_Fits.f k lv d) (fun b => b = fitsB lv d) := by
  unfold fitsB
  refine T.eq (line_Fits.f_eq · lv d) (T.bind (wide_X lv) fun w hw => T.ite (fun h1 => T.ite (fun h2 => T.ite (fun h3 => T.bind (p := fun r => r = (0, wu64 d, ())) (T.eq (line_place.f_eq · d) (T.pure rfl)) fun r hr => T.bind (of_T lv r) fun b hb => T.pure ?_) (fun h3 => T.pure ?_)) (fun h2 => T.pure ?_)) (fun h1 => T.pure ?_))
  · have h1 : ¬ w = 0 := by simpa using h1
    rw [hw] at h1
    have h2 := of_decide_eq_true h2
    have h3 := of_decide_eq_true h3
    obtain ⟨l, rfl⟩ := Int.eq_ofNat_of_zero_le (show 0 ≤ lv by omega)
    obtain ⟨i, rfl⟩ := Int.eq_ofNat_of_zero_le (show 0 ≤ d by omega)
    subst hr hb
    rw [wu_in (by omega) (by omega)]
    show ofB (l : Int) (plc i) = _
    rw [Bool.eq_iff_iff, plc_of (by omega) (by omega)]
    simp only [Bool.and_eq_true, decide_eq_true_eq]
    rcases (show l = 0 ∨ l = 1 ∨ 2 ≤ l by omega) with rfl | rfl | h
    · constructor
      · intro h; refine ⟨by omega, ?_⟩; rw [if_pos (by omega)]; have : (2:Nat) ^ 2 ^ 0 = 2 := rfl; omega
      · rintro ⟨_, h⟩; rw [if_pos (by omega)] at h; have : (2:Nat) ^ 2 ^ 0 = 2 := rfl; omega
    · constructor
      · intro h; refine ⟨by omega, ?_⟩; rw [if_neg (by omega), if_pos (by omega)]; have : (2:Nat) ^ 2 ^ 1 = 4 := rfl; omega
      · rintro ⟨_, h⟩; rw [if_neg (by omega), if_pos (by omega)] at h; have : (2:Nat) ^ 2 ^ 1 = 4 := rfl; omega
    · rw [if_neg (by omega), if_neg (by omega)]
      have := pow_le h
      have e : (2:Nat) ^ 2 ^ 2 = 16 := rfl
      constructor
      · intro h; refine ⟨by omega, by omega⟩
      · intro h; omega
  · have h3 := of_decide_eq_false h3
    symm; simp only [Bool.and_eq_false_iff, decide_eq_false_iff_not]
    right; split
    · omega
    · split <;> omega
  · have h2 := of_decide_eq_false h2
    symm; simp only [Bool.and_eq_false_iff, decide_eq_false_iff_not]
    left; right; omega
  · have h1 : w = 0 := by simpa using h1
    rw [hw] at h1
    symm; simp only [Bool.and_eq_false_iff, decide_eq_false_iff_not]
    left; left; omega
/-! What an expression that may be is. -/
theorem stepE_mono {lv lv' vars vars' : Int} {j : Nat} {o : O} (hv : vars ≤ vars') (ho : ∀ x, ofB lv x = true → ofB lv' x = true) (h : stepE lv vars j o = 0) : stepE lv' vars' j o = 0 := by
  unfold stepE at h ⊢
  split
  · rename_i c; rw [if_pos c] at h
    by_cases c2 : ofB lv o.2.2.2.1 = true
    · rw [if_pos (ho _ c2)]
    · rw [if_neg c2] at h; cases h
  · rename_i c; rw [if_neg c] at h
    split
    · rename_i c2; rw [if_pos c2] at h
      by_cases c3 : 0 ≤ o.2.1 ∧ o.2.1 < vars
      · rw [if_pos (by omega)]
      · rw [if_neg c3] at h; cases h
    · rename_i c2; rw [if_neg c2] at h
      exact h
theorem chk_facts (lv vars : Int) : ∀ (l : List O) (ds : List Int), dsOk ds → echk lv vars ds l = 0 → (∀ j, j < l.length → stepE lv vars (ds.length + j) (l.getD j zo) = 0) ∧ ∀ k, k ≤ l.length → dsOk (degL ds (l.take k))
  | [], ds, h, _ => ⟨fun j hj => absurd hj (by simp), fun k hk => by rw [List.take_nil]; exact h⟩
  | o :: l, ds, h, hc => by
    rw [echk] at hc
    split at hc
    · rename_i h0
      split at hc
      · cases hc
      · rename_i h8
        have hd := dsOk_snoc h (dgr_nn h o).1 (by omega : dgr ds o ≤ 8)
        obtain ⟨c1, c2⟩ := chk_facts lv vars l _ hd hc
        refine ⟨fun j hj => ?_, fun k hk => ?_⟩
        · cases j with
          | zero => exact h0
          | succ j =>
            have := c1 j (by simpa using hj)
            rw [List.length_append, List.length_singleton] at this
            rw [show ds.length + (j + 1) = ds.length + 1 + j by omega]
            exact this
        · cases k with
          | zero => exact h
          | succ k => exact c2 k (by simpa using hk)
    · rename_i h0; exact absurd hc h0
theorem chk_mono {lv lv' vars vars' : Int} (hv : vars ≤ vars') (ho : ∀ x, ofB lv x = true → ofB lv' x = true) : ∀ (l : List O) (ds : List Int), echk lv vars ds l = 0 → echk lv' vars' ds l = 0
  | [], ds, _ => rfl
  | o :: l, ds, hc => by
    rw [echk] at hc ⊢
    split at hc
    · rename_i h0
      rw [if_pos (stepE_mono hv ho h0)]
      split at hc
      · cases hc
      · rename_i h8
        rw [if_neg h8]; exact chk_mono hv ho l _ hc
    · rename_i h0; exact absurd hc h0
/-- An expression that may be. -/
structure XOk (lv vars : Int) (l : List O) : Prop where
  lv0 : 0 ≤ lv
  lv7 : lv ≤ 7
  v0 : 0 ≤ vars
  pos : 0 < l.length
  len : l.length ≤ 200
  echk : echk lv vars [] l = 0
theorem chkX_ok {lv vars : Int} {l : List O} (h : chkX lv vars l = 0) : XOk lv vars l := by
  unfold chkX at h
  split at h
  · cases h
  · split at h
    · cases h
    · split at h
      · cases h
      · exact ⟨by omega, by omega, by omega, by omega, by omega, h⟩
theorem XOk.eq {lv vars : Int} {l : List O} (h : XOk lv vars l) : chkX lv vars l = 0 := by
  have := h.lv0; have := h.lv7; have := h.v0; have := h.pos; have := h.len
  unfold chkX
  rw [if_neg (by omega), if_neg (by omega), if_neg (by omega)]; exact h.echk
theorem dsOk_nil : dsOk [] := fun j => by simp
theorem XOk.st {lv vars : Int} {l : List O} (h : XOk lv vars l) {j : Nat} (hj : j < l.length) : stepE lv vars j (l.getD j zo) = 0 := by
  have := (chk_facts lv vars l [] dsOk_nil h.echk).1 j hj
  rwa [List.length_nil, Nat.zero_add] at this
theorem XOk.ds {lv vars : Int} {l : List O} (h : XOk lv vars l) {k : Nat} (hk : k ≤ l.length) : dsOk (degL [] (l.take k)) := (chk_facts lv vars l [] dsOk_nil h.echk).2 k hk
theorem ofB7 (x : E) : ofB 7 x = true := rfl
/-- An expression's degree, at least 1. -/
def dgI (l : List O) : Int := if (degL [] l).getD (l.length - 1) 0 < 1 then 1 else (degL [] l).getD (l.length - 1) 0
theorem degree_X {lv vars : Int} {l : List O} (h : XOk lv vars l) (hv : vars ≤ 9223372036854775807) : T (fun k => sumcheck_degree.f k l) (fun r => r = dgI l) := by
  have h7 : XOk 7 9223372036854775807 l := ⟨by decide, by decide, by decide, h.pos, h.len, chk_mono hv (fun x _ => ofB7 x) l [] h.echk⟩
  have hp := h.pos
  have hl := h.len
  refine T.eq (sumcheck_degree.f_eq · l) (T.bind (p := fun r => r = (degL [] l).getD (l.length - 1) 0) ?_ fun r hr => T.pure ?_)
  · refine T.eq (expr_Degree.f_eq · l) (T.bind (degrees_X _ _ l) fun r hr => ?_)
    have h0 : r.2 = 0 := hr.1.trans h7.eq
    have e := hr.2 h0
    have hle : (degL [] l).length = l.length := by rw [degL_length]; simp
    rw [e, hle]
    have hw : w64 ((l.length : Int) - 1) = ((l.length - 1 : Nat) : Int) := by rw [w64_in (by omega) (by omega)]; omega
    rw [hw]
    exact T.no (by simpa using h0) (T.yes (inB_nat (by omega)) (T.pure rfl))
  · subst hr
    unfold dgI
    split <;> first | rfl | (split <;> omega) | omega
/-! Tables and an expression of them. -/
noncomputable def sChkV (lv : Int) (l : List O) (t : List (List E)) : Int :=
  if chkX lv t.length l ≠ 0 then chkX lv t.length l
  else if t.length = 0 then 6 else if fitsB lv (dgI l) = false then 6
  else if logI (t.getD 0 []).length < 0 ∨ logI (t.getD 0 []).length > 12 then 6
  else if (t.all fun x => decide (x.length = (t.getD 0 []).length)) = false then 6
  else if t.all (allB lv) = false then 5 else 0
theorem sCheck_X (lv : Int) (l : List O) (t : List (List E)) (ht : fewT t) : T (fun k => sumcheck_Check.f k lv l t) (fun e => e = sChkV lv l t) := by
  unfold sChkV
  have h1000 := ht.1
  refine T.eq (sumcheck_Check.f_eq · lv l t) (T.bind (Check_X lv _ l) fun e he => T.ite (fun h => T.pure ?_) fun h => ?_)
  · subst he; rw [if_pos (by simpa using h)]
  subst he
  have hx0 : chkX lv t.length l = 0 := by simpa using h
  have hx := chkX_ok hx0
  rw [if_neg (by simpa using h)]
  refine T.ite (fun h => T.pure ?_) fun h => ?_
  · rw [if_pos (by simpa using h)]
  have hp : ¬ t.length = 0 := by simpa using h
  rw [if_neg hp]
  refine T.bind (degree_X hx (by omega)) fun d hd => ?_
  subst hd
  refine T.bind (fits_X lv _) fun b hb => ?_
  subst hb
  refine T.ite (fun h => T.pure ?_) fun h => T.yes (inB_nat (i := 0) (by omega)) (T.bind (log_X _) fun r hr => ?_)
  · rw [if_pos (by simpa using h)]
  rw [if_neg (by simpa using h)]
  have hr : r = logI ((t.getD 0 []).length : Int) := hr
  rw [← hr]
  refine T.ite (fun h => T.pure ?_) fun h1 => T.ite (fun h => T.pure ?_) fun h2 => ?_
  · rw [if_pos (.inl (of_decide_eq_true h))]
  · rw [if_pos (.inr (of_decide_eq_true h))]
  have h1 := of_decide_eq_false h1
  have h2 := of_decide_eq_false h2
  rw [if_neg (by omega)]
  obtain ⟨m, m1, m2, m3⟩ := logI_nn (n := ((t.getD 0 []).length : Int)) (by omega)
  rw [hr, m3]
  have m2 : (t.getD 0 []).length = 2 ^ m := by exact_mod_cast m2
  refine T.loop0 (σ := Unit) (f := fun k _ i => sumcheck_Check.l506 k t lv (m : Int) t (t.length : Int) i) t.length (fun _ i => ∀ j, j < i → (t.getD j []).length = (t.getD 0 []).length) () (fun j h => absurd h (by omega)) fun s i hi hI ih => ?_
  refine T.eq (sumcheck_Check.l506_eq · t lv _ t _ _) (T.ite (fun hlt => ?_) (fun hge => ?_))
  · have hlt := lt_dec hlt
    simp only [Int.toNat_natCast]
    rw [shl_i m1]
    refine T.yes (inB_nat hlt) (T.no (nn m) (T.ite (fun h => T.pure ?_) (fun h => ?_)))
    · rw [if_pos]
      refine all_not (d := []) hlt ?_
      simp only [decide_eq_false_iff_not]
      have : ¬ ((t.getD i []).length : Int) = ((2 ^ m : Nat) : Int) := by simpa using h
      rw [m2]; omega
    · have : ((t.getD i []).length : Int) = ((2 ^ m : Nat) : Int) := by simpa using h
      rw [inc (by omega)]
      refine ih () hlt fun j hj => ?_
      by_cases e : j = i
      · subst e; omega
      · exact hI j (by omega)
  · have e : i = t.length := by have := nlt_dec hge; omega
    subst e
    have e1 : (t.all fun x => decide (x.length = (t.getD 0 []).length)) = true := (all_getD [] _ t).2 fun i hi => by simpa using hI i hi
    rw [e1, if_neg (by decide)]
    refine T.bind (cont_X t lv ht) fun b hb => T.ite (fun h => T.pure ?_) (fun h => T.pure ?_)
    · subst hb; rw [if_pos (by simpa using h)]
    · subst hb; rw [if_neg (by simpa using h)]
/-- Elements of words, in tables. -/
def allRR (t : List (List E)) : Prop := ∀ i, allR (t.getD i [])
/-- Tables that may be. -/
structure SOk (lv : Int) (l : List O) (t : List (List E)) : Prop where
  x : XOk lv t.length l
  pos : 0 < t.length
  fit : fitsB lv (dgI l) = true
  lg : ∃ m : Nat, m ≤ 12 ∧ (t.getD 0 []).length = 2 ^ m
  len : ∀ i, i < t.length → (t.getD i []).length = (t.getD 0 []).length
  all : ∀ i, i < t.length → allB lv (t.getD i []) = true
theorem sChkV_ok {lv : Int} {l : List O} {t : List (List E)} (h : sChkV lv l t = 0) : SOk lv l t := by
  unfold sChkV at h
  split at h
  · rename_i c; exact absurd h c
  rename_i c1
  split at h
  · cases h
  split at h
  · cases h
  split at h
  · cases h
  split at h
  · cases h
  split at h
  · cases h
  rename_i c2 c3 c4 c5 c6
  obtain ⟨m, m1, m2, m3⟩ := logI_nn (n := ((t.getD 0 []).length : Int)) (by omega)
  refine ⟨chkX_ok (by simpa using c1), by omega, eq_true_of_ne_false c3, ⟨m, by omega, by exact_mod_cast m2⟩, fun i hi => ?_, fun i hi => ?_⟩
  · exact of_decide_eq_true ((all_getD [] _ t).1 (eq_true_of_ne_false c5) i hi)
  · exact (all_getD [] _ t).1 (eq_true_of_ne_false c6) i hi
end Go.Proofs.Ytlmcalffemklnaa.H1

-- Ug
namespace Go.Proofs.Ytlmcalffemklnaa.H1
open Go Go.Proofs.Ytlmcalffemklnaa.Rf
/-- Elements of a level. -/
def inL (lv : Int) (x : E) : Prop := rngE x ∧ ofB lv x = true
def allL (lv : Int) (l : List E) : Prop := ∀ j, inL lv (l.getD j z)
theorem inL_z {lv : Int} (h1 : 0 ≤ lv) (h2 : lv ≤ 7) : inL lv z := ⟨rngE_z, (ofB_bit h1 h2).1⟩
theorem inL_iff {l : Nat} (hl : l ≤ 7) {x : E} : inL (l : Int) x ↔ rngE x ∧ nat x < 2 ^ 2 ^ l := ⟨fun h => ⟨h.1, (ofB_iff hl h.1).1 h.2⟩, fun h => ⟨h.1, (ofB_iff hl h.1).2 h.2⟩⟩
theorem inL_lv {lv : Int} {x : E} (h : inL lv x) : ∃ l : Nat, lv = (l : Int) ∧ l ≤ 7 := ofB_lv h.2
theorem inL_Av {lv : Int} {a b : E} (ha : inL lv a) (hb : inL lv b) : inL lv (Av a b) := by
  obtain ⟨l, rfl, hl⟩ := inL_lv ha
  rw [inL_iff hl] at ha hb ⊢
  exact ⟨Av_rng a b, by rw [nat_Av ha.1 hb.1]; exact Nat.xor_lt_two_pow ha.2 hb.2⟩
theorem inL_Pr {lv : Int} {a b : E} (ha : inL lv a) (hb : inL lv b) : inL lv (Pr a b) := by
  obtain ⟨l, rfl, hl⟩ := inL_lv ha
  rw [inL_iff hl] at ha hb ⊢
  exact ⟨Pr_rng ha.1 hb.1, by rw [nat_Pr, Tow.mul_to7 hl ha.2 hb.2]; exact Tow.mul_lt l _ _ ha.2 hb.2⟩
theorem Mv_P {lv : Int} {a b : E} (ha : inL lv a) (hb : inL lv b) : Mv lv a b = Pr a b := by
  obtain ⟨l, rfl, hl⟩ := inL_lv ha
  exact Mul_N hl ha.1 hb.1 ha.2 hb.2
theorem nat_one : nat one = 1 := by decide
theorem nat_z : nat z = 0 := by decide
theorem Pr_one {a : E} (h : rngE a) : Pr one a = a := by unfold Pr; rw [nat_one, Tow.one_mul (nat_lt h), mk_nat h]
theorem Pr_zl (a : E) : Pr z a = z := by unfold Pr; rw [nat_z, Tow.mul0l]; decide
/-! What an expression comes to. -/
def nxtP (v out : List E) (o : O) : E :=
  if o.1 = 1 then o.2.2.2.1 else if o.1 = 2 then v.getD o.2.1.toNat z else if o.1 = 3 then Av (out.getD o.2.1.toNat z) (out.getD o.2.2.1.toNat z) else if o.1 = 4 then Pr (out.getD o.2.1.toNat z) (out.getD o.2.2.1.toNat z) else z
def outP (v : List E) : List E → List O → List E
  | out, [] => out
  | out, o :: l => outP v (out ++ [nxtP v out o]) l
/-- An expression's value. -/
def evP (l : List O) (v : List E) : E := (outP v [] l).getD (l.length - 1) z
theorem getD_snoc {α : Type} {l : List α} {a d : α} {j : Nat} : (l ++ [a]).getD j d = if j < l.length then l.getD j d else if j = l.length then a else d := by
  split
  · rename_i h; exact getD_app_lt l a d h
  · split
    · rename_i h1 h2; subst h2; simp
    · rename_i h1 h2; rw [List.getD_eq_getElem?_getD, List.getElem?_eq_none (by simp; omega)]; rfl
theorem allL_snoc {lv : Int} {l : List E} {a : E} (h : allL lv l) (ha : inL lv a) : allL lv (l ++ [a]) := fun j => by
  rw [getD_snoc]
  split
  · exact h j
  · split
    · exact ha
    · have := h (l.length)
      rwa [List.getD_eq_getElem?_getD, List.getElem?_eq_none (by omega)] at this
theorem nxt_P {lv : Int} {v out : List E} {o : O} (hv : allL lv v) (ho : allL lv out) (hs : stepE lv v.length out.length o = 0) (hc : rngE o.2.2.2.1) : nxt lv v out o = nxtP v out o ∧ inL lv (nxtP v out o) := by
  have hz : inL lv z := by
    have := hv v.length
    rwa [List.getD_eq_getElem?_getD, List.getElem?_eq_none (by omega)] at this
  unfold nxt nxtP
  by_cases k1 : o.1 = 1
  · rw [if_pos k1, if_pos k1]; exact ⟨rfl, hc, stepE_of hs k1⟩
  by_cases k2 : o.1 = 2
  · rw [if_neg k1, if_neg k1, if_pos k2, if_pos k2]; exact ⟨rfl, hv _⟩
  by_cases k3 : o.1 = 3
  · rw [if_neg k1, if_neg k1, if_neg k2, if_neg k2, if_pos k3, if_pos k3]; exact ⟨rfl, inL_Av (ho _) (ho _)⟩
  by_cases k4 : o.1 = 4
  · rw [if_neg k1, if_neg k1, if_neg k2, if_neg k2, if_neg k3, if_neg k3, if_pos k4, if_pos k4]; exact ⟨Mv_P (ho _) (ho _), inL_Pr (ho _) (ho _)⟩
  · rw [if_neg k1, if_neg k1, if_neg k2, if_neg k2, if_neg k3, if_neg k3, if_neg k4, if_neg k4]; exact ⟨rfl, hz⟩
/-- Constants of words. -/
def cR (l : List O) : Prop := ∀ i, rngE (l.getD i zo).2.2.2.1
theorem cR_cons {o : O} {l : List O} (h : cR (o :: l)) : rngE o.2.2.2.1 ∧ cR l := ⟨h 0, fun i => h (i + 1)⟩
theorem outs_P {lv : Int} {v : List E} (hv : allL lv v) : ∀ (l : List O) (out : List E), allL lv out → (∀ j, j < l.length → stepE lv v.length (out.length + j) (l.getD j zo) = 0) → cR l → outs lv v out l = outP v out l ∧ allL lv (outP v out l)
  | [], out, ho, _, _ => ⟨rfl, ho⟩
  | o :: l, out, ho, hs, hc => by
    obtain ⟨c1, c2⟩ := cR_cons hc
    have hs0 : stepE lv v.length out.length o = 0 := by have := hs 0 (by simp); simpa using this
    obtain ⟨e, i⟩ := nxt_P hv ho hs0 c1
    rw [outs, outP, e]
    refine outs_P hv l _ (allL_snoc ho i) (fun j hj => ?_) c2
    have := hs (j + 1) (by simpa using hj)
    rw [List.length_append, List.length_singleton, show out.length + 1 + j = out.length + (j + 1) by omega]
    exact this
theorem allL_of {lv : Int} {l : List E} (h0 : 0 ≤ lv) (h7 : lv ≤ 7) (hr : allR l) (ha : allB lv l = true) : allL lv l := fun j => by
  by_cases h : j < l.length
  · exact ⟨hr j, (all_getD z _ l).1 ha j h⟩
  · rw [List.getD_eq_getElem?_getD, List.getElem?_eq_none (by omega)]; exact inL_z h0 h7
theorem allL_nil {lv : Int} (h0 : 0 ≤ lv) (h7 : lv ≤ 7) : allL lv [] := fun j => inL_z h0 h7
theorem ev_ok {lv : Int} {l : List O} {v : List E} (h : XOk lv v.length l) (hc : cR l) (hv : allL lv v) : (outs lv v [] l).getD (l.length - 1) z = evP l v ∧ inL lv (evP l v) := by
  obtain ⟨e, i⟩ := outs_P hv l [] (allL_nil h.lv0 h.lv7) (fun j hj => by rw [List.length_nil, Nat.zero_add]; exact h.st hj) hc
  rw [e]; exact ⟨rfl, i _⟩
theorem Check_ev (lv vars : Int) (l : List O) : Ev (fun k => expr_Check.f k lv vars l) (chkX lv vars l) := by
  obtain ⟨r, h1, h2⟩ := Check_X lv vars l
  rw [← h1]; exact h2
theorem Eval_X (lv : Int) (l : List O) (v : List E) (hv : v.length ≤ 100000) (hc : cR l) (hr : allR v) : T (fun k => expr_Eval.f k lv l v) (fun r =>
    r = if chkX lv v.length l = 0 then (if allB lv v = true then (evP l v, 0) else (z, 5)) else (z, chkX lv v.length l)) := by
  by_cases h0 : chkX lv v.length l = 0
  · rw [if_pos h0]
    have hx := chkX_ok h0
    by_cases ha : allB lv v = true
    · rw [if_pos ha]
      have hE := Check_ev lv v.length l
      rw [h0] at hE
      have ho := allOf_iff.1 ha
      refine (T.both (Eval_T lv l v hv) (Eval_ok lv l v hv hE ho)).mono fun r hr' => ?_
      have := hr'.1.1 hE ho
      rw [(ev_ok hx hc (allL_of hx.lv0 hx.lv7 hr ha)).1] at this
      exact Prod.ext this hr'.2
    · rw [if_neg ha]
      refine T.eq (expr_Eval.f_eq · lv l v) (T.bind (Check_X lv _ l) fun e he => T.no (by subst he; simpa using h0) ?_)
      refine T.loop0 (σ := Unit) (f := fun k _ i => expr_Eval.l58 k lv l v (0, 0, ()) v (v.length : Int) i) v.length (fun _ i => ∀ j, j < i → ofB lv (v.getD j z) = true) () (fun j h => absurd h (by omega)) fun s i hi hI ih => ?_
      refine T.eq (expr_Eval.l58_eq · lv l v _ v _ _) (T.ite (fun h => ?_) (fun h => ?_))
      · have hlt := lt_dec h
        simp only [Int.toNat_natCast]
        refine T.yes (inB_nat hlt) (T.bind (of_T _ _) fun b hb => T.ite (fun hn => T.pure rfl) fun hy => ?_)
        rw [inc (by omega)]
        refine ih () hlt fun j hj => ?_
        by_cases e : j = i
        · subst e
          rw [show ofB lv (v.getD j z) = b from hb.symm]; simpa using hy
        · exact hI j (by omega)
      · have e : i = v.length := by have := nlt_dec h; omega
        subst e
        exact absurd ((all_getD z _ v).2 hI) ha
  · rw [if_neg h0]
    exact T.eq (expr_Eval.f_eq · lv l v) (T.bind (Check_X lv _ l) fun e he => T.yes (by subst he; simpa using h0) (T.pure (by rw [he]; rfl)))
/-! Sums over corners. -/
theorem col_L {lv : Int} {t : List (List E)} (h0 : 0 ≤ lv) (h7 : lv ≤ 7) (hr : allRR t) (ha : ∀ i, i < t.length → allB lv (t.getD i []) = true) (i : Nat) : allL lv (col t i) := fun j => by
  by_cases h : j < t.length
  · rw [col_at t i j h]; exact allL_of h0 h7 (hr j) (ha j h) i
  · rw [List.getD_eq_getElem?_getD, List.getElem?_eq_none (by rw [col_len]; omega)]; exact inL_z h0 h7
theorem allL_B {lv : Int} {l : List E} (h : allL lv l) : allB lv l = true := (all_getD z _ l).2 fun i _ => (h i).2
theorem allL_R {lv : Int} {l : List E} (h : allL lv l) : allR l := fun j => (h j).1
theorem SOk.okT {lv : Int} {l : List O} {t : List (List E)} (h : SOk lv l t) : okT t := ⟨h.pos, h.len⟩
/-! The first error. -/
def errs {α : Type} (e : α → Int) : List α → Int
  | [] => 0
  | a :: r => if e a = 0 then errs e r else e a
theorem errs_ok {α : Type} {e : α → Int} {d : α} : ∀ {l : List α}, errs e l = 0 → ∀ i, i < l.length → e (l.getD i d) = 0
  | [], _, i, hi => absurd hi (by simp)
  | a :: r, h, i, hi => by
    rw [errs] at h
    split at h
    · rename_i h0
      cases i with
      | zero => exact h0
      | succ i => exact errs_ok (l := r) h i (by simpa using hi)
    · rename_i h0; exact absurd h h0
theorem errs_drop {α : Type} {e : α → Int} {d : α} {l : List α} : ∀ i, i ≤ l.length → (∀ j, j < i → e (l.getD j d) = 0) → errs e l = errs e (l.drop i)
  | 0, _, _ => rfl
  | i + 1, hi, h => by
    rw [errs_drop i (by omega) fun j hj => h j (by omega), drop_cons l d (by omega), errs, if_pos (h i (by omega))]
theorem first_X {α β : Type} (l : List α) (d : α) (e : α → Int) (hl : l.length ≤ 100000000) {f : Nat → Int → Option β} {g : Nat → α → Option Int} {ret : Int → β} {fin : Nat → Option β} {p : β → Prop}
    (he : ∀ k (i : Int), f (k + 1) i = (bif (decide (i < (l.length : Int))) then (bif (inB i l.length) then ((g k (l.getD i.toNat d)).bind fun t => (bif (t != 0) then (some (ret t)) else (f k (w64 (i + 1))))) else none) else fin k))
    (hg : ∀ i, i < l.length → T (fun k => g k (l.getD i d)) (fun r => r = e (l.getD i d))) (hret : errs e l ≠ 0 → p (ret (errs e l))) (hfin : errs e l = 0 → T fin p) : T (fun k => f k 0) p := by
  refine T.loop0 (σ := Unit) (f := fun k _ i => f k i) l.length (fun _ i => ∀ j, j < i → e (l.getD j d) = 0) () (fun j h => absurd h (by omega)) fun s i hi hI ih => ?_
  refine T.eq (he · _) (T.ite (fun h => ?_) (fun h => ?_))
  · have hlt := lt_dec h
    simp only [Int.toNat_natCast]
    refine T.yes (inB_nat hlt) (T.bind (hg i hlt) fun b hb => T.ite (fun h => T.pure ?_) (fun h => ?_))
    · subst hb
      have h : ¬ e (l.getD i d) = 0 := by simpa using h
      have e1 := errs_drop (d := d) (e := e) i (by omega) hI
      rw [drop_cons l d hlt, errs, if_neg h] at e1
      rw [← e1]; exact hret (by rw [e1]; exact h)
    · subst hb
      rw [inc (by omega)]
      refine ih () hlt fun j hj => ?_
      by_cases e : j = i
      · subst e; simpa using h
      · exact hI j (by omega)
  · have e1 : i = l.length := by have := nlt_dec h; omega
    subst e1
    refine hfin ?_
    rw [errs_drop (d := d) (e := e) _ (Nat.le_refl _) hI, List.drop_length]; rfl
end Go.Proofs.Ytlmcalffemklnaa.H1

-- Uh
namespace Go.Proofs.Ytlmcalffemklnaa.H1
open Go Go.Proofs.Ytlmcalffemklnaa.Rf
/-! Conditions, mixed. -/
def manyV (c : List (List O)) : Int := if c.length = 0 then 1 else if c.length > 40 then 2 else 0
theorem many_X (c : List (List O)) : T (fun k => zero_many.f k c) (fun e => e = manyV c) := by
  unfold manyV
  refine T.eq (zero_many.f_eq · c) (T.ite (fun h => T.pure ?_) fun h0 => T.ite (fun h => T.pure ?_) fun h1 => T.pure ?_)
  all_goals simp only [beq_iff_eq, beq_eq_false_iff_ne, ne_eq, decide_eq_true_eq, decide_eq_false_iff_not] at *
  · rw [if_pos (by omega)]
  · rw [if_neg (by omega), if_pos (by omega)]
  · rw [if_neg (by omega), if_neg (by omega)]
theorem manyV_ok {c : List (List O)} (h : manyV c = 0) : 0 < c.length ∧ c.length ≤ 40 := by
  unfold manyV at h
  split at h
  · cases h
  · split at h
    · cases h
    · omega
end Go.Proofs.Ytlmcalffemklnaa.H1

-- Uk
namespace Go.Proofs.Ytlmcalffemklnaa.H1
open Go Go.Proofs.Ytlmcalffemklnaa.Rf
/-! Conditions over tables. -/
noncomputable def askV (lv : Int) (c : List (List O)) (t : List (List E)) : Int := if manyV c = 0 then errs (fun l => sChkV lv l t) c else manyV c
theorem ask_X (lv : Int) (c : List (List O)) (t : List (List E)) (hc : fewC c) (ht : fewT t) : T (fun k => zero_ask.f k lv c t) (fun e => e = askV lv c t) := by
  unfold askV
  have h50 := hc.1
  refine T.eq (zero_ask.f_eq · lv c t) (T.bind (many_X c) fun e he => T.ite (fun h => T.pure ?_) (fun h => ?_))
  · subst he; rw [if_neg (by simpa using h)]
  · subst he
    rw [if_pos (by simpa using h)]
    exact first_X (f := fun k i => zero_ask.l58 k lv t c (c.length : Int) i) (g := fun k l => sumcheck_Check.f k lv l t) (ret := fun t => t) (fin := fun _ => some 0) c [] (fun l => sChkV lv l t) (by omega) (fun k i => zero_ask.l58_eq k lv t c _ i) (fun i hi => sCheck_X lv _ t ht) (fun h => rfl) (fun h => T.pure h.symm)
theorem askV_ok {lv : Int} {c : List (List O)} {t : List (List E)} (h : askV lv c t = 0) : 0 < c.length ∧ ∀ j, j < c.length → SOk lv (c.getD j []) t := by
  unfold askV at h
  split at h
  · rename_i h0
    exact ⟨(manyV_ok h0).1, fun j hj => sChkV_ok (errs_ok (d := []) h j hj)⟩
  · rename_i h0; exact absurd h h0
def holdsP (c : List (List O)) (t : List (List E)) : Prop := ∀ i, i < (t.getD 0 []).length → ∀ j, j < c.length → evP (c.getD j []) (col t i) = z
theorem Holds_X (lv : Int) (c : List (List O)) (t : List (List E)) (hc : fewC c) (ht : fewT t) (hr : ∀ j, cR (c.getD j [])) (hrt : allRR t) : T (fun k => zero_Holds.f k lv c t) (fun r => r.2 = askV lv c t ∧ (r.1 = true ↔ askV lv c t = 0 ∧ holdsP c t)) := by
  refine T.eq (zero_Holds.f_eq · lv c t) (T.bind (ask_X lv c t hc ht) fun e he => T.ite (fun h => T.pure ?_) fun h => ?_)
  · subst he
    have h : ¬ askV lv c t = 0 := by simpa using h
    exact ⟨rfl, fun h => (by cases h), fun h' => absurd h'.1 h⟩
  subst he
  have h0 : askV lv c t = 0 := by simpa using h
  obtain ⟨hp, hS⟩ := askV_ok h0
  have hs0 := hS 0 hp
  have h1 := hs0.okT
  have hlen := ht.2 0
  have h50 := hc.1
  refine T.yes (inB_nat (i := 0) h1.1) (T.loop0 (σ := Unit) (f := fun k _ i => zero_Holds.l58 k lv c t ((t.getD 0 []).length : Int) i) (t.getD 0 []).length (fun _ i => ∀ i', i' < i → ∀ j, j < c.length → evP (c.getD j []) (col t i') = z) () (fun i' h => absurd h (by omega)) fun s i hi hI ih => ?_)
  refine T.eq (zero_Holds.l58_eq · lv c t _ _) (T.ite (fun h => ?_) (fun h => ?_))
  · have hlt := lt_dec h
    have h1000 := ht.1
    refine T.yes ?_ ?_
    · simp only [makeB, Bool.and_eq_true, decide_eq_true_eq]
      exact ⟨⟨by omega, by omega⟩, room_ok (by simp only [Int.toNat_natCast]; omega)⟩
    refine T.loop0 (f := fun k s n => zero_Holds.l59802 k lv c t (i : Int) s ((t.getD 0 []).length : Int) (i : Int) t (t.length : Int) n) t.length (fun s n => s.length = t.length ∧ ∀ j, j < n → s.getD j z = (t.getD j []).getD i z) _ ⟨by simp, fun j h => absurd h (by omega)⟩ fun s n hn hI2 ih2 => ?_
    refine T.eq (zero_Holds.l59802_eq · lv c t _ s _ _ t _ _) (T.ite (fun h => ?_) (fun h => ?_))
    · have hlt2 := lt_dec h
      simp only [Int.toNat_natCast]
      refine T.yes (inB_nat hlt2) (T.yes (inB_nat (by have := h1.2 n hlt2; omega)) (T.yes (inB_nat (by omega)) ?_))
      rw [inc (by omega)]
      refine ih2 _ hlt2 ⟨by simp [hI2.1], fun j hj => ?_⟩
      rw [set_get _ _ _ _ _ (by omega)]
      split
      · rename_i e; subst e; rfl
      · exact hI2.2 j (by omega)
    · have e : n = t.length := by have := nlt_dec h; omega
      subst e
      have hs : s = col t i := list_eq z (by rw [col_len]; exact hI2.1) fun j hj => by rw [col_len] at hj; rw [hI2.2 j hj, col_at t i j hj]
      subst hs
      have cl := col_L hs0.x.lv0 hs0.x.lv7 hrt hs0.all i
      refine T.loop0 (σ := Unit) (f := fun k _ n => zero_Holds.l59806 k lv c t (col t i) ((t.getD 0 []).length : Int) (i : Int) c (c.length : Int) n) c.length (fun _ n => ∀ j, j < n → evP (c.getD j []) (col t i) = z) () (fun j h => absurd h (by omega)) fun s m hm hI3 ih3 => ?_
      refine T.eq (zero_Holds.l59806_eq · lv c t _ _ _ c _ _) (T.ite (fun h => ?_) (fun h => ?_))
      · have hlt3 := lt_dec h
        simp only [Int.toNat_natCast]
        refine T.yes (inB_nat hlt3) (T.bind (Eval_X lv _ _ (by rw [col_len]; omega) (hr m) (allL_R cl)) fun r hr' => ?_)
        have hx := (hS m hlt3).x
        rw [col_len, if_pos hx.eq, if_pos (allL_B cl)] at hr'
        subst hr'
        refine T.ite (fun hz => T.pure ⟨h0.symm, fun h => (by cases h), fun h' => ?_⟩) (fun hz => ?_)
        · have := h'.2 i hlt m hlt3
          dsimp only at hz
          rw [this] at hz; cases hz
        rw [inc (by omega)]
        refine ih3 () hlt3 fun j hj => ?_
        by_cases e : j = m
        · subst e
          simp only [Bool.not_eq_false', Bool.and_eq_true, beq_iff_eq] at hz
          exact Prod.ext hz.1 (Prod.ext hz.2 rfl)
        · exact hI3 j (by omega)
      · have e : m = c.length := by have := nlt_dec h; omega
        subst e
        rw [inc (by omega)]
        refine ih () hlt fun i' hi' j hj => ?_
        by_cases e : i' = i
        · subst e; exact hI3 j hj
        · exact hI i' (by omega) j hj
  · have e : i = (t.getD 0 []).length := Nat.le_antisymm hi (nlt_dec h)
    subst e
    exact T.pure ⟨h0.symm, fun _ => ⟨h0, hI⟩, fun _ => rfl⟩
/-! The zero sum. -/
end Go.Proofs.Ytlmcalffemklnaa.H1
namespace Go.Proofs.Ytlmcalffemklnaa.H1
open Go Go.Proofs.Ytlmcalffemklnaa.Rf
/-! Bits as elements. -/
theorem Av_toE (a b : Bool) : Av (toE a) (toE b) = toE (a ^^ b) := by cases a <;> cases b <;> decide
theorem rng_toE (b : Bool) : rngE (toE b) := by cases b <;> exact ⟨⟨by decide, by decide⟩, by decide, by decide⟩
theorem Pr_toE (a b : Bool) : Pr (toE a) (toE b) = toE (a && b) := by
  cases a
  · exact Pr_zl _
  · exact Pr_one (rng_toE b)
theorem toE_z {b : Bool} : toE b = z ↔ b = false := by cases b <;> simp [toE, z]
theorem toE_get (b : List Bool) (j : Nat) : (b.map toE).getD j z = toE (b.getD j false) := by
  rcases Nat.lt_or_ge j b.length with h | h
  · exact toE_at b h
  · rw [List.getD_eq_getElem?_getD, List.getElem?_eq_none (by simpa using h), List.getD_eq_getElem?_getD, List.getElem?_eq_none h]; rfl
theorem toE_of (b : Bool) : ofB 1 (toE b) = true := by cases b <;> decide
/-! What the conditions come to. -/
theorem ev8 (v : List E) (a b : Int) : evP [oV a, oV b, oS 0 1] v = Av (v.getD a.toNat z) (v.getD b.toNat z) := rfl
theorem ev3 (v : List E) (d a : Int) : evP [oV d, oV a, oS 0 1, o1, oS 2 3] v = Av (Av (v.getD d.toNat z) (v.getD a.toNat z)) (toE true) := rfl
theorem ev1 (v : List E) (d a b : Int) : evP [oV d, oV a, oS 0 1, oV b, oS 2 3] v = Av (Av (v.getD d.toNat z) (v.getD a.toNat z)) (v.getD b.toNat z) := rfl
theorem ev2 (v : List E) (d a b : Int) : evP [oV d, oV a, oV b, oP 1 2, oS 0 3] v = Av (v.getD d.toNat z) (Pr (v.getD a.toNat z) (v.getD b.toNat z)) := rfl
theorem ev7 (v : List E) (d a b e : Int) : evP [oV d, oV a, oS 0 1, oV b, oS 2 3, oV e, oS 4 5] v = Av (Av (Av (v.getD d.toNat z) (v.getD a.toNat z)) (v.getD b.toNat z)) (v.getD e.toNat z) := rfl
theorem ev7c (v : List E) (c a b e : Int) : evP [oV c, oV a, oV b, oP 1 2, oS 0 3, oV e, oV a, oV b, oS 6 7, oP 5 8, oS 4 9] v = Av (Av (v.getD c.toNat z) (Pr (v.getD a.toNat z) (v.getD b.toNat z))) (Pr (v.getD e.toNat z) (Av (v.getD a.toNat z) (v.getD b.toNat z))) := rfl
/-! They may be. -/
theorem ck_v {vars : Int} {ds : List Int} {l : List O} {a : Int} (h : 0 ≤ a ∧ a < vars) : echk 1 vars ds (oV a :: l) = echk 1 vars (ds ++ [1]) l := by
  rw [echk]
  have e : stepE 1 vars ds.length (oV a) = 0 := by
    unfold stepE oV
    rw [if_neg (by simp), if_pos (by simp [z]), if_pos h]
  rw [if_pos e]
  show (if (1 : Int) > 8 then 7 else echk 1 vars (ds ++ [1]) l) = _
  rw [if_neg (by decide)]
theorem ck_o {vars : Int} {ds : List Int} {l : List O} {o : O} (d : Int) (h1 : stepE 1 vars ds.length o = 0) (h2 : dgr ds o = d) (h3 : ¬ d > 8) : echk 1 vars ds (o :: l) = echk 1 vars (ds ++ [d]) l := by
  rw [echk, if_pos h1, h2, if_neg h3]
structure COk (vars : Int) (c : List O) : Prop where
  chk : echk 1 vars [] c = 0
  d : dgI c = 1 ∨ dgI c = 2
  pos : 0 < c.length
  len : c.length ≤ 12
  r : cR c
theorem cR_of {c : List O} (h : ∀ o ∈ c, o.2.2.2.1 = z ∨ o.2.2.2.1 = one) : cR c := fun i => by
  rcases Nat.lt_or_ge i c.length with hi | hi
  · rcases h _ (getD_mem (d := zo) hi) with e | e <;> rw [e]
    · exact rngE_z
    · exact rng_toE true
  · rw [List.getD_eq_getElem?_getD, List.getElem?_eq_none hi]; exact rngE_z
theorem Ix.rng {ws : List O} {i : Int} {w : O} (h : Ix ws i w) : 0 ≤ i ∧ i < (ws.length : Int) := by
  obtain ⟨h0, h1, _⟩ := h
  omega
theorem ok8 {vars a b : Int} (ha : 0 ≤ a ∧ a < vars) (hb : 0 ≤ b ∧ b < vars) : COk vars [oV a, oV b, oS 0 1] :=
  ⟨(ck_v ha).trans ((ck_v hb).trans ((ck_o 1 rfl rfl (by decide)).trans rfl)), .inl rfl, by simp, by simp, cR_of (by simp [oV, oS, oP, o1, one])⟩
theorem ok3 {vars a b : Int} (ha : 0 ≤ a ∧ a < vars) (hb : 0 ≤ b ∧ b < vars) : COk vars [oV a, oV b, oS 0 1, o1, oS 2 3] :=
  ⟨(ck_v ha).trans ((ck_v hb).trans ((ck_o 1 rfl rfl (by decide)).trans ((ck_o 0 rfl rfl (by decide)).trans ((ck_o 1 rfl rfl (by decide)).trans rfl)))), .inl rfl, by simp, by simp, cR_of (by simp [oV, oS, oP, o1, one])⟩
theorem ok1 {vars a b c : Int} (ha : 0 ≤ a ∧ a < vars) (hb : 0 ≤ b ∧ b < vars) (hc : 0 ≤ c ∧ c < vars) : COk vars [oV a, oV b, oS 0 1, oV c, oS 2 3] :=
  ⟨(ck_v ha).trans ((ck_v hb).trans ((ck_o 1 rfl rfl (by decide)).trans ((ck_v hc).trans ((ck_o 1 rfl rfl (by decide)).trans rfl)))), .inl rfl, by simp, by simp, cR_of (by simp [oV, oS, oP, o1, one])⟩
theorem ok2 {vars a b c : Int} (ha : 0 ≤ a ∧ a < vars) (hb : 0 ≤ b ∧ b < vars) (hc : 0 ≤ c ∧ c < vars) : COk vars [oV a, oV b, oV c, oP 1 2, oS 0 3] :=
  ⟨(ck_v ha).trans ((ck_v hb).trans ((ck_v hc).trans ((ck_o 2 rfl rfl (by decide)).trans ((ck_o 2 rfl rfl (by decide)).trans rfl)))), .inr rfl, by simp, by simp, cR_of (by simp [oV, oS, oP, o1, one])⟩
theorem ok7 {vars a b c e : Int} (ha : 0 ≤ a ∧ a < vars) (hb : 0 ≤ b ∧ b < vars) (hc : 0 ≤ c ∧ c < vars) (he : 0 ≤ e ∧ e < vars) : COk vars [oV a, oV b, oS 0 1, oV c, oS 2 3, oV e, oS 4 5] :=
  ⟨(ck_v ha).trans ((ck_v hb).trans ((ck_o 1 rfl rfl (by decide)).trans ((ck_v hc).trans ((ck_o 1 rfl rfl (by decide)).trans ((ck_v he).trans ((ck_o 1 rfl rfl (by decide)).trans rfl)))))), .inl rfl, by simp, by simp, cR_of (by simp [oV, oS, oP, o1, one])⟩
theorem ok7c {vars c a b e : Int} (ha : 0 ≤ a ∧ a < vars) (hb : 0 ≤ b ∧ b < vars) (hc : 0 ≤ c ∧ c < vars) (he : 0 ≤ e ∧ e < vars) : COk vars [oV c, oV a, oV b, oP 1 2, oS 0 3, oV e, oV a, oV b, oS 6 7, oP 5 8, oS 4 9] :=
  ⟨(ck_v hc).trans ((ck_v ha).trans ((ck_v hb).trans ((ck_o 2 rfl rfl (by decide)).trans ((ck_o 2 rfl rfl (by decide)).trans ((ck_v he).trans ((ck_v ha).trans ((ck_v hb).trans ((ck_o 1 rfl rfl (by decide)).trans ((ck_o 2 rfl rfl (by decide)).trans ((ck_o 2 rfl rfl (by decide)).trans rfl)))))))))), .inr rfl, by simp, by simp, cR_of (by simp [oV, oS, oP, o1, one])⟩
theorem gc_ok {x : Sy} {ws : List O} {g : Gt} {cs : List (List O)} (h : GC x ws g cs) : (∀ c ∈ cs, COk ws.length c) ∧ 0 < cs.length ∧ 0 < ws.length := by
  rcases h with ⟨e, a, b, h1, h2, rfl⟩ | ⟨e, d, a, h1, h2, rfl⟩ | ⟨e, d, a, h1, h2, rfl⟩ | ⟨e, d, a, b, h1, h2, h3, rfl⟩ | ⟨e, d, a, b, h1, h2, h3, rfl⟩ | ⟨e, e0, d, a, b, c, h1, h2, h3, h4, rfl⟩ | ⟨e, e0, d, a, b, c, f, h1, h2, h3, h4, h5, rfl⟩ <;>
  refine ⟨?_, by simp, by have := h1.2.1; omega⟩ <;> intro c hc <;> simp only [List.mem_cons, List.not_mem_nil, or_false] at hc
  · subst hc; exact ok8 h1.rng h2.rng
  · subst hc; exact ok8 h1.rng h2.rng
  · subst hc; exact ok3 h1.rng h2.rng
  · subst hc; exact ok1 h1.rng h2.rng h3.rng
  · subst hc; exact ok2 h1.rng h2.rng h3.rng
  · rcases hc with rfl | rfl
    · exact ok1 h1.rng h2.rng h3.rng
    · exact ok2 h4.rng h2.rng h3.rng
  · rcases hc with rfl | rfl
    · exact ok7 h1.rng h2.rng h3.rng h5.rng
    · exact ok7c h2.rng h3.rng h4.rng h5.rng
/-- What the conditions of a gate say of bits. -/
def GB (x : Sy) (g : Gt) (B : O → Bool) : Prop :=
  if g.1 = 8 then B (wc g.2.2.1) = B (wc g.2.2.2.1)
  else if g.1 = 1 then B (wc g.2.1) = (B (wc g.2.2.1) ^^ B (wc g.2.2.2.1))
  else if g.1 = 2 then B (wc g.2.1) = (B (wc g.2.2.1) && B (wc g.2.2.2.1))
  else if g.1 = 3 then B (wc g.2.1) = !B (wc g.2.2.1)
  else if g.1 = 7 then
    B (wc g.2.1) = (B (wc g.2.2.1) ^^ B (wc g.2.2.2.1) ^^ (!decide (x.1 = 0) && B (g.2.2.2.2.1, 1, 1, z, ()))) ∧
    B (wc g.2.2.2.2.1) = ((B (wc g.2.2.1) && B (wc g.2.2.2.1)) ^^ ((!decide (x.1 = 0) && B (g.2.2.2.2.1, 1, 1, z, ())) && (B (wc g.2.2.1) ^^ B (wc g.2.2.2.1))))
  else B (wc g.2.1) = B (g.2.2.1, g.1 - 3, g.2.2.2.2.1, z, ())
theorem Ix.val {ws : List O} {i : Int} {w : O} (h : Ix ws i w) (B : O → Bool) : (ws.map fun w => toE (B w)).getD i.toNat z = toE (B w) := by
  obtain ⟨h0, h1, rfl⟩ := h
  simp [List.getD_eq_getElem?_getD, List.getElem?_map, List.getElem?_eq_getElem h1]
theorem gc_val {x : Sy} {ws : List O} {g : Gt} {cs : List (List O)} (h : GC x ws g cs) (B : O → Bool) : (∀ c ∈ cs, evP c (ws.map fun w => toE (B w)) = z) ↔ GB x g B := by
  rcases h with ⟨e, a, b, h1, h2, rfl⟩ | ⟨e, d, a, h1, h2, rfl⟩ | ⟨e, d, a, h1, h2, rfl⟩ | ⟨e, d, a, b, h1, h2, h3, rfl⟩ | ⟨e, d, a, b, h1, h2, h3, rfl⟩ | ⟨e, e0, d, a, b, c, h1, h2, h3, h4, rfl⟩ | ⟨e, e0, d, a, b, c, f, h1, h2, h3, h4, h5, rfl⟩ <;>
  simp only [List.mem_cons, List.not_mem_nil, or_false, forall_eq, forall_eq_or_imp]
  · rw [ev8, h1.val, h2.val, Av_toE, toE_z]; unfold GB; rw [if_pos e]
    cases B (wc g.2.2.1) <;> cases B (wc g.2.2.2.1) <;> decide
  · have e' : g.1 = 4 ∨ g.1 = 5 ∨ g.1 = 6 := by unfold shB at e; simp at e; omega
    rw [ev8, h1.val, h2.val, Av_toE, toE_z]; unfold GB; rw [if_neg (by omega), if_neg (by omega), if_neg (by omega), if_neg (by omega), if_neg (by omega)]
    cases B (wc g.2.1) <;> cases B (g.2.2.1, g.1 - 3, g.2.2.2.2.1, z, ()) <;> decide
  · rw [ev3, h1.val, h2.val, Av_toE, Av_toE, toE_z]; unfold GB; rw [if_neg (by omega), if_neg (by omega), if_neg (by omega), if_pos e]
    cases B (wc g.2.1) <;> cases B (wc g.2.2.1) <;> decide
  · rw [ev1, h1.val, h2.val, h3.val, Av_toE, Av_toE, toE_z]; unfold GB; rw [if_neg (by omega), if_pos e]
    cases B (wc g.2.1) <;> cases B (wc g.2.2.1) <;> cases B (wc g.2.2.2.1) <;> decide
  · rw [ev2, h1.val, h2.val, h3.val, Pr_toE, Av_toE, toE_z]; unfold GB; rw [if_neg (by omega), if_neg (by omega), if_pos e]
    cases B (wc g.2.1) <;> cases B (wc g.2.2.1) <;> cases B (wc g.2.2.2.1) <;> decide
  · rw [ev1, ev2, h1.val, h2.val, h3.val, h4.val, Pr_toE, Av_toE, Av_toE, Av_toE, toE_z, toE_z]; unfold GB; rw [if_neg (by omega), if_neg (by omega), if_neg (by omega), if_neg (by omega), if_pos e]
    rw [decide_eq_true e0]
    cases B (wc g.2.1) <;> cases B (wc g.2.2.1) <;> cases B (wc g.2.2.2.1) <;> cases B (wc g.2.2.2.2.1) <;> simp
  · rw [ev7, ev7c, h1.val, h2.val, h3.val, h4.val, h5.val]
    simp only [Pr_toE, Av_toE, toE_z]; unfold GB; rw [if_neg (by omega), if_neg (by omega), if_neg (by omega), if_neg (by omega), if_pos e]
    rw [decide_eq_false e0]
    cases B (wc g.2.1) <;> cases B (wc g.2.2.1) <;> cases B (wc g.2.2.2.1) <;> cases B (wc g.2.2.2.2.1) <;> cases B (g.2.2.2.2.1, 1, 1, z, ()) <;> simp
theorem gcs_ok {x : Sy} {ws : List O} : ∀ {gs : List Gt} {cs : List (List O)}, GCs x ws gs cs → (∀ c ∈ cs, COk ws.length c) ∧ (gs ≠ [] → 0 < cs.length ∧ 0 < ws.length)
  | [], cs, h => by
    have h : cs = [] := h
    subst h; exact ⟨fun c hc => (by cases hc), fun h => absurd rfl h⟩
  | g :: gs, cs, ⟨c1, c2, e, h1, h2⟩ => by
    subst e
    obtain ⟨a1, a2, a3⟩ := gc_ok h1
    obtain ⟨b1, _⟩ := gcs_ok h2
    refine ⟨fun c hc => ?_, fun _ => ⟨by rw [List.length_append]; omega, a3⟩⟩
    rcases List.mem_append.1 hc with k | k
    · exact a1 c k
    · exact b1 c k
theorem gcs_val {x : Sy} {ws : List O} (B : O → Bool) : ∀ {gs : List Gt} {cs : List (List O)}, GCs x ws gs cs → ((∀ c ∈ cs, evP c (ws.map fun w => toE (B w)) = z) ↔ ∀ g ∈ gs, GB x g B)
  | [], cs, h => by
    have h : cs = [] := h
    subst h; simp
  | g :: gs, cs, ⟨c1, c2, e, h1, h2⟩ => by
    subst e
    have a := gc_val h1 B
    have b := gcs_val B h2
    constructor
    · intro h g' hg'
      rcases List.mem_cons.1 hg' with rfl | k
      · exact a.1 fun c hc => h c (List.mem_append_left _ hc)
      · exact b.1 (fun c hc => h c (List.mem_append_right _ hc)) g' k
    · intro h c hc
      rcases List.mem_append.1 hc with k | k
      · exact a.2 (h g (List.mem_cons_self ..)) c k
      · exact b.2 (fun g' hg' => h g' (List.mem_cons_of_mem _ hg')) c k
end Go.Proofs.Ytlmcalffemklnaa.H1
namespace Go.Proofs.Ytlmcalffemklnaa.H1
open Go Go.Proofs.Ytlmcalffemklnaa.Rf
/-- The carry into a bit. -/
def cr (a b : Nat) : Nat → Bool
  | 0 => false
  | y + 1 => (a.testBit y && b.testBit y) ^^ (cr a b y && (a.testBit y ^^ b.testBit y))
theorem carry_cr (a b : Nat) : ∀ y, y ≤ 64 → BitVec.carry y (BitVec.ofNat 64 a) (BitVec.ofNat 64 b) false = cr a b y
  | 0, _ => BitVec.carry_zero
  | y + 1, h => by
    rw [BitVec.carry_succ, carry_cr a b y (by omega), BitVec.getLsbD_ofNat, BitVec.getLsbD_ofNat, cr]
    have : decide (y < 64) = true := decide_eq_true (by omega)
    rw [this]
    cases a.testBit y <;> cases b.testBit y <;> cases cr a b y <;> rfl
theorem add_bit (a b : Nat) {y : Nat} (h : y < 64) : (a + b).testBit y = (a.testBit y ^^ b.testBit y ^^ cr a b y) := by
  have h1 := BitVec.getLsbD_add h (BitVec.ofNat 64 a) (BitVec.ofNat 64 b)
  rw [carry_cr a b y (by omega), ← BitVec.ofNat_add, BitVec.getLsbD_ofNat, BitVec.getLsbD_ofNat, BitVec.getLsbD_ofNat] at h1
  have : decide (y < 64) = true := decide_eq_true h
  rw [this] at h1
  simp only [Bool.true_and] at h1
  rw [h1]
  cases a.testBit y <;> cases b.testBit y <;> cases cr a b y <;> rfl
theorem mcar_bit (a b : Nat) {y : Nat} (h : y < 63) : (mcar a b).testBit y = cr a b (y + 1) := by
  unfold mcar
  rw [Nat.testBit_shiftRight, Nat.testBit_xor, Nat.testBit_xor, Nat.add_comm 1 y, add_bit a b (by omega)]
  cases a.testBit (y + 1) <;> cases b.testBit (y + 1) <;> cases cr a b (y + 1) <;> rfl
/-- The carry's wire, one bit on. -/
def mw (s y : Nat) : Bool := decide (1 ≤ y) && s.testBit (y - 1)
theorem add_iff {n a b d s : Nat} (hn : n ≤ 32) :
    (∀ y, y < n → d.testBit y = (a.testBit y ^^ b.testBit y ^^ mw s y) ∧ s.testBit y = ((a.testBit y && b.testBit y) ^^ (mw s y && (a.testBit y ^^ b.testBit y)))) ↔
    ∀ y, y < n → d.testBit y = (a + b).testBit y ∧ s.testBit y = (mcar a b).testBit y := by
  constructor
  · intro h
    have hM : ∀ y, y < n → mw s y = cr a b y := by
      intro y
      induction y with
      | zero => intro _; rfl
      | succ y ih =>
        intro hy
        show s.testBit y = _
        rw [(h y (by omega)).2, ih (by omega)]; rfl
    intro y hy
    rw [add_bit a b (by omega), mcar_bit a b (by omega), (h y hy).1, ← hM y hy]
    refine ⟨rfl, ?_⟩
    rw [(h y hy).2, cr, ← hM y hy]
  · intro h
    have hM : ∀ y, y < n → mw s y = cr a b y := by
      intro y hy
      cases y with
      | zero => rfl
      | succ y =>
        show s.testBit y = _
        rw [(h y (by omega)).2, mcar_bit a b (by omega)]
    intro y hy
    rw [hM y hy, (h y hy).1, (h y hy).2, add_bit a b (by omega), mcar_bit a b (by omega)]
    exact ⟨rfl, rfl⟩
/-- A wire's bit. -/
def wB (x : Sy) (l : List (List Int)) (i y : Nat) (w : O) : Bool := sb (2 ^ x.1.toNat) w.2.1 w.2.2.1.toNat (wd l w.1 i).testBit y
theorem wB_mw (x : Sy) (l : List (List Int)) (i y : Nat) (c : Int) : wB x l i y (c, 1, 1, z, ()) = mw (wd l c i) y := rfl
theorem GB_HG {x : Sy} {l : List (List Int)} {g : Gt} (hx : Sz x) (hk : 1 ≤ g.1 ∧ g.1 ≤ 8) : (∀ i, i < 2 ^ x.2.1.toNat → ∀ y, y < 2 ^ x.1.toNat → GB x g (wB x l i y)) ↔ HG x l g := by
  have hn := p2w (w := x.1.toNat) (by have := hx.w0; have := hx.w1; omega)
  unfold HG
  by_cases e7 : g.1 = 7
  · have hm : ∀ i y, y < 2 ^ x.1.toNat → (!decide (x.1 = 0) && wB x l i y (g.2.2.2.2.1, 1, 1, z, ())) = mw (wd l g.2.2.2.2.1 i) y := fun i y hy => by
      rw [wB_mw]
      by_cases e0 : x.1 = 0
      · have : y = 0 := by rw [e0] at hy; simpa using hy
        subst this; simp [mw]
      · simp [e0]
    have h1 : ∀ i, (∀ y, y < 2 ^ x.1.toNat → GB x g (wB x l i y)) ↔ ∀ y, y < 2 ^ x.1.toNat → (wd l g.2.1 i).testBit y = (wd l g.2.2.1 i + wd l g.2.2.2.1 i).testBit y ∧ (wd l g.2.2.2.2.1 i).testBit y = (mcar (wd l g.2.2.1 i) (wd l g.2.2.2.1 i)).testBit y := fun i => by
      rw [← add_iff hn.2]
      constructor
      · intro h y hy
        have := h y hy
        unfold GB at this
        rw [if_neg (by omega), if_neg (by omega), if_neg (by omega), if_neg (by omega), if_pos e7, hm i y hy] at this
        exact this
      · intro h y hy
        unfold GB
        rw [if_neg (by omega), if_neg (by omega), if_neg (by omega), if_neg (by omega), if_pos e7, hm i y hy]
        exact h y hy
    have hb : ∀ a b y, mbit (2 ^ x.1.toNat) g a b y = (a + b).testBit y := fun a b y => by unfold mbit; rw [if_neg (by omega), if_neg (by omega), if_neg (by omega), if_pos e7]
    constructor
    · intro h i hi y hy
      rw [if_neg (by omega), hb]
      have := (h1 i).1 (h i hi) y hy
      exact ⟨this.1, fun _ => this.2⟩
    · intro h i hi
      refine (h1 i).2 fun y hy => ?_
      have := h i hi y hy
      rw [if_neg (by omega), hb] at this
      exact ⟨this.1, this.2 e7⟩
  · have h1 : ∀ i y, GB x g (wB x l i y) ↔ (if g.1 = 8 then (wd l g.2.2.1 i).testBit y = (wd l g.2.2.2.1 i).testBit y else (wd l g.2.1 i).testBit y = mbit (2 ^ x.1.toNat) g (wd l g.2.2.1 i) (wd l g.2.2.2.1 i) y ∧ (g.1 = 7 → (wd l g.2.2.2.2.1 i).testBit y = (mcar (wd l g.2.2.1 i) (wd l g.2.2.2.1 i)).testBit y)) := fun i y => by
      unfold GB mbit
      by_cases e8 : g.1 = 8
      · rw [if_pos e8, if_pos e8]; exact Iff.rfl
      rw [if_neg e8, if_neg e8]
      have ha : ∀ {P Q : Prop}, (P ↔ (P ∧ (g.1 = 7 → Q))) := fun {P Q} => ⟨fun h => ⟨h, fun k => absurd k e7⟩, fun h => h.1⟩
      by_cases e1 : g.1 = 1
      · rw [if_pos e1, if_pos e1]; exact ha
      rw [if_neg e1, if_neg e1]
      by_cases e2 : g.1 = 2
      · rw [if_pos e2, if_pos e2]; exact ha
      rw [if_neg e2, if_neg e2]
      by_cases e3 : g.1 = 3
      · rw [if_pos e3, if_pos e3]; exact ha
      rw [if_neg e3, if_neg e3, if_neg e7, if_neg e7]; exact ha
    exact ⟨fun h i hi y hy => (h1 i y).1 (h i hi y hy), fun h i hi y hy => (h1 i y).2 (h i hi y hy)⟩
theorem flat_at {α : Type} {d : α} {f : α → List Bool} {n y : Nat} (hf : ∀ a, (f a).length = n) (hy : y < n) : ∀ (l : List α) (i : Nat), i < l.length → (l.flatMap f).getD (i * n + y) false = (f (l.getD i d)).getD y false
  | [], i, h => absurd h (by simp)
  | a :: l, 0, h => by
    rw [List.flatMap_cons, Nat.zero_mul, Nat.zero_add, getD_app_l _ _ _ (by rw [hf a]; exact hy)]; rfl
  | a :: l, i + 1, h => by
    rw [List.flatMap_cons, show (i + 1) * n + y = (f a).length + (i * n + y) by rw [hf a, Nat.succ_mul]; omega, getD_app_r, flat_at hf hy l i (by simpa using h)]; rfl
theorem wireE_ok {x : Sy} {l : List (List Int)} {w : O} (hC : Cok x l) (h0 : askE x l = 0) (hw : okW x w) : (wireE x l w).1 = wireL x (l.getD w.1.toNat []) w.2.1 w.2.2.1 := by
  obtain ⟨o1, o2, o3⟩ := hw
  have := hC.many
  unfold wireE
  rw [if_neg (by rw [h0]; simp), if_neg (by omega), if_neg (by rw [o3]; simp)]
theorem wire_at {x : Sy} {l : List (List Int)} {w : O} (hC : Cok x l) (h0 : askE x l = 0) (hw : okW x w) {i y : Nat} (hi : i < 2 ^ x.2.1.toNat) (hy : y < 2 ^ x.1.toNat) : (wireE x l w).1.getD (i * 2 ^ x.1.toNat + y) false = wB x l i y w := by
  rw [wireE_ok hC h0 hw]
  obtain ⟨o1, o2, o3⟩ := hw
  have hl := hC.long _ (hC.col o1 o2).1
  unfold wireL
  rw [flat_at (d := 0) (fun a => bitsL_len _ _) hy _ i (by omega), bitsL_at _ hy]
  rfl
theorem wire_len {x : Sy} {l : List (List Int)} {w : O} (hC : Cok x l) (h0 : askE x l = 0) (hw : okW x w) : (wireE x l w).1.length = 2 ^ x.2.1.toNat * 2 ^ x.1.toNat := by
  rw [wireE_ok hC h0 hw]
  obtain ⟨o1, o2, o3⟩ := hw
  unfold wireL
  rw [flat_len (n := 2 ^ x.1.toNat) _ fun _ => bitsL_len _ _, hC.long _ (hC.col o1 o2).1]
/-- The tables. -/
noncomputable def tabs (x : Sy) (l : List (List Int)) (ws : List O) : List (List E) := ws.map fun c => (wireE x l c).1.map toE
theorem tabs_at {x : Sy} {l : List (List Int)} {ws : List O} {j : Nat} (hj : j < ws.length) : (tabs x l ws).getD j [] = (wireE x l (ws.getD j zo)).1.map toE := by
  unfold tabs
  simp [List.getD_eq_getElem?_getD, List.getElem?_map, List.getElem?_eq_getElem hj]
theorem tabs_col {x : Sy} {l : List (List Int)} {ws : List O} (hC : Cok x l) (h0 : askE x l = 0) (hw : ∀ w ∈ ws, okW x w) {i y : Nat} (hi : i < 2 ^ x.2.1.toNat) (hy : y < 2 ^ x.1.toNat) : col (tabs x l ws) (i * 2 ^ x.1.toNat + y) = ws.map fun w => toE (wB x l i y w) := by
  unfold col tabs
  rw [List.map_map]
  refine List.map_congr_left fun w hwm => ?_
  show ((wireE x l w).1.map toE).getD _ z = _
  rw [toE_get, wire_at hC h0 (hw w hwm) hi hy]
end Go.Proofs.Ytlmcalffemklnaa.H1
namespace Go.Proofs.Ytlmcalffemklnaa.H1
open Go Go.Proofs.Ytlmcalffemklnaa.Rf
theorem errs_zero {α : Type} {e : α → Int} : ∀ (l : List α), (∀ a ∈ l, e a = 0) → errs e l = 0
  | [], _ => rfl
  | a :: l, h => by rw [errs, if_pos (h a (List.mem_cons_self ..))]; exact errs_zero l fun b hb => h b (List.mem_cons_of_mem _ hb)
theorem sChk_ok {x : Sy} {l : List (List Int)} {ws : List O} {c : List O} (hC : Cok x l) (h0 : askE x l = 0) (hw : ∀ w ∈ ws, okW x w) (hpos : 0 < ws.length) (hc : COk ws.length c) : sChkV 1 c (tabs x l ws) = 0 := by
  have hx := hC.sz
  have htl : (tabs x l ws).length = ws.length := by unfold tabs; rw [List.length_map]
  have hlen : ∀ j, j < ws.length → ((tabs x l ws).getD j []).length = 2 ^ (x.2.1.toNat + x.1.toNat) := fun j hj => by
    rw [tabs_at hj, List.length_map, wire_len hC h0 (hw _ (getD_mem hj)), Nat.pow_add]
  have e1 : chkX 1 ((tabs x l ws).length : Nat) c = 0 := by
    have hp := hc.pos
    have hl := hc.len
    unfold chkX
    rw [htl, if_neg (by omega), if_neg (by omega), if_neg (by omega)]; exact hc.chk
  have e2 : fitsB 1 (dgI c) = true := by rcases hc.d with e | e <;> rw [e] <;> decide
  have e3 : logI (((tabs x l ws).getD 0 []).length : Nat) = ((x.2.1.toNat + x.1.toNat : Nat) : Int) := by
    rw [hlen 0 hpos]; exact logI_pow (by have := hx.w0; have := hx.w1; have := hx.r0; have := hx.r1; omega)
  have e4 : ((tabs x l ws).all fun q => decide (q.length = ((tabs x l ws).getD 0 []).length)) = true := (all_getD [] _ _).2 fun i hi => by
    rw [htl] at hi
    rw [hlen i hi, hlen 0 hpos]; simp
  have e5 : (tabs x l ws).all (allB 1) = true := by
    rw [List.all_eq_true]
    intro q hq
    unfold tabs at hq
    obtain ⟨w, _, rfl⟩ := List.mem_map.1 hq
    unfold allB
    rw [List.all_eq_true]
    intro e he
    obtain ⟨b, _, rfl⟩ := List.mem_map.1 he
    exact toE_of b
  unfold sChkV
  rw [if_neg (by rw [e1]; simp), if_neg (by omega), if_neg (by rw [e2]; simp), if_neg (by rw [e3]; have := hx.w0; have := hx.w1; have := hx.r0; have := hx.r1; omega), if_neg (by rw [e4]; simp), if_neg (by rw [e5]; simp)]
theorem conds_hold {x : Sy} {l : List (List Int)} {ws : List O} {cs : List (List O)} (hC : Cok x l) (h0 : askE x l = 0) (hw : ∀ w ∈ ws, okW x w) (hg : GCs x ws (gts x) cs) (hk : ∀ g ∈ gts x, 1 ≤ g.1 ∧ g.1 ≤ 8) (hpos : 0 < ws.length) : holdsP cs (tabs x l ws) ↔ ∀ g ∈ gts x, HG x l g := by
  have hx := hC.sz
  have hn := p2w (w := x.1.toNat) (by have := hx.w0; have := hx.w1; omega)
  have hlen : ((tabs x l ws).getD 0 []).length = 2 ^ x.2.1.toNat * 2 ^ x.1.toNat := by
    rw [tabs_at hpos, List.length_map, wire_len hC h0 (hw _ (getD_mem hpos))]
  have h1 : holdsP cs (tabs x l ws) ↔ ∀ i, i < 2 ^ x.2.1.toNat → ∀ y, y < 2 ^ x.1.toNat → ∀ g ∈ gts x, GB x g (wB x l i y) := by
    constructor
    · intro h i hi y hy
      refine (gcs_val (wB x l i y) hg).1 fun c hc => ?_
      obtain ⟨j, hj, rfl⟩ := mem_getD [] hc
      have hlt : i * 2 ^ x.1.toNat + y < ((tabs x l ws).getD 0 []).length := by
        rw [hlen]
        have : (i + 1) * 2 ^ x.1.toNat ≤ 2 ^ x.2.1.toNat * 2 ^ x.1.toNat := Nat.mul_le_mul_right _ hi
        rw [Nat.succ_mul] at this; omega
      have := h _ hlt j hj
      rwa [tabs_col hC h0 hw hi hy] at this
    · intro h q hq j hj
      rw [hlen] at hq
      obtain ⟨n, hne⟩ : ∃ n, n = 2 ^ x.1.toNat := ⟨_, rfl⟩
      have hi : q / 2 ^ x.1.toNat < 2 ^ x.2.1.toNat := by rw [Nat.div_lt_iff_lt_mul (by omega)]; exact hq
      have hy : q % 2 ^ x.1.toNat < 2 ^ x.1.toNat := Nat.mod_lt _ (by omega)
      have e : q = q / 2 ^ x.1.toNat * 2 ^ x.1.toNat + q % 2 ^ x.1.toNat := by rw [Nat.mul_comm]; exact (Nat.div_add_mod q _).symm
      rw [e, tabs_col hC h0 hw hi hy]
      exact (gcs_val _ hg).2 (h _ hi _ hy) _ (getD_mem hj)
  rw [h1]
  constructor
  · intro h g hg'
    exact (GB_HG hx (hk g hg')).1 fun i hi y hy => h i hi y hy g hg'
  · intro h i hi y hy g hg'
    exact (GB_HG hx (hk g hg')).2 (h g hg') i hi y hy
theorem conds_law (x : Sy) (l : List (List Int)) (hr : rngW l) : T (fun k => steeplelaw27_WitnessConds.f k x l) (fun b => b = true) := by
  have aw := awake27_T
  have aw1 : T (fun k => (steeplelaw27_awake.f k).bind fun t => some t) (fun b => b = true) := T.bind aw fun a ha => T.pure ha
  refine T.eq (steeplelaw27_WitnessConds.f_eq · x l) (T.bind (few_T x) fun b1 hb1 => T.ite (fun _ => aw1) (fun h1 => T.bind (words_T l 40 8 (by omega) (by omega)) fun b2 hb2 => T.ite (fun _ => aw1) (fun h2 => T.ite (fun _ => aw1) (fun h3 => ?_))))
  obtain ⟨hg, hg2⟩ := hb1 (by simpa using h1)
  obtain ⟨hl, hl1, hl2⟩ := hb2 (by simpa using h2)
  have hne : gts x ≠ [] := by
    intro k
    have h3 : ((gts x).length == (0 : Int)) = false := h3
    rw [k] at h3; simp at h3
  have hg' : (gts x).length ≤ 1000 := by omega
  refine T.bind (wholds_T x l hg' hl hr) fun t1 ht1 => ?_
  by_cases h0 : askE x l = 0
  · have hck := (ask_zero h0).1
    obtain ⟨hg12, _, _⟩ := hg2 hck
    have hC := cok_of h0 hr
    obtain ⟨L, hL, hLE⟩ := slay_T x hg' hck
    obtain ⟨w1, w2, w3⟩ := hL
    obtain ⟨W, hW, hWE⟩ : T (fun k => circuit_Wires.f k x) (fun r => r = (L.1.1, L.2)) := T.eq (circuit_Wires.f_eq · x) (T.bind (Ev.T hLE) fun t ht => T.pure (by rw [ht]))
    subst hW
    refine T.bind (tables_T x l hg' hl hr hWE (by show L.1.1.length ≤ 2000; omega)) fun t2 ht2 => T.bind (p := fun r => r = (L.1.2.1, L.2)) (T.eq (circuit_Conds.f_eq · x) (T.bind (Ev.T hLE) fun t ht => T.pure (by rw [ht]))) fun t3 ht3 => T.no (by rw [(ht1.2 h0).1]; rfl) (T.ite (fun _ => aw1) fun h4 => T.ite (fun _ => aw1) fun h5 => ?_)
    subst ht3
    have hL2 : L.2 = 0 := by simpa using h5
    obtain ⟨_, hgc, h40⟩ : L.2 = 0 ∧ GCs x L.1.1 (gts x) L.1.2.1 ∧ L.1.2.1.length ≤ 40 := by
      rcases w3 with k | k
      · exact k
      · rw [k] at hL2; cases hL2
    have e2 : t2 = (tabs x l L.1.1, 0) := ht2.2.2 h0 hL2
    subst e2
    obtain ⟨a1, a2⟩ := gcs_ok hgc
    obtain ⟨a2, a3⟩ := a2 hne
    have hgo := (chk_ok hck).2.1
    have hk : ∀ g ∈ gts x, 1 ≤ g.1 ∧ g.1 ≤ 8 := fun g hgm => by
      obtain ⟨m, m0, mg⟩ := gok_mem _ _ hgo g hgm
      exact (gate_cols hC.sz m0 mg).2.2.2.2.2
    have hask : askV 1 L.1.2.1 (tabs x l L.1.1) = 0 := by
      unfold askV manyV
      rw [if_neg (show ¬ L.1.2.1.length = 0 by omega), if_neg (show ¬ L.1.2.1.length > 40 by omega), if_pos rfl]
      exact errs_zero _ fun c hc => sChk_ok hC h0 w1 a3 (a1 c hc)
    have hcj : ∀ j, ((L.1.2.1.getD j []).length ≤ 12) ∧ cR (L.1.2.1.getD j []) := fun j => by
      rcases Nat.lt_or_ge j L.1.2.1.length with hj | hj
      · have := a1 _ (getD_mem (d := []) hj)
        exact ⟨this.len, this.r⟩
      · rw [List.getD_eq_getElem?_getD, List.getElem?_eq_none hj]
        exact ⟨by simp, fun i => by simp; exact rngE_z⟩
    have hft : fewT (tabs x l L.1.1) := by
      refine ⟨by unfold tabs; rw [List.length_map]; omega, fun i => ?_⟩
      rcases Nat.lt_or_ge i L.1.1.length with hi | hi
      · have hx := hC.sz
        rw [tabs_at hi, List.length_map, wire_len hC h0 (w1 _ (getD_mem hi))]
        have p1 := p2w (w := x.1.toNat) (by have := hx.w0; have := hx.w1; omega)
        have p2 := p2w (w := x.2.1.toNat) (by have := hx.r0; have := hx.r1; omega)
        have := Nat.mul_le_mul p2.2 p1.2
        omega
      · rw [List.getD_eq_getElem?_getD, List.getElem?_eq_none (by unfold tabs; rw [List.length_map]; exact hi)]; simp
    have hrr : allRR (tabs x l L.1.1) := fun i j => by
      rcases Nat.lt_or_ge i L.1.1.length with hi | hi
      · rw [tabs_at hi, toE_get]; exact rng_toE _
      · have e : (tabs x l L.1.1).getD i [] = [] := by rw [List.getD_eq_getElem?_getD, List.getElem?_eq_none (by unfold tabs; rw [List.length_map]; exact hi)]; rfl
        rw [e]; exact rngE_z
    refine T.bind (Holds_X 1 L.1.2.1 (tabs x l L.1.1) ⟨by omega, fun j => (hcj j).1⟩ hft (fun j => (hcj j).2) hrr) fun t4 ht4 => T.bind aw fun a ha => T.yes ha (T.yes (by rw [ht4.1, hask]; rfl) (T.pure ?_))
    have hh := conds_hold hC h0 w1 hgc hk a3
    have e1 : t4.1 = true ↔ t1.1 = true := by
      rw [ht4.2, (ht1.2 h0).2, ← hh]
      exact ⟨fun h => h.2, fun h => ⟨hask, h⟩⟩
    show (t4.1 == t1.1) = true
    cases h7 : t4.1 <;> cases h8 : t1.1 <;> rw [h7, h8] at e1 <;> simp at e1 ⊢
  · have ht : T (fun k => witness_Tables.f k x l) (fun r => r = ([], askE x l)) := by
      refine T.eq (witness_Tables.f_eq · x l) (T.bind (wask_T x l hg' hl) fun t ht => T.yes (by rw [ht]; simpa using h0) (T.pure (by rw [ht])))
    have hcv : T (fun k => circuit_Conds.f k x) (fun _ => True) := T.eq (circuit_Conds.f_eq · x) (T.bind (lay_T x hg') fun t _ => T.pure trivial)
    refine T.bind ht fun t2 _ => T.bind hcv fun t3 _ => T.yes ?_ aw1
    rw [ht1.1 h0]; simpa using h0
end Go.Proofs.Ytlmcalffemklnaa.H1
namespace Go.Proofs.Ytlmcalffemklnaa.H1
open Go Go.Proofs.Ytlmcalffemklnaa.Rf
theorem witnessConds_T (x : Sy) (l : List (List Int)) (h : okD TUUs l) : T (fun k => steeplelaw27_WitnessConds.f k x l) (fun b => b = true) := conds_law x l (rngW_of h)
end Go.Proofs.Ytlmcalffemklnaa.H1
