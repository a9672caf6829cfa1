/- A walk by reckoning: what a Go function comes to, reckoned out of its operations, and why that is so. -/
import Derived.Test.YtplmejnoepkdgaaZeroSumsH
import Derived.Test.YtplmejnoepkdgaaRf4
import Derived.Test.YtplmejnoepkdgaaZeroSumsP0
set_option linter.unusedVariables false
set_option linter.unusedSimpArgs false
namespace Go.Proofs.Ytplmejnoepkdgaa.H1
open Go Go.Proofs.Ytplmejnoepkdgaa.Rf
/-- Elements of a level. -/
def inL (lv : Int) (x : E) : Prop := rngE x ∧ ofB lv x = true
def allL (lv : Int) (l : List E) : Prop := ∀ j, inL lv (l.getD j z)
theorem inL_z {lv : Int} (h1 : 0 ≤ lv) (h2 : lv ≤ 7) : inL lv z := ⟨rngE_z, (ofB_bit h1 h2).1⟩
theorem rng_one : rngE one := ⟨⟨by decide, by decide⟩, by decide, by decide⟩
theorem inL_one {lv : Int} (h1 : 0 ≤ lv) (h2 : lv ≤ 7) : inL lv one := ⟨rng_one, (ofB_bit h1 h2).2⟩
theorem inL_iff {l : Nat} (hl : l ≤ 7) {x : E} : inL (l : Int) x ↔ rngE x ∧ nat x < 2 ^ 2 ^ l := ⟨fun h => ⟨h.1, (ofB_iff hl h.1).1 h.2⟩, fun h => ⟨h.1, (ofB_iff hl h.1).2 h.2⟩⟩
theorem inL_lv {lv : Int} {x : E} (h : inL lv x) : ∃ l : Nat, lv = (l : Int) ∧ l ≤ 7 := ofB_lv h.2
theorem inL_Av {lv : Int} {a b : E} (ha : inL lv a) (hb : inL lv b) : inL lv (Av a b) := by
  obtain ⟨l, rfl, hl⟩ := inL_lv ha
  rw [inL_iff hl] at ha hb ⊢
  exact ⟨Av_rng a b, by rw [nat_Av ha.1 hb.1]; exact Nat.xor_lt_two_pow ha.2 hb.2⟩
theorem inL_Pr {lv : Int} {a b : E} (ha : inL lv a) (hb : inL lv b) : inL lv (Pr a b) := by
  obtain ⟨l, rfl, hl⟩ := inL_lv ha
  rw [inL_iff hl] at ha hb ⊢
  exact ⟨Pr_rng ha.1 hb.1, by rw [nat_Pr, Tow.mul_to7 hl ha.2 hb.2]; exact Tow.mul_lt l _ _ ha.2 hb.2⟩
theorem Mv_P {lv : Int} {a b : E} (ha : inL lv a) (hb : inL lv b) : Mv lv a b = Pr a b := by
  obtain ⟨l, rfl, hl⟩ := inL_lv ha
  exact Mul_N hl ha.1 hb.1 ha.2 hb.2
theorem nat_one : nat one = 1 := by decide
theorem Pr_comm (a b : E) : Pr a b = Pr b a := by unfold Pr; rw [Tow.mul_comm]
theorem Pr_one {a : E} (h : rngE a) : Pr one a = a := by unfold Pr; rw [nat_one, Tow.one_mul (nat_lt h), mk_nat h]
theorem Pr_oner {a : E} (h : rngE a) : Pr a one = a := by rw [Pr_comm, Pr_one h]
theorem Pr_Avr (a : E) {b c : E} (hb : rngE b) (hc : rngE c) (ha : rngE a) : Pr a (Av b c) = Av (Pr a b) (Pr a c) := by
  unfold Pr
  rw [nat_Av hb hc, Tow.mul_xorr, mk_xor (Tow.mul_lt 7 _ _ (nat_lt ha) (nat_lt hb)) (Tow.mul_lt 7 _ _ (nat_lt ha) (nat_lt hc))]
theorem rAdd_X (a b : E) : T (fun k => steepleref02_Add.f k a b) (fun r => r = Av a b) := T.eq (steepleref02_Add.f_eq · a b) (T.pure rfl)
theorem add_X (a b : E) : T (fun k => tower_Add.f k a b) (fun r => r = Av a b) := add_T a b
theorem mul_X {lv : Int} {a b : E} (ha : inL lv a) (hb : inL lv b) : T (fun k => tower_Mul.f k lv a b) (fun r => r = Pr a b) := (Mv_T lv a b).mono fun r hr => hr.trans (Mv_P ha hb)
/-! What an expression comes to. -/
def nxtP (v out : List E) (o : O) : E :=
  if o.1 = 1 then o.2.2.2.1 else if o.1 = 2 then v.getD o.2.1.toNat z else if o.1 = 3 then Av (out.getD o.2.1.toNat z) (out.getD o.2.2.1.toNat z) else if o.1 = 4 then Pr (out.getD o.2.1.toNat z) (out.getD o.2.2.1.toNat z) else z
def outP (v : List E) : List E → List O → List E
  | out, [] => out
  | out, o :: l => outP v (out ++ [nxtP v out o]) l
/-- An expression's value. -/
def evP (l : List O) (v : List E) : E := (outP v [] l).getD (l.length - 1) z
theorem outP_append (v : List E) : ∀ (l m : List O) (out : List E), outP v out (l ++ m) = outP v (outP v out l) m
  | [], m, out => rfl
  | o :: l, m, out => outP_append v l m _
theorem outP_length (v : List E) : ∀ (l : List O) (out : List E), (outP v out l).length = out.length + l.length
  | [], out => by simp [outP]
  | o :: l, out => by rw [outP, outP_length v l, List.length_append, List.length_cons]; simp only [List.length_cons, List.length_nil]; omega
theorem getD_snoc {α : Type} {l : List α} {a d : α} {j : Nat} : (l ++ [a]).getD j d = if j < l.length then l.getD j d else if j = l.length then a else d := by
  split
  · rename_i h; exact getD_app_lt l a d h
  · split
    · rename_i h1 h2; subst h2; simp
    · rename_i h1 h2; rw [List.getD_eq_getElem?_getD, List.getElem?_eq_none (by simp; omega)]; rfl
theorem allL_snoc {lv : Int} {l : List E} {a : E} (h : allL lv l) (ha : inL lv a) : allL lv (l ++ [a]) := fun j => by
  rw [getD_snoc]
  split
  · exact h j
  · split
    · exact ha
    · have := h (l.length)
      rwa [List.getD_eq_getElem?_getD, List.getElem?_eq_none (by omega)] at this
theorem nxt_P {lv : Int} {v out : List E} {o : O} (hv : allL lv v) (ho : allL lv out) (hs : stepE lv v.length out.length o = 0) (hc : rngE o.2.2.2.1) : nxt lv v out o = nxtP v out o ∧ inL lv (nxtP v out o) := by
  have hz : inL lv z := by
    have := hv v.length
    rwa [List.getD_eq_getElem?_getD, List.getElem?_eq_none (by omega)] at this
  unfold nxt nxtP
  by_cases k1 : o.1 = 1
  · rw [if_pos k1, if_pos k1]; exact ⟨rfl, hc, stepE_of hs k1⟩
  by_cases k2 : o.1 = 2
  · rw [if_neg k1, if_neg k1, if_pos k2, if_pos k2]; exact ⟨rfl, hv _⟩
  by_cases k3 : o.1 = 3
  · rw [if_neg k1, if_neg k1, if_neg k2, if_neg k2, if_pos k3, if_pos k3]; exact ⟨rfl, inL_Av (ho _) (ho _)⟩
  by_cases k4 : o.1 = 4
  · rw [if_neg k1, if_neg k1, if_neg k2, if_neg k2, if_neg k3, if_neg k3, if_pos k4, if_pos k4]; exact ⟨Mv_P (ho _) (ho _), inL_Pr (ho _) (ho _)⟩
  · rw [if_neg k1, if_neg k1, if_neg k2, if_neg k2, if_neg k3, if_neg k3, if_neg k4, if_neg k4]; exact ⟨rfl, hz⟩
/-- Constants of words. -/
def cR (l : List O) : Prop := ∀ i, rngE (l.getD i zo).2.2.2.1
theorem cR_cons {o : O} {l : List O} (h : cR (o :: l)) : rngE o.2.2.2.1 ∧ cR l := ⟨h 0, fun i => h (i + 1)⟩
theorem outs_P {lv : Int} {v : List E} (hv : allL lv v) : ∀ (l : List O) (out : List E), allL lv out → (∀ j, j < l.length → stepE lv v.length (out.length + j) (l.getD j zo) = 0) → cR l → outs lv v out l = outP v out l ∧ allL lv (outP v out l)
  | [], out, ho, _, _ => ⟨rfl, ho⟩
  | o :: l, out, ho, hs, hc => by
    obtain ⟨c1, c2⟩ := cR_cons hc
    have hs0 : stepE lv v.length out.length o = 0 := by have := hs 0 (by simp); simpa using this
    obtain ⟨e, i⟩ := nxt_P hv ho hs0 c1
    rw [outs, outP, e]
    refine outs_P hv l _ (allL_snoc ho i) (fun j hj => ?_) c2
    have := hs (j + 1) (by simpa using hj)
    rw [List.length_append, List.length_singleton, show out.length + 1 + j = out.length + (j + 1) by omega]
    exact this
theorem allL_of {lv : Int} {l : List E} (h0 : 0 ≤ lv) (h7 : lv ≤ 7) (hr : allR l) (ha : allB lv l = true) : allL lv l := fun j => by
  by_cases h : j < l.length
  · exact ⟨hr j, (all_getD z _ l).1 ha j h⟩
  · rw [List.getD_eq_getElem?_getD, List.getElem?_eq_none (by omega)]; exact inL_z h0 h7
theorem allL_nil {lv : Int} (h0 : 0 ≤ lv) (h7 : lv ≤ 7) : allL lv [] := fun j => inL_z h0 h7
theorem ev_ok {lv : Int} {l : List O} {v : List E} (h : XOk lv v.length l) (hc : cR l) (hv : allL lv v) : (outs lv v [] l).getD (l.length - 1) z = evP l v ∧ inL lv (evP l v) := by
  obtain ⟨e, i⟩ := outs_P hv l [] (allL_nil h.lv0 h.lv7) (fun j hj => by rw [List.length_nil, Nat.zero_add]; exact h.st hj) hc
  rw [e]; exact ⟨rfl, i _⟩
theorem Check_ev (lv vars : Int) (l : List O) : Ev (fun k => expr_Check.f k lv vars l) (chkX lv vars l) := by
  obtain ⟨r, h1, h2⟩ := Check_X lv vars l
  rw [← h1]; exact h2
theorem Eval_X (lv : Int) (l : List O) (v : List E) (hv : v.length ≤ 100000) (hc : cR l) (hr : allR v) : T (fun k => expr_Eval.f k lv l v) (fun r =>
    r = if chkX lv v.length l = 0 then (if allB lv v = true then (evP l v, 0) else (z, 5)) else (z, chkX lv v.length l)) := by
  by_cases h0 : chkX lv v.length l = 0
  · rw [if_pos h0]
    have hx := chkX_ok h0
    by_cases ha : allB lv v = true
    · rw [if_pos ha]
      have hE := Check_ev lv v.length l
      rw [h0] at hE
      have ho := allOf_iff.1 ha
      refine (T.both (Eval_T lv l v hv) (Eval_ok lv l v hv hE ho)).mono fun r hr' => ?_
      have := hr'.1.1 hE ho
      rw [(ev_ok hx hc (allL_of hx.lv0 hx.lv7 hr ha)).1] at this
      exact Prod.ext this hr'.2
    · rw [if_neg ha]
      refine T.eq (expr_Eval.f_eq · lv l v) (T.bind (Check_X lv _ l) fun e he => T.no (by subst he; simpa using h0) ?_)
      refine T.loop0 (σ := Unit) (f := fun k _ i => expr_Eval.l58 k lv l v (0, 0, ()) v (v.length : Int) i) v.length (fun _ i => ∀ j, j < i → ofB lv (v.getD j z) = true) () (fun j h => absurd h (by omega)) fun s i hi hI ih => ?_
      refine T.eq (expr_Eval.l58_eq · lv l v _ v _ _) (T.ite (fun h => ?_) (fun h => ?_))
      · have hlt := lt_dec h
        simp only [Int.toNat_natCast]
        refine T.yes (inB_nat hlt) (T.bind (of_T _ _) fun b hb => T.ite (fun hn => T.pure rfl) fun hy => ?_)
        rw [inc (by omega)]
        refine ih () hlt fun j hj => ?_
        by_cases e : j = i
        · subst e
          rw [show ofB lv (v.getD j z) = b from hb.symm]; simpa using hy
        · exact hI j (by omega)
      · have e : i = v.length := by have := nlt_dec h; omega
        subst e
        exact absurd ((all_getD z _ v).2 hI) ha
  · rw [if_neg h0]
    exact T.eq (expr_Eval.f_eq · lv l v) (T.bind (Check_X lv _ l) fun e he => T.yes (by subst he; simpa using h0) (T.pure (by rw [he]; rfl)))
theorem outP_snoc (v : List E) (l : List O) {i : Nat} (h : i < l.length) : outP v [] (l.take (i + 1)) = outP v [] (l.take i) ++ [nxtP v (outP v [] (l.take i)) (l.getD i zo)] := by
  rw [take_snoc l zo h, outP_append]; rfl
theorem rValue_X {lv : Int} {l : List O} {v : List E} (h : XOk lv v.length l) (hc : cR l) (hv : allL lv v) (hvl : v.length ≤ 100000) : T (fun k => steepleref16_Value.f k l (w64 ((l.length : Int) - 1)) v) (fun r => r = evP l v) := by
  have hp := h.pos
  have hl := h.len
  have hw : w64 ((l.length : Int) - 1) = ((l.length - 1 : Nat) : Int) := by rw [w64_in (by omega) (by omega)]; omega
  rw [hw]
  obtain ⟨n, en⟩ : ∃ n, n = l.length - 1 := ⟨_, rfl⟩
  rw [← en]
  have cL : ∀ i, i ≤ l.length → allL lv (outP v [] (l.take i)) := fun i hi => (outs_P hv (l.take i) [] (allL_nil h.lv0 h.lv7) (fun j hj => by
    rw [List.length_take] at hj
    rw [List.length_nil, Nat.zero_add]
    have e : (l.take i).getD j zo = l.getD j zo := by
      rw [List.getD_eq_getElem?_getD, List.getElem?_take, if_pos (by omega), ← List.getD_eq_getElem?_getD]
    rw [e]; exact h.st (by omega)) (fun j => by
    by_cases hj : j < i
    · have e : (l.take i).getD j zo = l.getD j zo := by
        rw [List.getD_eq_getElem?_getD, List.getElem?_take, if_pos (by omega), ← List.getD_eq_getElem?_getD]
      rw [e]; exact hc j
    · have e : (l.take i).getD j zo = zo := by
        rw [List.getD_eq_getElem?_getD, List.getElem?_take, if_neg (by omega)]; rfl
      rw [e]; exact rngE_z)).2
  refine T.eq (steepleref16_Value.f_eq · l _ v) (T.loop0 (f := fun k s j => steepleref16_Value.l58 k l (n : Int) v (0, 0, ()) s j) (n + 1) (fun s j => s = outP v [] (l.take j)) [] rfl fun s i hi hI ih => ?_)
  refine T.eq (steepleref16_Value.l58_eq · l _ v _ _ _) (T.ite (fun hlt => ?_) (fun hge => ?_))
  · have hlt : i ≤ n := by have := of_decide_eq_true hlt; omega
    have hil : i < l.length := by omega
    have hlen : s.length = i := by rw [hI, outP_length, List.length_take]; simp; omega
    have hsL : allL lv s := by rw [hI]; exact cL i (by omega)
    obtain ⟨o, eo⟩ : ∃ o, o = l.getD i zo := ⟨_, rfl⟩
    have eo' : l.getD i (0, 0, 0, (0, 0, ()), ()) = o := eo.symm
    obtain ⟨u1, u2, u3⟩ := h.ok i hil
    rw [← eo] at u1 u2 u3
    rw [← hlen] at u3
    have hroom : ∀ t : E, room (s.length + ([t] : List E).length) 16 = true := fun t => room_ok (by simp only [List.length_singleton]; omega)
    have hin : inB (i : Int) l.length = true := inB_nat hil
    have go : ∀ t, t = nxtP v s o → T (fun k => steepleref16_Value.l58 k l (n : Int) v (0, 0, ()) (s ++ [t]) (w64 ((i : Int) + 1))) (fun r => r = evP l v) := fun t ht => by
      rw [inc (by omega)]
      refine ih _ (by omega) ?_
      rw [outP_snoc v l hil, ← hI, ht, eo]
    have last : ∀ d1, (o.1 ≠ 4 → d1 = nxtP v s o) → T (fun k => steepleref16_Value.l7463 k l (n : Int) v (0, 0, ()) s (i : Int) d1) (fun r => r = evP l v) := fun d1 h1 => by
      refine T.eq (steepleref16_Value.l7463_eq · l _ v _ _ _ _) ?_
      simp only [Int.toNat_natCast, eo']
      refine T.yes hin (T.ite (fun h4 => T.yes hin ?_) (fun h4 => T.yes (hroom _) (go _ ?_)))
      · have h4 : o.1 = 4 := by simpa using h4
        obtain ⟨v1, v2, v3, v4⟩ := u3 (.inr h4)
        refine T.yes (inB_int v1 v2) (T.yes hin (T.yes (inB_int v3 v4) (T.bind (prod_T (hsL _).1 (hsL _).1) fun t ht => T.yes (hroom _) (go _ ?_))))
        unfold nxtP
        rw [if_neg (by omega), if_neg (by omega), if_neg (by omega), if_pos h4, ht]; rfl
      · exact h1 (by simpa using h4)
    have mid : ∀ d0, (o.1 ≠ 3 → o.1 ≠ 4 → d0 = nxtP v s o) → T (fun k => steepleref16_Value.l3731 k l (n : Int) v (0, 0, ()) s (i : Int) d0) (fun r => r = evP l v) := fun d0 h0 => by
      refine T.eq (steepleref16_Value.l3731_eq · l _ v _ _ _ _) ?_
      simp only [Int.toNat_natCast, eo']
      refine T.yes hin (T.ite (fun h3 => T.yes hin ?_) (fun h3 => last _ (h0 (by simpa using h3))))
      have h3 : o.1 = 3 := by simpa using h3
      obtain ⟨v1, v2, v3, v4⟩ := u3 (.inl h3)
      refine T.yes (inB_int v1 v2) (T.yes hin (T.yes (inB_int v3 v4) (T.bind (rAdd_X _ _) fun t ht => last _ fun _ => ?_)))
      unfold nxtP
      rw [if_neg (by omega), if_neg (by omega), if_pos h3, ht]; rfl
    simp only [Int.toNat_natCast, eo']
    refine T.yes hin (T.yes hin (T.ite (fun h2 => ?_) (fun h2 => mid _ fun a b => ?_)))
    · have h2 : o.1 = 2 := by simpa using h2
      refine T.yes hin (T.yes (inB_int (u2 h2).1 (u2 h2).2) (mid _ fun _ _ => ?_))
      unfold nxtP; rw [if_neg (by omega), if_pos h2]; rfl
    · have h2 : ¬ o.1 = 2 := by simpa using h2
      unfold nxtP; rw [if_pos (by omega)]
  · have e : i = n + 1 := by have := of_decide_eq_false hge; omega
    subst e
    have hlen : s.length = n + 1 := by rw [hI, outP_length, List.length_take]; simp; omega
    refine T.yes (inB_nat (by omega)) (T.pure ?_)
    rw [hI, Int.toNat_natCast, show n + 1 = l.length by omega, List.take_length, en]; rfl
/-! Sums over corners. -/
def sumP (l : List O) (t : List (List E)) : E := fold (fun i => evP l (col t i)) (t.getD 0 []).length
theorem col_L {lv : Int} {t : List (List E)} (h0 : 0 ≤ lv) (h7 : lv ≤ 7) (hr : allRR t) (ha : ∀ i, i < t.length → allB lv (t.getD i []) = true) (i : Nat) : allL lv (col t i) := fun j => by
  by_cases h : j < t.length
  · rw [col_at t i j h]; exact allL_of h0 h7 (hr j) (ha j h) i
  · rw [List.getD_eq_getElem?_getD, List.getElem?_eq_none (by rw [col_len]; omega)]; exact inL_z h0 h7
theorem allL_B {lv : Int} {l : List E} (h : allL lv l) : allB lv l = true := (all_getD z _ l).2 fun i _ => (h i).2
theorem allL_R {lv : Int} {l : List E} (h : allL lv l) : allR l := fun j => (h j).1
theorem SOk.okT {lv : Int} {l : List O} {t : List (List E)} (h : SOk lv l t) : okT t := ⟨h.pos, h.len⟩
theorem fold_congr {f g : Nat → E} : ∀ n, (∀ i, i < n → f i = g i) → fold f n = fold g n
  | 0, _ => rfl
  | n + 1, h => by rw [fold, fold, fold_congr n fun i hi => h i (by omega), h n (by omega)]
theorem sum_X {lv : Int} {l : List O} {t : List (List E)} (h : SOk lv l t) (ht : fewT t) (hc : cR l) (hr : allRR t) : T (fun k => sumcheck_sum.f k lv l t) (fun r => r = sumP l t) := by
  have h1000 := ht.1
  refine (sum_S lv l t ht h.okT).mono fun r hr' => hr' _ fun i hi r' hE => ?_
  have cl := col_L h.x.lv0 h.x.lv7 hr h.all i
  have hx := h.x
  have := (Eval_X lv l (col t i) (by rw [col_len]; omega) hc (allL_R cl)).of hE
  rw [col_len, if_pos hx.eq, if_pos (allL_B cl)] at this
  rw [this]
theorem sSum_X (lv : Int) (l : List O) (t : List (List E)) (ht : fewT t) (hc : cR l) (hr : allRR t) : T (fun k => sumcheck_Sum.f k lv l t) (fun r => r = if sChkV lv l t = 0 then (sumP l t, 0) else (z, sChkV lv l t)) := by
  refine T.eq (sumcheck_Sum.f_eq · lv l t) (T.bind (sCheck_X lv l t ht) fun e he => T.ite (fun h => T.pure ?_) (fun h => ?_))
  · subst he; rw [if_neg (by simpa using h)]; rfl
  · subst he
    have h0 : sChkV lv l t = 0 := by simpa using h
    rw [if_pos h0]
    exact T.bind (sum_X (sChkV_ok h0) ht hc hr) fun s hs => T.pure (by rw [hs])
/-! The first error. -/
def errs {α : Type} (e : α → Int) : List α → Int
  | [] => 0
  | a :: r => if e a = 0 then errs e r else e a
theorem errs_ok {α : Type} {e : α → Int} {d : α} : ∀ {l : List α}, errs e l = 0 → ∀ i, i < l.length → e (l.getD i d) = 0
  | [], _, i, hi => absurd hi (by simp)
  | a :: r, h, i, hi => by
    rw [errs] at h
    split at h
    · rename_i h0
      cases i with
      | zero => exact h0
      | succ i => exact errs_ok (l := r) h i (by simpa using hi)
    · rename_i h0; exact absurd h h0
theorem errs_drop {α : Type} {e : α → Int} {d : α} {l : List α} : ∀ i, i ≤ l.length → (∀ j, j < i → e (l.getD j d) = 0) → errs e l = errs e (l.drop i)
  | 0, _, _ => rfl
  | i + 1, hi, h => by
    rw [errs_drop i (by omega) fun j hj => h j (by omega), drop_cons l d (by omega), errs, if_pos (h i (by omega))]
theorem first_X {α β : Type} (l : List α) (d : α) (e : α → Int) (hl : l.length ≤ 100000000) {f : Nat → Int → Option β} {g : Nat → α → Option Int} {ret : Int → β} {fin : Nat → Option β} {p : β → Prop}
    (he : ∀ k (i : Int), f (k + 1) i = (bif (decide (i < (l.length : Int))) then (bif (inB i l.length) then ((g k (l.getD i.toNat d)).bind fun t => (bif (t != 0) then (some (ret t)) else (f k (w64 (i + 1))))) else none) else fin k))
    (hg : ∀ i, i < l.length → T (fun k => g k (l.getD i d)) (fun r => r = e (l.getD i d))) (hret : errs e l ≠ 0 → p (ret (errs e l))) (hfin : errs e l = 0 → T fin p) : T (fun k => f k 0) p := by
  refine T.loop0 (σ := Unit) (f := fun k _ i => f k i) l.length (fun _ i => ∀ j, j < i → e (l.getD j d) = 0) () (fun j h => absurd h (by omega)) fun s i hi hI ih => ?_
  refine T.eq (he · _) (T.ite (fun h => ?_) (fun h => ?_))
  · have hlt := lt_dec h
    simp only [Int.toNat_natCast]
    refine T.yes (inB_nat hlt) (T.bind (hg i hlt) fun b hb => T.ite (fun h => T.pure ?_) (fun h => ?_))
    · subst hb
      have h : ¬ e (l.getD i d) = 0 := by simpa using h
      have e1 := errs_drop (d := d) (e := e) i (by omega) hI
      rw [drop_cons l d hlt, errs, if_neg h] at e1
      rw [← e1]; exact hret (by rw [e1]; exact h)
    · subst hb
      rw [inc (by omega)]
      refine ih () hlt fun j hj => ?_
      by_cases e : j = i
      · subst e; simpa using h
      · exact hI j (by omega)
  · have e1 : i = l.length := by have := nlt_dec h; omega
    subst e1
    refine hfin ?_
    rw [errs_drop (d := d) (e := e) _ (Nat.le_refl _) hI, List.drop_length]; rfl
end Go.Proofs.Ytplmejnoepkdgaa.H1
namespace Go.Proofs.Ytplmejnoepkdgaa.H1
open Go Go.Proofs.Ytplmejnoepkdgaa.Rf
/-! Conditions, mixed. -/
def manyV (c : List (List O)) : Int := if c.length = 0 then 1 else if c.length > 40 then 2 else 0
theorem many_X (c : List (List O)) : T (fun k => zero_many.f k c) (fun e => e = manyV c) := by
  unfold manyV
  refine T.eq (zero_many.f_eq · c) (T.ite (fun h => T.pure ?_) fun h0 => T.ite (fun h => T.pure ?_) fun h1 => T.pure ?_)
  all_goals simp only [beq_iff_eq, beq_eq_false_iff_ne, ne_eq, decide_eq_true_eq, decide_eq_false_iff_not] at *
  · rw [if_pos (by omega)]
  · rw [if_neg (by omega), if_pos (by omega)]
  · rw [if_neg (by omega), if_neg (by omega)]
theorem rmany_X (c : List (List O)) : T (fun k => steepleref21_many.f k c) (fun e => e = manyV c) := by
  unfold manyV
  refine T.eq (steepleref21_many.f_eq · c) (T.ite (fun h => T.pure ?_) fun h0 => T.ite (fun h => T.pure ?_) fun h1 => T.pure ?_)
  all_goals simp only [beq_iff_eq, beq_eq_false_iff_ne, ne_eq, decide_eq_true_eq, decide_eq_false_iff_not] at *
  · rw [if_pos (by omega)]
  · rw [if_neg (by omega), if_pos (by omega)]
  · rw [if_neg (by omega), if_neg (by omega)]
theorem manyV_ok {c : List (List O)} (h : manyV c = 0) : 0 < c.length ∧ c.length ≤ 40 := by
  unfold manyV at h
  split at h
  · cases h
  · split at h
    · cases h
    · omega
/-- One condition more. -/
def mstep (a : E) (first : Bool) (s : List O × Int × E) (l : List O) : List O × Int × E :=
  let out := s.1 ++ l.map (shiftO (s.1.length : Int))
  let last : Int := (out.length : Int) - 1
  bif first then (out, last, s.2.2) else (out ++ [(1, 0, 0, Pr s.2.2 a, ()), (4, last + 1, last, z, ()), (3, s.2.1, last + 2, z, ())], last + 3, Pr s.2.2 a)
def mSt (a : E) (c : List (List O)) : Nat → List O × Int × E
  | 0 => ([], 0, one)
  | i + 1 => mstep a (i == 0) (mSt a c i) (c.getD i [])
/-- The mixed expression. -/
def stepsP (vars : Int) (c : List (List O)) (a : E) : List O := (mSt a c c.length).1 ++ [(2, vars, 0, z, ()), (4, ((mSt a c c.length).1.length : Int), (mSt a c c.length).2.1, z, ())]
theorem mSt_len {a : E} {c : List (List O)} (hc : fewC c) : ∀ i, i ≤ c.length → (mSt a c i).1.length ≤ 15 * i
  | 0, _ => by simp [mSt]
  | i + 1, h => by
    have := mSt_len (a := a) hc i (by omega)
    have := hc.2 i
    rw [mSt, mstep]
    cases (i == 0)
    · simp only [cond_false, List.length_append, List.length_map, List.length_cons, List.length_nil]; omega
    · simp only [cond_true, List.length_append, List.length_map]; omega
theorem mSt_L {lv : Int} {a : E} {c : List (List O)} (ha : inL lv a) : ∀ i, inL lv (mSt a c i).2.2
  | 0 => by obtain ⟨l, rfl, hl⟩ := inL_lv ha; exact inL_one (by omega) (by omega)
  | i + 1 => by
    rw [mSt, mstep]
    cases (i == 0)
    · exact inL_Pr (mSt_L ha i) ha
    · exact mSt_L ha i
theorem mix_X {lv : Int} {vars : Int} {c : List (List O)} {a : E} (hc : fewC c) (ha : inL lv a) : T (fun k => zero_mix.f k lv vars c a) (fun out => out = stepsP vars c a) := by
  refine T.eq (zero_mix.f_eq · lv vars c a) (T.bind (p := fun r => r = one) (T.eq tower_One.f_eq (T.pure rfl)) fun r1 h1 => ?_)
  subst h1
  refine T.loop0 (σ := List O × Int × E) (f := fun k s i => zero_mix.l442 k lv vars a s.1 s.2.1 s.2.2 c (c.length : Int) i) c.length (fun s i => s = mSt a c i) ([], 0, one) rfl fun s i hi hI ih => ?_
  have hlen := mSt_len (a := a) hc i hi
  have hby := mSt_L (c := c) ha i
  rw [← hI] at hlen hby
  obtain ⟨out, sum, by_⟩ := s
  dsimp only at hlen hby ⊢
  have hc50 := hc.1
  refine T.eq (zero_mix.l442_eq · lv vars a out sum by_ c _ _) (T.ite (fun h => ?_) (fun h => ?_))
  · have hlt := lt_dec h
    have hci := hc.2 i
    simp only [Int.toNat_natCast]
    refine T.yes (inB_nat hlt) (T.bind (behind_T (out.length : Int) _ (by omega)) fun t ht => ?_)
    change t = (c.getD i []).map (shiftO (out.length : Int)) at ht
    have htl : t.length = (c.getD i []).length := by rw [ht, List.length_map]
    have happ : (out ++ t).length = out.length + t.length := List.length_append
    have hstep : mSt a c (i + 1) = mstep a (i == 0) (out, sum, by_) (c.getD i []) := by rw [mSt, ← hI]
    refine T.yes (room_ok (by omega)) ?_
    rw [inc (by omega)]
    have hw : w64 (((out ++ t).length : Int) - 1) = ((out ++ t).length : Int) - 1 := w64_in (by omega) (by omega)
    rw [hw]
    refine T.ite (fun hz0 => ?_) (fun hz0 => ?_)
    · have hi0 : i = 0 := by simpa using hz0
      subst hi0
      refine ih (out ++ t, _, by_) hlt ?_
      rw [hstep, mstep, ht]; rfl
    · have hi0 : i ≠ 0 := by simpa using hz0
      refine T.bind (mul_X hby ha) fun m hm => ?_
      subst hm
      rw [w64_in (n := ((out ++ t).length : Int) - 1 + 1) (by omega) (by omega), w64_in (n := ((out ++ t).length : Int) - 1 + 2) (by omega) (by omega), w64_in (n := ((out ++ t).length : Int) - 1 + 3) (by omega) (by omega)]
      refine T.yes (room_ok (by simp only [List.length_cons, List.length_nil]; omega)) ?_
      refine ih (_, _, _) hlt ?_
      rw [hstep, mstep, ht, show (i == 0) = false by simpa using hi0]; rfl
  · have e : i = c.length := by have := nlt_dec h; omega
    subst e
    refine T.yes (room_ok (by simp only [List.length_cons, List.length_nil]; omega)) (T.pure ?_)
    unfold stepsP
    rw [← hI]; rfl
/-- Conditions whose steps have kinds. -/
def kindC (c : List (List O)) : Prop := ∀ j, j < c.length → ∀ i, i < (c.getD j []).length → ((c.getD j []).getD i zo).1 ≤ 4
theorem rSteps_X {lv vars : Int} {c : List (List O)} {a : E} (hc : fewC c) (ha : inL lv a) (hk : kindC c) : T (fun k => steepleref21_Steps.f k vars c a) (fun out => out = stepsP vars c a) := by
  refine T.eq (steepleref21_Steps.f_eq · vars c a) ?_
  refine T.loop0 (σ := List O × Int × E) (f := fun k s i => steepleref21_Steps.l250 k vars c a s.1 s.2.1 s.2.2 i) c.length (fun s i => s = mSt a c i) ([], 0, one) rfl fun s i hi hI ih => ?_
  have hlen := mSt_len (a := a) hc i hi
  have hby := mSt_L (c := c) ha i
  rw [← hI] at hlen hby
  obtain ⟨out, sum, by_⟩ := s
  dsimp only at hlen hby ⊢
  have hc50 := hc.1
  refine T.eq (steepleref21_Steps.l250_eq · vars c a out sum by_ _) (T.ite (fun h => ?_) (fun h => ?_))
  · have hlt := lt_dec h
    have hci := hc.2 i
    have hstep : mSt a c (i + 1) = mstep a (i == 0) (out, sum, by_) (c.getD i []) := by rw [mSt, ← hI]
    obtain ⟨l, el⟩ : ∃ l, l = c.getD i [] := ⟨_, rfl⟩
    have el' : c.getD i [] = l := el.symm
    have hkl := hk i hlt
    rw [← el] at hci hstep hkl
    refine T.loop0 (f := fun k s m => steepleref21_Steps.l64074 k vars c a s sum by_ (i : Int) (out.length : Int) m) l.length (fun s m => s = out ++ (l.take m).map (shiftO (out.length : Int))) out (by simp) fun s m hm hs ih2 => ?_
    have hsl : s.length = out.length + m := by rw [hs, List.length_append, List.length_map, List.length_take]; omega
    refine T.eq (steepleref21_Steps.l64074_eq · vars c a s sum by_ _ _ _) ?_
    simp only [Int.toNat_natCast, el']
    refine T.yes (inB_nat hlt) (T.ite (fun h => ?_) (fun h => ?_))
    · have hm2 := lt_dec h
      have hroom : ∀ t : O, room (s.length + ([t] : List O).length) 40 = true := fun t => room_ok (by simp only [List.length_singleton]; omega)
      obtain ⟨o, eo⟩ : ∃ o, o = l.getD m zo := ⟨_, rfl⟩
      have eo' : l.getD m (0, 0, 0, (0, 0, ()), ()) = o := eo.symm
      have hko := hkl m hm2
      rw [← eo] at hko
      simp only [eo']
      have go : ∀ t, t = shiftO (out.length : Int) o → T (fun k => steepleref21_Steps.l64074 k vars c a (s ++ [t]) sum by_ (i : Int) (out.length : Int) (w64 ((m : Int) + 1))) (fun out => out = stepsP vars c a) := fun t ht => by
        rw [inc (by omega)]
        refine ih2 _ hm2 ?_
        rw [hs, take_snoc l zo hm2, List.map_append, ← eo, ht, List.append_assoc]; rfl
      refine T.yes (inB_nat hlt) (T.yes (inB_nat hm2) (T.ite (fun h3 => T.yes (hroom _) (go _ ?_)) (fun h3 => T.yes (hroom _) (go _ ?_))))
      · have h3 : o.1 > 2 := of_decide_eq_true h3
        rw [shiftO, if_pos (by omega)]
      · have h3 : ¬ o.1 > 2 := of_decide_eq_false h3
        rw [shiftO, if_neg (by omega)]
    · have e : m = l.length := by have := nlt_dec h; omega
      subst e
      rw [List.take_length] at hs
      have hw : w64 ((s.length : Int) - 1) = (s.length : Int) - 1 := w64_in (by omega) (by omega)
      rw [hw, inc (by omega)]
      refine T.ite (fun hz0 => ?_) (fun hz0 => ?_)
      · have hi0 : i = 0 := by simpa using hz0
        subst hi0
        refine ih (s, _, by_) hlt ?_
        rw [hstep, mstep, hs]; rfl
      · have hi0 : i ≠ 0 := by simpa using hz0
        refine T.bind (prod_T hby.1 ha.1) fun p hp => ?_
        subst hp
        rw [w64_in (n := (s.length : Int) - 1 + 1) (by omega) (by omega), w64_in (n := (s.length : Int) - 1 + 2) (by omega) (by omega), w64_in (n := (s.length : Int) - 1 + 3) (by omega) (by omega)]
        refine T.yes (room_ok (by simp only [List.length_cons, List.length_nil]; omega)) (T.yes (room_ok (by simp only [List.length_append, List.length_cons, List.length_nil]; omega)) (T.yes (room_ok (by simp only [List.length_append, List.length_cons, List.length_nil]; omega)) ?_))
        refine ih (_, _, _) hlt ?_
        rw [hstep, mstep, hs, show (i == 0) = false by simpa using hi0]
        simp only [cond_false, List.append_assoc]; rfl
  · have e : i = c.length := by have := nlt_dec h; omega
    subst e
    refine T.yes (room_ok (by simp only [List.length_cons, List.length_nil]; omega)) (T.yes (room_ok (by simp only [List.length_append, List.length_cons, List.length_nil]; omega)) (T.pure ?_))
    unfold stepsP
    rw [← hI, List.append_assoc]; rfl
/-- What conditions come to, mixed. -/
def pw (a : E) : Nat → E
  | 0 => one
  | j + 1 => Pr (pw a j) a
def mixedP (c : List (List O)) (v : List E) (a : E) : E := fold (fun j => Pr (pw a j) (evP (c.getD j []) v)) c.length
theorem pw_L {lv : Int} {a : E} (ha : inL lv a) : ∀ j, inL lv (pw a j)
  | 0 => by obtain ⟨l, rfl, hl⟩ := inL_lv ha; exact inL_one (by omega) (by omega)
  | j + 1 => inL_Pr (pw_L ha j) ha
theorem mSt_pw {lv : Int} {a : E} {c : List (List O)} (ha : inL lv a) : ∀ i, (mSt a c (i + 1)).2.2 = pw a i
  | 0 => rfl
  | i + 1 => by
    have := mSt_pw (c := c) ha i
    rw [mSt, mstep, this]; rfl
theorem outP_shift (v : List E) (w : E) (out : List E) (ho : out.length ≤ 10000) : ∀ (c : List O) (pre : List E), pre.length + c.length ≤ 1000 → (∀ j, j < c.length → okS v.length (pre.length + j) (c.getD j zo)) →
    outP (v ++ [w]) (out ++ pre) (c.map (shiftO out.length)) = out ++ outP v pre c
  | [], pre, hl, hc => rfl
  | o :: c, pre, hl, hc => by
    have h0 : okS v.length pre.length o := by have := hc 0 (by simp); simpa using this
    obtain ⟨u1, u2, u3⟩ := h0
    simp only [List.length_cons] at hl
    have hn : nxtP (v ++ [w]) (out ++ pre) (shiftO out.length o) = nxtP v pre o := by
      by_cases k : o.1 = 3 ∨ o.1 = 4
      · obtain ⟨a1, a2, a3, a4⟩ := u3 k
        have e1 : w64 (o.2.1 + (out.length : Int)) = ((out.length + o.2.1.toNat : Nat) : Int) := by rw [w64_in (by omega) (by omega)]; omega
        have e2 : w64 (o.2.2.1 + (out.length : Int)) = ((out.length + o.2.2.1.toNat : Nat) : Int) := by rw [w64_in (by omega) (by omega)]; omega
        rw [shiftO, if_pos k, e1, e2]
        have n1 : ¬ o.1 = 1 := by omega
        have n2 : ¬ o.1 = 2 := by omega
        simp only [nxtP, if_neg n1, if_neg n2, Int.toNat_natCast, getD_app_r]
      · rw [shiftO, if_neg k]
        have k' : ¬ o.1 = 3 ∧ ¬ o.1 = 4 := by omega
        rcases (show o.1 = 1 ∨ o.1 = 2 by omega) with k1 | k2
        · simp only [nxtP, if_pos k1]
        · have n1 : ¬ o.1 = 1 := by omega
          simp only [nxtP, if_neg n1, if_pos k2]
          exact getD_app_l _ _ _ (by have := u2 k2; omega)
    simp only [List.map_cons, outP]
    rw [hn, List.append_assoc]
    exact outP_shift v w out ho c (pre ++ [nxtP v pre o]) (by simp only [List.length_append, List.length_cons, List.length_nil]; omega) (fun j hj => by
      have := hc (j + 1) (by simpa using hj)
      have e : (pre ++ [nxtP v pre o]).length + j = pre.length + (j + 1) := by simp only [List.length_append, List.length_cons, List.length_nil]; omega
      rw [e]; simpa using this)
/-- Conditions that may be. -/
structure COk (lv : Int) (vars : Nat) (c : List (List O)) : Prop where
  pos : 0 < c.length
  x : ∀ j, j < c.length → XOk lv vars (c.getD j [])
  r : ∀ j, j < c.length → cR (c.getD j [])
theorem fold_rng {f : Nat → E} : ∀ n, rngE (fold f n)
  | 0 => rngE_z
  | n + 1 => Av_rng _ _
theorem mSt_val {lv : Int} {a w : E} {v : List E} {c : List (List O)} (hc : fewC c) (hk : COk lv v.length c) (ha : inL lv a) (hv : allL lv v) : ∀ i, i < c.length →
    0 ≤ (mSt a c (i + 1)).2.1 ∧ (mSt a c (i + 1)).2.1 < (mSt a c (i + 1)).1.length ∧ (outP (v ++ [w]) [] (mSt a c (i + 1)).1).getD (mSt a c (i + 1)).2.1.toNat z = fold (fun j => Pr (pw a j) (evP (c.getD j []) v)) (i + 1) := by
  have val : ∀ i, i < c.length → outP (v ++ [w]) [] ((mSt a c i).1 ++ (c.getD i []).map (shiftO ((mSt a c i).1.length : Int))) = outP (v ++ [w]) [] (mSt a c i).1 ++ outP v [] (c.getD i []) := fun i hi => by
    have hlen := mSt_len (a := a) hc i (by omega)
    have h50 := hc.1
    have ol := outP_length (v ++ [w]) (mSt a c i).1 []
    rw [List.length_nil, Nat.zero_add] at ol
    have := outP_shift v w (outP (v ++ [w]) [] (mSt a c i).1) (by omega) (c.getD i []) [] (by have := hc.2 i; simp only [List.length_nil]; omega) (fun j hj => by rw [List.length_nil, Nat.zero_add]; exact (hk.x i hi).ok j hj)
    rw [List.append_nil, ol] at this
    rw [outP_append]; exact this
  intro i
  induction i with
  | zero =>
    intro hi
    have e := val 0 hi
    have hx := hk.x 0 hi
    have hp := hx.pos
    have hev := (ev_ok hx (hk.r 0 hi) hv).2
    obtain ⟨l, el⟩ : ∃ l, l = c.getD 0 [] := ⟨_, rfl⟩
    rw [← el] at hp e hev
    have hm : mSt a c 1 = (l.map (shiftO 0), (l.length : Int) - 1, one) := by
      show mstep a true ([], 0, one) (c.getD 0 []) = _
      rw [mstep, ← el]; simp
    have e : outP (v ++ [w]) [] (l.map (shiftO 0)) = outP v [] l := by simpa [mSt, outP] using e
    rw [hm]
    dsimp only
    rw [e]
    refine ⟨by omega, by rw [List.length_map]; omega, ?_⟩
    rw [fold, fold, ← el, pw, Pr_one hev.1, Av_zl hev.1, show ((l.length : Int) - 1).toNat = l.length - 1 by omega]; rfl
  | succ i ih =>
    intro hi
    obtain ⟨i1, i2, i3⟩ := ih (by omega)
    have e := val (i + 1) hi
    have hx := hk.x (i + 1) hi
    have hp := hx.pos
    have hpw := mSt_pw (c := c) ha i
    rw [show i + 1 + 1 = (i + 1) + 1 from rfl, mSt]
    obtain ⟨s, es⟩ : ∃ s, s = mSt a c (i + 1) := ⟨_, rfl⟩
    obtain ⟨l, el⟩ : ∃ l, l = c.getD (i + 1) [] := ⟨_, rfl⟩
    rw [← es] at i1 i2 i3 e hpw ⊢
    rw [← el] at hp e ⊢
    rw [mstep, show (i + 1 == 0) = false from rfl]
    simp only [cond_false]
    obtain ⟨X, eX⟩ : ∃ X, X = outP (v ++ [w]) [] s.1 := ⟨_, rfl⟩
    obtain ⟨Y, eY⟩ : ∃ Y, Y = outP v [] l := ⟨_, rfl⟩
    have hX : X.length = s.1.length := by rw [eX, outP_length]; simp
    have hY : Y.length = l.length := by rw [eY, outP_length]; simp
    rw [← eX] at i3 e
    rw [← eY] at e
    rw [outP_append, e]
    have hn : ((s.1 ++ l.map (shiftO (s.1.length : Int))).length : Int) = ((X.length + Y.length : Nat) : Int) := by rw [List.length_append, List.length_map, hX, hY]
    have hn2 : (s.1 ++ l.map (shiftO (s.1.length : Int))).length = X.length + Y.length := by rw [List.length_append, List.length_map, hX, hY]
    rw [hn]
    refine ⟨by omega, by rw [List.length_append, hn2]; simp only [List.length_cons, List.length_nil]; omega, ?_⟩
    have t1 : (((X.length + Y.length : Nat) : Int) - 1 + 1).toNat = (X ++ Y).length + 0 := by rw [List.length_append]; omega
    have t2 : (((X.length + Y.length : Nat) : Int) - 1).toNat = X.length + (Y.length - 1) := by omega
    have t3 : (((X.length + Y.length : Nat) : Int) - 1 + 2).toNat = (X ++ Y).length + 1 := by rw [List.length_append]; omega
    have t4 : (((X.length + Y.length : Nat) : Int) - 1 + 3).toNat = (X ++ Y).length + 2 := by rw [List.length_append]; omega
    obtain ⟨m, em⟩ : ∃ m, m = Pr s.2.2 a := ⟨_, rfl⟩
    rw [← em]
    simp only [outP, nxtP, if_true, show ¬ (4 : Int) = 1 by decide, show ¬ (4 : Int) = 2 by decide, show ¬ (4 : Int) = 3 by decide, show ¬ (3 : Int) = 1 by decide, show ¬ (3 : Int) = 2 by decide, if_false, t1, t2, t3, t4]
    have r1 : (X ++ Y ++ [m]).getD ((X ++ Y).length + 0) z = m := getD_app_r (X ++ Y) [m] z 0
    have r2 : (X ++ Y ++ [m]).getD (X.length + (Y.length - 1)) z = evP l v := by
      rw [List.append_assoc, getD_app_r, getD_app_l _ _ _ (by omega), hY, eY]; rfl
    rw [r1, r2]
    have r3 : (X ++ Y ++ [m] ++ [Pr m (evP l v)]).getD s.2.1.toNat z = fold (fun j => Pr (pw a j) (evP (c.getD j []) v)) (i + 1) := by
      rw [List.append_assoc, List.append_assoc, getD_app_l _ _ _ (by omega)]; exact i3
    have r4 : (X ++ Y ++ [m] ++ [Pr m (evP l v)]).getD ((X ++ Y).length + 1) z = Pr m (evP l v) := by
      rw [List.append_assoc]; exact getD_app_r (X ++ Y) [m, Pr m (evP l v)] z 1
    rw [r3, r4]
    have r5 : ∀ q, (X ++ Y ++ [m] ++ [Pr m (evP l v)] ++ [q]).getD ((X ++ Y).length + 2) z = q := fun q => by
      rw [List.append_assoc, List.append_assoc]; exact getD_app_r (X ++ Y) [m, Pr m (evP l v), q] z 2
    rw [r5, em, hpw, el]; rfl
theorem steps_val {lv : Int} {a w : E} {v : List E} {c : List (List O)} (hc : fewC c) (hk : COk lv v.length c) (ha : inL lv a) (hv : allL lv v) : evP (stepsP v.length c a) (v ++ [w]) = Pr w (mixedP c v a) := by
  have hp := hk.pos
  obtain ⟨n, en⟩ : ∃ n, c.length = n + 1 := ⟨c.length - 1, by omega⟩
  obtain ⟨i1, i2, i3⟩ := mSt_val (w := w) hc hk ha hv n (by omega)
  unfold stepsP mixedP evP
  rw [en]
  obtain ⟨s, es⟩ : ∃ s, s = mSt a c (n + 1) := ⟨_, rfl⟩
  rw [← es] at i1 i2 i3 ⊢
  rw [outP_append]
  obtain ⟨X, eX⟩ : ∃ X, X = outP (v ++ [w]) [] s.1 := ⟨_, rfl⟩
  have hX : X.length = s.1.length := by rw [eX, outP_length]; simp
  rw [← eX] at i3 ⊢
  have t1 : ((s.1.length : Int)).toNat = X.length + 0 := by omega
  simp only [outP, nxtP, if_true, show ¬ (4 : Int) = 1 by decide, show ¬ (4 : Int) = 2 by decide, show ¬ (4 : Int) = 3 by decide, show ¬ (2 : Int) = 1 by decide, if_false, t1, Int.toNat_natCast]
  have r0 : (v ++ [w]).getD v.length z = w := getD_app_r v [w] z 0
  rw [r0]
  have r1 : (X ++ [w]).getD (X.length + 0) z = w := getD_app_r X [w] z 0
  have r2 : (X ++ [w]).getD s.2.1.toNat z = X.getD s.2.1.toNat z := getD_app_l _ _ _ (by omega)
  rw [r1, r2, i3]
  have : (s.1 ++ [((2 : Int), (v.length : Int), (0 : Int), z, ()), (4, (s.1.length : Int), s.2.1, z, ())]).length - 1 = X.length + 1 := by
    simp only [List.length_append, List.length_cons, List.length_nil]; omega
  rw [this, List.append_assoc]
  exact getD_app_r X [w, _] z 1
theorem rMixed_X {lv : Int} {a : E} {v : List E} {c : List (List O)} (hc : fewC c) (hk : COk lv v.length c) (ha : inL lv a) (hv : allL lv v) (hvl : v.length ≤ 100000) : T (fun k => steepleref21_Mixed.f k c v a) (fun r => r = mixedP c v a) := by
  have h50 := hc.1
  refine T.eq (steepleref21_Mixed.f_eq · c v a) (T.loop0 (σ := E × E) (f := fun k s i => steepleref21_Mixed.l122 k c v a (0, 0, ()) s.1 s.2 i) c.length (fun s i => s = (fold (fun j => Pr (pw a j) (evP (c.getD j []) v)) i, pw a i)) (z, one) rfl fun s i hi hI ih => ?_)
  subst hI
  refine T.eq (steepleref21_Mixed.l122_eq · c v a _ _ _ _) (T.ite (fun h => ?_) (fun h => ?_))
  · have hlt := lt_dec h
    simp only [Int.toNat_natCast]
    have hx := hk.x i hlt
    have hev := (ev_ok hx (hk.r i hlt) hv).2
    have hp := pw_L ha i
    refine T.yes (inB_nat hlt) (T.yes (inB_nat hlt) (T.bind (rValue_X hx (hk.r i hlt) hv hvl) fun t1 e1 => T.bind (p := fun r => r = Pr (pw a i) (evP (c.getD i []) v)) (by subst e1; exact prod_T hp.1 hev.1) fun t2 e2 => T.bind (rAdd_X _ _) fun t3 e3 => T.bind (prod_T hp.1 ha.1) fun t4 e4 => ?_))
    subst e3 e4 e2
    rw [inc (by omega)]
    exact ih (_, _) hlt rfl
  · have e : i = c.length := by have := nlt_dec h; omega
    subst e
    exact T.pure rfl
end Go.Proofs.Ytplmejnoepkdgaa.H1
namespace Go.Proofs.Ytplmejnoepkdgaa.H1
open Go Go.Proofs.Ytplmejnoepkdgaa.Rf
/-! Copies. -/
theorem map_X {α β : Type} (l : List α) (d : α) (h : α → β) {b : Nat} (hl : l.length ≤ 100000000) (hb : l.length * b ≤ 140737488355328) {f : Nat → List β → Int → Option (List β)} {g : Nat → α → Option β}
    (he : ∀ k s (i : Int), f (k + 1) s i = (bif (decide (i < (l.length : Int))) then (bif (inB i l.length) then ((g k (l.getD i.toNat d)).bind fun t => (bif (room (s.length + ([t] : List β).length) b) then (f k (s ++ ([t])) (w64 (i + 1))) else none)) else none) else (some s)))
    (hg : ∀ i, i < l.length → T (fun k => g k (l.getD i d)) (fun r => r = h (l.getD i d))) : T (fun k => f k [] 0) (fun r => r = l.map h) := by
  refine T.loop0 (f := fun k s i => f k s i) l.length (fun s i => s = (l.take i).map h) [] rfl fun s i hi hI ih => ?_
  refine T.eq (he · _ _) (T.ite (fun hlt => ?_) (fun hge => T.pure ?_))
  · have hlt := lt_dec hlt
    simp only [Int.toNat_natCast]
    have hlen : s.length = i := by rw [hI, List.length_map, List.length_take]; omega
    have hm : (s.length + 1) * b ≤ l.length * b := Nat.mul_le_mul_right _ (by omega)
    refine T.yes (inB_nat hlt) (T.bind (hg i hlt) fun r hr => T.yes (room_ok (by simp only [List.length_singleton]; omega)) ?_)
    rw [inc (by omega)]
    refine ih _ hlt ?_
    rw [hI, take_snoc l d hlt, List.map_append, hr]; rfl
  · have e : i = l.length := by have := nlt_dec hge; omega
    subst e
    rw [hI, List.take_length]
theorem map_id' {α : Type} (l : List α) : l.map (fun x => x) = l := by simp
theorem ref01_X (l : List E) (hl : l.length ≤ 1000000) : T (fun k => steeplelaw01_Ref.f k l) (fun r => r = l) :=
  T.eq (steeplelaw01_Ref.f_eq · l) ((map_X (f := fun k s i => steeplelaw01_Ref.l58 k l s i) (g := fun _ x => some x) l z (fun x => x) (b := 16) (by omega) (by omega) (fun k s i => steeplelaw01_Ref.l58_eq k l s i) fun i hi => T.pure rfl).mono fun r hr => by rw [hr, map_id'])
theorem ref16_X (l : List O) (hl : l.length ≤ 1000000) : T (fun k => steeplelaw16_Ref.f k l) (fun r => r = l) := by
  refine T.eq (steeplelaw16_Ref.f_eq · l) (T.loop0 (f := fun k s i => steeplelaw16_Ref.l58 k l s i) l.length (fun s i => s = l.take i) [] rfl fun s i hi hI ih => ?_)
  refine T.eq (steeplelaw16_Ref.l58_eq · l _ _) (T.ite (fun hlt => ?_) (fun hge => T.pure ?_))
  · have hlt := lt_dec hlt
    have hlen : s.length = i := by rw [hI, List.length_take]; omega
    simp only [Int.toNat_natCast]
    refine T.yes (inB_nat hlt) (T.yes (inB_nat hlt) (T.yes (inB_nat hlt) (T.yes (inB_nat hlt) (T.yes (room_ok (by simp only [List.length_singleton]; omega)) ?_))))
    rw [inc (by omega)]
    refine ih _ hlt ?_
    rw [hI, take_snoc l zo hlt]; rfl
  · have e : i = l.length := by have := nlt_dec hge; omega
    subst e
    rw [hI, List.take_length]
theorem refs09_X (t : List (List E)) (ht : t.length ≤ 1000) (h : ∀ i, (t.getD i []).length ≤ 1000000) : T (fun k => steeplelaw09_Refs.f k t) (fun r => r = t) :=
  T.eq (steeplelaw09_Refs.f_eq · t) ((map_X (f := fun k s i => steeplelaw09_Refs.l58 k t s i) (g := fun k x => steeplelaw01_Ref.f k x) t [] (fun x => x) (b := 24) (by omega) (by omega) (fun k s i => steeplelaw09_Refs.l58_eq k t s i) fun i hi => ref01_X _ (h i)).mono fun r hr => by rw [hr, map_id'])
theorem refs21_X (t : List (List O)) (ht : t.length ≤ 1000) (h : ∀ i, (t.getD i []).length ≤ 1000000) : T (fun k => steeplelaw21_Refs.f k t) (fun r => r = t) :=
  T.eq (steeplelaw21_Refs.f_eq · t) ((map_X (f := fun k s i => steeplelaw21_Refs.l58 k t s i) (g := fun k x => steeplelaw16_Ref.f k x) t [] (fun x => x) (b := 24) (by omega) (by omega) (fun k s i => steeplelaw21_Refs.l58_eq k t s i) fun i hi => ref16_X _ (h i)).mono fun r hr => by rw [hr, map_id'])
/-! Mix. -/
theorem getD_none {α : Type} {l : List α} {d : α} {i : Nat} (h : l.length ≤ i) : l.getD i d = d := by rw [List.getD_eq_getElem?_getD, List.getElem?_eq_none h]; rfl
theorem getD_app {α : Type} {l m : List α} {d : α} {i : Nat} : (l ++ m).getD i d = if i < l.length then l.getD i d else m.getD (i - l.length) d := by
  split
  · rename_i h; exact getD_app_l l m d h
  · rename_i h
    have e : i = l.length + (i - l.length) := by omega
    conv => lhs; rw [e]
    exact getD_app_r l m d _
theorem cR_app {l m : List O} (h : cR l) (k : cR m) : cR (l ++ m) := fun i => by
  rw [getD_app]; split
  · exact h i
  · exact k _
theorem cR_nil : cR [] := fun i => rngE_z
theorem cR_one {o : O} {l : List O} (h : rngE o.2.2.2.1) (k : cR l) : cR (o :: l) := fun i => by
  cases i with
  | zero => exact h
  | succ i => exact k i
theorem getD_map {α β : Type} {l : List α} {f : α → β} {d : α} {e : β} {i : Nat} (h : i < l.length) : (l.map f).getD i e = f (l.getD i d) := by
  simp [List.getD_eq_getElem?_getD, h]
theorem cR_shift {l : List O} (h : cR l) (n : Int) : cR (l.map (shiftO n)) := fun i => by
  by_cases hi : i < l.length
  · rw [getD_map (d := zo) hi, shiftO]
    split
    · exact h i
    · exact h i
  · rw [getD_none (by rw [List.length_map]; omega)]; exact rngE_z
theorem mSt_R {lv : Int} {a : E} {c : List (List O)} (ha : inL lv a) (hc : ∀ j, cR (c.getD j [])) : ∀ i, cR (mSt a c i).1
  | 0 => cR_nil
  | i + 1 => by
    have h := cR_app (mSt_R ha hc i) (cR_shift (hc i) ((mSt a c i).1.length : Int))
    rw [mSt, mstep]
    cases (i == 0)
    · exact cR_app h (cR_one (inL_Pr (mSt_L ha i) ha).1 (cR_one rngE_z (cR_one rngE_z cR_nil)))
    · exact h
theorem steps_R {lv vars : Int} {a : E} {c : List (List O)} (ha : inL lv a) (hc : ∀ j, cR (c.getD j [])) : cR (stepsP vars c a) :=
  cR_app (mSt_R ha hc _) (cR_one rngE_z (cR_one rngE_z cR_nil))
noncomputable def mixE (lv vars : Int) (c : List (List O)) (a : E) : Int :=
  if manyV c = 0 then (if errs (chkX lv vars) c = 0 then (if ofB lv a = true then chkX lv (vars + 1) (stepsP vars c a) else 5) else errs (chkX lv vars) c) else manyV c
theorem Mix_X {lv vars : Int} {c : List (List O)} {a : E} (hc : fewC c) (ha : rngE a) (hv : 0 ≤ vars) (hv2 : vars ≤ 1000) : T (fun k => zero_Mix.f k lv vars c a) (fun r => r = if mixE lv vars c a = 0 then (stepsP vars c a, 0) else ([], mixE lv vars c a)) := by
  unfold mixE
  have h50 := hc.1
  refine T.eq (zero_Mix.f_eq · lv vars c a) (T.bind (many_X c) fun e he => T.ite (fun h => T.pure ?_) (fun h => ?_))
  · subst he
    have h : ¬ manyV c = 0 := by simpa using h
    rw [if_neg h, if_neg h]
  · subst he
    have h : manyV c = 0 := by simpa using h
    rw [if_pos h]
    refine first_X (f := fun k i => zero_Mix.l58 k lv vars c a c (c.length : Int) i) (g := fun k l => expr_Check.f k lv vars l) c [] (chkX lv vars) (by omega) (fun k i => zero_Mix.l58_eq k lv vars c a c _ i) (fun i hi => Check_X lv vars _) (fun h => ?_) (fun h => ?_)
    · rw [if_neg h, if_neg h]
    · rw [if_pos h]
      refine T.bind (of_T lv a) fun b hb => T.ite (fun h2 => T.pure ?_) (fun h2 => ?_)
      · subst hb
        have h2 : ofB lv a = false := by simpa using h2
        rw [h2]; rfl
      · subst hb
        have h2 : ofB lv a = true := by simpa using h2
        rw [if_pos h2]
        refine T.bind (mix_X hc ⟨ha, h2⟩) fun out ho => ?_
        subst ho
        rw [w64_in (by omega) (by omega)]
        refine T.bind (Check_X lv _ _) fun e he => T.ite (fun h3 => T.pure ?_) (fun h3 => T.pure ?_)
        · subst he; rw [if_neg (by simpa using h3)]
        · subst he; rw [if_pos (by simpa using h3)]
theorem errs_x {lv vars : Int} {c : List (List O)} (h : errs (chkX lv vars) c = 0) : ∀ j, j < c.length → XOk lv vars (c.getD j []) := fun j hj => chkX_ok (errs_ok (d := []) h j hj)
theorem kindC_of {lv vars : Int} {c : List (List O)} (h : ∀ j, j < c.length → XOk lv vars (c.getD j [])) : kindC c := fun j hj i hi => by
  have := ((h j hj).ok i hi).1
  omega
theorem rMix_X {lv vars : Int} {c : List (List O)} {a : E} (hc : fewC c) (ha : rngE a) (hr : ∀ j, cR (c.getD j [])) (hv : 0 ≤ vars) (hv2 : vars ≤ 1000) : T (fun k => steepleref21_Mix.f k lv vars c a) (fun r => r = mixE lv vars c a) := by
  unfold mixE
  have h50 := hc.1
  refine T.eq (steepleref21_Mix.f_eq · lv vars c a) (T.bind (rmany_X c) fun e he => T.ite (fun h => T.bind (rmany_X c) fun e2 he2 => T.pure ?_) (fun h => ?_))
  · subst he2 he
    have h : ¬ manyV c = 0 := by simpa using h
    rw [if_neg h]
  · subst he
    have h : manyV c = 0 := by simpa using h
    rw [if_pos h]
    refine first_X (f := fun k i => steepleref21_Mix.l58 k lv vars c a i) (g := fun k l => steepleref16_Check.f k lv vars l) c [] (chkX lv vars) (by omega) (fun k i => steepleref21_Mix.l58_eq k lv vars c a i) (fun i hi => rCheck_X lv vars _ (hr i)) (fun h => ?_) (fun h => ?_)
    · rw [if_neg h]
    · rw [if_pos h]
      refine T.bind (rof_X lv ha) fun b hb => T.ite (fun h2 => T.pure ?_) (fun h2 => ?_)
      · subst hb
        have h2 : ofB lv a = false := by simpa using h2
        rw [h2]; rfl
      · subst hb
        have h2 : ofB lv a = true := by simpa using h2
        rw [if_pos h2]
        refine T.bind (rSteps_X hc ⟨ha, h2⟩ (kindC_of (errs_x h))) fun out ho => ?_
        subst ho
        rw [w64_in (by omega) (by omega)]
        exact T.bind (rCheck_X lv _ _ (steps_R (lv := lv) ⟨ha, h2⟩ hr)) fun e he => T.pure he
/-! Weights. -/
def wgtN (p : List E) : Nat → Nat → E
  | 0, _ => one
  | k + 1, i => Pr (wgtN p k i) (if i / 2 ^ k % 2 = 1 then p.getD k z else Av one (p.getD k z))
def wgts (p : List E) : List E := (List.range (2 ^ p.length)).map (wgtN p p.length)
theorem wgtN_L {lv : Int} {p : List E} (hp : allL lv p) : ∀ k i, inL lv (wgtN p k i)
  | 0, i => by
    obtain ⟨l, rfl, hl⟩ := inL_lv (hp 0); exact inL_one (by omega) (by omega)
  | k + 1, i => by
    rw [wgtN]
    refine inL_Pr (wgtN_L hp k i) ?_
    split
    · exact hp k
    · obtain ⟨l, rfl, hl⟩ := inL_lv (hp 0); exact inL_Av (inL_one (by omega) (by omega)) (hp k)
theorem wgtN_add {p : List E} : ∀ k i m, m ≤ k → wgtN p m (i + 2 ^ k) = wgtN p m i
  | k, i, 0, _ => rfl
  | k, i, m + 1, h => by
    rw [wgtN, wgtN, wgtN_add k i m (by omega)]
    have e : 2 ^ k = 2 ^ m * (2 * 2 ^ (k - m - 1)) := by rw [← Nat.mul_assoc, ← Nat.pow_succ, ← Nat.pow_add]; congr 1; omega
    have : (i + 2 ^ k) / 2 ^ m % 2 = i / 2 ^ m % 2 := by
      rw [e, Nat.add_mul_div_left _ _ (Nat.two_pow_pos m)]; omega
    rw [this]
theorem getD_range {α : Type} {n : Nat} {f : Nat → α} {d : α} {i : Nat} (h : i < n) : ((List.range n).map f).getD i d = f i := by
  simp [List.getD_eq_getElem?_getD, h]
theorem wgts_at {p : List E} {i : Nat} (h : i < 2 ^ p.length) : (wgts p).getD i z = wgtN p p.length i := getD_range h
theorem wgts_len (p : List E) : (wgts p).length = 2 ^ p.length := by simp [wgts]
theorem weights_X {lv : Int} {p : List E} (hp : allL lv p) (hl : p.length ≤ 16) : T (fun k => cube_Weights.f k lv p) (fun r => r = wgts p) := by
  have h07 : 0 ≤ lv ∧ lv ≤ 7 := by obtain ⟨l, rfl, hl⟩ := inL_lv (hp 0); omega
  refine T.eq (cube_Weights.f_eq · lv p) (T.bind (wide_X lv) fun r hr => T.no (by
    have : ¬ r = 0 := by rw [hr]; omega
    simpa using this) (T.no (by simp only [decide_eq_false_iff_not]; omega) (T.bind (cube_of_X lv p (by omega)) fun b hb => T.no (by rw [hb, allL_B hp]; rfl) (T.bind (p := fun o => o = one) (T.eq tower_One.f_eq (T.pure rfl)) fun o ho => ?_))))
  subst ho
  refine T.loop0 (f := fun k s i => cube_Weights.l122 k lv s p (p.length : Int) i) p.length (fun s i => s.length = 2 ^ i ∧ ∀ j, j < 2 ^ i → s.getD j z = wgtN p i j) [one] ⟨rfl, fun j hj => ?_⟩ fun s i hi hI ih => ?_
  · have : j = 0 := by simpa using hj
    subst this; rfl
  have hpow : 2 ^ i ≤ 2 ^ 16 := Nat.pow_le_pow_right (by decide) (by omega)
  have hs64 : s.length ≤ 65536 := by rw [hI.1]; simpa using hpow
  refine T.eq (cube_Weights.l122_eq · lv s p _ _) (T.ite (fun h => ?_) (fun h => ?_))
  rotate_left
  · have e : i = p.length := Nat.le_antisymm hi (nlt_dec h)
    subst e
    exact T.pure (list_eq z (by rw [hI.1, wgts_len]) fun j hj => by rw [wgts_len] at hj; rw [hI.2 j hj, wgts_at hj])
  have hlt := lt_dec h
  simp only [Int.toNat_natCast]
  refine T.yes (inB_nat hlt) (T.yes ?_ ?_)
  · simp only [makeB, Bool.and_eq_true, decide_eq_true_eq]
    exact ⟨⟨by omega, by omega⟩, room_ok (by simp only [Int.toNat_natCast]; omega)⟩
  have hx : inL lv (p.getD i z) := hp i
  obtain ⟨x, ex⟩ : ∃ x, x = p.getD i z := ⟨_, rfl⟩
  have hx' : p.getD i (0, 0, ()) = x := ex.symm
  rw [← ex] at hx
  simp only [hx']
  refine T.loop0 (σ := List E × List E) (f := fun k q n => cube_Weights.l125338 k lv q.1 x q.2 p (p.length : Int) (i : Int) (s.length : Int) n) s.length
    (fun q n => q.1.length = s.length ∧ q.2.length = s.length ∧ (∀ j, j < n → q.2.getD j z = Pr (s.getD j z) x ∧ q.1.getD j z = Av (s.getD j z) (Pr (s.getD j z) x)) ∧ ∀ j, n ≤ j → q.1.getD j z = s.getD j z) (s, _) ⟨rfl, by simp, fun j h => absurd h (by omega), fun j _ => rfl⟩ fun q n hn hq ih2 => ?_
  obtain ⟨q1, q2⟩ := q
  obtain ⟨hq1, hq2, hq3, hq4⟩ := hq
  dsimp only at hq1 hq2 hq3 hq4 ⊢
  refine T.eq (cube_Weights.l125338_eq · lv q1 _ q2 p _ _ _ _) (T.ite (fun h => ?_) (fun h => ?_))
  · have hlt2 := lt_dec h
    simp only [Int.toNat_natCast]
    have hcur : q1.getD n (0, 0, ()) = s.getD n z := hq4 n (Nat.le_refl _)
    have hsn : inL lv (s.getD n z) := by rw [hI.2 n (by omega)]; exact wgtN_L hp i n
    rw [hcur]
    refine T.yes (inB_nat (by omega)) (T.bind (mul_X hsn hx) fun m hm => T.yes (inB_nat (by omega)) (T.yes (inB_nat (by rw [List.length_set]; omega)) ?_))
    have hup : (q2.set n m).getD n (0, 0, ()) = m := by rw [set_get _ _ _ _ _ (by omega), if_pos rfl]
    rw [hup]
    refine T.bind (add_X _ _) fun a ha => T.yes (inB_nat (by omega)) ?_
    rw [inc (by omega)]
    refine ih2 (_, _) hlt2 ⟨by simp [hq1], by simp [hq2], fun j hj => ?_, fun j hj => ?_⟩
    · dsimp only
      rw [set_get _ _ _ _ _ (by omega), set_get _ _ _ _ _ (by omega)]
      by_cases e : j = n
      · subst e
        rw [if_pos rfl, if_pos rfl]
        exact ⟨hm, by rw [ha, hm]⟩
      · rw [if_neg e, if_neg e]; exact hq3 j (by omega)
    · dsimp only
      rw [set_get _ _ _ _ _ (by omega), if_neg (by omega)]
      exact hq4 j (by omega)
  · have e : n = s.length := by have := nlt_dec h; omega
    subst e
    refine T.yes (room_ok (by omega)) ?_
    rw [inc (by omega)]
    refine ih _ hlt ⟨by rw [List.length_append, hq1, hq2, hI.1, Nat.pow_succ]; omega, fun j hj => ?_⟩
    rw [Nat.pow_succ] at hj
    have h1 := (wgtN_L hp i j)
    rw [wgtN, ← ex]
    by_cases hj2 : j < 2 ^ i
    · rw [getD_app_l _ _ _ (by omega), (hq3 j (by omega)).2, hI.2 j hj2, Nat.div_eq_of_lt hj2, if_neg (by decide), Pr_Avr _ rng_one hx.1 h1.1, Pr_oner h1.1]
    · obtain ⟨m, rfl⟩ : ∃ m, j = m + 2 ^ i := ⟨j - 2 ^ i, by omega⟩
      have e1 : m + 2 ^ i = q1.length + m := by omega
      rw [wgtN_add i m i (Nat.le_refl _)]
      conv => lhs; rw [e1]
      rw [getD_app_r, (hq3 m (by omega)).1, hI.2 m (by omega), Nat.add_div_right _ (Nat.two_pow_pos i), Nat.div_eq_of_lt (by omega : m < 2 ^ i), if_pos rfl]
theorem rWeight_X {p : List E} (hp : allR p) (hl : p.length ≤ 1000) {i : Nat} (hi : i < 4611686018427387904) : T (fun k => steepleref15_Weight.f k p (i : Int)) (fun r => r = wgtN p p.length i) := by
  have ione : T (fun k => steepleref15_one.f k) (fun r => r = one) := T.eq steepleref15_one.f_eq (T.pure rfl)
  refine T.eq (steepleref15_Weight.f_eq · p _) (T.bind ione fun o ho => ?_)
  subst ho
  refine T.loop0 (σ := E × Int) (f := fun k s j => steepleref15_Weight.l122 k p (0, 0, ()) s.1 s.2 j) p.length (fun s j => s = (wgtN p j i, ((i / 2 ^ j : Nat) : Int)) ∧ rngE s.1) (one, (i : Int)) ⟨by simp [wgtN], rng_one⟩ fun s j hj hI ih => ?_
  obtain ⟨rfl, hR⟩ := hI
  dsimp only at hR ⊢
  obtain ⟨m, em⟩ : ∃ m, m = i / 2 ^ j := ⟨_, rfl⟩
  have hm : m ≤ i := by rw [em]; exact Nat.div_le_self _ _
  have e2 : i / 2 ^ (j + 1) = m / 2 := by rw [em, Nat.pow_succ, Nat.div_div_eq_div_mul]
  have et : Int.tmod (m : Int) 2 = ((m % 2 : Nat) : Int) := rfl
  have ed : w64 (Int.tdiv (m : Int) 2) = ((m / 2 : Nat) : Int) := by
    show w64 (((m / 2 : Nat) : Int)) = _
    exact w64_in (by omega) (by omega)
  rw [← em]
  refine T.eq (steepleref15_Weight.l122_eq · p _ _ _ _) (T.ite (fun h => T.no (by decide) ?_) (fun h => ?_))
  · have hlt := lt_dec h
    simp only [Int.toNat_natCast]
    rw [et, ed, inc (by omega)]
    refine T.ite (fun h1 => T.yes (inB_nat hlt) (T.bind (prod_T hR (hp j)) fun t ht => T.no (by decide) (ih (_, _) hlt ⟨?_, ?_⟩))) (fun h1 => T.bind ione fun o ho => T.yes (inB_nat hlt) (T.bind (rAdd_X _ _) fun s hs => ?_))
    · have h1 : ((m % 2 : Nat) : Int) = 1 := by simpa using h1
      rw [ht, e2, wgtN, ← em, if_pos (by omega)]; rfl
    · rw [ht]; exact Pr_rng hR (hp j)
    · have h1 : ¬ ((m % 2 : Nat) : Int) = 1 := by simpa using h1
      subst hs ho
      refine T.bind (prod_T hR (Av_rng _ _)) fun t ht => T.no (by decide) (ih (_, _) hlt ⟨?_, ?_⟩)
      · rw [ht, e2, wgtN, ← em, if_neg (by omega)]; rfl
      · rw [ht]; exact Pr_rng hR (Av_rng _ _)
  · have e : j = p.length := by have := nlt_dec h; omega
    subst e
    exact T.pure rfl
end Go.Proofs.Ytplmejnoepkdgaa.H1
namespace Go.Proofs.Ytplmejnoepkdgaa.H1
open Go Go.Proofs.Ytplmejnoepkdgaa.Rf
/-! Conditions over tables. -/
noncomputable def askV (lv : Int) (c : List (List O)) (t : List (List E)) : Int := if manyV c = 0 then errs (fun l => sChkV lv l t) c else manyV c
theorem ask_X (lv : Int) (c : List (List O)) (t : List (List E)) (hc : fewC c) (ht : fewT t) : T (fun k => zero_ask.f k lv c t) (fun e => e = askV lv c t) := by
  unfold askV
  have h50 := hc.1
  refine T.eq (zero_ask.f_eq · lv c t) (T.bind (many_X c) fun e he => T.ite (fun h => T.pure ?_) (fun h => ?_))
  · subst he; rw [if_neg (by simpa using h)]
  · subst he
    rw [if_pos (by simpa using h)]
    exact first_X (f := fun k i => zero_ask.l58 k lv t c (c.length : Int) i) (g := fun k l => sumcheck_Check.f k lv l t) (ret := fun t => t) (fin := fun _ => some 0) c [] (fun l => sChkV lv l t) (by omega) (fun k i => zero_ask.l58_eq k lv t c _ i) (fun i hi => sCheck_X lv _ t ht) (fun h => rfl) (fun h => T.pure h.symm)
theorem rMay_X (lv : Int) (c : List (List O)) (t : List (List E)) (hc : fewC c) (ht : fewT t) (hr : ∀ j, cR (c.getD j [])) (hrt : allRR t) : T (fun k => steepleref21_May.f k lv c t) (fun e => e = askV lv c t) := by
  unfold askV
  have h50 := hc.1
  refine T.eq (steepleref21_May.f_eq · lv c t) (T.bind (rmany_X c) fun e he => T.ite (fun h => T.bind (rmany_X c) fun e2 he2 => T.pure ?_) (fun h => ?_))
  · subst he2 he; rw [if_neg (by simpa using h)]
  · subst he
    rw [if_pos (by simpa using h)]
    exact first_X (f := fun k i => steepleref21_May.l58 k lv c t i) (g := fun k l => steepleref20_Check.f k lv l t) (ret := fun t => t) (fin := fun _ => some 0) c [] (fun l => sChkV lv l t) (by omega) (fun k i => steepleref21_May.l58_eq k lv c t i) (fun i hi => r20Check_X lv _ t ht (hr i) hrt) (fun h => rfl) (fun h => T.pure h.symm)
theorem askV_ok {lv : Int} {c : List (List O)} {t : List (List E)} (h : askV lv c t = 0) : 0 < c.length ∧ ∀ j, j < c.length → SOk lv (c.getD j []) t := by
  unfold askV at h
  split at h
  · rename_i h0
    exact ⟨(manyV_ok h0).1, fun j hj => sChkV_ok (errs_ok (d := []) h j hj)⟩
  · rename_i h0; exact absurd h h0
theorem at_X {t : List (List E)} {i : Nat} (ht : t.length ≤ 1000) (h : ∀ j, j < t.length → i < (t.getD j []).length) : T (fun k => steepleref21_at.f k t (i : Int)) (fun r => r = col t i) := by
  refine T.eq (steepleref21_at.f_eq · t _) (T.loop0 (f := fun k s j => steepleref21_at.l58 k t (i : Int) s j) t.length (fun s j => s = col (t.take j) i) [] rfl fun s j hj hI ih => ?_)
  have hlen : s.length = j := by rw [hI, col_len, List.length_take]; omega
  refine T.eq (steepleref21_at.l58_eq · t _ _ _) (T.ite (fun hlt => ?_) (fun hge => T.pure ?_))
  · have hlt := lt_dec hlt
    simp only [Int.toNat_natCast]
    refine T.yes (inB_nat hlt) (T.yes (inB_nat (h j hlt)) (T.yes (room_ok (by simp only [List.length_singleton]; omega)) ?_))
    rw [inc (by omega)]
    refine ih _ hlt ?_
    rw [hI, take_snoc t [] hlt]
    simp [col]; rfl
  · have e : j = t.length := by have := nlt_dec hge; omega
    subst e
    rw [hI, List.take_length]
def holdsP (c : List (List O)) (t : List (List E)) : Prop := ∀ i, i < (t.getD 0 []).length → ∀ j, j < c.length → evP (c.getD j []) (col t i) = z
theorem Holds_X (lv : Int) (c : List (List O)) (t : List (List E)) (hc : fewC c) (ht : fewT t) (hr : ∀ j, cR (c.getD j [])) (hrt : allRR t) : T (fun k => zero_Holds.f k lv c t) (fun r => r.2 = askV lv c t ∧ (r.1 = true ↔ askV lv c t = 0 ∧ holdsP c t)) := by
  refine T.eq (zero_Holds.f_eq · lv c t) (T.bind (ask_X lv c t hc ht) fun e he => T.ite (fun h => T.pure ?_) fun h => ?_)
  · subst he
    have h : ¬ askV lv c t = 0 := by simpa using h
    exact ⟨rfl, fun h => (by cases h), fun h' => absurd h'.1 h⟩
  subst he
  have h0 : askV lv c t = 0 := by simpa using h
  obtain ⟨hp, hS⟩ := askV_ok h0
  have hs0 := hS 0 hp
  have h1 := hs0.okT
  have hlen := ht.2 0
  have h50 := hc.1
  refine T.yes (inB_nat (i := 0) h1.1) (T.loop0 (σ := Unit) (f := fun k _ i => zero_Holds.l58 k lv c t ((t.getD 0 []).length : Int) i) (t.getD 0 []).length (fun _ i => ∀ i', i' < i → ∀ j, j < c.length → evP (c.getD j []) (col t i') = z) () (fun i' h => absurd h (by omega)) fun s i hi hI ih => ?_)
  refine T.eq (zero_Holds.l58_eq · lv c t _ _) (T.ite (fun h => ?_) (fun h => ?_))
  · have hlt := lt_dec h
    have h1000 := ht.1
    refine T.yes ?_ ?_
    · simp only [makeB, Bool.and_eq_true, decide_eq_true_eq]
      exact ⟨⟨by omega, by omega⟩, room_ok (by simp only [Int.toNat_natCast]; omega)⟩
    refine T.loop0 (f := fun k s n => zero_Holds.l59802 k lv c t (i : Int) s ((t.getD 0 []).length : Int) (i : Int) t (t.length : Int) n) t.length (fun s n => s.length = t.length ∧ ∀ j, j < n → s.getD j z = (t.getD j []).getD i z) _ ⟨by simp, fun j h => absurd h (by omega)⟩ fun s n hn hI2 ih2 => ?_
    refine T.eq (zero_Holds.l59802_eq · lv c t _ s _ _ t _ _) (T.ite (fun h => ?_) (fun h => ?_))
    · have hlt2 := lt_dec h
      simp only [Int.toNat_natCast]
      refine T.yes (inB_nat hlt2) (T.yes (inB_nat (by have := h1.2 n hlt2; omega)) (T.yes (inB_nat (by omega)) ?_))
      rw [inc (by omega)]
      refine ih2 _ hlt2 ⟨by simp [hI2.1], fun j hj => ?_⟩
      rw [set_get _ _ _ _ _ (by omega)]
      split
      · rename_i e; subst e; rfl
      · exact hI2.2 j (by omega)
    · have e : n = t.length := by have := nlt_dec h; omega
      subst e
      have hs : s = col t i := list_eq z (by rw [col_len]; exact hI2.1) fun j hj => by rw [col_len] at hj; rw [hI2.2 j hj, col_at t i j hj]
      subst hs
      have cl := col_L hs0.x.lv0 hs0.x.lv7 hrt hs0.all i
      refine T.loop0 (σ := Unit) (f := fun k _ n => zero_Holds.l59806 k lv c t (col t i) ((t.getD 0 []).length : Int) (i : Int) c (c.length : Int) n) c.length (fun _ n => ∀ j, j < n → evP (c.getD j []) (col t i) = z) () (fun j h => absurd h (by omega)) fun s m hm hI3 ih3 => ?_
      refine T.eq (zero_Holds.l59806_eq · lv c t _ _ _ c _ _) (T.ite (fun h => ?_) (fun h => ?_))
      · have hlt3 := lt_dec h
        simp only [Int.toNat_natCast]
        refine T.yes (inB_nat hlt3) (T.bind (Eval_X lv _ _ (by rw [col_len]; omega) (hr m) (allL_R cl)) fun r hr' => ?_)
        have hx := (hS m hlt3).x
        rw [col_len, if_pos hx.eq, if_pos (allL_B cl)] at hr'
        subst hr'
        refine T.ite (fun hz => T.pure ⟨h0.symm, fun h => (by cases h), fun h' => ?_⟩) (fun hz => ?_)
        · have := h'.2 i hlt m hlt3
          dsimp only at hz
          rw [this] at hz; cases hz
        rw [inc (by omega)]
        refine ih3 () hlt3 fun j hj => ?_
        by_cases e : j = m
        · subst e
          simp only [Bool.not_eq_false', Bool.and_eq_true, beq_iff_eq] at hz
          exact Prod.ext hz.1 (Prod.ext hz.2 rfl)
        · exact hI3 j (by omega)
      · have e : m = c.length := by have := nlt_dec h; omega
        subst e
        rw [inc (by omega)]
        refine ih () hlt fun i' hi' j hj => ?_
        by_cases e : i' = i
        · subst e; exact hI3 j hj
        · exact hI i' (by omega) j hj
  · have e : i = (t.getD 0 []).length := Nat.le_antisymm hi (nlt_dec h)
    subst e
    exact T.pure ⟨h0.symm, fun _ => ⟨h0, hI⟩, fun _ => rfl⟩
theorem rHolds_X {lv : Int} {c : List (List O)} {t : List (List E)} (hc : fewC c) (ht : fewT t) (hr : ∀ j, cR (c.getD j [])) (hrt : allRR t) (h0 : askV lv c t = 0) : T (fun k => steepleref21_Holds.f k c t) (fun r => r = true ↔ holdsP c t) := by
  obtain ⟨hp, hS⟩ := askV_ok h0
  have hs0 := hS 0 hp
  have h1 := hs0.okT
  have hlen := ht.2 0
  have h50 := hc.1
  refine T.eq (steepleref21_Holds.f_eq · c t) (T.loop0 (σ := Unit) (f := fun k _ i => steepleref21_Holds.l58 k c t (0, 0, ()) i) (t.getD 0 []).length (fun _ i => ∀ i', i' < i → ∀ j, j < c.length → evP (c.getD j []) (col t i') = z) () (fun i' h => absurd h (by omega)) fun s i hi hI ih => ?_)
  refine T.eq (steepleref21_Holds.l58_eq · c t _ _) (T.yes (inB_nat (i := 0) h1.1) (T.ite (fun h => ?_) (fun h => ?_)))
  · have hlt := lt_dec h
    have h1000 := ht.1
    have cl := col_L hs0.x.lv0 hs0.x.lv7 hrt hs0.all i
    refine T.loop0 (σ := Unit) (f := fun k _ n => steepleref21_Holds.l3730 k c t (0, 0, ()) (i : Int) n) c.length (fun _ n => ∀ j, j < n → evP (c.getD j []) (col t i) = z) () (fun j h => absurd h (by omega)) fun s m hm hI3 ih3 => ?_
    refine T.eq (steepleref21_Holds.l3730_eq · c t _ _ _) (T.ite (fun h => ?_) (fun h => ?_))
    · have hlt3 := lt_dec h
      simp only [Int.toNat_natCast]
      have hx := (hS m hlt3).x
      rw [← col_len t i] at hx
      refine T.yes (inB_nat hlt3) (T.yes (inB_nat hlt3) (T.bind (at_X h1000 fun j hj => by rw [h1.2 j hj]; exact hlt) fun cc hcc => ?_))
      subst hcc
      refine T.bind (rValue_X hx (hr m) cl (by rw [col_len]; omega)) fun r hr' => ?_
      subst hr'
      refine T.ite (fun hz => T.pure ⟨fun h => (by cases h), fun h' => ?_⟩) (fun hz => ?_)
      · have := h' i hlt m hlt3
        rw [this] at hz; cases hz
      rw [inc (by omega)]
      refine ih3 () hlt3 fun j hj => ?_
      by_cases e : j = m
      · subst e
        simp only [Bool.not_eq_false', Bool.and_eq_true, beq_iff_eq] at hz
        exact Prod.ext hz.1 (Prod.ext hz.2 rfl)
      · exact hI3 j (by omega)
    · have e : m = c.length := by have := nlt_dec h; omega
      subst e
      rw [inc (by omega)]
      refine ih () hlt fun i' hi' j hj => ?_
      by_cases e : i' = i
      · subst e; exact hI3 j hj
      · exact hI i' (by omega) j hj
  · have e : i = (t.getD 0 []).length := Nat.le_antisymm hi (nlt_dec h)
    subst e
    exact T.pure ⟨fun _ => hI, fun _ => rfl⟩
/-! The zero sum. -/
def zsP (c : List (List O)) (t : List (List E)) (a : E) (p : List E) : E := fold (fun i => Pr (wgtN p p.length i) (mixedP c (col t i) a)) (t.getD 0 []).length
noncomputable def zSumV (lv : Int) (c : List (List O)) (t : List (List E)) (a : E) (p : List E) : E × Int :=
  if askV lv c t = 0 then (if mixE lv t.length c a = 0 then (if (p.length : Int) = logI (t.getD 0 []).length then (if allB lv p = true then (if sChkV lv (stepsP t.length c a) (t ++ [wgts p]) = 0 then (zsP c t a p, 0) else (z, sChkV lv (stepsP t.length c a) (t ++ [wgts p]))) else (z, 5)) else (z, 6)) else (z, mixE lv t.length c a)) else (z, askV lv c t)
theorem mixE_a {lv vars : Int} {c : List (List O)} {a : E} (h : mixE lv vars c a = 0) : ofB lv a = true ∧ (∀ j, j < c.length → XOk lv vars (c.getD j [])) ∧ XOk lv (vars + 1) (stepsP vars c a) := by
  unfold mixE at h
  split at h
  · split at h
    · split at h
      · rename_i h1 h2 h3
        exact ⟨h3, errs_x h2, chkX_ok h⟩
      · cases h
    · rename_i h1 h2; exact absurd h h2
  · rename_i h1; exact absurd h h1
theorem COk_of {lv : Int} {vars : Nat} {c : List (List O)} (hp : 0 < c.length) (h : ∀ j, j < c.length → XOk lv vars (c.getD j [])) (hr : ∀ j, cR (c.getD j [])) : COk lv vars c := ⟨hp, h, fun j _ => hr j⟩
theorem allRR_app {t : List (List E)} {w : List E} (h : allRR t) (hw : allR w) : allRR (t ++ [w]) := fun i => by
  rw [getD_snoc]
  split
  · exact h i
  · split
    · exact hw
    · exact fun j => rngE_z
theorem wgts_R {p : List E} (hp : allR p) : allR (wgts p) := fun j => by
  by_cases h : j < 2 ^ p.length
  · rw [wgts_at h]
    have : ∀ k i, rngE (wgtN p k i) := fun k => by
      induction k with
      | zero => exact fun i => rng_one
      | succ k ih => exact fun i => Pr_rng (ih i) (by split; exact hp k; exact Av_rng _ _)
    exact this _ _
  · rw [getD_none (by rw [wgts_len]; omega)]; exact rngE_z
theorem sumP_steps {lv : Int} {c : List (List O)} {t : List (List E)} {a : E} {p : List E} (hc : fewC c) (hk : COk lv t.length c) (ha : inL lv a) (hn : (t.getD 0 []).length = 2 ^ p.length) (ht : 0 < t.length) (hv : ∀ i, allL lv (col t i)) : sumP (stepsP t.length c a) (t ++ [wgts p]) = zsP c t a p := by
  unfold sumP zsP
  rw [getD_app_l t _ _ ht, hn]
  refine fold_congr _ fun i hi => ?_
  rw [col_app, wgts_at hi]
  have := steps_val (w := wgtN p p.length i) hc (v := col t i) (by rw [col_len]; exact hk) ha (hv i)
  rw [col_len] at this
  exact this
theorem pow_log {n : Nat} {m : Nat} (h : (m : Int) = logI (n : Int)) : n = 2 ^ m := by
  obtain ⟨q, h1, h2, h3⟩ := logI_nn (n := (n : Int)) (by omega)
  have : m = q := by omega
  subst this
  exact_mod_cast h2
theorem zSum_X (lv : Int) (c : List (List O)) (t : List (List E)) (a : E) (p : List E) (hc : fewC c) (ht : fewT t) (hp : p.length ≤ 6) (h999 : t.length ≤ 900) (hr : ∀ j, cR (c.getD j [])) (hrt : allRR t) (ha : rngE a) (hpr : allR p) : T (fun k => zero_Sum.f k lv c t a p) (fun r => r = zSumV lv c t a p) := by
  unfold zSumV
  refine T.eq (zero_Sum.f_eq · lv c t a p) (T.bind (ask_X lv c t hc ht) fun e he => T.ite (fun h => T.pure ?_) fun h => ?_)
  · subst he; rw [if_neg (by simpa using h)]; rfl
  subst he
  have h0 : askV lv c t = 0 := by simpa using h
  rw [if_pos h0]
  obtain ⟨hcp, hS⟩ := askV_ok h0
  have hs0 := hS 0 hcp
  refine T.bind (Mix_X hc ha (by omega) (by omega)) fun r hr1 => ?_
  by_cases hm : mixE lv t.length c a = 0
  · rw [if_pos hm] at hr1 ⊢
    subst hr1
    obtain ⟨ofa, hx, hxs⟩ := mixE_a hm
    refine T.no (by rfl) (T.yes (inB_nat (i := 0) hs0.pos) (T.bind (log_X _) fun q hq => ?_))
    have hq : q = logI ((t.getD 0 []).length : Int) := hq
    subst hq
    refine T.ite (fun h => T.pure ?_) fun h => ?_
    · rw [if_neg (by simpa using h)]; rfl
    have hpl : (p.length : Int) = logI ((t.getD 0 []).length : Int) := by simpa using h
    rw [if_pos hpl]
    have hn := pow_log hpl
    refine T.bind (cont2_X p lv (by omega)) fun b hb => ?_
    subst hb
    refine T.ite (fun h => T.pure ?_) fun h => ?_
    · rw [if_neg (by simpa using h)]; rfl
    have hal : allB lv p = true := by simpa using h
    rw [if_pos hal]
    refine T.bind (clone2_T t (by omega)) fun t' ht' => ?_
    subst ht'
    have hpL := allL_of hs0.x.lv0 hs0.x.lv7 hpr hal
    refine T.bind (weights_X hpL (by omega)) fun w hw => ?_
    subst hw
    have hwl : (wgts p).length ≤ 64 := by rw [wgts_len]; exact (Nat.pow_le_pow_right (by decide) hp : 2 ^ p.length ≤ 2 ^ 6)
    refine T.yes (room_ok (by simp only [List.length_singleton]; omega)) (T.bind (sSum_X lv _ _ (fewT_app ht h999 hwl) (steps_R ⟨ha, ofa⟩ hr) (allRR_app hrt (wgts_R hpr))) fun r hr2 => T.pure ?_)
    have hv := fun i => col_L hs0.x.lv0 hs0.x.lv7 hrt hs0.all i
    rw [sumP_steps hc (COk_of hcp hx hr) ⟨ha, ofa⟩ hn hs0.pos hv] at hr2
    rw [hr2]
  · rw [if_neg hm] at hr1 ⊢
    subst hr1
    exact T.yes (by simpa using hm) (T.pure rfl)
theorem rSum_X (lv : Int) (c : List (List O)) (t : List (List E)) (a : E) (p : List E) (hc : fewC c) (ht : fewT t) (hp : p.length ≤ 6) (h999 : t.length ≤ 900) (hr : ∀ j, cR (c.getD j [])) (hrt : allRR t) (ha : rngE a) (hpr : allR p) : T (fun k => steepleref21_Sum.f k lv c t a p) (fun r => r = zSumV lv c t a p) := by
  unfold zSumV
  have tail : ∀ e, (e ≠ 0 → (z, e) = zSumV lv c t a p) → (e = 0 → askV lv c t = 0 ∧ mixE lv t.length c a = 0) → T (fun k => steepleref21_Sum.l31 k lv c t p a (0, 0, ()) (0, 0, ()) e) (fun r => r = zSumV lv c t a p) := fun e h1 h2 => by
    refine T.eq (steepleref21_Sum.l31_eq · lv c t p a _ _ e) (T.ite (fun h => T.pure (h1 (by simpa using h))) fun h => ?_)
    obtain ⟨h0, hm⟩ := h2 (by simpa using h)
    unfold zSumV
    rw [if_pos h0, if_pos hm]
    obtain ⟨hcp, hS⟩ := askV_ok h0
    have hs0 := hS 0 hcp
    obtain ⟨ofa, hx, hxs⟩ := mixE_a hm
    refine T.yes (inB_nat (i := 0) hs0.pos) (T.bind (rlog_X _) fun q hq => ?_)
    have hq : q = logI ((t.getD 0 []).length : Int) := hq
    subst hq
    refine T.ite (fun h => T.pure ?_) fun h => ?_
    · rw [if_neg (by simpa using h)]; rfl
    have hpl : (p.length : Int) = logI ((t.getD 0 []).length : Int) := by simpa using h
    rw [if_pos hpl]
    have hn := pow_log hpl
    refine T.bind (rAll_X lv (by omega) hpr) fun b hb => ?_
    subst hb
    refine T.ite (fun h => T.pure ?_) fun h => ?_
    · rw [if_neg (by simpa using h)]; rfl
    have hal : allB lv p = true := by simpa using h
    rw [if_pos hal]
    have hpL := allL_of hs0.x.lv0 hs0.x.lv7 hpr hal
    have hv := fun i => col_L hs0.x.lv0 hs0.x.lv7 hrt hs0.all i
    have hwl : (wgts p).length ≤ 64 := by rw [wgts_len]; exact (Nat.pow_le_pow_right (by decide) hp : 2 ^ p.length ≤ 2 ^ 6)
    have hn64 : (t.getD 0 []).length ≤ 64 := by rw [hn, ← wgts_len]; exact hwl
    have hk := COk_of hcp hx hr
    refine T.loop0 (σ := E × List E) (f := fun k s i => steepleref21_Sum.l8186 k lv c t p a (0, 0, ()) s.1 () s.2 i) (t.getD 0 []).length (fun s i => s = (fold (fun i => Pr (wgtN p p.length i) (mixedP c (col t i) a)) i, (List.range i).map (wgtN p p.length))) (z, []) rfl fun s i hi hI ih => ?_
    subst hI
    dsimp only
    refine T.eq (steepleref21_Sum.l8186_eq · lv c t p a _ _ () _ _) (T.yes (inB_nat (i := 0) hs0.pos) (T.ite (fun h => ?_) (fun h => ?_)))
    · have hlt := lt_dec h
      have hll : ((List.range i).map (wgtN p p.length)).length = i := by simp
      refine T.bind (rWeight_X hpr (by omega) (by omega)) fun w hw => ?_
      subst hw
      have e1 : (List.range i).map (wgtN p p.length) ++ [wgtN p p.length i] = (List.range (i + 1)).map (wgtN p p.length) := by rw [List.range_succ, List.map_append]; rfl
      rw [e1]
      have e2 : ((List.range (i + 1)).map (wgtN p p.length)).getD i (0, 0, ()) = wgtN p p.length i := getD_range (by omega)
      simp only [Int.toNat_natCast, e2]
      refine T.yes (room_ok (by rw [hll]; simp only [List.length_singleton]; omega)) (T.yes (inB_nat (by simp)) (T.bind (at_X ht.1 fun j hj => by rw [hs0.len j hj]; exact hlt) fun cc hcc => ?_))
      subst hcc
      have wl := wgtN_L hpL p.length i
      refine T.bind (rMixed_X hc (v := col t i) (by rw [col_len]; exact hk) ⟨ha, ofa⟩ (hv i) (by rw [col_len]; omega)) fun m hm => ?_
      subst hm
      refine T.bind (prod_T wl.1 (fold_rng _)) fun q hq => T.bind (rAdd_X _ _) fun o ho => ?_
      subst ho hq
      rw [inc (by omega)]
      exact ih (_, _) hlt rfl
    · have e : i = (t.getD 0 []).length := Nat.le_antisymm hi (nlt_dec h)
      subst e
      have ew : (List.range (t.getD 0 []).length).map (wgtN p p.length) = wgts p := by rw [hn]; rfl
      rw [ew]
      refine T.loop0 (f := fun k s j => steepleref21_Sum.l16378 k lv c t a (0, 0, ()) (zsP c t a p) s (wgts p) j) t.length (fun s j => s = t.take j) [] rfl fun s j hj hI ih => ?_
      have hlen : s.length = j := by rw [hI, List.length_take]; omega
      refine T.eq (steepleref21_Sum.l16378_eq · lv c t a _ _ _ _ _) (T.ite (fun hlt => ?_) (fun hge => ?_))
      · have hlt := lt_dec hlt
        simp only [Int.toNat_natCast]
        refine T.yes (inB_nat hlt) (T.yes (room_ok (by simp only [List.length_singleton]; omega)) ?_)
        rw [inc (by omega)]
        refine ih _ hlt ?_
        rw [hI, take_snoc t [] hlt]
      · have e : j = t.length := by have := nlt_dec hge; omega
        subst e
        rw [List.take_length] at hI
        subst hI
        refine T.yes (room_ok (by simp only [List.length_singleton]; omega)) (T.bind (rSteps_X hc ⟨ha, ofa⟩ (kindC_of hx)) fun l hl => ?_)
        subst hl
        refine T.bind (r20Check_X lv _ _ (fewT_app ht h999 hwl) (steps_R ⟨ha, ofa⟩ hr) (allRR_app hrt (wgts_R hpr))) fun e he => ?_
        subst he
        refine T.ite (fun h => T.pure ?_) (fun h => T.pure ?_)
        · rw [if_neg (by simpa using h)]; rfl
        · rw [if_pos (by simpa using h)]
  refine T.eq (steepleref21_Sum.f_eq · lv c t a p) (T.bind (rMay_X lv c t hc ht hr hrt) fun e he => T.ite (fun h => ?_) (fun h => ?_))
  · subst he
    have h0 : askV lv c t = 0 := by simpa using h
    refine T.bind (rMix_X hc ha hr (by omega) (by omega)) fun e he => ?_
    subst he
    refine (tail _ (fun h => ?_) (fun h => ⟨h0, h⟩)).mono fun r hr => hr
    unfold zSumV
    rw [if_pos h0, if_neg h]
  · subst he
    have h0 : ¬ askV lv c t = 0 := by simpa using h
    refine (tail _ (fun h => ?_) (fun h => absurd h h0)).mono fun r hr => hr
    unfold zSumV
    rw [if_neg h0]
end Go.Proofs.Ytplmejnoepkdgaa.H1
namespace Go.Proofs.Ytplmejnoepkdgaa.H1
open Go Go.Proofs.Ytplmejnoepkdgaa.Rf
abbrev TE : Ty := .pair U (.pair U .unit)
abbrev TO : Ty := .pair I (.pair I (.pair I (.pair TE .unit)))
theorem wf_rng {n : Int} (h : (Lit.int .u64 n).wf = true) : rng n := by
  simp [Lit.wf, IntKind.min, IntKind.max, IntKind.signed, IntKind.bits] at h
  exact ⟨by omega, by omega⟩
theorem okE {x : E} (h : okD TE x) : rngE x := ⟨wf_rng h.1, wf_rng h.2.1⟩
theorem mem_getD {α : Type} {l : List α} {d : α} {i : Nat} (h : i < l.length) : l.getD i d ∈ l := by
  rw [List.getD_eq_getElem?_getD, List.getElem?_eq_getElem h]; exact List.getElem_mem h
theorem okEs {f : Bool} {l : List E} (h : okD (.sl f TE) l) : allR l := fun j => by
  by_cases hj : j < l.length
  · exact okE (h.2 _ (mem_getD hj))
  · rw [getD_none (by omega)]; exact rngE_z
theorem okTs {f g : Bool} {l : List (List E)} (h : okD (.sl f (.sl g TE)) l) : allRR l := fun j => by
  by_cases hj : j < l.length
  · exact okEs (h.2 _ (mem_getD hj))
  · rw [getD_none (by omega)]; exact fun j => rngE_z
theorem okOs {f : Bool} {l : List O} (h : okD (.sl f TO) l) : cR l := fun j => by
  by_cases hj : j < l.length
  · exact okE (h.2 _ (mem_getD hj)).2.2.2.1
  · rw [getD_none (by omega)]; exact rngE_z
theorem okOss {f g : Bool} {l : List (List O)} (h : okD (.sl f (.sl g TO)) l) : ∀ j, cR (l.getD j []) := fun j => by
  by_cases hj : j < l.length
  · exact okOs (h.2 _ (mem_getD hj))
  · rw [getD_none (by omega)]; exact cR_nil
abbrev TCase21 : Ty := .pair (.sl false (.sl false TO)) (.pair (.sl false (.sl false TE)) .unit)
abbrev TPoint21 : Ty := .pair TE (.pair (.sl false TE) (.pair TE .unit))
theorem z_eq (x : E) : ((x.1 == x.1) && (x.2.1 == x.2.1)) = true := by simp
theorem zeroSums_T (lv : Int) (x : List (List O) × List (List E) × Unit) (y : E × List E × E × Unit) (hx : okD TCase21 x) (hy : okD TPoint21 y) : T (fun k => steeplelaw21_ZeroSums.f k lv x y) (fun b => b = true) := by
  have hr : ∀ j, cR (x.1.getD j []) := okOss hx.1
  have hrt : allRR x.2.1 := okTs hx.2.1
  have hra : rngE y.1 := okE hy.1
  have hrp : allR y.2.1 := okEs hy.2.1
  refine T.eq (steeplelaw21_ZeroSums.f_eq · lv x y) (T.bind (few21_T x) fun b hb => T.ite (fun _ => T.bind awake_T fun a ha => T.pure ha) fun h1 => T.ite (fun _ => T.bind awake_T fun a ha => T.pure ha) fun h6 => ?_)
  obtain ⟨hc, h5, h16⟩ := hb (by simpa using h1)
  have h6 : y.2.1.length ≤ 6 := by have := of_decide_eq_false h6; omega
  have h50 := hc.1
  have ht : fewT x.2.1 := ⟨by omega, fun i => by have := h16 i; omega⟩
  refine T.bind (refs21_X x.1 (by omega) fun i => by have := hc.2 i; omega) fun c' e1 => T.bind (refs09_X x.2.1 (by omega) fun i => by have := h16 i; omega) fun t' e2 => T.bind (Holds_X lv x.1 x.2.1 hc ht hr hrt) fun h hh => T.bind (zSum_X lv x.1 x.2.1 y.1 y.2.1 hc ht h6 (by omega) hr hrt hra hrp) fun s hs => T.bind (ref01_X y.2.1 (by omega)) fun p' e3 => ?_
  subst e1 e2 e3 hs
  refine T.bind (rSum_X lv x.1 x.2.1 y.1 y.2.1 hc ht h6 (by omega) hr hrt hra hrp) fun s hs => T.bind (rMay_X lv x.1 x.2.1 hc ht hr hrt) fun m hm => ?_
  subst hs hm
  obtain ⟨h1, h2⟩ := hh
  refine T.no (by rw [h1]; simp) (T.no (by simp) (T.no (by rw [z_eq]; rfl) (T.ite (fun h => T.bind awake_T fun a ha => T.yes ha (T.pure ?_)) (fun h => T.bind awake_T fun a ha => T.yes ha ?_))))
  · have h : ¬ askV lv x.1 x.2.1 = 0 := by rw [h1] at h; simpa using h
    rw [Bool.not_eq_true', Bool.eq_false_iff]
    exact fun h' => h (h2.1 h').1
  · have h0 : askV lv x.1 x.2.1 = 0 := by rw [h1] at h; simpa using h
    refine T.bind (rHolds_X hc ht hr hrt h0) fun q hq => T.pure ?_
    rw [beq_iff_eq, Bool.eq_iff_iff, h2, hq]
    exact ⟨fun h => h.2, fun h => ⟨h0, h⟩⟩
/-! ZeroMixes. -/
end Go.Proofs.Ytplmejnoepkdgaa.H1
