import Derived.Test.YthiiodgpdoljoaaKo11
import Derived.Test.YthiiodgpdoljoaaKo12
-- Words and walks that the kit's print has laid for this seat, cut down, and our own texts, merged.
namespace Go.Proofs.Ythiiodgpdoljoaa.Bit
open Go Go.RowKit Go.Proofs.Ythiiodgpdoljoaa.PLw Go.Proofs.YthiiodgpdoljoaaW.PrintWords Go.Proofs.YthiiodgpdoljoaaW.PrintLast Go.Proofs.YthiiodgpdoljoaaW.PrintMore
set_option linter.unusedVariables false
set_option linter.unusedSimpArgs false
/-- What running comes to. -/
theorem run_cases (wide rows cols pub priv : Int) (l : List S105) (hl : l.length ≤ 40) (given : List (List Int)) (hL : Lens 1000 1000 given) (hW : W64 given) :
    (∃ e : Int, e ≠ 0 ∧ Ev (fun k => witness_Run.f k wide rows cols pub priv l given) ([], e)) ∨
    ∃ (w R C : Nat) (all : List (List Int)), wide = (w : Int) ∧ Cx w R C rows cols ∧ (lookS (w : Int) rows cols pub priv l).2 = 0 ∧ lookS (w : Int) rows cols pub priv l = walk (w : Int) cols l (given.length : Int) ∧ Good w R given ∧ given.length ≤ C ∧
      runG w R l given = some all ∧ Ev (fun k => witness_Run.f k (w : Int) rows cols pub priv l given) (all ++ List.replicate (C - all.length) (List.replicate R 0), 0) := by
  have hck := check_ev wide rows cols pub priv l
  unfold witness_Run.f
  by_cases h0 : (lookS wide rows cols pub priv l).2 = 0
  · obtain ⟨a1, a2, a3, a4, a5, a6, a7, a8, a9, a10, hS⟩ := lookS_cases h0
    have hck' := hck
    rw [h0] at hck
    obtain ⟨w, rfl⟩ := Int.eq_ofNat_of_zero_le a1
    have cx : Cx w (2 ^ rows.toNat) (2 ^ cols.toNat) rows cols := ⟨by omega, a3, a4, a5, a6, p2_nat rows, p2_nat cols⟩
    have hb := p2_bound a5 a6
    have hpp : wrap64 (pub + priv) = pub + priv := w64 (by omega) (by omega)
    have hfp := fits_prog cx pub priv l given hL (pub + priv)
    by_cases hf : fitsF rows (mostI w) given (pub + priv) = 0
    · obtain ⟨hlen, G⟩ := fits_good cx given hW (pub + priv) hf
      rw [hf] at hfp
      have hwk : (walk (w : Int) cols l (given.length : Int)).2 = 0 := by rw [hlen, ← hS]; exact h0
      have hgc : given.length ≤ 2 ^ cols.toNat := by have := cx.hC; omega
      have hrun : Ev (fun k => (circuit_Check.f k (w : Int) rows cols pub priv l).bind fun t166 => (if t166 = 0 then ((witness_fits.f (w : Int) rows cols pub priv l given (wrap64 (pub + priv))).bind fun t167 => (if t167 = 0 then (witness_Run.l0 k ([] : List (List Int)) given (given.length : Int) 0 (w : Int) rows cols pub priv l) else (some (([] : List (List Int)), t167)))) else (some (([] : List (List Int)), t166)))) (finish (2 ^ cols.toNat) (2 ^ rows.toNat) (runG w (2 ^ rows.toNat) l given)) := by
        refine Ev.bind hck ?_
        simp only [if_true]
        rw [hpp, hfp]
        simp only [Option.bind_some, if_true]
        exact progCopy w rows cols pub priv _ _ cx l (by omega) given G hgc hwk given.length 0 (Nat.sub_zero _) (Nat.zero_le _)
      cases hr : runG w (2 ^ rows.toNat) l given with
      | none =>
        rw [hr] at hrun
        exact Or.inl ⟨7, by decide, hrun⟩
      | some all =>
        rw [hr] at hrun
        exact Or.inr ⟨w, 2 ^ rows.toNat, 2 ^ cols.toNat, all, rfl, cx, h0, by rw [hlen]; exact hS, G, hgc, hr, hrun⟩
    · refine Or.inl ⟨fitsF rows (mostI w) given (pub + priv), hf, ?_⟩
      refine Ev.bind hck ?_
      simp only [if_true]
      rw [hpp, hfp]
      simp only [Option.bind_some, hf, if_false]
      exact Ev.now _
  · refine Or.inl ⟨(lookS wide rows cols pub priv l).2, h0, ?_⟩
    refine Ev.bind hck ?_
    simp only [h0, if_false]
    exact Ev.now _
theorem good_fill {w R C : Nat} {all : List (List Int)} (G : Good w R all) : Good w R (all ++ List.replicate (C - all.length) (List.replicate R 0)) := by
  intro c hc
  rcases List.mem_append.mp hc with hc | hc
  · exact G c hc
  · rw [(List.mem_replicate.mp hc).2]
    refine ⟨List.length_replicate, fun x hx => ?_⟩
    rw [(List.mem_replicate.mp hx).2]
    exact ⟨Int.le_refl 0, Int.ofNat_lt.mpr (Nat.two_pow_pos _)⟩
theorem mem_set {α : Type} {l : List α} {i : Nat} {v c : α} (h : c ∈ l.set i v) : c ∈ l ∨ c = v := List.mem_or_eq_of_mem_set h
theorem good_flip {w R : Nat} {M : List (List Int)} (G : Good w R M) (k row : Nat) (hk : k < M.length) (v : Int) (hv : 0 ≤ v ∧ v < ((2 ^ 2 ^ w : Nat) : Int)) : Good w R (flip M k row v) := by
  intro c hc
  unfold flip at hc
  rcases mem_set hc with hc | rfl
  · exact G c hc
  · have e : M.getD k [] = M[k] := by rw [List.getD_eq_getElem?_getD, List.getElem?_eq_getElem hk]; rfl
    rw [e]
    obtain ⟨g1, g2⟩ := G _ (List.getElem_mem hk)
    refine ⟨by rw [List.length_set]; exact g1, fun x hx => ?_⟩
    rcases mem_set hx with hx | rfl
    · exact g2 x hx
    · exact hv
theorem mod_small (a D n m : Int) (hD : D = n - m) (h0 : 0 < D) (hn : n ≤ 1000) (hm : 0 ≤ m) : ∃ q : Nat, Int.tmod (wrap64 (wrap64 (Int.tmod a D + n) - m)) D = (q : Int) ∧ (q : Int) < D := by
  have h1 := Int.tmod_lt_of_pos a h0
  have h2 := Int.lt_tmod_of_pos a h0
  rw [w64 (x := Int.tmod a D + n) (by omega) (by omega), w64 (by omega) (by omega)]
  have h3 := Int.tmod_lt_of_pos (Int.tmod a D + n - m) h0
  have h4 := Int.tmod_nonneg D (show 0 ≤ Int.tmod a D + n - m by omega)
  obtain ⟨q, hq⟩ := Int.eq_ofNat_of_zero_le h4
  exact ⟨q, hq, by rw [← hq]; exact h3⟩
theorem mod_small2 (a D : Int) (h0 : 0 < D) (hn : D ≤ 1000) : ∃ q : Nat, Int.tmod (wrap64 (Int.tmod a D + D)) D = (q : Int) ∧ (q : Int) < D := by
  have h1 := Int.tmod_lt_of_pos a h0
  have h2 := Int.lt_tmod_of_pos a h0
  rw [w64 (x := Int.tmod a D + D) (by omega) (by omega)]
  have h3 := Int.tmod_lt_of_pos (Int.tmod a D + D) h0
  have h4 := Int.tmod_nonneg D (show 0 ≤ Int.tmod a D + D by omega)
  obtain ⟨q, hq⟩ := Int.eq_ofNat_of_zero_le h4
  exact ⟨q, hq, by rw [← hq]; exact h3⟩
/-- A word with one bit turned. -/
theorem turn_bit {w : Nat} (hw : w ≤ 5) (x : Int) (hx : 0 ≤ x ∧ x < ((2 ^ 2 ^ w : Nat) : Int)) (b : Nat) (hb : b < 2 ^ w) :
    (0 ≤ Go.bits .xor .u64 x (shl .u64 1 (IntKind.u64.wrap (b : Int))) ∧ Go.bits .xor .u64 x (shl .u64 1 (IntKind.u64.wrap (b : Int))) < ((2 ^ 2 ^ w : Nat) : Int)) ∧ Go.bits .xor .u64 x (shl .u64 1 (IntKind.u64.wrap (b : Int))) ≠ x := by
  obtain ⟨n, rfl⟩ := Int.eq_ofNat_of_zero_le hx.1
  have h2 := two_le hw
  have hp : 2 ^ 2 ^ w ≤ 2 ^ 32 := Nat.pow_le_pow_right (by decide) h2.2
  have hbp : 2 ^ b < 2 ^ 2 ^ w := Nat.pow_lt_pow_right (by decide) hb
  have hn : n < 2 ^ 2 ^ w := by omega
  have hs := shl_nat 1 b (by decide) (by omega)
  have hs1 : shl .u64 (1 : Int) (b : Int) = ((2 ^ b : Nat) : Int) := by
    rw [show ((1 : Nat) : Int) = 1 from rfl] at hs
    rw [hs, Nat.one_shiftLeft]
  have hx1 : n ^^^ 2 ^ b < 2 ^ 2 ^ w := Nat.xor_lt_two_pow hn hbp
  rw [wrap64u b (by omega), hs1, bxor n (2 ^ b) (by omega) (by omega)]
  refine ⟨⟨by omega, by omega⟩, fun h => ?_⟩
  have h3 : n ^^^ 2 ^ b = n := by omega
  have h4 := congrArg (fun y : Nat => y.testBit b) h3
  simp only [Nat.testBit_xor, Nat.testBit_two_pow_self] at h4
  cases hbit : n.testBit b <;> rw [hbit] at h4 <;> exact absurd h4 (by decide)
theorem wrapb {w b : Nat} (hw : w ≤ 5) (hb : b < 2 ^ w) : (0 : Int) ≤ IntKind.u64.wrap (b : Int) := by
  have h := (two_le hw).2
  rw [wrap64u b (by omega)]
  exact Int.natCast_nonneg _
theorem nilAdd {R : Nat} (hR : R ≤ 64) {c : List Int} (h : c.length = R) : ([] : List Int).length + c.length < 17592186044416 := by rw [h, List.length_nil]; omega
theorem takeLt {i C : Nat} (h : i < C) (hC : C ≤ 64) (M : List (List Int)) : (M.take i).length < 5864062014805 := by rw [List.length_take]; omega
theorem le3 {a b c k : Nat} (h : (a + b + c) + 0 ≤ k) : a ≤ k ∧ b ≤ k ∧ c ≤ k := ⟨by omega, by omega, by omega⟩
theorem arith1 (n m C : Nat) (hmn : m ≤ n) (hn : n ≤ C) (hC : C ≤ 64) (hne : ¬ (n : Int) = (m : Int)) (a : Int) :
    wrap64 ((n : Int) - (m : Int)) = (n : Int) - (m : Int) ∧ ¬ ((n : Int) - (m : Int) = 0) ∧ ∃ q : Nat, Int.tmod (wrap64 (wrap64 (Int.tmod a ((n : Int) - (m : Int)) + (n : Int)) - (m : Int))) ((n : Int) - (m : Int)) = (q : Int) ∧ wrap64 ((m : Int) + (q : Int)) = ((m + q : Nat) : Int) ∧ m + q < n ∧ m + q < C := by
  obtain ⟨q, hq, hql⟩ := mod_small a ((n : Int) - (m : Int)) (n : Int) (m : Int) rfl (by omega) (by omega) (Int.natCast_nonneg _)
  exact ⟨w64 (by omega) (by omega), by omega, q, hq, by rw [w64 (by omega) (by omega)]; rfl, by omega, by omega⟩
theorem arith2 (R : Nat) (h0 : 0 < R) (hR : R ≤ 64) (b : Int) : ¬ ((R : Int) = 0) ∧ ∃ r : Nat, Int.tmod (wrap64 (Int.tmod b (R : Int) + (R : Int))) (R : Int) = (r : Int) ∧ r < R := by
  obtain ⟨r, hr, hrl⟩ := mod_small2 b (R : Int) (by omega) (by omega)
  exact ⟨by omega, r, hr, by omega⟩
theorem posR {w R C : Nat} {rows cols : Int} (cx : Cx w R C rows cols) : 0 < R := by
  have h1 := cx.hR
  rw [p2_nat] at h1
  have h2 := Nat.two_pow_pos rows.toNat
  generalize 2 ^ rows.toNat = x at h1 h2
  omega
theorem fill_len {C R : Nat} {all : List (List Int)} (h : all.length ≤ C) : (all ++ List.replicate (C - all.length) (List.replicate R 0)).length = C := by rw [List.length_append, List.length_replicate]; omega
/-- The last part of the law: the columns are copied, one word is turned, and they do not hold. -/
theorem oneLoop {w R C : Nat} {rows cols : Int} (cx : Cx w R C rows cols) (pub priv : Int) (l : List S105) (hl : l.length ≤ 1000) (h0 : (lookS (w : Int) rows cols pub priv l).2 = 0) (hF : ∀ g ∈ l, Fine w (C : Int) g) (M : List (List Int)) (G : Good w R M) (hM : M.length = C)
    (k0 r0 b0 : Nat) (hk : k0 < C) (hr : r0 < R) (hb : b0 < 2 ^ w) (hfall : ∀ v, v ≠ rd (M.getD k0 []) (r0 : Int) → l.all (holdsG w R (flip M k0 r0 v)) = false) (d : Nat) : ∀ i : Nat, C - i = d → i ≤ C →
    Ev (fun k => steeplelaw27_WitnessOne.l0 k M (k0 : Int) (r0 : Int) (b0 : Int) (M.take i) (i : Int) (w : Int) rows cols pub priv l) true := by
  have hw := cx.hw
  obtain ⟨hRb, hCb, _, _⟩ := cx.two
  have hk' : k0 < M.length := by rw [hM]; exact hk
  have eg : M.getD k0 [] = M[k0] := by rw [List.getD_eq_getElem?_getD, List.getElem?_eq_getElem hk']; rfl
  obtain ⟨g1, g2⟩ := G _ (List.getElem_mem hk')
  have hr' : r0 < M[k0].length := by rw [g1]; exact hr
  have hx := g2 _ (List.getElem_mem hr')
  obtain ⟨hv, hne⟩ := turn_bit hw M[k0][r0] hx b0 hb
  induction d with
  | zero =>
    intro i hd hi
    have hiC : i = C := Nat.le_antisymm hi (Nat.sub_eq_zero_iff_le.mp hd)
    have hH := Holds_ev cx pub priv l hl h0 hF (flip M k0 r0 (Go.bits .xor .u64 M[k0][r0] (shl .u64 1 (IntKind.u64.wrap (b0 : Int))))) (good_flip G k0 r0 hk' _ hv) (by unfold flip; rw [List.length_set]; exact hM)
    rw [hfall _ (by rw [eg, rd_nat _ r0 hr']; exact hne)] at hH
    obtain ⟨K1, hK1⟩ := hH
    obtain ⟨K2, hK2⟩ := awake_ev
    dsimp only at hK1 hK2
    refine ⟨(K1 + K2) + (0 + 1), fun k hk => ?_⟩
    obtain ⟨k, rfl, hk1⟩ := stepK hk
    have e1 := hK1 k (Nat.le_trans (Nat.le_add_right _ _) hk1)
    have e2 := hK2 k (Nat.le_trans (Nat.le_add_left _ _) hk1)
    simp only [steeplelaw27_WitnessOne.l0]
    rw [List.take_of_length_le (by rw [hM, hiC]; exact Nat.le_refl _), if_neg (by rw [hM, hiC]; exact Int.lt_irrefl _), if_pos (Int.natCast_nonneg _), if_pos (Int.ofNat_lt.mpr hk'), if_pos (Int.natCast_nonneg _), rdL_nat M k0 hk', if_pos (Int.ofNat_lt.mpr hr'), rd_nat _ r0 hr', if_pos (wrapb hw hb), Int.toNat_natCast, Int.toNat_natCast]
    rw [show M.set k0 (M[k0].set r0 (Go.bits .xor .u64 M[k0][r0] (shl .u64 1 (IntKind.u64.wrap (b0 : Int))))) = flip M k0 r0 (Go.bits .xor .u64 M[k0][r0] (shl .u64 1 (IntKind.u64.wrap (b0 : Int)))) from by unfold flip; rw [eg], e1]
    simp only [Option.bind_some]
    rw [e2]
    rfl
  | succ d ih =>
    intro i hd hi
    obtain ⟨s1, s2, s3⟩ := stepD hd
    obtain ⟨w1, jR, j0⟩ := stepW s1 (Nat.le_trans hCb (by decide))
    have hiM : i < M.length := by rw [hM]; exact s1
    have hli : M[i].length = R := (G _ (List.getElem_mem hiM)).1
    obtain ⟨K, hK⟩ := ih (i + 1) s2 s3
    dsimp only at hK
    refine ⟨K + (0 + 1), fun k hk => ?_⟩
    obtain ⟨k, rfl, hk1⟩ := stepK hk
    have hr1 := hK k hk1
    rw [List.take_succ_eq_append_getElem hiM] at hr1
    simp only [steeplelaw27_WitnessOne.l0]
    rw [if_pos (Int.ofNat_lt.mpr hiM)]
    simp only [Option.bind_some]
    rw [if_pos j0, rdL_nat M i hiM, if_pos (nilAdd hRb hli), if_pos (takeLt s1 hCb M), w1, List.nil_append]
    exact hr1
theorem used_ev (wide rows cols pub priv : Int) (l : List S105) : Ev (fun k => circuit_Used.f k wide rows cols pub priv l) (lookS wide rows cols pub priv l).1 := evFuel 60 fun m => by
  unfold circuit_Used.f; rw [lookSpec]; rfl
set_option maxHeartbeats 2000000 in
theorem oneMain (w R C : Nat) (rows cols : Int) (cx : Cx w R C rows cols) (pub priv : Int) (l : List S105) (hl : l.length ≤ 40) (given all : List (List Int)) (h0 : (lookS (w : Int) rows cols pub priv l).2 = 0) (hS : lookS (w : Int) rows cols pub priv l = walk (w : Int) cols l (given.length : Int)) (G : Good w R given) (hgc : given.length ≤ C) (hrun : runG w R l given = some all) (a b c : Int) :
    Ev (fun k => steeplelaw27_WitnessOne.j1 k given (all ++ List.replicate (C - all.length) (List.replicate R 0)) false (w : Int) rows cols pub priv l a b c) true := by
  have hw := cx.hw
  obtain ⟨hRb, hCb, hT, _⟩ := cx.two
  have hwk : (walk (w : Int) cols l (given.length : Int)).2 = 0 := by rw [← hS]; exact h0
  have hused := used_ev (w : Int) rows cols pub priv l
  have hlen : (lookS (w : Int) rows cols pub priv l).1 = (all.length : Int) := by rw [hS]; exact runG_len l given all hrun hwk
  rw [hlen] at hused
  obtain ⟨Ga, hac⟩ := runG_good cx.hC l given all hrun G hgc hwk
  obtain ⟨e, he⟩ := runG_prefix w R l given all hrun
  have hfin := fines (w := w) cx.hC l (given.length : Int) (Int.natCast_nonneg _) hwk
  have hge : given.length ≤ all.length := by rw [he, List.length_append]; exact Nat.le_add_right _ _
  obtain ⟨K1, hK1⟩ := hused
  obtain ⟨K2, hK2⟩ := awake_ev
  dsimp only at hK1 hK2
  by_cases hnm : (all.length : Int) = (given.length : Int)
  · refine ⟨(K1 + K2) + (0 + 1), fun k hk => ?_⟩
    obtain ⟨k, rfl, hk1⟩ := stepK hk
    simp only [steeplelaw27_WitnessOne.j1]
    rw [if_neg (by decide), hK1 k (Nat.le_trans (Nat.le_add_right _ _) hk1)]
    simp only [Option.bind_some]
    rw [if_pos hnm, hK2 k (Nat.le_trans (Nat.le_add_left _ _) hk1)]
    rfl
  · have hGM := good_fill (C := C) Ga
    have hMC := fill_len (R := R) hac
    obtain ⟨hD, hz, q, hq, hk0, hka, hkC⟩ := arith1 all.length given.length C hge hac hCb hnm a
    obtain ⟨hRz, r0, hr0, hr0l⟩ := arith2 R (posR cx) hRb b
    obtain ⟨hwz, b0, hb0, hb0l⟩ := arith2 (2 ^ w) (two_le hw).1 (Nat.le_trans (two_le hw).2 (by decide)) c
    have hrl := (good_at hGM (a := ((given.length + q : Nat) : Int)) (Int.natCast_nonneg _) (by rw [hMC]; exact Int.ofNat_lt.mpr hkC)).1
    have hT2 : ∀ k, 9 ≤ k → steepleref15_Two.f k (w : Int) = some ((2 ^ w : Nat) : Int) := fun k hk => by rw [two_at (Int.natCast_nonneg w) (Int.ofNat_le.mpr (Nat.le_trans hw (by decide))) k hk, p2_nat, Int.toNat_natCast]
    have hfall := fun v hv => flips_fall l given all hrun G hwk (List.replicate (C - all.length) (List.replicate R 0)) (given.length + q) r0 v (Nat.le_add_right _ _) hka hr0l hv
    have hloop := oneLoop cx pub priv l (Nat.le_trans hl (by decide)) h0 hfin (all ++ List.replicate (C - all.length) (List.replicate R 0)) hGM hMC (given.length + q) r0 b0 hkC hr0l hb0l hfall C 0 (Nat.sub_zero _) (Nat.zero_le _)
    obtain ⟨K3, hK3⟩ := hloop
    dsimp only at hK3
    refine ⟨(K1 + K3 + 9) + (0 + 1), fun k hk => ?_⟩
    obtain ⟨k, rfl, hk1⟩ := stepK hk
    obtain ⟨q1, q3, q9⟩ := le3 hk1
    have hr := hK3 k q3
    simp only [steeplelaw27_WitnessOne.j1]
    rw [if_neg (by decide), hK1 k q1]
    simp only [Option.bind_some]
    rw [if_neg hnm, hD, if_neg hz, hq, hk0, hrl, hr0, if_pos (Int.natCast_nonneg _), if_pos (by rw [hMC]; exact Int.ofNat_lt.mpr hkC), if_neg hRz, hT2 k q9]
    simp only [Option.bind_some]
    rw [if_neg hwz, hb0]
    exact hr
theorem onePure (wide rows cols pub priv : Int) (l : List S105) (given : List (List Int)) (hW : W64 given) (a b c : Int) : ∃ k, steeplelaw27_WitnessOne.f k wide rows cols pub priv l given a b c = some true := by
  apply Ev.rounds
  unfold steeplelaw27_WitnessOne.f
  have quiet : Ev (fun k => steeplelaw27_WitnessOne.j0 k given true wide rows cols pub priv l a b c) true := by
    refine Ev.step (fun k => ?_) (Ev.bind (f := fun _ t => some t) awake_ev (Ev.now true))
    simp only [steeplelaw27_WitnessOne.j0, if_true]
  obtain ⟨x, hx, hxl⟩ := few_ev wide rows cols pub priv l
  refine Ev.bind hx ?_
  cases x with
  | false =>
    simp only [Bool.false_eq_true, if_false]
    exact quiet
  | true =>
    simp only [if_true]
    obtain ⟨y, hy, hyl⟩ := words_ev 10 8 (by decide) given
    refine Ev.bind hy ?_
    cases y with
    | false => exact quiet
    | true =>
      have hl := hxl rfl
      have hL0 := hyl rfl
      have hL : Lens 1000 1000 given := ⟨Nat.le_trans hL0.1 (by decide), fun c hc => Nat.le_trans (hL0.2 c hc) (by decide)⟩
      show Ev (fun k => steeplelaw27_WitnessOne.j0 k given false wide rows cols pub priv l a b c) true
      obtain ⟨KA, hKA⟩ := awake_ev
      dsimp only at hKA
      rcases run_cases wide rows cols pub priv l hl given hL hW with ⟨e, hne, hrun⟩ | ⟨w, R, C, all, rfl, cx, h0, hS, G, hgc, hg, hrun⟩
      · obtain ⟨K1, hK1⟩ := hrun
        dsimp only at hK1
        refine ⟨(K1 + KA) + (0 + 1), fun k hk => ?_⟩
        obtain ⟨k, rfl, hk1⟩ := stepK hk
        simp only [steeplelaw27_WitnessOne.j0]
        rw [if_neg (by decide), hK1 k (Nat.le_trans (Nat.le_add_right _ _) hk1)]
        simp only [Option.bind_some]
        rw [if_neg hne, hKA k (Nat.le_trans (Nat.le_add_left _ _) hk1)]
        rfl
      · have hwk : (walk (w : Int) cols l (given.length : Int)).2 = 0 := by rw [← hS]; exact h0
        obtain ⟨Ga, hac⟩ := runG_good cx.hC l given all hg G hgc hwk
        obtain ⟨ex, hex⟩ := runG_prefix w R l given all hg
        have hfin := fines (w := w) cx.hC l (given.length : Int) (Int.natCast_nonneg _) hwk
        have hGM := good_fill (C := C) Ga
        have hMC : (all ++ List.replicate (C - all.length) (List.replicate R 0)).length = C := by rw [List.length_append, List.length_replicate]; omega
        have hH := Holds_ev cx pub priv l (Nat.le_trans hl (by decide)) h0 hfin _ hGM hMC
        rw [runs_hold l given all hg G hwk] at hH
        have hm := oneMain w R C rows cols cx pub priv l hl given all h0 hS G hgc hg a b c
        have hsame := same_refl given hL
        obtain ⟨K1, hK1⟩ := hrun
        obtain ⟨K2, hK2⟩ := hH
        obtain ⟨K3, hK3⟩ := hm
        obtain ⟨K4, hK4⟩ := hsame
        dsimp only at hK1 hK2 hK3 hK4
        refine ⟨(K1 + K2 + K3 + K4) + (0 + 1), fun k hk => ?_⟩
        obtain ⟨k, rfl, hk1⟩ := stepK hk
        have q1 : K1 ≤ k := by omega
        have q2 : K2 ≤ k := by omega
        have q3 : K3 ≤ k := by omega
        have q4 : K4 ≤ k := by omega
        have ht : (all ++ List.replicate (C - all.length) (List.replicate R 0)).take given.length = given := by rw [hex, List.append_assoc, List.take_left]
        simp only [steeplelaw27_WitnessOne.j0]
        rw [if_neg (by decide), hK1 k q1]
        simp only [Option.bind_some]
        rw [if_pos trivial, hK2 k q2]
        simp only [Option.bind_some]
        rw [if_pos trivial, if_pos trivial, if_pos (Int.natCast_nonneg _), if_pos (by rw [hMC]; exact Int.ofNat_le.mpr hgc), Int.toNat_natCast, ht, hK4 k q4]
        exact hK3 k q3
end Go.Proofs.Ythiiodgpdoljoaa.Bit
