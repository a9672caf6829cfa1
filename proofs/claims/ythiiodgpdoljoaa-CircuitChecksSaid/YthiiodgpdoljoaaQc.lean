import Derived.Test.YthiiodgpdoljoaaQb
import Derived.Test.YthiiodgpdoljoaaPLcx32
namespace Go.Proofs.Ythiiodgpdoljoaa.Pure
open Go.RowKit Go.Proofs.Ythiiodgpdoljoaa.PLc Go.Proofs.YthiiodgpdoljoaaW.PrintWords Go.Proofs.YthiiodgpdoljoaaW.PrintLast
set_option linter.unusedVariables false
set_option linter.unusedSimpArgs false
theorem awake25_100 : steeplelaw25_awake.f 100 = some true := by kernel_rfl
theorem awake25 (k : Nat) (hk : 100 ≤ k) : steeplelaw25_awake.f k = some true := at_rounds (fun k => steeplelaw25_awake.mono k) hk awake25_100
theorem refLoopG (a0 a1 a2 a3 a4 : Int) (b0 b1 b2 b3 b4 : Int) (l : List S105) (hl : l.length ≤ 1000) (d : Nat) : ∀ (k i : Nat) (acc : List S106), l.length - i = d → i ≤ l.length → acc.length = i → d < k →
    steeplelaw25_Ref.l0 k (i : Int) a0 a1 a2 a3 a4 l b0 b1 b2 b3 b4 acc = some (b0, b1, b2, b3, b4, acc ++ (l.drop i).map toG) := by
  induction d with
  | zero =>
    intro k i acc hd hi ha hk
    obtain ⟨k, rfl⟩ : ∃ m, k = m + 1 := ⟨k - 1, by omega⟩
    simp only [steeplelaw25_Ref.l0]
    rw [if_neg (by omega), List.drop_of_length_le (by omega)]
    simp
  | succ d ih =>
    intro k i acc hd hi ha hk
    obtain ⟨k, rfl⟩ : ∃ m, k = m + 1 := ⟨k - 1, by omega⟩
    have hlt : i < l.length := by omega
    simp only [steeplelaw25_Ref.l0]
    rw [if_pos (by omega), if_pos (by omega), if_pos (by omega), rd105 l i hlt, w64 (by omega) (by omega)]
    rw [List.drop_eq_getElem_cons hlt]
    have := ih k (i + 1) (acc ++ [toG l[i]]) (by omega) (by omega) (by simp; omega) (by omega)
    have e : acc ++ List.map toG (l[i] :: List.drop (i + 1) l) = (acc ++ [toG l[i]]) ++ List.map toG (List.drop (i + 1) l) := by rw [List.map_cons, List.append_assoc]; rfl
    rw [e]
    exact this
theorem refG (k : Nat) (a0 a1 a2 a3 a4 : Int) (l : List S105) (hl : l.length ≤ 1000) (hk : l.length < k) : steeplelaw25_Ref.f k a0 a1 a2 a3 a4 l = some (a0, a1, a2, a3, a4, l.map toG) := by
  unfold steeplelaw25_Ref.f
  have := refLoopG a0 a1 a2 a3 a4 a0 a1 a2 a3 a4 l hl l.length k 0 [] (by omega) (by omega) rfl hk
  simpa using this
theorem checkSpec (m : Nat) (wide rows cols pub priv : Int) (l : List S105) : circuit_Check.f (m + 60) wide rows cols pub priv l = some (lookS wide rows cols pub priv l).2 := by
  unfold circuit_Check.f; rw [lookSpec]; rfl
theorem usedSpec (m : Nat) (wide rows cols pub priv : Int) (l : List S105) : circuit_Used.f (m + 60) wide rows cols pub priv l = some (lookS wide rows cols pub priv l).1 := by
  unfold circuit_Used.f; rw [lookSpec]; rfl
theorem usedLoop (wide rows cols pub priv : Int) (l : List S105) (hc : 0 ≤ cols) (hc6 : cols ≤ 6) (hl : l.length ≤ 1000) (d : Nat) : ∀ (k i : Nat) (n : Int), l.length - i = d → i ≤ l.length → d < k → 0 ≤ n → n ≤ p2 cols → (walk wide cols (l.drop i) n).2 = 0 →
    steepleref25_Used.l0 k n (i : Int) wide rows cols pub priv (l.map toG) = some (walk wide cols (l.drop i) n).1 := by
  have hb := p2_bound hc hc6
  induction d with
  | zero =>
    intro k i n hd hi hk hn hn2 hw
    obtain ⟨k, rfl⟩ : ∃ m, k = m + 1 := ⟨k - 1, by omega⟩
    simp only [steepleref25_Used.l0, List.length_map]
    rw [if_neg (by omega), List.drop_of_length_le (by omega)]
    rfl
  | succ d ih =>
    intro k i n hd hi hk hn hn2 hw
    obtain ⟨k, rfl⟩ : ∃ m, k = m + 1 := ⟨k - 1, by omega⟩
    have hlt : i < l.length := by omega
    have hr : rd_T106 (l.map toG) (i : Int) = toG l[i] := by rw [rd106 _ i (by simpa using hlt)]; simp
    rw [List.drop_eq_getElem_cons hlt] at hw ⊢
    simp only [walk] at hw ⊢
    by_cases he : gErr wide cols l[i] n = 0
    · have h3 := gErr_ok he
      have h4 := makes_nonneg l[i].f0
      simp only [he, if_true] at hw ⊢
      simp only [steepleref25_Used.l0, List.length_map]
      rw [if_pos (by omega), if_pos (by omega), hr]
      simp only [refMakes, Option.bind_some]
      rw [w64 (x := n + makes l[i].f0) (by omega) (by omega), w64 (by omega) (by omega)]
      exact ih k (i + 1) _ (by omega) (by omega) (by omega) (by omega) (by omega) hw
    · simp only [he, if_false] at hw
theorem lookS_cases {wide rows cols pub priv : Int} {l : List S105} (h : (lookS wide rows cols pub priv l).2 = 0) :
    0 ≤ wide ∧ wide ≤ 5 ∧ 0 ≤ rows ∧ rows ≤ 4 ∧ 0 ≤ cols ∧ cols ≤ 6 ∧ 0 ≤ pub ∧ 0 ≤ priv ∧ pub + priv ≤ p2 cols ∧ l.length ≤ 30 ∧ lookS wide rows cols pub priv l = walk wide cols l (pub + priv) := by
  unfold lookS at h ⊢
  by_cases h1 : wide < 0 ∨ 5 < wide ∨ rows < 0 ∨ 4 < rows ∨ cols < 0 ∨ 6 < cols
  · rw [if_pos h1] at h; cases h
  · by_cases h2 : pub < 0 ∨ priv < 0 ∨ p2 cols < pub ∨ p2 cols - pub < priv
    · rw [if_neg h1, if_pos h2] at h; cases h
    · by_cases h3 : 30 < l.length
      · rw [if_neg h1, if_neg h2, if_pos h3] at h; cases h
      · rw [if_neg h1, if_neg h2, if_neg h3]
        refine ⟨by omega, by omega, by omega, by omega, by omega, by omega, by omega, by omega, by omega, by omega, rfl⟩
theorem walk_zero {wide cols : Int} : ∀ (l : List S105) (n : Int), (walk wide cols l n).2 ≠ 0 → (walk wide cols l n).1 = 0
  | [], n, h => absurd rfl h
  | g :: gs, n, h => by
    unfold walk at h ⊢
    by_cases he : gErr wide cols g n = 0
    · simp only [he, if_true] at h ⊢
      exact walk_zero gs _ h
    · simp only [he, if_false]
theorem lookS_zero {wide rows cols pub priv : Int} {l : List S105} (h : (lookS wide rows cols pub priv l).2 ≠ 0) : (lookS wide rows cols pub priv l).1 = 0 := by
  unfold lookS at h ⊢
  by_cases h1 : wide < 0 ∨ 5 < wide ∨ rows < 0 ∨ 4 < rows ∨ cols < 0 ∨ 6 < cols
  · rw [if_pos h1]
  · by_cases h2 : pub < 0 ∨ priv < 0 ∨ p2 cols < pub ∨ p2 cols - pub < priv
    · rw [if_neg h1, if_pos h2]
    · by_cases h3 : 30 < l.length
      · rw [if_neg h1, if_neg h2, if_pos h3]
      · rw [if_neg h1, if_neg h2, if_neg h3] at h ⊢
        exact walk_zero _ _ h
theorem refUsed (m : Nat) (wide rows cols pub priv : Int) (l : List S105) (hl : l.length ≤ 40) : steepleref25_Used.f (m + 100) wide rows cols pub priv (l.map toG) = some (lookS wide rows cols pub priv l).1 := by
  unfold steepleref25_Used.f
  rw [refCheck m wide rows cols pub priv l hl]
  simp only [Option.bind_some]
  by_cases h : (lookS wide rows cols pub priv l).2 = 0
  · rw [if_pos h]
    obtain ⟨a1, a2, a3, a4, a5, a6, a7, a8, a9, a10, hS⟩ := lookS_cases h
    have hb := p2_bound a5 a6
    rw [hS] at h ⊢
    rw [w64 (by omega) (by omega)]
    exact usedLoop wide rows cols pub priv l a5 a6 (by omega) l.length _ 0 (pub + priv) (by omega) (by omega) (by omega) (by omega) a9 h
  · rw [if_neg h, lookS_zero h]
theorem varsSpec (m : Nat) (wide rows cols pub priv : Int) (l : List S105) : circuit_Vars.f (m + 60) wide rows cols pub priv l = some (if (lookS wide rows cols pub priv l).2 = 0 then wrap64 (wrap64 (wide + rows) + cols) else 0) := by
  unfold circuit_Vars.f
  rw [checkSpec]
  simp only [Option.bind_some]
  split <;> rfl
theorem checksPure (wide rows cols pub priv : Int) (l : List S105) : ∃ k, steeplelaw25_CircuitChecks.f k wide rows cols pub priv l = some true := by
  refine ⟨301, ?_⟩
  unfold steeplelaw25_CircuitChecks.f
  by_cases h : (l.length : Int) > 40
  · rw [if_pos h, awake25 _ (by omega)]; rfl
  · rw [if_neg h, refG _ _ _ _ _ _ _ (by omega) (by omega)]
    simp only [Option.bind_some]
    have hC := refCheck 201 wide rows cols pub priv l (by omega)
    have hC' := refCheck 200 wide rows cols pub priv l (by omega)
    have hU := refUsed 200 wide rows cols pub priv l (by omega)
    have hc := checkSpec 240 wide rows cols pub priv l
    have hu := usedSpec 240 wide rows cols pub priv l
    have hv := varsSpec 240 wide rows cols pub priv l
    rw [hC]
    simp only [Option.bind_some]
    have hj : ∀ x4 : Int, x4 = (if (lookS wide rows cols pub priv l).2 = 0 then wrap64 (wrap64 (wide + rows) + cols) else 0) → steeplelaw25_CircuitChecks.j0 301 x4 wide rows cols pub priv l wide rows cols pub priv (l.map toG) = some true := by
      intro x4 hx
      rw [show (301 : Nat) = 300 + 1 from rfl]
      simp only [steeplelaw25_CircuitChecks.j0]
      rw [awake25 _ (by omega)]
      simp only [Option.bind_some, if_true, hc, hC', hu, hU, hv]
      simp [hx]
    by_cases h0 : (lookS wide rows cols pub priv l).2 = 0
    · rw [if_pos h0]; exact hj _ (by rw [if_pos h0])
    · rw [if_neg h0]; exact hj _ (by rw [if_neg h0])
end Go.Proofs.Ythiiodgpdoljoaa.Pure
