import Derived.Test.YthiiodgpdoljoaaKo6
import Derived.Test.YthiiodgpdoljoaaKo8
import Derived.Test.YthiiodgpdoljoaaKo7
import Derived.Test.YthiiodgpdoljoaaKo2
import Derived.Test.YthiiodgpdoljoaaKo1
-- Words and walks that the kit's print has laid for this seat, cut down, and our own texts, merged.
namespace Go.Proofs.Ythiiodgpdoljoaa.Bit
open Go Go.RowKit Go.Proofs.Ythiiodgpdoljoaa.PLw Go.Proofs.YthiiodgpdoljoaaW.PrintWords Go.Proofs.YthiiodgpdoljoaaW.PrintLast Go.Proofs.YthiiodgpdoljoaaW.PrintMore
set_option linter.unusedVariables false
set_option linter.unusedSimpArgs false
/-- What a gate makes of two words. -/
def mkA (w : Nat) (g : S105) (x y : Int) : Int := ((madeN (2 ^ w) g.f0 g.f4.toNat x.toNat y.toNat).1 : Int)
def mkB (w : Nat) (g : S105) (x y : Int) : Int := ((madeN (2 ^ w) g.f0 g.f4.toNat x.toNat y.toNat).2 : Int)
def atA (w : Nat) (g : S105) (all : List (List Int)) (i : Nat) : Int := mkA w g (rd (rd_L4 all g.f2) i) (rd (rd_L4 all g.f3) i)
def atB (w : Nat) (g : S105) (all : List (List Int)) (i : Nat) : Int := mkB w g (rd (rd_L4 all g.f2) i) (rd (rd_L4 all g.f3) i)
def colA (w R : Nat) (g : S105) (all : List (List Int)) : List Int := (List.range R).map (atA w g all)
def colB (w R : Nat) (g : S105) (all : List (List Int)) : List Int := (List.range R).map (atB w g all)
def newC (w R : Nat) (g : S105) (all : List (List Int)) : List (List Int) := colA w R g all :: (if g.f0 = 7 then [colB w R g all] else [])
/-- All columns behind some gates, or nothing. -/
def runG (w R : Nat) : List S105 → List (List Int) → Option (List (List Int))
  | [], all => some all
  | g :: gs, all => if g.f0 = 8 then (if rd_L4 all g.f2 = rd_L4 all g.f3 then runG w R gs all else none) else runG w R gs (all ++ newC w R g all)
def Good (w R : Nat) (all : List (List Int)) : Prop := ∀ c ∈ all, c.length = R ∧ ∀ x ∈ c, 0 ≤ x ∧ x < ((2 ^ 2 ^ w : Nat) : Int)
theorem gate_facts {wide cols n : Int} {g : S105} (h : gErr wide cols g n = 0) (hn : 0 ≤ n) : 1 ≤ g.f0 ∧ g.f0 ≤ 8 ∧ 0 ≤ g.f2 ∧ g.f2 < n ∧ 0 ≤ g.f3 ∧ g.f3 < n ∧ 0 ≤ g.f4 ∧ (g.f0 ≠ 8 → g.f1 = n) ∧ (g.f0 = 7 → g.f4 = n + 1) ∧ (4 ≤ g.f0 → g.f0 ≤ 6 → g.f4 < p2 wide) ∧ n + makes g.f0 ≤ p2 cols := by
  obtain ⟨f0, f1, f2, f3, f4⟩ := g
  have hf : f0 < 1 ∨ 8 < f0 ∨ f0 = 1 ∨ f0 = 2 ∨ f0 = 3 ∨ f0 = 4 ∨ f0 = 5 ∨ f0 = 6 ∨ f0 = 7 ∨ f0 = 8 := by omega
  unfold gErr makes fits at *
  rcases hf with h' | h' | rfl | rfl | rfl | rfl | rfl | rfl | rfl | rfl
  · simp [h'] at h
  · simp [h'] at h
  all_goals simp at h ⊢
  all_goals (repeat' (split at h))
  all_goals omega
theorem madeN_lt (n : Nat) (k : Int) (s x y : Nat) (hx : x < 2 ^ n) (hy : y < 2 ^ n) : (madeN n k s x y).1 < 2 ^ n ∧ (madeN n k s x y).2 < 2 ^ n := by
  have h0 : 0 < 2 ^ n := Nat.two_pow_pos n
  have h1 : 2 ^ n - 1 < 2 ^ n := by omega
  have h2 : x + y < 2 ^ (n + 1) := by rw [Nat.pow_succ]; omega
  have h3 : ((x + y) ^^^ x ^^^ y) < 2 ^ (n + 1) := Nat.xor_lt_two_pow (Nat.xor_lt_two_pow h2 (by rw [Nat.pow_succ]; omega)) (by rw [Nat.pow_succ]; omega)
  have h4 : ((x + y) ^^^ x ^^^ y) / 2 < 2 ^ n := by rw [Nat.pow_succ] at h3; omega
  unfold madeN
  repeat' split
  · exact ⟨Nat.xor_lt_two_pow hx hy, h0⟩
  · exact ⟨Nat.and_lt_two_pow _ hy, h0⟩
  · exact ⟨Nat.xor_lt_two_pow hx h1, h0⟩
  · exact ⟨Nat.and_lt_two_pow _ h1, h0⟩
  · exact ⟨Nat.lt_of_le_of_lt (by rw [Nat.shiftRight_eq_div_pow]; exact Nat.div_le_self _ _) hx, h0⟩
  · exact ⟨Nat.and_lt_two_pow _ h1, h0⟩
  · exact ⟨Nat.and_lt_two_pow _ h1, h4⟩
  · exact ⟨h0, h0⟩
theorem rd_nat (l : List Int) (i : Nat) (h : i < l.length) : rd l (i : Int) = l[i] := by simp [rd, List.getD_eq_getElem?_getD, h]
theorem rdL_nat (l : List (List Int)) (i : Nat) (h : i < l.length) : rd_L4 l (i : Int) = l[i] := by simp [rd_L4, List.getD_eq_getElem?_getD, h]
theorem rdL_int (l : List (List Int)) (a : Int) (h0 : 0 ≤ a) (h : a < l.length) : rd_L4 l a ∈ l := by
  obtain ⟨n, rfl⟩ := Int.eq_ofNat_of_zero_le h0
  rw [rdL_nat l n (by omega)]
  exact List.getElem_mem _
theorem good_at {w R : Nat} {all : List (List Int)} (G : Good w R all) {a : Int} (h0 : 0 ≤ a) (h : a < all.length) : (rd_L4 all a).length = R ∧ ∀ i : Nat, i < R → 0 ≤ rd (rd_L4 all a) i ∧ rd (rd_L4 all a) i < ((2 ^ 2 ^ w : Nat) : Int) := by
  have hm := rdL_int all a h0 h
  obtain ⟨h1, h2⟩ := G _ hm
  refine ⟨h1, fun i hi => ?_⟩
  rw [rd_nat _ i (by omega)]
  exact h2 _ (List.getElem_mem _)
theorem mk_lt {w : Nat} (g : S105) {x y : Int} (hx : 0 ≤ x ∧ x < ((2 ^ 2 ^ w : Nat) : Int)) (hy : 0 ≤ y ∧ y < ((2 ^ 2 ^ w : Nat) : Int)) : (0 ≤ mkA w g x y ∧ mkA w g x y < ((2 ^ 2 ^ w : Nat) : Int)) ∧ 0 ≤ mkB w g x y ∧ mkB w g x y < ((2 ^ 2 ^ w : Nat) : Int) := by
  have h := madeN_lt (2 ^ w) g.f0 g.f4.toNat x.toNat y.toNat (by omega) (by omega)
  unfold mkA mkB
  exact ⟨⟨by omega, by omega⟩, by omega, by omega⟩
theorem good_new {w R : Nat} {all : List (List Int)} (G : Good w R all) (g : S105) (h2 : 0 ≤ g.f2) (h2' : g.f2 < all.length) (h3 : 0 ≤ g.f3) (h3' : g.f3 < all.length) : Good w R (all ++ newC w R g all) := by
  have g2 := good_at G h2 h2'
  have g3 := good_at G h3 h3'
  have key : ∀ i, i < R → _ := fun i hi => mk_lt (w := w) g (g2.2 i hi) (g3.2 i hi)
  intro c hc
  rcases List.mem_append.mp hc with hc | hc
  · exact G c hc
  · have hc' : c = colA w R g all ∨ c = colB w R g all := by
      unfold newC at hc
      split at hc
      · simpa using hc
      · left; simpa using hc
    rcases hc' with rfl | rfl
    · refine ⟨by simp [colA], fun x hx => ?_⟩
      obtain ⟨i, hi, rfl⟩ := List.mem_map.mp hx
      exact (key i (List.mem_range.mp hi)).1
    · refine ⟨by simp [colB], fun x hx => ?_⟩
      obtain ⟨i, hi, rfl⟩ := List.mem_map.mp hx
      exact (key i (List.mem_range.mp hi)).2
theorem new_len (w R : Nat) (g : S105) (all : List (List Int)) (h8 : g.f0 ≠ 8) : ((all ++ newC w R g all).length : Int) = all.length + makes g.f0 := by
  unfold newC makes
  by_cases h7 : g.f0 = 7
  · rw [if_pos h7, if_neg h8, if_pos h7]; simp
  · rw [if_neg h7, if_neg h8, if_neg h7]; simp
theorem p2_nat (n : Int) : p2 n = ((2 ^ n.toNat : Nat) : Int) := by simp [p2]
theorem made_mk (w : Nat) (hw : w ≤ 5) (a1 a2 a3 a4 : Int) (l : List S105) (g : S105) (h1 : 1 ≤ g.f0) (h8 : g.f0 ≤ 8) (h8' : g.f0 ≠ 8) (h4 : 0 ≤ g.f4) (hs : 4 ≤ g.f0 → g.f0 ≤ 6 → g.f4 < p2 (w : Int)) {x y : Int} (hx : 0 ≤ x ∧ x < ((2 ^ 2 ^ w : Nat) : Int)) (hy : 0 ≤ y ∧ y < ((2 ^ 2 ^ w : Nat) : Int)) :
    witness_made.f (w : Int) a1 a2 a3 a4 l g.f0 g.f1 g.f2 g.f3 g.f4 x y = some (mkA w g x y, mkB w g x y) := by
  obtain ⟨x, rfl⟩ := Int.eq_ofNat_of_zero_le hx.1
  obtain ⟨y, rfl⟩ := Int.eq_ofNat_of_zero_le hy.1
  obtain ⟨s, hs'⟩ := Int.eq_ofNat_of_zero_le h4
  have := made_eq w hw a1 a2 a3 a4 l g.f0 g.f1 g.f2 g.f3 s x y h1 (by omega) (fun a b => by have := hs a b; rw [p2_nat] at this; simp only [Int.toNat_natCast] at this; omega) (by omega) (by omega)
  rw [hs']
  rw [this]
  simp only [mkA, mkB, hs', Int.toNat_natCast]
theorem equalLoop (a b : List Int) (hl : a.length = b.length) (hn : a.length ≤ 1000) (d : Nat) : ∀ i : Nat, a.length - i = d → i ≤ a.length →
    Ev (fun k => slices_Equal_uint64_uint64.l0 k a b (a.length : Int) (i : Int)) (decide (a.drop i = b.drop i)) := by
  induction d with
  | zero =>
    intro i hd hi
    refine evFuel 1 fun m => ?_
    simp only [slices_Equal_uint64_uint64.l0]
    rw [if_neg (by omega), List.drop_of_length_le (by omega), List.drop_of_length_le (by omega)]
    rfl
  | succ d ih =>
    intro i hd hi
    have ha : i < a.length := by omega
    have hb : i < b.length := by omega
    have w1 : wrap64 ((i : Int) + 1) = ((i + 1 : Nat) : Int) := by rw [w64 (by omega) (by omega)]; omega
    obtain ⟨K, hK⟩ := ih (i + 1) (by omega) (by omega)
    dsimp only at hK
    refine ⟨K + 1, fun k hk => ?_⟩
    obtain ⟨k, rfl⟩ : ∃ m, k = m + 1 := ⟨k - 1, by omega⟩
    have hr := hK k (by omega)
    simp only [slices_Equal_uint64_uint64.l0]
    rw [if_pos (by omega), if_pos (by omega), if_pos (by omega), if_pos (by omega), rd_nat a i ha, rd_nat b i hb, w1, List.drop_eq_getElem_cons ha, List.drop_eq_getElem_cons hb]
    by_cases he : a[i] = b[i]
    · rw [if_pos he, hr]
      exact congrArg some (decide_eq_decide.mpr (by rw [List.cons.injEq]; exact ⟨fun h => ⟨he, h⟩, fun h => h.2⟩))
    · rw [if_neg he]
      exact congrArg some (decide_eq_false (fun h => he (by rw [List.cons.injEq] at h; exact h.1))).symm
theorem equal_ev (a b : List Int) (hl : a.length = b.length) (hn : a.length ≤ 1000) : Ev (fun k => slices_Equal_uint64_uint64.f k a b) (decide (a = b)) := by
  obtain ⟨K, hK⟩ := equalLoop a b hl hn a.length 0 (by omega) (by omega)
  dsimp only at hK
  refine ⟨K, fun k hk => ?_⟩
  dsimp only
  unfold slices_Equal_uint64_uint64.f
  rw [if_pos (by omega)]
  have := hK k hk
  simpa using this
end Go.Proofs.Ythiiodgpdoljoaa.Bit
namespace Go.Proofs.Ythiiodgpdoljoaa.Bit
open Go Go.RowKit Go.Proofs.Ythiiodgpdoljoaa.PLw Go.Proofs.YthiiodgpdoljoaaW.PrintWords Go.Proofs.YthiiodgpdoljoaaW.PrintLast Go.Proofs.YthiiodgpdoljoaaW.PrintMore
set_option linter.unusedVariables false
set_option linter.unusedSimpArgs false
/-- The bounds of a system that may be. -/
structure Cx (w R C : Nat) (rows cols : Int) : Prop where
  hw : w ≤ 5
  hr0 : 0 ≤ rows
  hr4 : rows ≤ 4
  hc0 : 0 ≤ cols
  hc6 : cols ≤ 6
  hR : p2 rows = (R : Int)
  hC : p2 cols = (C : Int)
set_option maxHeartbeats 4000000 in
theorem progRows (w : Nat) (rows cols pub priv : Int) (R C : Nat) (cx : Cx w R C rows cols) (l : List S105) (hl : l.length ≤ 1000) (all : List (List Int)) (hal : all.length ≤ 100) (G : Good w R all) (g : S105) (h1 : 1 ≤ g.f0) (h8 : g.f0 ≤ 8) (h8' : g.f0 ≠ 8) (h2 : 0 ≤ g.f2) (h2' : g.f2 < all.length) (h3 : 0 ≤ g.f3) (h3' : g.f3 < all.length) (h4 : 0 ≤ g.f4) (hs : 4 ≤ g.f0 → g.f0 ≤ 6 → g.f4 < p2 (w : Int)) (gi : Int)
    (r : List (List Int) × Int) (h : Ev (fun k => witness_Run.l1 k (all ++ newC w R g all) l (l.length : Int) (wrap64 (gi + 1)) (w : Int) rows cols pub priv l) r) (d : Nat) : ∀ i : Nat, R - i = d → i ≤ R →
    Ev (fun k => witness_Run.l2 k all ((List.range i).map (atA w g all)) ((List.range i).map (atB w g all)) l (l.length : Int) gi (R : Int) (i : Int) (w : Int) rows cols pub priv l g.f0 g.f1 g.f2 g.f3 g.f4) r := by
  have ⟨hw, hr0, hr4, hc0, hc6, hR, hC⟩ := cx
  have hRb : R ≤ 64 := by have := p2_bound hr0 (show rows ≤ 6 by omega); omega
  have g2 := good_at G h2 h2'
  have g3 := good_at G h3 h3'
  induction d with
  | zero =>
    intro i hd hi
    obtain rfl : i = R := by omega
    obtain ⟨K, hK⟩ := h
    dsimp only at hK
    refine ⟨K + 1, fun k hk => ?_⟩
    obtain ⟨k, rfl⟩ : ∃ m, k = m + 1 := ⟨k - 1, by omega⟩
    have hr := hK k (by omega)
    simp only [witness_Run.l2]
    rw [if_neg (by omega), if_pos (by omega)]
    simp only [Option.bind_some]
    by_cases h7 : g.f0 = 7
    · rw [if_pos h7, if_pos (by simp; omega)]
      simp only [newC, if_pos h7, colA, colB] at hr
      rw [List.append_assoc]
      exact hr
    · rw [if_neg h7]
      simp only [newC, if_neg h7, colA] at hr
      exact hr
  | succ d ih =>
    intro i hd hi
    obtain ⟨K, hK⟩ := ih (i + 1) (by omega) (by omega)
    dsimp only at hK
    refine ⟨K + 1, fun k hk => ?_⟩
    obtain ⟨k, rfl⟩ : ∃ m, k = m + 1 := ⟨k - 1, by omega⟩
    have hr := hK k (by omega)
    rw [List.range_succ, List.map_append, List.map_append] at hr
    simp only [witness_Run.l2]
    rw [if_pos (by omega), if_pos h2, if_pos h2', if_pos (by omega), if_pos (by omega), if_pos h3, if_pos h3', if_pos (by omega), made_mk w hw rows cols pub priv l g h1 h8 h8' h4 hs (g2.2 i (by omega)) (g3.2 i (by omega))]
    simp only [Option.bind_some]
    rw [if_pos (by simp; omega), if_pos (by simp; omega), show wrap64 ((i : Int) + 1) = ((i + 1 : Nat) : Int) from by rw [w64 (by omega) (by omega)]; omega]
    exact hr
set_option maxHeartbeats 4000000 in
theorem progZeros (w : Nat) (rows cols pub priv : Int) (R C : Nat) (cx : Cx w R C rows cols) (l : List S105) (hl : l.length ≤ 1000) (d : Nat) : ∀ all : List (List Int), C - all.length = d → all.length ≤ C →
    Ev (fun k => witness_Run.l3 k all (w : Int) rows cols pub priv l) (all ++ List.replicate (C - all.length) (List.replicate R 0), 0) := by
  have ⟨hw, hr0, hr4, hc0, hc6, hR, hC⟩ := cx
  have hb := p2_bound hc0 hc6
  have hRb := p2_bound hr0 (show rows ≤ 6 by omega)
  induction d with
  | zero =>
    intro all hd hi
    refine evFuel 1 fun m => ?_
    simp only [witness_Run.l3]
    rw [if_pos hc0, shl_p2 hc0 hc6, if_neg (by omega), hd]
    simp
  | succ d ih =>
    intro all hd hi
    obtain ⟨K, hK⟩ := ih (all ++ [List.replicate R 0]) (by simp; omega) (by simp; omega)
    dsimp only at hK
    refine ⟨K + 1, fun k hk => ?_⟩
    obtain ⟨k, rfl⟩ : ∃ m, k = m + 1 := ⟨k - 1, by omega⟩
    have hr := hK k (by omega)
    simp only [witness_Run.l3]
    rw [if_pos hc0, shl_p2 hc0 hc6, shl_p2 hr0 (by omega), hR, if_pos (by omega), if_pos hr0, if_pos (by omega), if_pos (by omega), if_pos (by omega), Int.toNat_natCast, hr]
    rw [hd, List.length_append, List.length_singleton, show C - (all.length + 1) = d from by omega, List.append_assoc, List.replicate_succ]
    rfl
def finish (C R : Nat) : Option (List (List Int)) → List (List Int) × Int
  | none => ([], 7)
  | some all => (all ++ List.replicate (C - all.length) (List.replicate R 0), 0)
set_option maxHeartbeats 4000000 in
theorem progGates (w : Nat) (rows cols pub priv : Int) (R C : Nat) (cx : Cx w R C rows cols) (l : List S105) (hl : l.length ≤ 1000) (d : Nat) : ∀ (i : Nat) (all : List (List Int)), l.length - i = d → i ≤ l.length → Good w R all → all.length ≤ C → (walk (w : Int) cols (l.drop i) (all.length : Int)).2 = 0 →
    Ev (fun k => witness_Run.l1 k all l (l.length : Int) (i : Int) (w : Int) rows cols pub priv l) (finish C R (runG w R (l.drop i) all)) := by
  have ⟨hw, hr0, hr4, hc0, hc6, hR, hC⟩ := cx
  have hb := p2_bound hc0 hc6
  have hRb := p2_bound hr0 (show rows ≤ 6 by omega)
  induction d with
  | zero =>
    intro i all hd hi G ha hw0
    obtain ⟨K, hK⟩ := progZeros w rows cols pub priv R C cx l hl (C - all.length) all rfl ha
    dsimp only at hK
    refine ⟨K + 1, fun k hk => ?_⟩
    obtain ⟨k, rfl⟩ : ∃ m, k = m + 1 := ⟨k - 1, by omega⟩
    simp only [witness_Run.l1]
    rw [if_neg (by omega), List.drop_of_length_le (by omega), hK k (by omega)]
    rfl
  | succ d ih =>
    intro i all hd hi G ha hw0
    have hlt : i < l.length := by omega
    have q1 : l.length - (i + 1) = d := by omega
    have q2 : i + 1 ≤ l.length := by omega
    have q3 : (i : Int) < (l.length : Int) := by omega
    have q4 : (0 : Int) ≤ (i : Int) := by omega
    have w1 : wrap64 ((i : Int) + 1) = ((i + 1 : Nat) : Int) := by rw [w64 (by omega) (by omega)]; omega
    have hrd := rd105 l i hlt
    rw [List.drop_eq_getElem_cons hlt] at hw0 ⊢
    unfold walk at hw0
    by_cases hg : gErr (w : Int) cols l[i] (all.length : Int) = 0
    case neg => simp only [hg, if_false] at hw0
    simp only [hg, if_true] at hw0
    obtain ⟨f1, f8, f2, f2', f3, f3', f4, fd, f7, fs, fn⟩ := gate_facts hg (Int.natCast_nonneg _)
    have HW := Aside0.mk hw0; have HD := Aside0.mk fd; have H7 := Aside0.mk f7; have HS := Aside0.mk fs
    clear hg hw0 fd f7 fs
    by_cases h8 : l[i].f0 = 8
    · have hm0 : makes l[i].f0 = 0 := by rw [h8]; rfl
      have hw0 := HW.out
      rw [hm0, Int.add_zero] at hw0
      replace hw0 := Aside0.mk hw0
      clear HW
      have g2 := good_at G f2 f2'
      have g3 := good_at G f3 f3'
      obtain ⟨K2, hK2⟩ := equal_ev (rd_L4 all l[i].f2) (rd_L4 all l[i].f3) (by omega) (by omega)
      dsimp only at hK2
      obtain ⟨K, hK⟩ := ih (i + 1) all q1 q2 G ha hw0.out
      dsimp only at hK
      refine ⟨K + K2 + 1, fun k hk => ?_⟩
      obtain ⟨k, rfl⟩ : ∃ m, k = m + 1 := ⟨k - 1, by omega⟩
      have hr := hK k (by omega)
      have he := hK2 k (by omega)
      simp only [witness_Run.l1]
      rw [if_pos q3, if_pos q4, if_pos q3, hrd, if_pos h8, if_pos f2, if_pos f2', if_pos f3, if_pos f3', he]
      simp only [Option.bind_some, runG, if_pos h8]
      by_cases heq : rd_L4 all l[i].f2 = rd_L4 all l[i].f3
      · rw [if_pos heq, if_pos (decide_eq_true heq), w1]
        exact hr
      · rw [if_neg heq, if_neg (by simp [heq])]
        rfl
    · have hlen := new_len w R l[i] all h8
      have hw0 := HW.out
      rw [← hlen] at hw0
      replace hw0 := Aside0.mk hw0
      clear HW
      have hi' := ih (i + 1) (all ++ newC w R l[i] all) q1 q2 (good_new G l[i] f2 f2' f3 f3') (by omega) hw0.out
      have hrows := progRows w rows cols pub priv R C cx l hl all (by omega) G l[i] f1 f8 h8 f2 f2' f3 f3' f4 HS.out (i : Int) (finish C R (runG w R (l.drop (i + 1)) (all ++ newC w R l[i] all))) (by rw [w1]; exact hi') R 0 (by omega) (by omega)
      obtain ⟨K, hK⟩ := hrows
      dsimp only at hK
      refine ⟨K + 1, fun k hk => ?_⟩
      obtain ⟨k, rfl⟩ : ∃ m, k = m + 1 := ⟨k - 1, by omega⟩
      have hr := hK k (by omega)
      simp only [witness_Run.l1]
      rw [if_pos q3, if_pos q4, if_pos q3, hrd, if_neg h8, if_pos hr0, shl_p2 hr0 (by omega), hR]
      simp only [runG, if_neg h8]
      exact hr
set_option maxHeartbeats 4000000 in
theorem progCopy (w : Nat) (rows cols pub priv : Int) (R C : Nat) (cx : Cx w R C rows cols) (l : List S105) (hl : l.length ≤ 1000) (given : List (List Int)) (G : Good w R given) (hg : given.length ≤ C) (hw0 : (walk (w : Int) cols l (given.length : Int)).2 = 0) (d : Nat) : ∀ i : Nat, given.length - i = d → i ≤ given.length →
    Ev (fun k => witness_Run.l0 k (given.take i) given (given.length : Int) (i : Int) (w : Int) rows cols pub priv l) (finish C R (runG w R l given)) := by
  have ⟨hw, hr0, hr4, hc0, hc6, hR, hC⟩ := cx
  have hb := p2_bound hc0 hc6
  have hRb := p2_bound hr0 (show rows ≤ 6 by omega)
  induction d with
  | zero =>
    intro i hd hi
    obtain ⟨K, hK⟩ := progGates w rows cols pub priv R C cx l hl l.length 0 given (by omega) (by omega) G hg hw0
    dsimp only at hK
    refine ⟨K + 1, fun k hk => ?_⟩
    obtain ⟨k, rfl⟩ : ∃ m, k = m + 1 := ⟨k - 1, by omega⟩
    simp only [witness_Run.l0]
    rw [if_neg (by omega), List.take_of_length_le (by omega)]
    exact hK k (by omega)
  | succ d ih =>
    intro i hd hi
    have hlt : i < given.length := by omega
    obtain ⟨K, hK⟩ := ih (i + 1) (by omega) (by omega)
    dsimp only at hK
    refine ⟨K + 1, fun k hk => ?_⟩
    obtain ⟨k, rfl⟩ : ∃ m, k = m + 1 := ⟨k - 1, by omega⟩
    have hr := hK k (by omega)
    have hcl : slices_Clone_uint64_uint64.f given[i] = some given[i] := by
      unfold slices_Clone_uint64_uint64.f
      rw [if_pos (by have := (G _ (List.getElem_mem hlt)).1; omega)]
    simp only [witness_Run.l0]
    rw [if_pos (by omega), if_pos (by omega), if_pos (by omega), rdL_nat given i hlt, hcl]
    simp only [Option.bind_some]
    rw [if_pos (by simp; omega), show wrap64 ((i : Int) + 1) = ((i + 1 : Nat) : Int) from by rw [w64 (by omega) (by omega)]; omega, ← List.take_succ_eq_append_getElem hlt]
    exact hr
end Go.Proofs.Ythiiodgpdoljoaa.Bit
namespace Go.Proofs.Ythiiodgpdoljoaa.Bit
open Go Go.RowKit Go.Proofs.Ythiiodgpdoljoaa.PLw Go.Proofs.YthiiodgpdoljoaaW.PrintWords Go.Proofs.YthiiodgpdoljoaaW.PrintLast Go.Proofs.YthiiodgpdoljoaaW.PrintMore
set_option linter.unusedVariables false
set_option linter.unusedSimpArgs false
theorem two_at {n : Int} (h0 : 0 ≤ n) (h6 : n ≤ 6) (k : Nat) (hk : 9 ≤ k) : steepleref15_Two.f k n = some (p2 n) := by
  obtain ⟨m, rfl⟩ := Nat.exists_eq_add_of_le' hk
  exact two_p2 m h0 h6
/-- A column that is filled up to a row. -/
def part (R : Nat) (f : Nat → Int) (j : Nat) : List Int := (List.range j).map f ++ List.replicate (R - j) 0
theorem part_len (R : Nat) (f : Nat → Int) (j : Nat) (h : j ≤ R) : (part R f j).length = R := by simp [part]; omega
theorem part_set (R : Nat) (f : Nat → Int) (j : Nat) (h : j < R) : (part R f j).set j (f j) = part R f (j + 1) := by
  unfold part
  rw [List.set_append_right _ _ (by simp), List.length_map, List.length_range, Nat.sub_self, show R - j = (R - (j + 1)) + 1 from by omega, List.replicate_succ, List.set_cons_zero, List.range_succ, List.map_append, List.append_assoc]
  rfl
theorem part_all (R : Nat) (f : Nat → Int) : part R f R = (List.range R).map f := by simp [part]
theorem part_none (R : Nat) (f : Nat → Int) : part R f 0 = List.replicate R 0 := by simp [part]
theorem Cx.two {w R C : Nat} {rows cols : Int} (cx : Cx w R C rows cols) : R ≤ 64 ∧ C ≤ 64 ∧ (∀ k, 9 ≤ k → steepleref15_Two.f k rows = some (R : Int)) ∧ ∀ k, 9 ≤ k → steepleref15_Two.f k cols = some (C : Int) := by
  have ⟨hw, hr0, hr4, hc0, hc6, hR, hC⟩ := cx
  have h1 := p2_bound hr0 (show rows ≤ 6 by omega)
  have h2 := p2_bound hc0 hc6
  refine ⟨by omega, by omega, fun k hk => ?_, fun k hk => ?_⟩
  · rw [two_at hr0 (by omega) k hk, hR]
  · rw [two_at hc0 hc6 k hk, hC]
theorem rdL_left (base t : List (List Int)) (a : Int) (h0 : 0 ≤ a) (h : a < base.length) : rd_L4 (base ++ t) a = rd_L4 base a := by
  obtain ⟨n, rfl⟩ := Int.eq_ofNat_of_zero_le h0
  rw [rdL_nat _ n (by simp; omega), rdL_nat _ n (by omega), List.getElem_append_left (by omega)]
theorem rdL_mid (base t : List (List Int)) (P : List Int) : rd_L4 (base ++ P :: t) (base.length : Int) = P := by
  rw [rdL_nat _ _ (by simp)]; simp
theorem set_mid (base t : List (List Int)) (P Q : List Int) : (base ++ P :: t).set base.length Q = base ++ Q :: t := by simp
def tailC (w R : Nat) (g : S105) (all rest : List (List Int)) (j : Nat) : List (List Int) := if g.f0 = 7 then part R (atB w g all) j :: rest else rest
theorem stepD {a i d : Nat} (h : a - i = d + 1) : i < a ∧ a - (i + 1) = d ∧ i + 1 ≤ a := ⟨by omega, by omega, by omega⟩
theorem stepW {i n : Nat} (h : i < n) (hn : n ≤ 1000) : wrap64 ((i : Int) + 1) = ((i + 1 : Nat) : Int) ∧ (i : Int) < (n : Int) ∧ (0 : Int) ≤ (i : Int) := ⟨by rw [w64 (by omega) (by omega)]; omega, by omega, by omega⟩
theorem stepK {K c k : Nat} (h : K + (c + 1) ≤ k) : ∃ m, k = m + 1 ∧ K + c ≤ m := ⟨k - 1, by omega, by omega⟩
theorem lt_app {α : Type} {a : Int} (x y : List α) (h : a < (x.length : Int)) : a < ((x ++ y).length : Int) := by rw [List.length_append]; omega
theorem lt_mid {α : Type} (x t : List α) (p : α) : (x.length : Int) < ((x ++ p :: t).length : Int) := by simp; omega
theorem lt_len {α : Type} {j R : Nat} {l : List α} (hj : (j : Int) < (R : Int)) (h : l.length = R) : (j : Int) < (l.length : Int) := by rw [h]; exact hj
theorem new_nat (w R : Nat) (g : S105) (all : List (List Int)) (h8 : g.f0 ≠ 8) : (all ++ newC w R g all).length = all.length + (if g.f0 = 7 then 2 else 1) := by
  unfold newC
  by_cases h7 : g.f0 = 7
  · rw [if_pos h7, if_pos h7]; simp
  · rw [if_neg h7, if_neg h7]; simp
theorem makes_nat (g : S105) (h8 : g.f0 ≠ 8) : makes g.f0 = (((if g.f0 = 7 then 2 else 1) : Nat) : Int) := by
  unfold makes
  by_cases h7 : g.f0 = 7
  · rw [if_neg h8, if_pos h7, if_pos h7]; rfl
  · rw [if_neg h8, if_neg h7, if_neg h7]; rfl
theorem tail_open (w R C : Nat) (g : S105) (all : List (List Int)) (h8 : g.f0 ≠ 8) (hfn : (all.length : Int) + makes g.f0 ≤ (C : Int)) :
    all ++ List.replicate (C - all.length) (List.replicate R 0) = all ++ part R (atA w g all) 0 :: tailC w R g all (List.replicate (C - (all ++ newC w R g all).length) (List.replicate R 0)) 0 ∧ (all ++ newC w R g all).length ≤ C := by
  rw [makes_nat g h8] at hfn
  rw [new_nat w R g all h8]
  unfold tailC
  rw [part_none, part_none]
  by_cases h7 : g.f0 = 7
  · rw [if_pos h7] at hfn
    rw [if_pos h7, if_pos h7]
    refine ⟨?_, by omega⟩
    rw [show C - all.length = (C - (all.length + 2)) + 1 + 1 from by omega, List.replicate_succ, List.replicate_succ]
  · rw [if_neg h7] at hfn
    rw [if_neg h7, if_neg h7]
    refine ⟨?_, by omega⟩
    rw [show C - all.length = (C - (all.length + 1)) + 1 from by omega, List.replicate_succ]
end Go.Proofs.Ythiiodgpdoljoaa.Bit
namespace Go.Proofs.Ythiiodgpdoljoaa.Bit
open Go Go.RowKit Go.Proofs.Ythiiodgpdoljoaa.PLw Go.Proofs.YthiiodgpdoljoaaW.PrintWords Go.Proofs.YthiiodgpdoljoaaW.PrintLast Go.Proofs.YthiiodgpdoljoaaW.PrintMore
set_option linter.unusedVariables false
set_option linter.unusedSimpArgs false
theorem refLoopG (a0 a1 a2 a3 a4 : Int) (b0 b1 b2 b3 b4 : Int) (l : List S105) (hl : l.length ≤ 1000) (d : Nat) : ∀ (k i : Nat) (acc : List S106), l.length - i = d → i ≤ l.length → acc.length = i → d < k →
    steeplelaw25_Ref.l0 k (i : Int) a0 a1 a2 a3 a4 l b0 b1 b2 b3 b4 acc = some (b0, b1, b2, b3, b4, acc ++ (l.drop i).map toG) := by
  induction d with
  | zero =>
    intro k i acc hd hi ha hk
    obtain ⟨k, rfl⟩ : ∃ m, k = m + 1 := ⟨k - 1, by omega⟩
    simp only [steeplelaw25_Ref.l0]
    rw [if_neg (by omega), List.drop_of_length_le (by omega)]
    simp
  | succ d ih =>
    intro k i acc hd hi ha hk
    obtain ⟨k, rfl⟩ : ∃ m, k = m + 1 := ⟨k - 1, by omega⟩
    have hlt : i < l.length := by omega
    simp only [steeplelaw25_Ref.l0]
    rw [if_pos (by omega), if_pos (by omega), if_pos (by omega), rd105 l i hlt, w64 (by omega) (by omega)]
    rw [List.drop_eq_getElem_cons hlt]
    have := ih k (i + 1) (acc ++ [toG l[i]]) (by omega) (by omega) (by simp; omega) (by omega)
    have e : acc ++ List.map toG (l[i] :: List.drop (i + 1) l) = (acc ++ [toG l[i]]) ++ List.map toG (List.drop (i + 1) l) := by rw [List.map_cons, List.append_assoc]; rfl
    rw [e]
    exact this
theorem refG (k : Nat) (a0 a1 a2 a3 a4 : Int) (l : List S105) (hl : l.length ≤ 1000) (hk : l.length < k) : steeplelaw25_Ref.f k a0 a1 a2 a3 a4 l = some (a0, a1, a2, a3, a4, l.map toG) := by
  unfold steeplelaw25_Ref.f
  have := refLoopG a0 a1 a2 a3 a4 a0 a1 a2 a3 a4 l hl l.length k 0 [] (by omega) (by omega) rfl hk
  simpa using this
theorem checkSpec (m : Nat) (wide rows cols pub priv : Int) (l : List S105) : circuit_Check.f (m + 60) wide rows cols pub priv l = some (lookS wide rows cols pub priv l).2 := by
  unfold circuit_Check.f; rw [lookSpec]; rfl
theorem lookS_cases {wide rows cols pub priv : Int} {l : List S105} (h : (lookS wide rows cols pub priv l).2 = 0) :
    0 ≤ wide ∧ wide ≤ 5 ∧ 0 ≤ rows ∧ rows ≤ 4 ∧ 0 ≤ cols ∧ cols ≤ 6 ∧ 0 ≤ pub ∧ 0 ≤ priv ∧ pub + priv ≤ p2 cols ∧ l.length ≤ 30 ∧ lookS wide rows cols pub priv l = walk wide cols l (pub + priv) := by
  unfold lookS at h ⊢
  by_cases h1 : wide < 0 ∨ 5 < wide ∨ rows < 0 ∨ 4 < rows ∨ cols < 0 ∨ 6 < cols
  · rw [if_pos h1] at h; cases h
  · by_cases h2 : pub < 0 ∨ priv < 0 ∨ p2 cols < pub ∨ p2 cols - pub < priv
    · rw [if_neg h1, if_pos h2] at h; cases h
    · by_cases h3 : 30 < l.length
      · rw [if_neg h1, if_neg h2, if_pos h3] at h; cases h
      · rw [if_neg h1, if_neg h2, if_neg h3]
        refine ⟨by omega, by omega, by omega, by omega, by omega, by omega, by omega, by omega, by omega, by omega, rfl⟩
end Go.Proofs.Ythiiodgpdoljoaa.Bit
namespace Go.Proofs.Ythiiodgpdoljoaa.Bit
open Go Go.RowKit Go.Proofs.Ythiiodgpdoljoaa.PLw Go.Proofs.YthiiodgpdoljoaaW.PrintWords Go.Proofs.YthiiodgpdoljoaaW.PrintLast Go.Proofs.YthiiodgpdoljoaaW.PrintMore
set_option linter.unusedVariables false
set_option linter.unusedSimpArgs false
/-- The words of columns are words of 64 bits. -/
def W64 (l : List (List Int)) : Prop := ∀ c ∈ l, ∀ x ∈ c, 0 ≤ x ∧ x < 2 ^ 64
def Lens (n m : Nat) (l : List (List Int)) : Prop := l.length ≤ n ∧ ∀ c ∈ l, c.length ≤ m
def mostI (w : Nat) : Int := 2 ^ (2 ^ w) - 1
theorem most_val (w : Nat) (hw : w ≤ 5) : witness_most0.f (w : Int) = some (mostI w) := by
  unfold witness_most0.f mostI
  rw [if_pos (by omega), Int.toNat_natCast]
section
variable {w R C : Nat} {rows cols : Int}
theorem fits_prog (cx : Cx w R C rows cols) (pub priv : Int) (l : List S105) (given : List (List Int)) (hL : Lens 1000 1000 given) (many : Int) :
    witness_fits.f (w : Int) rows cols pub priv l given many = some (fitsF rows (mostI w) given many) := by
  unfold witness_fits.f
  rw [if_pos ⟨cx.hr0, cx.hr4, Nat.le_trans hL.1 (by decide)⟩, most_val w cx.hw]
  rfl
/-- Columns that fit are good ones. -/
theorem fits_good (cx : Cx w R C rows cols) (given : List (List Int)) (hW : W64 given) (many : Int) (h : fitsF rows (mostI w) given many = 0) : (given.length : Int) = many ∧ Good w R given := by
  unfold fitsF at h
  by_cases h1 : (given.length : Int) ≠ many
  · rw [if_pos h1] at h; exact absurd h (by decide)
  rw [if_neg h1] at h
  by_cases h2 : given.all (colLen rows) = false
  · rw [if_pos h2] at h; exact absurd h (by decide)
  rw [if_neg h2] at h
  by_cases h3 : given.any (colBig (mostI w)) = true
  · rw [if_pos h3] at h; exact absurd h (by decide)
  refine ⟨Decidable.of_not_not h1, fun c hc => ⟨?_, fun x hx => ⟨(hW c hc x hx).1, ?_⟩⟩⟩
  · have := List.all_eq_true.mp (Bool.not_eq_false _ ▸ h2 : given.all (colLen rows) = true) c hc
    have h5 := of_decide_eq_true this
    have h6 := cx.hR
    unfold p2 at h6
    rw [h6] at h5
    exact Int.ofNat.inj h5
  · have h4 : given.any (colBig (mostI w)) = false := Bool.eq_false_iff.mpr h3
    have h5 := List.any_eq_false.mp h4 c hc
    have h6 := List.any_eq_false.mp (Bool.eq_false_iff.mpr h5) x hx
    have h7 : ¬ mostI w < x := fun h => h6 (decide_eq_true h)
    have e : mostI w = ((2 ^ 2 ^ w : Nat) : Int) - 1 := by unfold mostI; push_cast; rfl
    rw [e] at h7
    omega
end
end Go.Proofs.Ythiiodgpdoljoaa.Bit
namespace Go.Proofs.Ythiiodgpdoljoaa.PLw
open Go.RowKit Go.Proofs.YthiiodgpdoljoaaW.PrintWords Go.Proofs.YthiiodgpdoljoaaW.PrintLast Go.Proofs.YthiiodgpdoljoaaW.PrintMore
attribute [local go_sem] max2_int min2_int max_two min_two max_three min_three max_four min_four   -- for this text's walks alone
set_option linter.unusedVariables false
set_option linter.unusedSimpArgs false
/-! ### steeplelaw27_Few: function 25 -/
def steeplelaw27_Few.f (k : Nat) (a0_0 : Int) (a0_1 : Int) (a0_2 : Int) (a0_3 : Int) (a0_4 : Int) (l0_5 : List (S105)) : Option (Bool) := if (l0_5.length : Int) > 12 then (if (l0_5.length : Int) > 30 then (some (decide ((l0_5.length : Int) ≤ 40))) else (some false)) else ((steeplelaw25_Ref.f k a0_0 a0_1 a0_2 a0_3 a0_4 l0_5).bind fun bt129 => ((steepleref25_Check.f k bt129.1 bt129.2.1 bt129.2.2.1 bt129.2.2.2.1 bt129.2.2.2.2.1 bt129.2.2.2.2.2).bind fun t137 => (if t137 = 0 then (if a0_1 ≤ 2 then (some (decide (a0_2 ≤ 5))) else (some false)) else (some true))))
theorem steeplelaw27_Few.mono : ∀ a0 a1 a2 a3 a4 a5 k, LeO (steeplelaw27_Few.f k a0 a1 a2 a3 a4 a5) (steeplelaw27_Few.f (k + 1) a0 a1 a2 a3 a4 a5) := by
 intro a0 a1 a2 a3 a4 a5 k
 unfold steeplelaw27_Few.f
 repeat' first
   | (with_reducible exact steeplelaw25_Ref.mono _ _ _ _ _ _ _)
   | (with_reducible exact steepleref25_Check.mono _ _ _ _ _ _ _)
   | (with_reducible exact LeO.refl _)
   | (with_reducible exact LeO.none _)
   | (with_reducible refine LeO.ite ?_ ?_)
   | (with_reducible refine LeO.bind ?_ (fun _ => ?_))
   | exact steeplelaw25_Ref.mono _ _ _ _ _ _ _
   | exact steepleref25_Check.mono _ _ _ _ _ _ _
   | exact LeO.none _
   | refine LeO.ite ?_ ?_
   | refine LeO.bind ?_ (fun _ => ?_)
set_option maxHeartbeats 8000000 in
set_option maxRecDepth 100000 in
theorem steeplelaw27_Few.calls (k : Nat) (a0_0 : Int) (a0_1 : Int) (a0_2 : Int) (a0_3 : Int) (a0_4 : Int) (A0_5 : Option Addr) (c0_5 : Nat) (l0_5 : List (S105)) (r : Bool) (w : World) (hr0_5 : Kd.C k105 w A0_5 l0_5.length l0_5) (hc0_5 : l0_5.length ≤ c0_5) (h : steeplelaw27_Few.f k a0_0 a0_1 a0_2 a0_3 a0_4 l0_5 = some r) :
  Calls Try.prog 25 #[.agg #[.int .i64 a0_0, .int .i64 a0_1, .int .i64 a0_2, .int .i64 a0_3, .int .i64 a0_4, .slice A0_5 l0_5.length c0_5]] w fun e w' => e = .returned (.bool r) ∧ Below w.heap.size w w' := by
 have hu24 := Try.underlying24; have HR0_5 := Aside0.mk hr0_5; have HC0_5 := Aside0.mk hc0_5; clear hr0_5 hc0_5; have HB := Aside0.mk (Below.refl w.heap.size w)
 have H : (if (l0_5.length : Int) > 12 then (if (l0_5.length : Int) > 30 then (some (decide ((l0_5.length : Int) ≤ 40))) else (some false)) else ((steeplelaw25_Ref.f k a0_0 a0_1 a0_2 a0_3 a0_4 l0_5).bind fun bt129 => ((steepleref25_Check.f k bt129.1 bt129.2.1 bt129.2.2.1 bt129.2.2.2.1 bt129.2.2.2.2.1 bt129.2.2.2.2.2).bind fun t137 => (if t137 = 0 then (if a0_1 ≤ 2 then (some (decide (a0_2 ≤ 5))) else (some false)) else (some true))))) = some r := h
 clear h
 by_cases c2 : (l0_5.length : Int) > 12
 ·rw [if_pos c2] at H
  have c2b0 : decide (12 < (l0_5.length : Int)) = true := decide_eq_true c2
  have c2b1 : decide (12 < l0_5.length) = true := decide_eq_true (by omega)
  clear c2
  by_cases c3 : (l0_5.length : Int) > 30
  ·rw [if_pos c3] at H
   have c3b0 : decide (30 < (l0_5.length : Int)) = true := decide_eq_true c3
   have c3b1 : decide (30 < l0_5.length) = true := decide_eq_true (by omega)
   clear c3; obtain rfl := Option.some.inj H
   go_enter Try.func25, Try.ntmps25
   go_wp2_with (first | ((with_reducible refine gate_dst (N := 1) rfl ?_); (try (refine gate_guard (by rfl) ?_; dsimp only)); refine box_event ?hg (N := 1) ?hd (cs := #[.int .i64 a0_0, .int .i64 a0_1, .int .i64 a0_2, .int .i64 a0_3, .int .i64 a0_4, .slice A0_5 l0_5.length c0_5]) (t := 24) ?hr ?_; (case hd => rfl); (case hg => rfl); (case hr => first | (go_simp; done) | (go_simp; rfl)); intro gb128 hg w4 hbox hb; have n0_ := Aside0.mk (below_step (blA HB.out) hb); have n1_ := Aside0.mk (hbox); have n2_ := Aside0.mk ((by rw [hg]; exact (below_size (blA HB.out)) : w.heap.size ≤ gb128)); have n3_ := Aside0.mk ((by rw [hg]; exact (below_size (blA HB.out)) : w.heap.size ≤ gb128)); clear HB; have HB := n0_; have BK128 := n1_; have GW128 := n2_; have GE128 := n3_; clear n0_ n1_ n2_ n3_; clear hb hbox hg; have hcz5 := fun i => blk_cell BK128.out i; have hfz5 := fun i => blk_frozen BK128.out i; ))
   go_ret
   exact ⟨by first | rfl | (simp [errW_none, errW_some] <;> rfl) | (simp [*, errW_none, errW_some] <;> rfl), blA HB.out⟩
  ·rw [if_neg c3] at H
   have c3b0 : decide (30 < (l0_5.length : Int)) = false := decide_eq_false c3
   have c3b1 : decide (30 < l0_5.length) = false := decide_eq_false (by omega)
   clear c3; obtain rfl := Option.some.inj H
   go_enter Try.func25, Try.ntmps25
   go_wp2_with (first | ((with_reducible refine gate_dst (N := 1) rfl ?_); (try (refine gate_guard (by rfl) ?_; dsimp only)); refine box_event ?hg (N := 1) ?hd (cs := #[.int .i64 a0_0, .int .i64 a0_1, .int .i64 a0_2, .int .i64 a0_3, .int .i64 a0_4, .slice A0_5 l0_5.length c0_5]) (t := 24) ?hr ?_; (case hd => rfl); (case hg => rfl); (case hr => first | (go_simp; done) | (go_simp; rfl)); intro gb128 hg w6 hbox hb; have n0_ := Aside0.mk (below_step (blA HB.out) hb); have n1_ := Aside0.mk (hbox); have n2_ := Aside0.mk ((by rw [hg]; exact (below_size (blA HB.out)) : w.heap.size ≤ gb128)); have n3_ := Aside0.mk ((by rw [hg]; exact (below_size (blA HB.out)) : w.heap.size ≤ gb128)); clear HB; have HB := n0_; have BK128 := n1_; have GW128 := n2_; have GE128 := n3_; clear n0_ n1_ n2_ n3_; clear hb hbox hg; have hcz7 := fun i => blk_cell BK128.out i; have hfz7 := fun i => blk_frozen BK128.out i; ))
   go_ret
   exact ⟨by first | rfl | (simp [errW_none, errW_some] <;> rfl) | (simp [*, errW_none, errW_some] <;> rfl), blA HB.out⟩
 ·rw [if_neg c2] at H
  have c2b0 : decide (12 < (l0_5.length : Int)) = false := decide_eq_false c2
  have c2b1 : decide (12 < l0_5.length) = false := decide_eq_false (by omega)
  clear c2; replace H := Option.bind_eq_some_iff.mp H
  obtain ⟨⟨t129, t130, t131, t132, t133, t134⟩, A80, H⟩ := H
  (try dsimp only at H)
  have A8 := Aside0.mk A80; clear A80; replace H := Option.bind_eq_some_iff.mp H; obtain ⟨t137, A90, H⟩ := H
  (try dsimp only at H)
  have A9 := Aside0.mk A90; clear A90
  by_cases c10 : t137 = 0
  ·rw [if_pos c10] at H
   have c10b0 : (t137 == 0) = true := beq_iff_eq.mpr c10; have c10b1 : (t137 != 0) = false := bne_eq_false_iff_eq.mpr c10; clear c10
   by_cases c11 : a0_1 ≤ 2
   ·rw [if_pos c11] at H
    have c11b0 : decide (a0_1 ≤ 2) = true := decide_eq_true c11; clear c11; obtain rfl := Option.some.inj H
    go_enter Try.func25, Try.ntmps25
    go_wp2_with (first | ((with_reducible refine gate_dst (N := 1) rfl ?_); (try (refine gate_guard (by rfl) ?_; dsimp only)); refine box_event ?hg (N := 1) ?hd (cs := #[.int .i64 a0_0, .int .i64 a0_1, .int .i64 a0_2, .int .i64 a0_3, .int .i64 a0_4, .slice A0_5 l0_5.length c0_5]) (t := 24) ?hr ?_; (case hd => rfl); (case hg => rfl); (case hr => first | (go_simp; done) | (go_simp; rfl)); intro gb128 hg w12 hbox hb; have n0_ := Aside0.mk (below_step (blA HB.out) hb); have n1_ := Aside0.mk (hbox); have n2_ := Aside0.mk ((by rw [hg]; exact (below_size (blA HB.out)) : w.heap.size ≤ gb128)); have n3_ := Aside0.mk ((by rw [hg]; exact (below_size (blA HB.out)) : w.heap.size ≤ gb128)); clear HB; have HB := n0_; have BK128 := n1_; have GW128 := n2_; have GE128 := n3_; clear n0_ n1_ n2_ n3_; clear hb hbox hg; have hcz13 := fun i => blk_cell BK128.out i; have hfz13 := fun i => blk_frozen BK128.out i; ) | ((with_reducible refine gate_callee (f := 13) rfl ?_); refine goesL_ (some 18) rfl rfl Try.func13 (by kernel_rfl) rfl #[.agg #[.int .i64 a0_0, .int .i64 a0_1, .int .i64 a0_2, .int .i64 a0_3, .int .i64 a0_4, .slice A0_5 l0_5.length c0_5]] rfl gsA ?_; (with_reducible refine (steeplelaw25_Ref.calls k a0_0 a0_1 a0_2 a0_3 a0_4 _ _ l0_5 t129 t130 t131 t132 t133 t134 _ ?side1 ?side2 A8.out).mono ?_); (case side1 => repeat (first | exact (Kd.C_below HR0_5.out HB.out) | (with_reducible refine Kd.C_alloc ?_ _) | (with_reducible refine Kd.C_drewN ?_ _) | (with_reducible refine Kd.C_drew ?_))); (case side2 => exact HC0_5.out); rintro e w14 ⟨v135, rfl, ho0, hb⟩; refine ⟨_, rfl, ?_⟩; have n0_ := Aside0.mk (Kd.R_lower ho0 (below_size (blA HB.out))); have n1_ := Aside0.mk (blk_below (bkA BK128.out) hb); have n2_ := Aside0.mk (below_step (blA HB.out) hb); clear BK128; clear HB; have HO136 := n0_; have BK128 := n1_; have HB := n2_; clear n0_ n1_ n2_; (try clear hb); (try clear ho0); obtain ⟨Ao15, co15, eo15⟩ := Kd.R_slice HO136.out; subst eo15) | ((with_reducible refine gate_callee (f := 16) rfl ?_); refine goesL_ (some 19) rfl rfl Try.func16 (by kernel_rfl) rfl #[.agg #[.int .i64 t129, .int .i64 t130, .int .i64 t131, .int .i64 t132, .int .i64 t133, .slice Ao15 t134.length co15]] rfl gsA ?_; (with_reducible refine (steepleref25_Check.calls k t129 t130 t131 t132 t133 _ _ t134 t137 _ ?side1 ?side2 A9.out).mono ?_); (case side1 => repeat (first | exact (Kd.R_reads' HO136.out).2.2 | (with_reducible refine Kd.C_alloc ?_ _) | (with_reducible refine Kd.C_drewN ?_ _) | (with_reducible refine Kd.C_drew ?_))); (case side2 => exact (Kd.R_reads' HO136.out).2.1); rintro e w16 ⟨rfl, hb⟩; refine ⟨_, rfl, ?_⟩; have n0_ := Aside0.mk (Kd.R_below (raA HO136.out) hb); have n1_ := Aside0.mk (blk_below (bkA BK128.out) hb); have n2_ := Aside0.mk (below_step (blA HB.out) hb); clear HO136; clear BK128; clear HB; have HO136 := n0_; have BK128 := n1_; have HB := n2_; clear n0_ n1_ n2_; (try clear hb); have hcz17 := fun i => blk_cell BK128.out i; have hfz17 := fun i => blk_frozen BK128.out i; ))
    go_ret
    exact ⟨by first | rfl | (simp [errW_none, errW_some] <;> rfl) | (simp [*, errW_none, errW_some] <;> rfl), blA HB.out⟩
   ·rw [if_neg c11] at H
    have c11b0 : decide (a0_1 ≤ 2) = false := decide_eq_false c11; clear c11; obtain rfl := Option.some.inj H
    go_enter Try.func25, Try.ntmps25
    go_wp2_with (first | ((with_reducible refine gate_dst (N := 1) rfl ?_); (try (refine gate_guard (by rfl) ?_; dsimp only)); refine box_event ?hg (N := 1) ?hd (cs := #[.int .i64 a0_0, .int .i64 a0_1, .int .i64 a0_2, .int .i64 a0_3, .int .i64 a0_4, .slice A0_5 l0_5.length c0_5]) (t := 24) ?hr ?_; (case hd => rfl); (case hg => rfl); (case hr => first | (go_simp; done) | (go_simp; rfl)); intro gb128 hg w18 hbox hb; have n0_ := Aside0.mk (below_step (blA HB.out) hb); have n1_ := Aside0.mk (hbox); have n2_ := Aside0.mk ((by rw [hg]; exact (below_size (blA HB.out)) : w.heap.size ≤ gb128)); have n3_ := Aside0.mk ((by rw [hg]; exact (below_size (blA HB.out)) : w.heap.size ≤ gb128)); clear HB; have HB := n0_; have BK128 := n1_; have GW128 := n2_; have GE128 := n3_; clear n0_ n1_ n2_ n3_; clear hb hbox hg; have hcz19 := fun i => blk_cell BK128.out i; have hfz19 := fun i => blk_frozen BK128.out i; ) | ((with_reducible refine gate_callee (f := 13) rfl ?_); refine goesL_ (some 18) rfl rfl Try.func13 (by kernel_rfl) rfl #[.agg #[.int .i64 a0_0, .int .i64 a0_1, .int .i64 a0_2, .int .i64 a0_3, .int .i64 a0_4, .slice A0_5 l0_5.length c0_5]] rfl gsA ?_; (with_reducible refine (steeplelaw25_Ref.calls k a0_0 a0_1 a0_2 a0_3 a0_4 _ _ l0_5 t129 t130 t131 t132 t133 t134 _ ?side1 ?side2 A8.out).mono ?_); (case side1 => repeat (first | exact (Kd.C_below HR0_5.out HB.out) | (with_reducible refine Kd.C_alloc ?_ _) | (with_reducible refine Kd.C_drewN ?_ _) | (with_reducible refine Kd.C_drew ?_))); (case side2 => exact HC0_5.out); rintro e w20 ⟨v135, rfl, ho0, hb⟩; refine ⟨_, rfl, ?_⟩; have n0_ := Aside0.mk (Kd.R_lower ho0 (below_size (blA HB.out))); have n1_ := Aside0.mk (blk_below (bkA BK128.out) hb); have n2_ := Aside0.mk (below_step (blA HB.out) hb); clear BK128; clear HB; have HO136 := n0_; have BK128 := n1_; have HB := n2_; clear n0_ n1_ n2_; (try clear hb); (try clear ho0); obtain ⟨Ao21, co21, eo21⟩ := Kd.R_slice HO136.out; subst eo21) | ((with_reducible refine gate_callee (f := 16) rfl ?_); refine goesL_ (some 19) rfl rfl Try.func16 (by kernel_rfl) rfl #[.agg #[.int .i64 t129, .int .i64 t130, .int .i64 t131, .int .i64 t132, .int .i64 t133, .slice Ao21 t134.length co21]] rfl gsA ?_; (with_reducible refine (steepleref25_Check.calls k t129 t130 t131 t132 t133 _ _ t134 t137 _ ?side1 ?side2 A9.out).mono ?_); (case side1 => repeat (first | exact (Kd.R_reads' HO136.out).2.2 | (with_reducible refine Kd.C_alloc ?_ _) | (with_reducible refine Kd.C_drewN ?_ _) | (with_reducible refine Kd.C_drew ?_))); (case side2 => exact (Kd.R_reads' HO136.out).2.1); rintro e w22 ⟨rfl, hb⟩; refine ⟨_, rfl, ?_⟩; have n0_ := Aside0.mk (Kd.R_below (raA HO136.out) hb); have n1_ := Aside0.mk (blk_below (bkA BK128.out) hb); have n2_ := Aside0.mk (below_step (blA HB.out) hb); clear HO136; clear BK128; clear HB; have HO136 := n0_; have BK128 := n1_; have HB := n2_; clear n0_ n1_ n2_; (try clear hb); have hcz23 := fun i => blk_cell BK128.out i; have hfz23 := fun i => blk_frozen BK128.out i; ))
    go_ret
    exact ⟨by first | rfl | (simp [errW_none, errW_some] <;> rfl) | (simp [*, errW_none, errW_some] <;> rfl), blA HB.out⟩
  ·rw [if_neg c10] at H
   have c10b0 : (t137 == 0) = false := beq_eq_false_iff_ne.mpr c10; have c10b1 : (t137 != 0) = true := bne_iff_ne.mpr c10; obtain rfl := Option.some.inj H
   go_enter Try.func25, Try.ntmps25
   go_wp2_with (first | ((with_reducible refine gate_dst (N := 1) rfl ?_); (try (refine gate_guard (by rfl) ?_; dsimp only)); refine box_event ?hg (N := 1) ?hd (cs := #[.int .i64 a0_0, .int .i64 a0_1, .int .i64 a0_2, .int .i64 a0_3, .int .i64 a0_4, .slice A0_5 l0_5.length c0_5]) (t := 24) ?hr ?_; (case hd => rfl); (case hg => rfl); (case hr => first | (go_simp; done) | (go_simp; rfl)); intro gb128 hg w24 hbox hb; have n0_ := Aside0.mk (below_step (blA HB.out) hb); have n1_ := Aside0.mk (hbox); have n2_ := Aside0.mk ((by rw [hg]; exact (below_size (blA HB.out)) : w.heap.size ≤ gb128)); have n3_ := Aside0.mk ((by rw [hg]; exact (below_size (blA HB.out)) : w.heap.size ≤ gb128)); clear HB; have HB := n0_; have BK128 := n1_; have GW128 := n2_; have GE128 := n3_; clear n0_ n1_ n2_ n3_; clear hb hbox hg; have hcz25 := fun i => blk_cell BK128.out i; have hfz25 := fun i => blk_frozen BK128.out i; ) | ((with_reducible refine gate_callee (f := 13) rfl ?_); refine goesL_ (some 18) rfl rfl Try.func13 (by kernel_rfl) rfl #[.agg #[.int .i64 a0_0, .int .i64 a0_1, .int .i64 a0_2, .int .i64 a0_3, .int .i64 a0_4, .slice A0_5 l0_5.length c0_5]] rfl gsA ?_; (with_reducible refine (steeplelaw25_Ref.calls k a0_0 a0_1 a0_2 a0_3 a0_4 _ _ l0_5 t129 t130 t131 t132 t133 t134 _ ?side1 ?side2 A8.out).mono ?_); (case side1 => repeat (first | exact (Kd.C_below HR0_5.out HB.out) | (with_reducible refine Kd.C_alloc ?_ _) | (with_reducible refine Kd.C_drewN ?_ _) | (with_reducible refine Kd.C_drew ?_))); (case side2 => exact HC0_5.out); rintro e w26 ⟨v135, rfl, ho0, hb⟩; refine ⟨_, rfl, ?_⟩; have n0_ := Aside0.mk (Kd.R_lower ho0 (below_size (blA HB.out))); have n1_ := Aside0.mk (blk_below (bkA BK128.out) hb); have n2_ := Aside0.mk (below_step (blA HB.out) hb); clear BK128; clear HB; have HO136 := n0_; have BK128 := n1_; have HB := n2_; clear n0_ n1_ n2_; (try clear hb); (try clear ho0); obtain ⟨Ao27, co27, eo27⟩ := Kd.R_slice HO136.out; subst eo27) | ((with_reducible refine gate_callee (f := 16) rfl ?_); refine goesL_ (some 19) rfl rfl Try.func16 (by kernel_rfl) rfl #[.agg #[.int .i64 t129, .int .i64 t130, .int .i64 t131, .int .i64 t132, .int .i64 t133, .slice Ao27 t134.length co27]] rfl gsA ?_; (with_reducible refine (steepleref25_Check.calls k t129 t130 t131 t132 t133 _ _ t134 t137 _ ?side1 ?side2 A9.out).mono ?_); (case side1 => repeat (first | exact (Kd.R_reads' HO136.out).2.2 | (with_reducible refine Kd.C_alloc ?_ _) | (with_reducible refine Kd.C_drewN ?_ _) | (with_reducible refine Kd.C_drew ?_))); (case side2 => exact (Kd.R_reads' HO136.out).2.1); rintro e w28 ⟨rfl, hb⟩; refine ⟨_, rfl, ?_⟩; have n0_ := Aside0.mk (Kd.R_below (raA HO136.out) hb); have n1_ := Aside0.mk (blk_below (bkA BK128.out) hb); have n2_ := Aside0.mk (below_step (blA HB.out) hb); clear HO136; clear BK128; clear HB; have HO136 := n0_; have BK128 := n1_; have HB := n2_; clear n0_ n1_ n2_; (try clear hb)))
   go_ret
   exact ⟨by first | rfl | (simp [errW_none, errW_some] <;> rfl) | (simp [*, errW_none, errW_some] <;> rfl), blA HB.out⟩
/-! ### steeplelaw27_words: function 26 -/
def steeplelaw27_words.l0 : Nat → List (List Int) → Int → Int → Option (Bool)
 | 0, _, _, _ => none
 | k + 1, x0, x2, x7 => if x7 < (x0.length : Int) then (if 0 ≤ x7 then (if ((rd_L4 x0 x7).length : Int) > x2 then (some false) else (steeplelaw27_words.l0 k x0 x2 (wrap64 (x7 + 1)))) else (none)) else (some true)
def steeplelaw27_words.f (k : Nat) (l0 : List (List Int)) (a1 : Int) (a2 : Int) : Option (Bool) := if (l0.length : Int) > a1 then (some false) else (steeplelaw27_words.l0 k l0 a2 0)
theorem steeplelaw27_words.mono_l : ∀ k, (∀ y0 y1 y2, LeO (steeplelaw27_words.l0 k y0 y1 y2) (steeplelaw27_words.l0 (k + 1) y0 y1 y2))
 | 0 => fun _ _ _ r h => by simp [steeplelaw27_words.l0] at h
 | k + 1 => by
  have ih0 := steeplelaw27_words.mono_l k
  ·intro y0 y1 y2
   unfold steeplelaw27_words.l0
   repeat' first
   | (with_reducible exact ih0 _ _ _)
   | (with_reducible exact LeO.refl _)
   | (with_reducible exact LeO.none _)
   | (with_reducible refine LeO.ite ?_ ?_)
   | (with_reducible refine LeO.bind ?_ (fun _ => ?_))
   | exact ih0 _ _ _
   | exact LeO.none _
   | refine LeO.ite ?_ ?_
   | refine LeO.bind ?_ (fun _ => ?_)
theorem steeplelaw27_words.mono : ∀ a0 a1 a2 k, LeO (steeplelaw27_words.f k a0 a1 a2) (steeplelaw27_words.f (k + 1) a0 a1 a2) := by
 intro a0 a1 a2 k
 have ih0 := steeplelaw27_words.mono_l k
 unfold steeplelaw27_words.f
 repeat' first
   | (with_reducible exact ih0 _ _ _)
   | (with_reducible exact LeO.refl _)
   | (with_reducible exact LeO.none _)
   | (with_reducible refine LeO.ite ?_ ?_)
   | (with_reducible refine LeO.bind ?_ (fun _ => ?_))
   | exact ih0 _ _ _
   | exact LeO.none _
   | refine LeO.ite ?_ ?_
   | refine LeO.bind ?_ (fun _ => ?_)
set_option maxHeartbeats 8000000 in
set_option maxRecDepth 100000 in
theorem steeplelaw27_words.calls (k : Nat) (A0 : Option Addr) (c0 : Nat) (l0 : List (List Int)) (a1 : Int) (a2 : Int) (r : Bool) (w : World) (hr0 : Kd.C (Kd.slice 43 (Kd.int .u64)) w A0 l0.length l0) (hc0 : l0.length ≤ c0) (h : steeplelaw27_words.f k l0 a1 a2 = some r) :
  Calls Try.prog 26 #[.slice A0 l0.length c0, .int .i64 a1, .int .i64 a2] w fun e w' => e = .returned (.bool r) ∧ Drawn0 w w' := by
 have HR0 := Aside0.mk hr0; have HC0 := Aside0.mk hc0; clear hr0 hc0
 have H : (if (l0.length : Int) > a1 then (some false) else (steeplelaw27_words.l0 k l0 a2 0)) = some r := h
 clear h
 by_cases c4 : (l0.length : Int) > a1
 ·rw [if_pos c4] at H
  have c4b0 : decide (a1 < (l0.length : Int)) = true := decide_eq_true c4; clear c4; obtain rfl := Option.some.inj H
  go_enter Try.func26, Try.ntmps26
  go_wp2
  go_ret
  exact ⟨eqA, dwA⟩
 ·rw [if_neg c4] at H
  have c4b0 : decide (a1 < (l0.length : Int)) = false := decide_eq_false c4; clear c4; have H' := Aside0.mk H; clear H
  go_enter Try.func26, Try.ntmps26
  go_wp2
  go_loopg [7] k (fun kq v7 w' => ∃ (x7_1 : Int), v7 = .int .i64 x7_1 ∧ Aside0 (steeplelaw27_words.l0 kq l0 a2 x7_1 = some r) ∧ Aside0 (kq ≤ k) ∧ Drawn0 w w')
  case atStart => exact ⟨(0), eqA, H', ⟨Nat.le_refl _⟩, dwA⟩
  case round =>
   clear H'; (try clear c2); (try clear p2); (try clear c4); (try clear c4b0)
   obtain ⟨x7_1, rfl, HA, HK1, ⟨m1, rfl⟩⟩ := hrel
   cases gk with
   | zero => exact absurd HA.out (by simp [steeplelaw27_words.l0])
   | succ k1 =>
    have H := HA.out; clear HA
    simp only [steeplelaw27_words.l0] at H
    by_cases c5 : x7_1 < (l0.length : Int)
    ·rw [if_pos c5] at H
     have c5b0 : decide (x7_1 < (l0.length : Int)) = true := decide_eq_true c5; clear c5
     by_cases c6 : 0 ≤ x7_1
     ·rw [if_pos c6] at H
      have c6b0 : decide (0 ≤ x7_1) = true := decide_eq_true c6; clear c6
      by_cases c7 : ((rd_L4 l0 x7_1).length : Int) > a2
      ·rw [if_pos c7] at H
       have c7b0 : decide (a2 < ((rd_L4 l0 x7_1).length : Int)) = true := decide_eq_true c7; clear c7; obtain rfl := Option.some.inj H
       have p138 : 0 ≤ (x7_1 : Int) := of_decide_eq_true (by first | (with_reducible assumption) | assumption)
       have q138 : x7_1 < (l0.length : Int) := of_decide_eq_true (by first | (with_reducible assumption) | assumption)
       obtain ⟨ad138, A138_0, c138_0, e138, hx138_0, hl138_0, hi138_0⟩ := at_L4 HR0.out x7_1 p138 q138
       cases e138
       have HR138_0 := Aside0.mk hi138_0; have HC138_0 := Aside0.mk hl138_0; clear hi138_0 hl138_0; replace p138 := eq_true p138; replace q138 := eq_true q138
       go_wp2
       go_ret
       exact ⟨eqA, dwA⟩
      ·rw [if_neg c7] at H
       have c7b0 : decide (a2 < ((rd_L4 l0 x7_1).length : Int)) = false := decide_eq_false c7; clear c7; have H' := Aside0.mk H; clear H
       have p138 : 0 ≤ (x7_1 : Int) := of_decide_eq_true (by first | (with_reducible assumption) | assumption)
       have q138 : x7_1 < (l0.length : Int) := of_decide_eq_true (by first | (with_reducible assumption) | assumption)
       obtain ⟨ad138, A138_0, c138_0, e138, hx138_0, hl138_0, hi138_0⟩ := at_L4 HR0.out x7_1 p138 q138
       cases e138
       have HR138_0 := Aside0.mk hi138_0; have HC138_0 := Aside0.mk hl138_0; clear hi138_0 hl138_0; replace p138 := eq_true p138; replace q138 := eq_true q138
       go_wp2
       go_roundg k1
       case measure => have := HK1.out; omega
       case rel => exact ⟨(wrap64 (x7_1 + 1)), eqA, H', ⟨by have := HK1.out; omega⟩, dwA⟩
     ·rw [if_neg c6] at H
      exact absurd H (by simp)
    ·rw [if_neg c5] at H
     have c5b0 : decide (x7_1 < (l0.length : Int)) = false := decide_eq_false c5; clear c5; obtain rfl := Option.some.inj H
     go_wp2
     go_ret
     exact ⟨eqA, dwA⟩
end Go.Proofs.Ythiiodgpdoljoaa.PLw
namespace Go.Proofs.Ythiiodgpdoljoaa.PLw
open Go.RowKit Go.Proofs.YthiiodgpdoljoaaW.PrintWords Go.Proofs.YthiiodgpdoljoaaW.PrintLast Go.Proofs.YthiiodgpdoljoaaW.PrintMore
attribute [local go_sem] max2_int min2_int max_two min_two max_three min_three max_four min_four   -- for this text's walks alone
set_option linter.unusedVariables false
set_option linter.unusedSimpArgs false
/-! ### steeplelaw27_awake: function 27 -/
def steeplelaw27_awake.j0 : Nat → Bool → Option (Bool)
 | 0, _ => none
 | k + 1, x0 => some x0
def steeplelaw27_awake.f (k : Nat)  : Option (Bool) := (witness_Run.f k 2 0 2 0 2 (([(⟨7, 2, 0, 1, 3⟩ : S105)] : List (S105))) (([(([9] : List Int)), (([8] : List Int))] : List (List Int)))).bind fun bt217 => (if bt217.2 = 0 then (if (bt217.1.length : Int) = 4 then (if 3 < (bt217.1.length : Int) then (if ((rd_L4 bt217.1 3).length : Int) = 1 then (if 2 < (bt217.1.length : Int) then (if 0 < ((rd_L4 bt217.1 2).length : Int) then (if (rd (rd_L4 bt217.1 2) 0) = 1 then (if 0 < ((rd_L4 bt217.1 3).length : Int) then (steeplelaw27_awake.j0 k ((rd (rd_L4 bt217.1 3) 0) == 8)) else (none)) else (steeplelaw27_awake.j0 k false)) else (none)) else (none)) else (steeplelaw27_awake.j0 k false)) else (none)) else (steeplelaw27_awake.j0 k false)) else (steeplelaw27_awake.j0 k false))
theorem steeplelaw27_awake.mono_l : ∀ k, (∀ y0, LeO (steeplelaw27_awake.j0 k y0) (steeplelaw27_awake.j0 (k + 1) y0))
 | 0 => fun _ r h => by simp [steeplelaw27_awake.j0] at h
 | k + 1 => by
  have ih0 := steeplelaw27_awake.mono_l k
  ·intro y0
   unfold steeplelaw27_awake.j0
   repeat' first
   | (with_reducible exact ih0 _)
   | (with_reducible exact witness_Run.mono _ _ _ _ _ _ _ _)
   | (with_reducible exact LeO.refl _)
   | (with_reducible exact LeO.none _)
   | (with_reducible refine LeO.ite ?_ ?_)
   | (with_reducible refine LeO.bind ?_ (fun _ => ?_))
   | exact ih0 _
   | exact witness_Run.mono _ _ _ _ _ _ _ _
   | exact LeO.none _
   | refine LeO.ite ?_ ?_
   | refine LeO.bind ?_ (fun _ => ?_)
theorem steeplelaw27_awake.mono : ∀ k, LeO (steeplelaw27_awake.f k ) (steeplelaw27_awake.f (k + 1) ) := by
 intro  k
 have ih0 := steeplelaw27_awake.mono_l k
 unfold steeplelaw27_awake.f
 repeat' first
   | (with_reducible exact ih0 _)
   | (with_reducible exact witness_Run.mono _ _ _ _ _ _ _ _)
   | (with_reducible exact LeO.refl _)
   | (with_reducible exact LeO.none _)
   | (with_reducible refine LeO.ite ?_ ?_)
   | (with_reducible refine LeO.bind ?_ (fun _ => ?_))
   | exact ih0 _
   | exact witness_Run.mono _ _ _ _ _ _ _ _
   | exact LeO.none _
   | refine LeO.ite ?_ ?_
   | refine LeO.bind ?_ (fun _ => ?_)
set_option maxHeartbeats 8000000 in
set_option maxRecDepth 100000 in
theorem steeplelaw27_awake.calls (k : Nat)  (r : Bool) (w : World) (h : steeplelaw27_awake.f k  = some r) :
  Calls Try.prog 27 #[] w fun e w' => e = .returned (.bool r) ∧ Below w.heap.size w w' := by
 have hu105 := Try.underlying105; have hu24 := Try.underlying24; have HB := Aside0.mk (Below.refl w.heap.size w)
 have H : ((witness_Run.f k 2 0 2 0 2 (([(⟨7, 2, 0, 1, 3⟩ : S105)] : List (S105))) (([(([9] : List Int)), (([8] : List Int))] : List (List Int)))).bind fun bt217 => (if bt217.2 = 0 then (if (bt217.1.length : Int) = 4 then (if 3 < (bt217.1.length : Int) then (if ((rd_L4 bt217.1 3).length : Int) = 1 then (if 2 < (bt217.1.length : Int) then (if 0 < ((rd_L4 bt217.1 2).length : Int) then (if (rd (rd_L4 bt217.1 2) 0) = 1 then (if 0 < ((rd_L4 bt217.1 3).length : Int) then (steeplelaw27_awake.j0 k ((rd (rd_L4 bt217.1 3) 0) == 8)) else (none)) else (steeplelaw27_awake.j0 k false)) else (none)) else (none)) else (steeplelaw27_awake.j0 k false)) else (none)) else (steeplelaw27_awake.j0 k false)) else (steeplelaw27_awake.j0 k false))) = some r := h
 clear h
 obtain ⟨y204, hy204⟩ : ∃ y_ : List (S105), y_ = (([(⟨7, 2, 0, 1, 3⟩ : S105)] : List (S105))) := ⟨_, rfl⟩
 replace H : ((witness_Run.f k 2 0 2 0 2 y204 (([(([9] : List Int)), (([8] : List Int))] : List (List Int)))).bind fun bt217 => (if bt217.2 = 0 then (if (bt217.1.length : Int) = 4 then (if 3 < (bt217.1.length : Int) then (if ((rd_L4 bt217.1 3).length : Int) = 1 then (if 2 < (bt217.1.length : Int) then (if 0 < ((rd_L4 bt217.1 2).length : Int) then (if (rd (rd_L4 bt217.1 2) 0) = 1 then (if 0 < ((rd_L4 bt217.1 3).length : Int) then (steeplelaw27_awake.j0 k ((rd (rd_L4 bt217.1 3) 0) == 8)) else (none)) else (steeplelaw27_awake.j0 k false)) else (none)) else (none)) else (steeplelaw27_awake.j0 k false)) else (none)) else (steeplelaw27_awake.j0 k false)) else (steeplelaw27_awake.j0 k false))) = some r := by first | (rw [hy204]; with_reducible exact H) | (have H2_ := (Option.bind_some _ _).symm.trans H; rw [hy204]; with_reducible exact H2_) | (have H2_ := (Option.bind_some _ _).symm.trans H; with_reducible exact H2_) | with_reducible exact H | (rw [hy204]; exact H) | exact H
 have Ny204 := Aside0.mk hy204; clear hy204
 obtain ⟨y208, hy208⟩ : ∃ y_ : List Int, y_ = (([9] : List Int)) := ⟨_, rfl⟩
 replace H : ((witness_Run.f k 2 0 2 0 2 y204 (([y208, (([8] : List Int))] : List (List Int)))).bind fun bt217 => (if bt217.2 = 0 then (if (bt217.1.length : Int) = 4 then (if 3 < (bt217.1.length : Int) then (if ((rd_L4 bt217.1 3).length : Int) = 1 then (if 2 < (bt217.1.length : Int) then (if 0 < ((rd_L4 bt217.1 2).length : Int) then (if (rd (rd_L4 bt217.1 2) 0) = 1 then (if 0 < ((rd_L4 bt217.1 3).length : Int) then (steeplelaw27_awake.j0 k ((rd (rd_L4 bt217.1 3) 0) == 8)) else (none)) else (steeplelaw27_awake.j0 k false)) else (none)) else (none)) else (steeplelaw27_awake.j0 k false)) else (none)) else (steeplelaw27_awake.j0 k false)) else (steeplelaw27_awake.j0 k false))) = some r := by first | (rw [hy208]; with_reducible exact H) | (have H2_ := (Option.bind_some _ _).symm.trans H; rw [hy208]; with_reducible exact H2_) | (have H2_ := (Option.bind_some _ _).symm.trans H; with_reducible exact H2_) | with_reducible exact H | (rw [hy208]; exact H) | exact H
 have Ny208 := Aside0.mk hy208; clear hy208
 obtain ⟨y211, hy211⟩ : ∃ y_ : List Int, y_ = (([8] : List Int)) := ⟨_, rfl⟩
 replace H : ((witness_Run.f k 2 0 2 0 2 y204 (([y208, y211] : List (List Int)))).bind fun bt217 => (if bt217.2 = 0 then (if (bt217.1.length : Int) = 4 then (if 3 < (bt217.1.length : Int) then (if ((rd_L4 bt217.1 3).length : Int) = 1 then (if 2 < (bt217.1.length : Int) then (if 0 < ((rd_L4 bt217.1 2).length : Int) then (if (rd (rd_L4 bt217.1 2) 0) = 1 then (if 0 < ((rd_L4 bt217.1 3).length : Int) then (steeplelaw27_awake.j0 k ((rd (rd_L4 bt217.1 3) 0) == 8)) else (none)) else (steeplelaw27_awake.j0 k false)) else (none)) else (none)) else (steeplelaw27_awake.j0 k false)) else (none)) else (steeplelaw27_awake.j0 k false)) else (steeplelaw27_awake.j0 k false))) = some r := by first | (rw [hy211]; with_reducible exact H) | (have H2_ := (Option.bind_some _ _).symm.trans H; rw [hy211]; with_reducible exact H2_) | (have H2_ := (Option.bind_some _ _).symm.trans H; with_reducible exact H2_) | with_reducible exact H | (rw [hy211]; exact H) | exact H
 have Ny211 := Aside0.mk hy211; clear hy211
 obtain ⟨y214, hy214⟩ : ∃ y_ : List (List Int), y_ = (([y208, y211] : List (List Int))) := ⟨_, rfl⟩
 replace H : ((witness_Run.f k 2 0 2 0 2 y204 y214).bind fun bt217 => (if bt217.2 = 0 then (if (bt217.1.length : Int) = 4 then (if 3 < (bt217.1.length : Int) then (if ((rd_L4 bt217.1 3).length : Int) = 1 then (if 2 < (bt217.1.length : Int) then (if 0 < ((rd_L4 bt217.1 2).length : Int) then (if (rd (rd_L4 bt217.1 2) 0) = 1 then (if 0 < ((rd_L4 bt217.1 3).length : Int) then (steeplelaw27_awake.j0 k ((rd (rd_L4 bt217.1 3) 0) == 8)) else (none)) else (steeplelaw27_awake.j0 k false)) else (none)) else (none)) else (steeplelaw27_awake.j0 k false)) else (none)) else (steeplelaw27_awake.j0 k false)) else (steeplelaw27_awake.j0 k false))) = some r := by first | (rw [hy214]; with_reducible exact H) | (have H2_ := (Option.bind_some _ _).symm.trans H; rw [hy214]; with_reducible exact H2_) | (have H2_ := (Option.bind_some _ _).symm.trans H; with_reducible exact H2_) | with_reducible exact H | (rw [hy214]; exact H) | exact H
 have Ny214 := Aside0.mk hy214; clear hy214; replace H := Option.bind_eq_some_iff.mp H
 obtain ⟨⟨t217, t220⟩, A10, H⟩ := H
 (try dsimp only at H)
 have A1 := Aside0.mk A10; clear A10; have HC2 := Aside0.mk H; clear H
 go_enter Try.func27, Try.ntmps27
 go_upto_region 3 with (first | ((with_reducible refine gate_dst (N := 5) rfl ?_); (try (refine gate_guard (by rfl) ?_; dsimp only)); refine Kd.R_lit k105 _ 105 ?hg (N := 5) ?hd (xs := ([(⟨7, 2, 0, 1, 3⟩ : S105)] : List (S105))) (inner := [.int .i64 7, .int .i64 2, .int .i64 0, .int .i64 1, .int .i64 3]) (ok := fun _ => True) (okp := fun _ => True) ?hr ?hp (fun _ hk => hk) trivial (Below.refl _ _) (Nat.le_refl _) (by simp) ?_; (case hd => rfl); (case hg => rfl); (case hr => first | (go_simp; done) | (go_simp; rfl)); (case hp => exact (Reps.c5 (show Kd.M k105 _ _ _ (⟨7, 2, 0, 1, 3⟩ : S105) [.int .i64 7, .int .i64 2, .int .i64 0, .int .i64 1, .int .i64 3] from (k105_mkM _ _ _ (⟨7, 2, 0, 1, 3⟩ : S105) )) (Reps.none _ _))); intro v205 w3 ho4 hb hg_ hnew_; clear hg_ hnew_; (first | rw [← Ny204.out] at ho4 | (simp only [Int.reduceToNat] at ho4; rw [← Ny204.out] at ho4)); have n0_ := Aside0.mk (Kd.R_lower ho4 (below_size (blA HB.out))); have n1_ := Aside0.mk (below_step (blA HB.out) hb); clear HB; have HO206 := n0_; have HB := n1_; clear n0_ n1_; clear hb ho4; obtain ⟨Ao5, co5, eo5⟩ := Kd.R_slice HO206.out; subst eo5) | ((with_reducible refine gate_dst (N := 1) rfl ?_); (try (refine gate_guard (by rfl) ?_; dsimp only)); refine box_event ?hg (N := 1) ?hd (cs := #[.int .i64 0, .int .i64 0, .int .i64 0, .int .i64 0, .int .i64 0, .slice none 0 0]) (t := 24) ?hr ?_; (case hd => rfl); (case hg => rfl); (case hr => first | (go_simp; done) | (go_simp; rfl)); intro gb207 hg w6 hbox hb; have n0_ := Aside0.mk (Kd.R_below (raA HO206.out) hb); have n1_ := Aside0.mk (below_step (blA HB.out) hb); have n2_ := Aside0.mk (hbox); have n3_ := Aside0.mk ((by rw [hg]; exact (below_size (blA HB.out)) : w.heap.size ≤ gb207)); have n4_ := Aside0.mk ((by rw [hg]; exact (below_size (blA HB.out)) : w.heap.size ≤ gb207)); clear HO206; clear HB; have HO206 := n0_; have HB := n1_; have BK207 := n2_; have GW207 := n3_; have GE207 := n4_; clear n0_ n1_ n2_ n3_ n4_; clear hb hbox hg; have hcz7 := fun i => blk_cell BK207.out i; have hfz7 := fun i => blk_frozen BK207.out i; ) | ((with_reducible refine gate_dst (N := 9) rfl ?_); (try (refine gate_guard (by rfl) ?_; dsimp only)); refine Kd.R_lit (Kd.int .u64) _ 43 ?hg (N := 9) ?hd (xs := ([9] : List Int)) (inner := [.int .u64 9]) (ok := fun _ => True) (okp := fun _ => True) ?hr ?hp (fun _ hk => hk) trivial (Below.refl _ _) (Nat.le_refl _) (by simp) ?_; (case hd => rfl); (case hg => rfl); (case hr => first | (go_simp; done) | (go_simp; rfl)); (case hp => exact (Reps.one (show Kd.M (Kd.int .u64) _ _ _ 9 [.int .u64 9] from rfl) (Reps.none _ _))); intro v209 w8 ho9 hb hg_ hnew_; clear hg_ hnew_; (first | rw [← Ny208.out] at ho9 | (simp only [Int.reduceToNat] at ho9; rw [← Ny208.out] at ho9)); have n0_ := Aside0.mk (Kd.R_below (by (with_reducible repeat (first | apply Kd.R_alloc | apply Kd.R_drewN | apply Kd.R_drew)); exact (Kd.R_mono (Kd.R_far (p := ⟨gb207, 5, none⟩) (Kd.R_far (p := ⟨gb207, 4, none⟩) (Kd.R_far (p := ⟨gb207, 3, none⟩) (Kd.R_far (p := ⟨gb207, 2, none⟩) (Kd.R_far (p := ⟨gb207, 1, none⟩) (Kd.R_far (p := ⟨gb207, 0, none⟩) (Kd.R_types HO206.out BK207.out (by decide)) (fun _ hk => hk.2) (.int .i64 2)) (fun _ hk => hk.2) (.int .i64 0)) (fun _ hk => hk.2) (.int .i64 2)) (fun _ hk => hk.2) (.int .i64 0)) (fun _ hk => hk.2) (.int .i64 2)) (fun _ hk => hk.2) (.slice Ao5 y204.length co5)) (fun _ h_ => h_.1))) hb); have n1_ := Aside0.mk (Kd.R_lower ho9 (below_size (blA HB.out))); have n2_ := Aside0.mk (blk_below (g := gb207) (o := .cells #[.int .i64 2, .int .i64 0, .int .i64 2, .int .i64 0, .int .i64 2, .slice Ao5 y204.length co5] 24 (0, 0)) (by refine bkA ?_; refine blk_put (cs := #[.int .i64 2, .int .i64 0, .int .i64 2, .int .i64 0, .int .i64 2, .slice none 0 0]) ?_ 5 _ rfl; refine bkA ?_; refine blk_put (cs := #[.int .i64 2, .int .i64 0, .int .i64 2, .int .i64 0, .int .i64 0, .slice none 0 0]) ?_ 4 _ rfl; refine bkA ?_; refine blk_put (cs := #[.int .i64 2, .int .i64 0, .int .i64 2, .int .i64 0, .int .i64 0, .slice none 0 0]) ?_ 3 _ rfl; refine bkA ?_; refine blk_put (cs := #[.int .i64 2, .int .i64 0, .int .i64 0, .int .i64 0, .int .i64 0, .slice none 0 0]) ?_ 2 _ rfl; refine bkA ?_; refine blk_put (cs := #[.int .i64 2, .int .i64 0, .int .i64 0, .int .i64 0, .int .i64 0, .slice none 0 0]) ?_ 1 _ rfl; refine bkA ?_; refine blk_put (cs := #[.int .i64 0, .int .i64 0, .int .i64 0, .int .i64 0, .int .i64 0, .slice none 0 0]) ?_ 0 _ rfl; refine bkA ?_; exact BK207.out) hb); have n3_ := Aside0.mk (below_step (blA HB.out) hb); clear HO206; clear BK207; clear HB; have HO206 := n0_; have HO210 := n1_; have BK207 := n2_; have HB := n3_; clear n0_ n1_ n2_ n3_; clear hb ho9) | ((with_reducible refine gate_dst (N := 10) rfl ?_); (try (refine gate_guard (by rfl) ?_; dsimp only)); refine Kd.R_lit (Kd.int .u64) _ 43 ?hg (N := 10) ?hd (xs := ([8] : List Int)) (inner := [.int .u64 8]) (ok := fun _ => True) (okp := fun _ => True) ?hr ?hp (fun _ hk => hk) trivial (Below.refl _ _) (Nat.le_refl _) (by simp) ?_; (case hd => rfl); (case hg => rfl); (case hr => first | (go_simp; done) | (go_simp; rfl)); (case hp => exact (Reps.one (show Kd.M (Kd.int .u64) _ _ _ 8 [.int .u64 8] from rfl) (Reps.none _ _))); intro v212 w10 ho11 hb hg_ hnew_; clear hg_ hnew_; (first | rw [← Ny211.out] at ho11 | (simp only [Int.reduceToNat] at ho11; rw [← Ny211.out] at ho11)); have n0_ := Aside0.mk (Kd.R_below (raA HO206.out) hb); have n1_ := Aside0.mk (Kd.R_elder' (raA HO210.out) (Kd.R_base ho11) hb); have n2_ := Aside0.mk (Kd.R_lower (Kd.R_new' ho11 (Kd.R_lt (raA HO210.out))) (below_size (blA HB.out))); have n3_ := Aside0.mk (blk_below (bkA BK207.out) hb); have n4_ := Aside0.mk (below_step (blA HB.out) hb); clear HO206; clear HO210; clear BK207; clear HB; have HO206 := n0_; have HO210 := n1_; have HO213 := n2_; have BK207 := n3_; have HB := n4_; clear n0_ n1_ n2_ n3_ n4_; clear hb ho11; obtain ⟨Ao12, co12, eo12⟩ := Kd.R_slice HO210.out; subst eo12; obtain ⟨Ao13, co13, eo13⟩ := Kd.R_slice HO213.out; subst eo13) | ((with_reducible refine gate_dst (N := 11) rfl ?_); (try (refine gate_guard (by rfl) ?_; dsimp only)); refine Kd.N_lit (Kd.slice 43 (Kd.int .u64)) _ 68 ?hg (N' := 11) ?hd (xs := ([y208, y211] : List (List Int))) (inner := [.slice Ao12 y208.length co12, .slice Ao13 y211.length co13]) (ok := (fun k_ => some k_ ≠ (.slice Ao5 y204.length co5 : Value).ownBlock ∧ k_ ≠ gb207)) (okp := (fun k_ => some k_ ≠ (.slice Ao5 y204.length co5 : Value).ownBlock ∧ k_ ≠ gb207)) ?hr ?hp (fun _ hk => hk) ((show ∀ k_, w10.heap.size ≤ k_ → (fun k_ => some k_ ≠ (.slice Ao5 y204.length co5 : Value).ownBlock ∧ k_ ≠ gb207) k_ from fun k_ hk => ⟨Kd.fresh' (Kd.R_lt (raA HO206.out)) k_ hk, Kd.freshB (bkA BK207.out) k_ hk⟩) _ (Nat.le_refl _)) (Below.refl _ _) (Nat.le_refl _) (by simp) ?_; (case hd => rfl); (case hg => rfl); (case hr => first | (go_simp; done) | (go_simp; rfl)); (case hp => exact (Reps.one (show Kd.FK (Kd.slice 43 (Kd.int .u64)) _ _ y208 [.slice Ao12 y208.length co12] from (Kd.FK_slice_mk (Kd.R_reads' (Kd.R_mono (ok' := (fun k_ => some k_ ≠ (.slice Ao5 y204.length co5 : Value).ownBlock ∧ k_ ≠ gb207)) (Kd.R_types (Kd.R_apart' (HO210.out) (Kd.R_typed HO206.out) (by decide)) BK207.out (by decide)) (fun k_ hk => ⟨hk.1.2, hk.2⟩))).2.1 (Kd.R_F (Kd.R_mono (ok' := (fun k_ => some k_ ≠ (.slice Ao5 y204.length co5 : Value).ownBlock ∧ k_ ≠ gb207)) (Kd.R_types (Kd.R_apart' (HO210.out) (Kd.R_typed HO206.out) (by decide)) BK207.out (by decide)) (fun k_ hk => ⟨hk.1.2, hk.2⟩))))) (Reps.one (show Kd.FK (Kd.slice 43 (Kd.int .u64)) _ _ y211 [.slice Ao13 y211.length co13] from (Kd.FK_slice_mk (Kd.R_reads' (Kd.R_mono (ok' := (fun k_ => some k_ ≠ (.slice Ao5 y204.length co5 : Value).ownBlock ∧ k_ ≠ gb207)) (Kd.R_types (Kd.R_apart' (HO213.out) (Kd.R_typed HO206.out) (by decide)) BK207.out (by decide)) (fun k_ hk => ⟨hk.1.2, hk.2⟩))).2.1 (Kd.R_F (Kd.R_mono (ok' := (fun k_ => some k_ ≠ (.slice Ao5 y204.length co5 : Value).ownBlock ∧ k_ ≠ gb207)) (Kd.R_types (Kd.R_apart' (HO213.out) (Kd.R_typed HO206.out) (by decide)) BK207.out (by decide)) (fun k_ hk => ⟨hk.1.2, hk.2⟩))))) (Reps.none _ _)))); intro v215 w14 ho15 hb hg_ hnew_; clear hg_ hnew_; (first | rw [← Ny214.out] at ho15 | (simp only [Int.reduceToNat] at ho15; rw [← Ny214.out] at ho15)); have n0_ := Aside0.mk (Kd.R_below (raA HO206.out) hb); have n1_ := Aside0.mk (Kd.N_lower ho15 (below_size (blA HB.out))); have n2_ := Aside0.mk (blk_below (bkA BK207.out) hb); have n3_ := Aside0.mk (below_step (blA HB.out) hb); clear HO206; clear BK207; clear HB; clear HO210; clear HO213; have HO206 := n0_; have HO216 := n1_; have BK207 := n2_; have HB := n3_; clear n0_ n1_ n2_ n3_; clear hb ho15; obtain ⟨Ao16, co16, eo16⟩ := Kd.N_slice HO216.out; subst eo16) | ((with_reducible refine gate_callee (f := 28) rfl ?_); refine goesL_ (some 12) rfl rfl Try.func28 (by kernel_rfl) rfl #[.agg #[.int .i64 2, .int .i64 0, .int .i64 2, .int .i64 0, .int .i64 2, .slice Ao5 y204.length co5], .slice Ao16 y214.length co16] rfl gsA ?_; (with_reducible refine (witness_Run.calls k 2 0 2 0 2 _ _ y204 _ _ y214 t217 t220 _ ?side1 ?side2 ?side3 ?side4 A1.out).mono ?_); (case side1 => repeat (first | exact (Kd.R_reads' HO206.out).2.2 | (with_reducible refine Kd.C_alloc ?_ _) | (with_reducible refine Kd.C_drewN ?_ _) | (with_reducible refine Kd.C_drew ?_))); (case side2 => exact (Kd.R_reads' HO206.out).2.1); (case side3 => repeat (first | exact (Kd.N_reads' HO216.out).2.2 | (with_reducible refine Kd.C_alloc ?_ _) | (with_reducible refine Kd.C_drewN ?_ _) | (with_reducible refine Kd.C_drew ?_))); (case side4 => exact (Kd.N_reads' HO216.out).2.1); rintro e w17 ⟨v218, rfl, ho0, hb⟩; refine ⟨_, rfl, ?_⟩; have n0_ := Aside0.mk (Kd.R_below (raA HO206.out) hb); have n1_ := Aside0.mk (Kd.N_elder' (naA HO216.out) (by first | exact Kd.N_base ho0 | exact Kd.N_base (Kd.S_N (Kd.S_bound ho0))) hb); have n2_ := Aside0.mk (Kd.N_lower (Kd.N_mono (ok' := fun k_ => some k_ ≠ (.slice Ao5 y204.length co5 : Value).ownBlock ∧ some k_ ≠ (.slice Ao16 y214.length co16 : Value).ownBlock ∧ k_ ≠ gb207) (Kd.S_N (Kd.S_bound ho0)) (fun k_ hk_ => ⟨(Kd.fresh' (Kd.R_lt (raA HO206.out)) k_ hk_.2.1), (Kd.fresh' (Kd.N_lt (naA HO216.out)) k_ hk_.2.1), (Kd.freshB (bkA BK207.out) k_ hk_.2.1)⟩)) (below_size (blA HB.out))); have n3_ := Aside0.mk (blk_below (bkA BK207.out) hb); have n4_ := Aside0.mk (below_step (blA HB.out) hb); clear HO206; clear HO216; clear BK207; clear HB; have HO206 := n0_; have HO216 := n1_; have HO219 := n2_; have BK207 := n3_; have HB := n4_; clear n0_ n1_ n2_ n3_ n4_; (try clear hb); (try clear ho0)))
 (try simp only [Act.put, List.setIfInBounds_toArray, List.set_cons_zero, List.set_cons_succ])
 go_cut [0] (fun v0 wc => ∃ (kq : Nat) (x0_1 : Bool), v0 = .bool x0_1 ∧ Aside0 (steeplelaw27_awake.j0 kq x0_1 = some r) ∧ Aside0 (kq ≤ k) ∧ Aside0 (Kd.R k105 105 wc w.heap.size (fun _ => True) (.slice Ao5 y204.length co5) y204) ∧ Aside0 (wc.heap[gb207]? = some (.cells #[.int .i64 2, .int .i64 0, .int .i64 2, .int .i64 0, .int .i64 2, (.slice Ao5 y204.length co5)] 24 (0, 0))) ∧ Aside0 (Below w.heap.size w wc))
 case first =>
  have H := HC2.out; clear HC2
  by_cases c18 : t220 = 0
  ·rw [if_pos c18] at H
   have c18b0 : (t220 == 0) = true := beq_iff_eq.mpr c18; have c18b1 : (t220 != 0) = false := bne_eq_false_iff_eq.mpr c18; clear c18
   (first | rw [c18b0] | (simp only [i64_w, i32_w]; rw [c18b0]) | skip)
   by_cases c19 : (t217.length : Int) = 4
   ·rw [if_pos c19] at H
    have c19b0 : ((t217.length : Int) == 4) = true := beq_iff_eq.mpr c19; have c19b1 : ((t217.length : Int) != 4) = false := bne_eq_false_iff_eq.mpr c19; clear c19
    by_cases c20 : 3 < (t217.length : Int)
    ·rw [if_pos c20] at H
     have c20b0 : decide (3 < (t217.length : Int)) = true := decide_eq_true c20
     have c20b1 : decide (3 < t217.length) = true := decide_eq_true (by omega)
     clear c20
     by_cases c21 : ((rd_L4 t217 3).length : Int) = 1
     ·rw [if_pos c21] at H
      have c21b0 : (((rd_L4 t217 3).length : Int) == 1) = true := beq_iff_eq.mpr c21; have c21b1 : (((rd_L4 t217 3).length : Int) != 1) = false := bne_eq_false_iff_eq.mpr c21; clear c21
      by_cases c22 : 2 < (t217.length : Int)
      ·rw [if_pos c22] at H
       have c22b0 : decide (2 < (t217.length : Int)) = true := decide_eq_true c22
       have c22b1 : decide (2 < t217.length) = true := decide_eq_true (by omega)
       clear c22
       by_cases c23 : 0 < ((rd_L4 t217 2).length : Int)
       ·rw [if_pos c23] at H
        have c23b0 : decide (0 < ((rd_L4 t217 2).length : Int)) = true := decide_eq_true c23
        have c23b1 : decide (0 < (rd_L4 t217 2).length) = true := decide_eq_true (by omega)
        clear c23
        by_cases c24 : (rd (rd_L4 t217 2) 0) = 1
        ·rw [if_pos c24] at H
         have c24b0 : ((rd (rd_L4 t217 2) 0) == 1) = true := beq_iff_eq.mpr c24; have c24b1 : ((rd (rd_L4 t217 2) 0) != 1) = false := bne_eq_false_iff_eq.mpr c24; clear c24
         by_cases c25 : 0 < ((rd_L4 t217 3).length : Int)
         ·rw [if_pos c25] at H
          have c25b0 : decide (0 < ((rd_L4 t217 3).length : Int)) = true := decide_eq_true c25
          have c25b1 : decide (0 < (rd_L4 t217 3).length) = true := decide_eq_true (by omega)
          clear c25; have H' := Aside0.mk H; clear H; obtain ⟨Ao26, co26, eo26⟩ := Kd.N_slice HO219.out; subst eo26
          have p221 : 0 ≤ (3 : Int) := (by omega)
          have q221 : 3 < (t217.length : Int) := of_decide_eq_true (by first | (with_reducible assumption) | assumption)
          obtain ⟨ad221, A221_0, c221_0, e221, hx221_0, hl221_0, hi221_0⟩ := at_L4 (Kd.N_reads' HO219.out).2.2 3 p221 q221
          cases e221
          obtain ⟨ce221, hce221, hMe221, hcc221⟩ := Kd.N_get HO219.out [] 3 p221 (by first | exact q221 | exact of_decide_eq_true (by first | (with_reducible assumption) | assumption) | (have e_ := (Kd.N_reads' HO219.out).1; omega))
          obtain ⟨ua221_0, uc221_0, rfl, ul221_0, ge221_0⟩ := Kd.FK_slice_open hMe221; have hv221_0 := hcc221 0 _ rfl
          rw [Nat.add_zero, show ((Kd.slice 43 (Kd.int .u64))).sz = 1 from rfl, Nat.mul_one] at hv221_0
          replace hv221_0 := Option.some.inj (hv221_0.symm.trans hx221_0)
          injection hv221_0 with hva_ hvn_ hvc_
          rw [hva_] at ge221_0
          rw [hvc_] at ul221_0
          have HL221_0 := Aside0.mk (show Kd.V (Kd.int .u64) 43 _ w.heap.size _ _ (rd_L4 t217 3) from Kd.V_mk ul221_0 ge221_0)
          clear hva_ hvn_ hvc_ ge221_0 ul221_0; clear hcc221 hce221
          (try simp only [show (3 : Int).toNat = 3 from rfl, Nat.reduceMul, Nat.reduceEqDiff, Go.Addr.add, ↓reduceIte] at hx221_0)
          have qi221 : (3 < t217.length) = True := eq_true (by omega)
          (try rw [show ((3 : Int)).toNat = 3 from rfl] at hx221_0)
          have HR221_0 := Aside0.mk hi221_0; have HC221_0 := Aside0.mk hl221_0; clear hi221_0 hl221_0; replace p221 := eq_true p221; replace q221 := eq_true q221
          have p222 : 0 ≤ (2 : Int) := (by omega)
          have q222 : 2 < (t217.length : Int) := of_decide_eq_true (by first | (with_reducible assumption) | assumption)
          obtain ⟨ad222, A222_0, c222_0, e222, hx222_0, hl222_0, hi222_0⟩ := at_L4 (Kd.N_reads' HO219.out).2.2 2 p222 q222
          obtain rfl : ad221 = ad222 := (by injection e222)
          obtain ⟨ce222, hce222, hMe222, hcc222⟩ := Kd.N_get HO219.out [] 2 p222 (by first | exact q222 | exact of_decide_eq_true (by first | (with_reducible assumption) | assumption) | (have e_ := (Kd.N_reads' HO219.out).1; omega))
          obtain ⟨ua222_0, uc222_0, rfl, ul222_0, ge222_0⟩ := Kd.FK_slice_open hMe222; have hv222_0 := hcc222 0 _ rfl
          rw [Nat.add_zero, show ((Kd.slice 43 (Kd.int .u64))).sz = 1 from rfl, Nat.mul_one] at hv222_0
          replace hv222_0 := Option.some.inj (hv222_0.symm.trans hx222_0)
          injection hv222_0 with hva_ hvn_ hvc_
          rw [hva_] at ge222_0
          rw [hvc_] at ul222_0
          have HL222_0 := Aside0.mk (show Kd.V (Kd.int .u64) 43 _ w.heap.size _ _ (rd_L4 t217 2) from Kd.V_mk ul222_0 ge222_0)
          clear hva_ hvn_ hvc_ ge222_0 ul222_0; clear hcc222 hce222
          (try simp only [show (2 : Int).toNat = 2 from rfl, Nat.reduceMul, Nat.reduceEqDiff, Go.Addr.add, ↓reduceIte] at hx222_0)
          have qi222 : (2 < t217.length) = True := eq_true (by omega)
          (try rw [show ((2 : Int)).toNat = 2 from rfl] at hx222_0)
          have HR222_0 := Aside0.mk hi222_0; have HC222_0 := Aside0.mk hl222_0; clear hi222_0 hl222_0; replace p222 := eq_true p222; replace q222 := eq_true q222
          have p223 : 0 ≤ (0 : Int) := (by omega)
          have q223 : 0 < ((rd_L4 t217 2).length : Int) := of_decide_eq_true (by first | (with_reducible assumption) | assumption)
          obtain ⟨ad223, e223, hx223_0⟩ := Kd.at_int (by repeat (first | (with_reducible exact HR222_0.out) | (with_reducible refine Kd.C_alloc ?_ _) | (with_reducible refine Kd.C_drewN ?_ _) | (with_reducible refine Kd.C_drew ?_) | exact HR222_0.out)) 0 p223 q223
          cases e223
          have qi223 : (0 < (rd_L4 t217 2).length) = True := eq_true (by omega)
          (try rw [show ((0 : Int)).toNat = 0 from rfl] at hx223_0)
          (try rw [Addr.add_zero'] at hx223_0)
          replace p223 := eq_true p223; replace q223 := eq_true q223
          have p224 : 0 ≤ (3 : Int) := (by omega)
          have q224 : 3 < (t217.length : Int) := of_decide_eq_true (by first | (with_reducible assumption) | assumption)
          obtain ⟨ad224, A224_0, c224_0, e224, hx224_0, hl224_0, hi224_0⟩ := at_L4 (Kd.N_reads' HO219.out).2.2 3 p224 q224
          obtain rfl : ad221 = ad224 := (by injection e224)
          obtain ⟨ce224, hce224, hMe224, hcc224⟩ := Kd.N_get HO219.out [] 3 p224 (by first | exact q224 | exact of_decide_eq_true (by first | (with_reducible assumption) | assumption) | (have e_ := (Kd.N_reads' HO219.out).1; omega))
          obtain ⟨ua224_0, uc224_0, rfl, ul224_0, ge224_0⟩ := Kd.FK_slice_open hMe224; have hv224_0 := hcc224 0 _ rfl
          rw [Nat.add_zero, show ((Kd.slice 43 (Kd.int .u64))).sz = 1 from rfl, Nat.mul_one] at hv224_0
          replace hv224_0 := Option.some.inj (hv224_0.symm.trans hx224_0)
          injection hv224_0 with hva_ hvn_ hvc_
          rw [hva_] at ge224_0
          rw [hvc_] at ul224_0
          have HL224_0 := Aside0.mk (show Kd.V (Kd.int .u64) 43 _ w.heap.size _ _ (rd_L4 t217 3) from Kd.V_mk ul224_0 ge224_0)
          clear hva_ hvn_ hvc_ ge224_0 ul224_0; clear hcc224 hce224
          (try simp only [show (3 : Int).toNat = 3 from rfl, Nat.reduceMul, Nat.reduceEqDiff, Go.Addr.add, ↓reduceIte] at hx224_0)
          have qi224 : (3 < t217.length) = True := eq_true (by omega)
          (try rw [show ((3 : Int)).toNat = 3 from rfl] at hx224_0)
          have HR224_0 := Aside0.mk hi224_0; have HC224_0 := Aside0.mk hl224_0; clear hi224_0 hl224_0; replace p224 := eq_true p224; replace q224 := eq_true q224; have ea_ := Option.some.inj (hx221_0.symm.trans hx224_0)
          injection ea_ with ea_ en_ ec_
          subst ea_; subst ec_; clear en_
          have p225 : 0 ≤ (0 : Int) := (by omega)
          have q225 : 0 < ((rd_L4 t217 3).length : Int) := of_decide_eq_true (by first | (with_reducible assumption) | assumption)
          obtain ⟨ad225, e225, hx225_0⟩ := Kd.at_int (by repeat (first | (with_reducible exact HR224_0.out) | (with_reducible refine Kd.C_alloc ?_ _) | (with_reducible refine Kd.C_drewN ?_ _) | (with_reducible refine Kd.C_drew ?_) | exact HR224_0.out)) 0 p225 q225
          cases e225
          have qi225 : (0 < (rd_L4 t217 3).length) = True := eq_true (by omega)
          (try rw [show ((0 : Int)).toNat = 0 from rfl] at hx225_0)
          (try rw [Addr.add_zero'] at hx225_0)
          replace p225 := eq_true p225; replace q225 := eq_true q225
          go_wp2
          go_meet
          case rel => exact ⟨_, (((rd (rd_L4 t217 3) 0) == 8)), eqA, H', ⟨omA⟩, ⟨raA HO206.out⟩, ⟨bkA BK207.out⟩, ⟨blA HB.out⟩⟩
         ·rw [if_neg c25] at H
          exact absurd H (by simp)
        ·rw [if_neg c24] at H
         have c24b0 : ((rd (rd_L4 t217 2) 0) == 1) = false := beq_eq_false_iff_ne.mpr c24; have c24b1 : ((rd (rd_L4 t217 2) 0) != 1) = true := bne_iff_ne.mpr c24; have H' := Aside0.mk H; clear H; obtain ⟨Ao27, co27, eo27⟩ := Kd.N_slice HO219.out; subst eo27
         have p221 : 0 ≤ (3 : Int) := (by omega)
         have q221 : 3 < (t217.length : Int) := of_decide_eq_true (by first | (with_reducible assumption) | assumption)
         obtain ⟨ad221, A221_0, c221_0, e221, hx221_0, hl221_0, hi221_0⟩ := at_L4 (Kd.N_reads' HO219.out).2.2 3 p221 q221
         cases e221
         obtain ⟨ce221, hce221, hMe221, hcc221⟩ := Kd.N_get HO219.out [] 3 p221 (by first | exact q221 | exact of_decide_eq_true (by first | (with_reducible assumption) | assumption) | (have e_ := (Kd.N_reads' HO219.out).1; omega))
         obtain ⟨ua221_0, uc221_0, rfl, ul221_0, ge221_0⟩ := Kd.FK_slice_open hMe221; have hv221_0 := hcc221 0 _ rfl
         rw [Nat.add_zero, show ((Kd.slice 43 (Kd.int .u64))).sz = 1 from rfl, Nat.mul_one] at hv221_0
         replace hv221_0 := Option.some.inj (hv221_0.symm.trans hx221_0)
         injection hv221_0 with hva_ hvn_ hvc_
         rw [hva_] at ge221_0
         rw [hvc_] at ul221_0
         have HL221_0 := Aside0.mk (show Kd.V (Kd.int .u64) 43 _ w.heap.size _ _ (rd_L4 t217 3) from Kd.V_mk ul221_0 ge221_0)
         clear hva_ hvn_ hvc_ ge221_0 ul221_0; clear hcc221 hce221
         (try simp only [show (3 : Int).toNat = 3 from rfl, Nat.reduceMul, Nat.reduceEqDiff, Go.Addr.add, ↓reduceIte] at hx221_0)
         have qi221 : (3 < t217.length) = True := eq_true (by omega)
         (try rw [show ((3 : Int)).toNat = 3 from rfl] at hx221_0)
         have HR221_0 := Aside0.mk hi221_0; have HC221_0 := Aside0.mk hl221_0; clear hi221_0 hl221_0; replace p221 := eq_true p221; replace q221 := eq_true q221
         have p222 : 0 ≤ (2 : Int) := (by omega)
         have q222 : 2 < (t217.length : Int) := of_decide_eq_true (by first | (with_reducible assumption) | assumption)
         obtain ⟨ad222, A222_0, c222_0, e222, hx222_0, hl222_0, hi222_0⟩ := at_L4 (Kd.N_reads' HO219.out).2.2 2 p222 q222
         obtain rfl : ad221 = ad222 := (by injection e222)
         obtain ⟨ce222, hce222, hMe222, hcc222⟩ := Kd.N_get HO219.out [] 2 p222 (by first | exact q222 | exact of_decide_eq_true (by first | (with_reducible assumption) | assumption) | (have e_ := (Kd.N_reads' HO219.out).1; omega))
         obtain ⟨ua222_0, uc222_0, rfl, ul222_0, ge222_0⟩ := Kd.FK_slice_open hMe222; have hv222_0 := hcc222 0 _ rfl
         rw [Nat.add_zero, show ((Kd.slice 43 (Kd.int .u64))).sz = 1 from rfl, Nat.mul_one] at hv222_0
         replace hv222_0 := Option.some.inj (hv222_0.symm.trans hx222_0)
         injection hv222_0 with hva_ hvn_ hvc_
         rw [hva_] at ge222_0
         rw [hvc_] at ul222_0
         have HL222_0 := Aside0.mk (show Kd.V (Kd.int .u64) 43 _ w.heap.size _ _ (rd_L4 t217 2) from Kd.V_mk ul222_0 ge222_0)
         clear hva_ hvn_ hvc_ ge222_0 ul222_0; clear hcc222 hce222
         (try simp only [show (2 : Int).toNat = 2 from rfl, Nat.reduceMul, Nat.reduceEqDiff, Go.Addr.add, ↓reduceIte] at hx222_0)
         have qi222 : (2 < t217.length) = True := eq_true (by omega)
         (try rw [show ((2 : Int)).toNat = 2 from rfl] at hx222_0)
         have HR222_0 := Aside0.mk hi222_0; have HC222_0 := Aside0.mk hl222_0; clear hi222_0 hl222_0; replace p222 := eq_true p222; replace q222 := eq_true q222
         have p223 : 0 ≤ (0 : Int) := (by omega)
         have q223 : 0 < ((rd_L4 t217 2).length : Int) := of_decide_eq_true (by first | (with_reducible assumption) | assumption)
         obtain ⟨ad223, e223, hx223_0⟩ := Kd.at_int (by repeat (first | (with_reducible exact HR222_0.out) | (with_reducible refine Kd.C_alloc ?_ _) | (with_reducible refine Kd.C_drewN ?_ _) | (with_reducible refine Kd.C_drew ?_) | exact HR222_0.out)) 0 p223 q223
         cases e223
         have qi223 : (0 < (rd_L4 t217 2).length) = True := eq_true (by omega)
         (try rw [show ((0 : Int)).toNat = 0 from rfl] at hx223_0)
         (try rw [Addr.add_zero'] at hx223_0)
         replace p223 := eq_true p223; replace q223 := eq_true q223
         go_wp2
         go_meet
         case rel => exact ⟨_, (false), eqA, H', ⟨omA⟩, ⟨raA HO206.out⟩, ⟨bkA BK207.out⟩, ⟨blA HB.out⟩⟩
       ·rw [if_neg c23] at H
        exact absurd H (by simp)
      ·rw [if_neg c22] at H
       exact absurd H (by simp)
     ·rw [if_neg c21] at H
      have c21b0 : (((rd_L4 t217 3).length : Int) == 1) = false := beq_eq_false_iff_ne.mpr c21; have c21b1 : (((rd_L4 t217 3).length : Int) != 1) = true := bne_iff_ne.mpr c21; have H' := Aside0.mk H; clear H; obtain ⟨Ao28, co28, eo28⟩ := Kd.N_slice HO219.out; subst eo28
      have p221 : 0 ≤ (3 : Int) := (by omega)
      have q221 : 3 < (t217.length : Int) := of_decide_eq_true (by first | (with_reducible assumption) | assumption)
      obtain ⟨ad221, A221_0, c221_0, e221, hx221_0, hl221_0, hi221_0⟩ := at_L4 (Kd.N_reads' HO219.out).2.2 3 p221 q221
      cases e221
      obtain ⟨ce221, hce221, hMe221, hcc221⟩ := Kd.N_get HO219.out [] 3 p221 (by first | exact q221 | exact of_decide_eq_true (by first | (with_reducible assumption) | assumption) | (have e_ := (Kd.N_reads' HO219.out).1; omega))
      obtain ⟨ua221_0, uc221_0, rfl, ul221_0, ge221_0⟩ := Kd.FK_slice_open hMe221; have hv221_0 := hcc221 0 _ rfl
      rw [Nat.add_zero, show ((Kd.slice 43 (Kd.int .u64))).sz = 1 from rfl, Nat.mul_one] at hv221_0
      replace hv221_0 := Option.some.inj (hv221_0.symm.trans hx221_0)
      injection hv221_0 with hva_ hvn_ hvc_
      rw [hva_] at ge221_0
      rw [hvc_] at ul221_0
      have HL221_0 := Aside0.mk (show Kd.V (Kd.int .u64) 43 _ w.heap.size _ _ (rd_L4 t217 3) from Kd.V_mk ul221_0 ge221_0)
      clear hva_ hvn_ hvc_ ge221_0 ul221_0; clear hcc221 hce221
      (try simp only [show (3 : Int).toNat = 3 from rfl, Nat.reduceMul, Nat.reduceEqDiff, Go.Addr.add, ↓reduceIte] at hx221_0)
      have qi221 : (3 < t217.length) = True := eq_true (by omega)
      (try rw [show ((3 : Int)).toNat = 3 from rfl] at hx221_0)
      have HR221_0 := Aside0.mk hi221_0; have HC221_0 := Aside0.mk hl221_0; clear hi221_0 hl221_0; replace p221 := eq_true p221; replace q221 := eq_true q221
      go_wp2
      go_meet
      case rel => exact ⟨_, (false), eqA, H', ⟨omA⟩, ⟨raA HO206.out⟩, ⟨bkA BK207.out⟩, ⟨blA HB.out⟩⟩
    ·rw [if_neg c20] at H
     exact absurd H (by simp)
   ·rw [if_neg c19] at H
    have c19b0 : ((t217.length : Int) == 4) = false := beq_eq_false_iff_ne.mpr c19; have c19b1 : ((t217.length : Int) != 4) = true := bne_iff_ne.mpr c19; have H' := Aside0.mk H; clear H; obtain ⟨Ao29, co29, eo29⟩ := Kd.N_slice HO219.out; subst eo29
    go_wp2
    go_meet
    case rel => exact ⟨_, (false), eqA, H', ⟨omA⟩, ⟨raA HO206.out⟩, ⟨bkA BK207.out⟩, ⟨blA HB.out⟩⟩
  ·rw [if_neg c18] at H
   have c18b0 : (t220 == 0) = false := beq_eq_false_iff_ne.mpr c18; have c18b1 : (t220 != 0) = true := bne_iff_ne.mpr c18
   (first | rw [c18b0] | (simp only [i64_w, i32_w]; rw [c18b0]) | skip)
   have H' := Aside0.mk H; clear H
   go_wp2
   go_meet
   case rel => exact ⟨_, (false), eqA, H', ⟨omA⟩, ⟨raA HO206.out⟩, ⟨bkA BK207.out⟩, ⟨blA HB.out⟩⟩
 case rest =>
  clear HC2; (try clear c1); (try clear c2); (try clear p2); (try clear q2); (try clear hx2); (try clear qi2); (try clear c5); (try clear c18); (try clear c18b0); (try clear c18b1); (try clear c19); (try clear c19b0); (try clear c19b1); (try clear c20); (try clear c20b0); (try clear c20b1); (try clear c21); (try clear c21b0); (try clear c21b1); (try clear c22); (try clear c22b0); (try clear c22b1); (try clear p22); (try clear q22); (try clear hx22); (try clear qi22); (try clear c23); (try clear c23b0); (try clear c23b1); (try clear c24); (try clear c24b0); (try clear c24b1); (try clear c25); (try clear c25b0); (try clear c25b1); (try clear c27); (try clear c28); (try clear hcz7); (try clear hfz7); (try clear hx221_0); (try clear hx222_0); (try clear hx223_0); (try clear hx224_0); (try clear hx225_0); (try clear p221); (try clear p222); (try clear p223); (try clear p224); (try clear p225); (try clear q221); (try clear q222); (try clear q223); (try clear q224); (try clear q225); obtain ⟨kq, x0_1, rfl, HA, HJ1, HO_208005, BK207, HB⟩ := hcut
  cases kq with
  | zero => exact absurd HA.out (by simp [steeplelaw27_awake.j0])
  | succ kj1 =>
   have H := HA.out; clear HA
   simp only [steeplelaw27_awake.j0] at H
   obtain rfl := Option.some.inj H
   go_wp2
   go_ret
   exact ⟨by first | rfl | (simp [errW_none, errW_some] <;> rfl) | (simp [*, errW_none, errW_some] <;> rfl), blA HB.out⟩
end Go.Proofs.Ythiiodgpdoljoaa.PLw
namespace Go.Proofs.Ythiiodgpdoljoaa.PLw
open Go.RowKit Go.Proofs.YthiiodgpdoljoaaW.PrintWords Go.Proofs.YthiiodgpdoljoaaW.PrintLast Go.Proofs.YthiiodgpdoljoaaW.PrintMore
attribute [local go_sem] max2_int min2_int max_two min_two max_three min_three max_four min_four   -- for this text's walks alone
set_option linter.unusedVariables false
set_option linter.unusedSimpArgs false
/-! ### steeplelaw27_same: function 30 -/
mutual
def steeplelaw27_same.l0 : Nat → List (List Int) → List (List Int) → Int → Option (Bool)
 | 0, _, _, _ => none
 | k + 1, x0, x1, x5 => if x5 < (x0.length : Int) then (if 0 ≤ x5 then (if x5 < (x1.length : Int) then (if ((rd_L4 x0 x5).length : Int) = ((rd_L4 x1 x5).length : Int) then (steeplelaw27_same.l1 k x0 x1 x5 0) else (some false)) else (none)) else (none)) else (some true)
def steeplelaw27_same.l1 : Nat → List (List Int) → List (List Int) → Int → Int → Option (Bool)
 | 0, _, _, _, _ => none
 | k + 1, x0, x1, x5, x6 => if 0 ≤ x5 then (if x5 < (x0.length : Int) then (if x6 < ((rd_L4 x0 x5).length : Int) then (if 0 ≤ x6 then (if x5 < (x1.length : Int) then (if x6 < ((rd_L4 x1 x5).length : Int) then (if (rd (rd_L4 x0 x5) x6) = (rd (rd_L4 x1 x5) x6) then (steeplelaw27_same.l1 k x0 x1 x5 (wrap64 (x6 + 1))) else (some false)) else (none)) else (none)) else (none)) else (steeplelaw27_same.l0 k x0 x1 (wrap64 (x5 + 1)))) else (none)) else (none)
end
def steeplelaw27_same.f (k : Nat) (l0 : List (List Int)) (l1 : List (List Int)) : Option (Bool) := if (l0.length : Int) = (l1.length : Int) then (steeplelaw27_same.l0 k l0 l1 0) else (some false)
theorem steeplelaw27_same.mono_l : ∀ k, (∀ y0 y1 y2, LeO (steeplelaw27_same.l0 k y0 y1 y2) (steeplelaw27_same.l0 (k + 1) y0 y1 y2)) ∧ (∀ y0 y1 y2 y3, LeO (steeplelaw27_same.l1 k y0 y1 y2 y3) (steeplelaw27_same.l1 (k + 1) y0 y1 y2 y3))
 | 0 => ⟨fun _ _ _ r h => by simp [steeplelaw27_same.l0] at h, fun _ _ _ _ r h => by simp [steeplelaw27_same.l1] at h⟩
 | k + 1 => by
  obtain ⟨ih0, ih1⟩ := steeplelaw27_same.mono_l k
  refine ⟨?_, ?_⟩
  ·intro y0 y1 y2
   unfold steeplelaw27_same.l0
   repeat' first
   | (with_reducible exact ih0 _ _ _)
   | (with_reducible exact ih1 _ _ _ _)
   | (with_reducible exact LeO.refl _)
   | (with_reducible exact LeO.none _)
   | (with_reducible refine LeO.ite ?_ ?_)
   | (with_reducible refine LeO.bind ?_ (fun _ => ?_))
   | exact ih0 _ _ _
   | exact ih1 _ _ _ _
   | exact LeO.none _
   | refine LeO.ite ?_ ?_
   | refine LeO.bind ?_ (fun _ => ?_)
  ·intro y0 y1 y2 y3
   unfold steeplelaw27_same.l1
   repeat' first
   | (with_reducible exact ih0 _ _ _)
   | (with_reducible exact ih1 _ _ _ _)
   | (with_reducible exact LeO.refl _)
   | (with_reducible exact LeO.none _)
   | (with_reducible refine LeO.ite ?_ ?_)
   | (with_reducible refine LeO.bind ?_ (fun _ => ?_))
   | exact ih0 _ _ _
   | exact ih1 _ _ _ _
   | exact LeO.none _
   | refine LeO.ite ?_ ?_
   | refine LeO.bind ?_ (fun _ => ?_)
theorem steeplelaw27_same.mono : ∀ a0 a1 k, LeO (steeplelaw27_same.f k a0 a1) (steeplelaw27_same.f (k + 1) a0 a1) := by
 intro a0 a1 k
 obtain ⟨ih0, ih1⟩ := steeplelaw27_same.mono_l k
 unfold steeplelaw27_same.f
 repeat' first
   | (with_reducible exact ih0 _ _ _)
   | (with_reducible exact ih1 _ _ _ _)
   | (with_reducible exact LeO.refl _)
   | (with_reducible exact LeO.none _)
   | (with_reducible refine LeO.ite ?_ ?_)
   | (with_reducible refine LeO.bind ?_ (fun _ => ?_))
   | exact ih0 _ _ _
   | exact ih1 _ _ _ _
   | exact LeO.none _
   | refine LeO.ite ?_ ?_
   | refine LeO.bind ?_ (fun _ => ?_)
set_option maxHeartbeats 8000000 in
set_option maxRecDepth 100000 in
theorem steeplelaw27_same.calls (k : Nat) (A0 : Option Addr) (c0 : Nat) (l0 : List (List Int)) (A1 : Option Addr) (c1 : Nat) (l1 : List (List Int)) (r : Bool) (w : World) (hr0 : Kd.C (Kd.slice 43 (Kd.int .u64)) w A0 l0.length l0) (hc0 : l0.length ≤ c0) (hr1 : Kd.C (Kd.slice 43 (Kd.int .u64)) w A1 l1.length l1) (hc1 : l1.length ≤ c1) (h : steeplelaw27_same.f k l0 l1 = some r) :
  Calls Try.prog 30 #[.slice A0 l0.length c0, .slice A1 l1.length c1] w fun e w' => e = .returned (.bool r) ∧ Drawn0 w w' := by
 have HR0 := Aside0.mk hr0; have HC0 := Aside0.mk hc0; clear hr0 hc0; have HR1 := Aside0.mk hr1; have HC1 := Aside0.mk hc1; clear hr1 hc1
 have H : (if (l0.length : Int) = (l1.length : Int) then (steeplelaw27_same.l0 k l0 l1 0) else (some false)) = some r := h
 clear h
 by_cases c3 : (l0.length : Int) = (l1.length : Int)
 ·rw [if_pos c3] at H
  have c3b0 : ((l0.length : Int) == (l1.length : Int)) = true := beq_iff_eq.mpr c3; have c3b1 : ((l0.length : Int) != (l1.length : Int)) = false := bne_eq_false_iff_eq.mpr c3
  have c3b2 : (l0.length == l1.length) = true := by first | simpa using c3 | (simp at c3 ⊢; omega)
  clear c3; have H' := Aside0.mk H; clear H
  go_enter Try.func30, Try.ntmps30
  go_wp2
  repeat (go_quiet (fail); try go_wp2)
  go_loopg [5] k (fun kq v5 w' => ∃ (x5_1 : Int), v5 = .int .i64 x5_1 ∧ Aside0 (steeplelaw27_same.l0 kq l0 l1 x5_1 = some r) ∧ Aside0 (kq ≤ k) ∧ Drawn0 w w')
  case atStart => exact ⟨(0), eqA, H', ⟨Nat.le_refl _⟩, dwA⟩
  case round =>
   clear H'; (try clear c1); (try clear p2); (try clear c3); (try clear c3b0); (try clear c3b1); (try clear c3b2)
   obtain ⟨x5_1, rfl, HA, HK1, ⟨m1, rfl⟩⟩ := hrel
   cases gk with
   | zero => exact absurd HA.out (by simp [steeplelaw27_same.l0])
   | succ k1 =>
    have H := HA.out; clear HA
    simp only [steeplelaw27_same.l0] at H
    by_cases c4 : x5_1 < (l0.length : Int)
    ·rw [if_pos c4] at H
     have c4b0 : decide (x5_1 < (l0.length : Int)) = true := decide_eq_true c4; clear c4
     by_cases c5 : 0 ≤ x5_1
     ·rw [if_pos c5] at H
      have c5b0 : decide (0 ≤ x5_1) = true := decide_eq_true c5; clear c5
      by_cases c6 : x5_1 < (l1.length : Int)
      ·rw [if_pos c6] at H
       have c6b0 : decide (x5_1 < (l1.length : Int)) = true := decide_eq_true c6; clear c6
       by_cases c7 : ((rd_L4 l0 x5_1).length : Int) = ((rd_L4 l1 x5_1).length : Int)
       ·rw [if_pos c7] at H
        have c7b0 : (((rd_L4 l0 x5_1).length : Int) == ((rd_L4 l1 x5_1).length : Int)) = true := beq_iff_eq.mpr c7; have c7b1 : (((rd_L4 l0 x5_1).length : Int) != ((rd_L4 l1 x5_1).length : Int)) = false := bne_eq_false_iff_eq.mpr c7
        have c7b2 : ((rd_L4 l0 x5_1).length == (rd_L4 l1 x5_1).length) = true := by first | simpa using c7 | (simp at c7 ⊢; omega)
        clear c7; have H' := Aside0.mk H; clear H
        have p325 : 0 ≤ (x5_1 : Int) := of_decide_eq_true (by first | (with_reducible assumption) | assumption)
        have q325 : x5_1 < (l0.length : Int) := of_decide_eq_true (by first | (with_reducible assumption) | assumption)
        obtain ⟨ad325, A325_0, c325_0, e325, hx325_0, hl325_0, hi325_0⟩ := at_L4 HR0.out x5_1 p325 q325
        cases e325
        have HR325_0 := Aside0.mk hi325_0; have HC325_0 := Aside0.mk hl325_0; clear hi325_0 hl325_0; replace p325 := eq_true p325; replace q325 := eq_true q325
        have p326 : 0 ≤ (x5_1 : Int) := of_decide_eq_true (by first | (with_reducible assumption) | assumption)
        have q326 : x5_1 < (l1.length : Int) := of_decide_eq_true (by first | (with_reducible assumption) | assumption)
        obtain ⟨ad326, A326_0, c326_0, e326, hx326_0, hl326_0, hi326_0⟩ := at_L4 HR1.out x5_1 p326 q326
        cases e326
        have HR326_0 := Aside0.mk hi326_0; have HC326_0 := Aside0.mk hl326_0; clear hi326_0 hl326_0; replace p326 := eq_true p326; replace q326 := eq_true q326
        go_wp2
        repeat (go_quiet (fail); try go_wp2)
        go_loopg [6] k1 (fun kq v6 w' => ∃ (x6_2 : Int), v6 = .int .i64 x6_2 ∧ Aside0 (steeplelaw27_same.l1 kq l0 l1 x5_1 x6_2 = some r) ∧ Aside0 (kq ≤ k1) ∧ Drawn0 w w')
        case atStart => exact ⟨(0), eqA, H', ⟨Nat.le_refl _⟩, dwA⟩
        case round =>
         clear H'; (try clear c1); (try clear p2); (try clear c3); (try clear c3b0); (try clear c3b1); (try clear c3b2); (try clear p3); (try clear q3); (try clear hx3); (try clear c4); (try clear c4b0); (try clear c5); (try clear c5b0); (try clear c6); (try clear c6b0); (try clear c7); (try clear c7b0); (try clear c7b1); (try clear c7b2); (try clear hx325_0); (try clear hx326_0); (try clear p2); (try clear p325); (try clear p326); (try clear q325); (try clear q326)
         obtain ⟨x6_2, rfl, HA, HK2, ⟨m2, rfl⟩⟩ := hrel
         cases gk with
         | zero => exact absurd HA.out (by simp [steeplelaw27_same.l1])
         | succ k2 =>
          have H := HA.out; clear HA
          simp only [steeplelaw27_same.l1] at H
          by_cases c8 : 0 ≤ x5_1
          ·rw [if_pos c8] at H
           have c8b0 : decide (0 ≤ x5_1) = true := decide_eq_true c8; clear c8
           by_cases c9 : x5_1 < (l0.length : Int)
           ·rw [if_pos c9] at H
            have c9b0 : decide (x5_1 < (l0.length : Int)) = true := decide_eq_true c9; clear c9
            by_cases c10 : x6_2 < ((rd_L4 l0 x5_1).length : Int)
            ·rw [if_pos c10] at H
             have c10b0 : decide (x6_2 < ((rd_L4 l0 x5_1).length : Int)) = true := decide_eq_true c10; clear c10
             by_cases c11 : 0 ≤ x6_2
             ·rw [if_pos c11] at H
              have c11b0 : decide (0 ≤ x6_2) = true := decide_eq_true c11; clear c11
              by_cases c12 : x5_1 < (l1.length : Int)
              ·rw [if_pos c12] at H
               have c12b0 : decide (x5_1 < (l1.length : Int)) = true := decide_eq_true c12; clear c12
               by_cases c13 : x6_2 < ((rd_L4 l1 x5_1).length : Int)
               ·rw [if_pos c13] at H
                have c13b0 : decide (x6_2 < ((rd_L4 l1 x5_1).length : Int)) = true := decide_eq_true c13; clear c13
                by_cases c14 : (rd (rd_L4 l0 x5_1) x6_2) = (rd (rd_L4 l1 x5_1) x6_2)
                ·rw [if_pos c14] at H
                 have c14b0 : ((rd (rd_L4 l0 x5_1) x6_2) == (rd (rd_L4 l1 x5_1) x6_2)) = true := beq_iff_eq.mpr c14; have c14b1 : ((rd (rd_L4 l0 x5_1) x6_2) != (rd (rd_L4 l1 x5_1) x6_2)) = false := bne_eq_false_iff_eq.mpr c14; clear c14; have H' := Aside0.mk H; clear H
                 have p327 : 0 ≤ (x5_1 : Int) := of_decide_eq_true (by first | (with_reducible assumption) | assumption)
                 have q327 : x5_1 < (l0.length : Int) := of_decide_eq_true (by first | (with_reducible assumption) | assumption)
                 obtain ⟨ad327, A327_0, c327_0, e327, hx327_0, hl327_0, hi327_0⟩ := at_L4 HR0.out x5_1 p327 q327
                 obtain rfl : ad325 = ad327 := (by injection e327)
                 have HR327_0 := Aside0.mk hi327_0; have HC327_0 := Aside0.mk hl327_0; clear hi327_0 hl327_0; replace p327 := eq_true p327; replace q327 := eq_true q327
                 have p328 : 0 ≤ (x5_1 : Int) := of_decide_eq_true (by first | (with_reducible assumption) | assumption)
                 have q328 : x5_1 < (l0.length : Int) := of_decide_eq_true (by first | (with_reducible assumption) | assumption)
                 obtain ⟨ad328, A328_0, c328_0, e328, hx328_0, hl328_0, hi328_0⟩ := at_L4 HR0.out x5_1 p328 q328
                 obtain rfl : ad325 = ad328 := (by injection e328)
                 have HR328_0 := Aside0.mk hi328_0; have HC328_0 := Aside0.mk hl328_0; clear hi328_0 hl328_0; replace p328 := eq_true p328; replace q328 := eq_true q328; have ea_ := Option.some.inj (hx327_0.symm.trans hx328_0)
                 injection ea_ with ea_ en_ ec_
                 subst ea_; subst ec_; clear en_
                 have p329 : 0 ≤ (x6_2 : Int) := of_decide_eq_true (by first | (with_reducible assumption) | assumption)
                 have q329 : x6_2 < ((rd_L4 l0 x5_1).length : Int) := of_decide_eq_true (by first | (with_reducible assumption) | assumption)
                 obtain ⟨ad329, e329, hx329_0⟩ := Kd.at_int HR328_0.out x6_2 p329 q329
                 cases e329
                 replace p329 := eq_true p329; replace q329 := eq_true q329
                 have p330 : 0 ≤ (x5_1 : Int) := of_decide_eq_true (by first | (with_reducible assumption) | assumption)
                 have q330 : x5_1 < (l1.length : Int) := of_decide_eq_true (by first | (with_reducible assumption) | assumption)
                 obtain ⟨ad330, A330_0, c330_0, e330, hx330_0, hl330_0, hi330_0⟩ := at_L4 HR1.out x5_1 p330 q330
                 obtain rfl : ad326 = ad330 := (by injection e330)
                 have HR330_0 := Aside0.mk hi330_0; have HC330_0 := Aside0.mk hl330_0; clear hi330_0 hl330_0; replace p330 := eq_true p330; replace q330 := eq_true q330
                 have p331 : 0 ≤ (x6_2 : Int) := of_decide_eq_true (by first | (with_reducible assumption) | assumption)
                 have q331 : x6_2 < ((rd_L4 l1 x5_1).length : Int) := of_decide_eq_true (by first | (with_reducible assumption) | assumption)
                 obtain ⟨ad331, e331, hx331_0⟩ := Kd.at_int HR330_0.out x6_2 p331 q331
                 cases e331
                 replace p331 := eq_true p331; replace q331 := eq_true q331
                 go_wp2
                 repeat (go_quiet (fail); try go_wp2)
                 go_roundg k2
                 case measure => have := HK1.out; have := HK2.out; omega
                 case rel => exact ⟨(wrap64 (x6_2 + 1)), eqA, H', ⟨by have := HK1.out; have := HK2.out; omega⟩, dwA⟩
                ·rw [if_neg c14] at H
                 have c14b0 : ((rd (rd_L4 l0 x5_1) x6_2) == (rd (rd_L4 l1 x5_1) x6_2)) = false := beq_eq_false_iff_ne.mpr c14; have c14b1 : ((rd (rd_L4 l0 x5_1) x6_2) != (rd (rd_L4 l1 x5_1) x6_2)) = true := bne_iff_ne.mpr c14; obtain rfl := Option.some.inj H
                 have p327 : 0 ≤ (x5_1 : Int) := of_decide_eq_true (by first | (with_reducible assumption) | assumption)
                 have q327 : x5_1 < (l0.length : Int) := of_decide_eq_true (by first | (with_reducible assumption) | assumption)
                 obtain ⟨ad327, A327_0, c327_0, e327, hx327_0, hl327_0, hi327_0⟩ := at_L4 HR0.out x5_1 p327 q327
                 obtain rfl : ad325 = ad327 := (by injection e327)
                 have HR327_0 := Aside0.mk hi327_0; have HC327_0 := Aside0.mk hl327_0; clear hi327_0 hl327_0; replace p327 := eq_true p327; replace q327 := eq_true q327
                 have p328 : 0 ≤ (x5_1 : Int) := of_decide_eq_true (by first | (with_reducible assumption) | assumption)
                 have q328 : x5_1 < (l0.length : Int) := of_decide_eq_true (by first | (with_reducible assumption) | assumption)
                 obtain ⟨ad328, A328_0, c328_0, e328, hx328_0, hl328_0, hi328_0⟩ := at_L4 HR0.out x5_1 p328 q328
                 obtain rfl : ad325 = ad328 := (by injection e328)
                 have HR328_0 := Aside0.mk hi328_0; have HC328_0 := Aside0.mk hl328_0; clear hi328_0 hl328_0; replace p328 := eq_true p328; replace q328 := eq_true q328; have ea_ := Option.some.inj (hx327_0.symm.trans hx328_0)
                 injection ea_ with ea_ en_ ec_
                 subst ea_; subst ec_; clear en_
                 have p329 : 0 ≤ (x6_2 : Int) := of_decide_eq_true (by first | (with_reducible assumption) | assumption)
                 have q329 : x6_2 < ((rd_L4 l0 x5_1).length : Int) := of_decide_eq_true (by first | (with_reducible assumption) | assumption)
                 obtain ⟨ad329, e329, hx329_0⟩ := Kd.at_int HR328_0.out x6_2 p329 q329
                 cases e329
                 replace p329 := eq_true p329; replace q329 := eq_true q329
                 have p330 : 0 ≤ (x5_1 : Int) := of_decide_eq_true (by first | (with_reducible assumption) | assumption)
                 have q330 : x5_1 < (l1.length : Int) := of_decide_eq_true (by first | (with_reducible assumption) | assumption)
                 obtain ⟨ad330, A330_0, c330_0, e330, hx330_0, hl330_0, hi330_0⟩ := at_L4 HR1.out x5_1 p330 q330
                 obtain rfl : ad326 = ad330 := (by injection e330)
                 have HR330_0 := Aside0.mk hi330_0; have HC330_0 := Aside0.mk hl330_0; clear hi330_0 hl330_0; replace p330 := eq_true p330; replace q330 := eq_true q330
                 have p331 : 0 ≤ (x6_2 : Int) := of_decide_eq_true (by first | (with_reducible assumption) | assumption)
                 have q331 : x6_2 < ((rd_L4 l1 x5_1).length : Int) := of_decide_eq_true (by first | (with_reducible assumption) | assumption)
                 obtain ⟨ad331, e331, hx331_0⟩ := Kd.at_int HR330_0.out x6_2 p331 q331
                 cases e331
                 replace p331 := eq_true p331; replace q331 := eq_true q331
                 go_wp2
                 repeat (go_quiet (fail); try go_wp2)
                 go_ret
                 exact ⟨eqA, dwA⟩
               ·rw [if_neg c13] at H
                exact absurd H (by simp)
              ·rw [if_neg c12] at H
               exact absurd H (by simp)
             ·rw [if_neg c11] at H
              exact absurd H (by simp)
            ·rw [if_neg c10] at H
             have c10b0 : decide (x6_2 < ((rd_L4 l0 x5_1).length : Int)) = false := decide_eq_false c10; clear c10; have H' := Aside0.mk H; clear H
             have p327 : 0 ≤ (x5_1 : Int) := of_decide_eq_true (by first | (with_reducible assumption) | assumption)
             have q327 : x5_1 < (l0.length : Int) := of_decide_eq_true (by first | (with_reducible assumption) | assumption)
             obtain ⟨ad327, A327_0, c327_0, e327, hx327_0, hl327_0, hi327_0⟩ := at_L4 HR0.out x5_1 p327 q327
             obtain rfl : ad325 = ad327 := (by injection e327)
             have HR327_0 := Aside0.mk hi327_0; have HC327_0 := Aside0.mk hl327_0; clear hi327_0 hl327_0; replace p327 := eq_true p327; replace q327 := eq_true q327
             go_wp2
             repeat (go_quiet (fail); try go_wp2)
             go_roundg k2
             case measure => have := HK1.out; have := HK2.out; omega
             case rel => exact ⟨(wrap64 (x5_1 + 1)), eqA, H', ⟨by have := HK1.out; have := HK2.out; omega⟩, dwA⟩
           ·rw [if_neg c9] at H
            exact absurd H (by simp)
          ·rw [if_neg c8] at H
           exact absurd H (by simp)
       ·rw [if_neg c7] at H
        have c7b0 : (((rd_L4 l0 x5_1).length : Int) == ((rd_L4 l1 x5_1).length : Int)) = false := beq_eq_false_iff_ne.mpr c7; have c7b1 : (((rd_L4 l0 x5_1).length : Int) != ((rd_L4 l1 x5_1).length : Int)) = true := bne_iff_ne.mpr c7
        have c7b2 : ((rd_L4 l0 x5_1).length == (rd_L4 l1 x5_1).length) = false := by first | simpa using c7 | (simp at c7 ⊢; omega)
        obtain rfl := Option.some.inj H
        have p325 : 0 ≤ (x5_1 : Int) := of_decide_eq_true (by first | (with_reducible assumption) | assumption)
        have q325 : x5_1 < (l0.length : Int) := of_decide_eq_true (by first | (with_reducible assumption) | assumption)
        obtain ⟨ad325, A325_0, c325_0, e325, hx325_0, hl325_0, hi325_0⟩ := at_L4 HR0.out x5_1 p325 q325
        cases e325
        have HR325_0 := Aside0.mk hi325_0; have HC325_0 := Aside0.mk hl325_0; clear hi325_0 hl325_0; replace p325 := eq_true p325; replace q325 := eq_true q325
        have p326 : 0 ≤ (x5_1 : Int) := of_decide_eq_true (by first | (with_reducible assumption) | assumption)
        have q326 : x5_1 < (l1.length : Int) := of_decide_eq_true (by first | (with_reducible assumption) | assumption)
        obtain ⟨ad326, A326_0, c326_0, e326, hx326_0, hl326_0, hi326_0⟩ := at_L4 HR1.out x5_1 p326 q326
        cases e326
        have HR326_0 := Aside0.mk hi326_0; have HC326_0 := Aside0.mk hl326_0; clear hi326_0 hl326_0; replace p326 := eq_true p326; replace q326 := eq_true q326
        go_wp2
        repeat (go_quiet (fail); try go_wp2)
        go_ret
        exact ⟨eqA, dwA⟩
      ·rw [if_neg c6] at H
       exact absurd H (by simp)
     ·rw [if_neg c5] at H
      exact absurd H (by simp)
    ·rw [if_neg c4] at H
     have c4b0 : decide (x5_1 < (l0.length : Int)) = false := decide_eq_false c4; clear c4; obtain rfl := Option.some.inj H
     go_wp2
     repeat (go_quiet (fail); try go_wp2)
     go_ret
     exact ⟨eqA, dwA⟩
 ·rw [if_neg c3] at H
  have c3b0 : ((l0.length : Int) == (l1.length : Int)) = false := beq_eq_false_iff_ne.mpr c3; have c3b1 : ((l0.length : Int) != (l1.length : Int)) = true := bne_iff_ne.mpr c3
  have c3b2 : (l0.length == l1.length) = false := by first | simpa using c3 | (simp at c3 ⊢; omega)
  obtain rfl := Option.some.inj H
  go_enter Try.func30, Try.ntmps30
  go_wp2
  repeat (go_quiet (fail); try go_wp2)
  go_ret
  exact ⟨eqA, dwA⟩
end Go.Proofs.Ythiiodgpdoljoaa.PLw
