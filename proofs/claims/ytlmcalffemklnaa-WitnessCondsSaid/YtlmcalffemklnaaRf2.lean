/- A walk by reckoning: what a Go function comes to, reckoned out of its operations, and why that is so. -/
import Derived.Test.YtlmcalffemklnaaRf1
import Derived.Laws.Pointers
import Derived.Laws.MakeOwn
import Derived.Laws.AppendOwn
import Derived.Laws.Tables
set_option linter.unusedVariables false
set_option linter.unusedSimpArgs false
namespace Go.Proofs.Ytlmcalffemklnaa.Rf
variable {M : Sc} {W w w' : World} {ow ow' : Own} {tf tf' : Nat → Value} {st st1 : St} {ρ : Type} {P : Program}
theorem isSlT_spec {t : TypeId} (h : isSlT P t = true) : ∃ e, P.underlying t = some (.slice e) := by
  unfold isSlT at h; split at h
  · rename_i e hu; exact ⟨e, hu⟩
  · cases h
theorem isStrT_spec {t : TypeId} (h : isStrT P t = true) : P.underlying t = some .string := by
  unfold isStrT at h; split at h
  · assumption
  · cases h
/-- A slice held against nil. -/
theorem run_equalIn_nil {t e : TypeId} {a : Option Addr} {n c d : Nat} (hu : P.underlying t = some (.slice e)) : (Op.equalIn (d + 1) t (.slice a n c) (.slice none 0 0)).run P w = .ok a.isNone w := by
  cases a <;> simp [Op.equalIn, run_underlying hu]
theorem run_equal_nil {t e : TypeId} {a : Option Addr} {n c : Nat} (hu : P.underlying t = some (.slice e)) : (Op.equal t (.slice a n c) (.slice none 0 0)).run P w = .ok a.isNone w := run_equalIn_nil (d := 9999) hu
theorem run_eql_nil {t e : TypeId} {a : Option Addr} {n c : Nat} (hu : P.underlying t = some (.slice e)) : (binOp .eql t (.slice a n c) (.slice none 0 0)).run P w = .ok (.bool a.isNone) w := by
  simp only [binOp]
  simp [run_equal_nil hu]
theorem run_neq_nil {t e : TypeId} {a : Option Addr} {n c : Nat} (hu : P.underlying t = some (.slice e)) : (binOp .neq t (.slice a n c) (.slice none 0 0)).run P w = .ok (.bool !a.isNone) w := by
  simp only [binOp]
  simp [run_equal_nil hu]
theorem nilB_some {α : Type} {l : List α} {a b : Option ρ} {r : ρ} (h : nilB l a b = some r) : b = some r ∧ (l = [] → a = some r) := by
  unfold nilB at h
  cases l with
  | nil => obtain ⟨h1, h2⟩ := both_some h; exact ⟨h2, fun _ => h1⟩
  | cons x l => exact ⟨h, fun e => by cases e⟩
theorem nilV_sound {op : BinOp} {t e : TypeId} {u : Ty} {l : List u.den} {a : Option Addr} {n c : Nat} {κ : Dv → Option ρ} {r : ρ} (hu : P.underlying t = some (.slice e)) (hl : l ≠ [] → a ≠ none) (hx : nilV op l κ = some r) :
    ∃ v d, (binOp op t (.slice a n c) (.slice none 0 0)).run P w = .ok v w ∧ κ d = some r ∧ ∀ ow bs s p, VR w ow bs d s p v := by
  unfold nilV at hx
  cases op <;> simp only [reduceCtorEq] at hx
  · obtain ⟨h1, h2⟩ := nilB_some hx
    cases a with
    | none =>
      have : l = [] := by cases l with
        | nil => rfl
        | cons x l => exact absurd rfl (hl (by simp))
      exact ⟨_, _, run_eql_nil hu, h2 this, fun _ _ _ _ => VR.mk_bool ..⟩
    | some a => exact ⟨_, _, run_eql_nil hu, h1, fun _ _ _ _ => VR.mk_bool ..⟩
  · obtain ⟨h1, h2⟩ := nilB_some hx
    cases a with
    | none =>
      have : l = [] := by cases l with
        | nil => rfl
        | cons x l => exact absurd rfl (hl (by simp))
      exact ⟨_, _, run_neq_nil hu, h2 this, fun _ _ _ _ => VR.mk_bool ..⟩
    | some a => exact ⟨_, _, run_neq_nil hu, h1, fun _ _ _ _ => VR.mk_bool ..⟩
theorem slice_of {d : Dv} {s : Nat} {p : List Step} {v : Value} {bs : Fl} {f : Bool} {u : Ty} {l : List u.den} (h : VR w ow bs d s p v) (hd : d = ⟨.sl f u, l⟩ ∨ d = ⟨.osl f u, l⟩) : ∃ a len cap, v = .slice a len cap ∧ l.length = len ∧ (l ≠ [] → a ≠ none) := by
  rcases hd with rfl | rfl
  · have := (h.cell rfl).2
    simp only [Rd] at this
    obtain ⟨a, len, cap, h1, h2, h3, h4⟩ := this
    refine ⟨a, len, cap, by simpa using h1, h2, fun hl => ?_⟩
    obtain ⟨b, o, rfl, _⟩ := h4 (by rw [← h2]; exact fun e => hl (List.eq_nil_of_length_eq_zero e))
    simp
  · have := (h.cell rfl).2
    simp only [Rd] at this
    obtain ⟨a, len, cap, h1, h2, h3, h4⟩ := this
    refine ⟨a, len, cap, by simpa using h1, h2, fun hl => ?_⟩
    obtain ⟨b, o, rfl, _⟩ := h4 (by have : List.length l ≠ 0 := fun e => hl (List.eq_nil_of_length_eq_zero e); have h2' : List.length l = len := h2; omega)
    simp
theorem nils_of {s : Nat} {p : List Step} {v : Value} {bs : Fl} {x : Ty.nils.den} (h : VR w ow bs ⟨.nils, x⟩ s p v) : ∃ a, v = .slice a 0 0 := by
  have := (h.cell rfl).2
  simp only [Rd] at this
  obtain ⟨a, h1⟩ := this
  exact ⟨a, by simpa using h1⟩
theorem isNil_spec {y : Operand} (h : isNil y = true) : ev tf y = .slice none 0 0 := by
  unfold isNil at h
  split at h
  · rfl
  · cases h
theorem run_equalIn_ptr {t e : TypeId} {a : Addr} {d : Nat} (hu : P.underlying t = some (.pointer e)) : (Op.equalIn (d + 1) t (.pointer (some a)) (.pointer none)).run P w = .ok false w := by
  simp [Op.equalIn, run_underlying hu]
theorem run_equal_ptr {t e : TypeId} {a : Addr} (hu : P.underlying t = some (.pointer e)) : (Op.equal t (.pointer (some a)) (.pointer none)).run P w = .ok false w := run_equalIn_ptr (d := 9999) hu
theorem run_eql_ptr {t e : TypeId} {a : Addr} (hu : P.underlying t = some (.pointer e)) : (binOp .eql t (.pointer (some a)) (.pointer none)).run P w = .ok (.bool false) w := by
  simp only [binOp]
  simp [run_equal_ptr hu]
theorem run_neq_ptr {t e : TypeId} {a : Addr} (hu : P.underlying t = some (.pointer e)) : (binOp .neq t (.pointer (some a)) (.pointer none)).run P w = .ok (.bool true) w := by
  simp only [binOp]
  simp [run_equal_ptr hu]
theorem isPtrT_spec {t : TypeId} (h : isPtrT P t = true) : ∃ e, P.underlying t = some (.pointer e) := by
  unfold isPtrT at h; split at h
  · rename_i e hu; exact ⟨e, hu⟩
  · cases h
theorem xBin_sound {op : BinOp} {t t' : TypeId} {x y : Operand} {n : Nat} {κ : St → Ent → Option ρ} {r : ρ} (h : Rel M W w ow tf st) (hn : st n = .dead) (hx : xBin P st op t x y κ = some r) :
    ∃ v, (do eqGuard op t x y (ev tf x) (ev tf y); binOp op t (ev tf x) (ev tf y) : Sem Value).run P w = .ok v w ∧ Res M W w tf st n v κ r := by
  unfold xBin at hx
  split at hx
  · rename_i hnil
    split at hx
    · rename_i d hd ht
      obtain ⟨e, hu⟩ := isSlT_spec ht
      obtain ⟨s, p, hv⟩ := lookV_sound h hd
      have key : ∃ a l c, ev tf x = .slice a l c ∧ ∃ v d', (binOp op t (.slice a l c) (.slice none 0 0)).run P w = .ok v w ∧ κ st (.val d') = some r ∧ ∀ ow bs s p, VR w ow bs d' s p v := by
        unfold nilD at hx
        split at hx
        · obtain ⟨a, len, cap, e1, _, e2⟩ := slice_of hv (.inl rfl)
          exact ⟨a, len, cap, e1, nilV_sound hu e2 hx⟩
        · obtain ⟨a, len, cap, e1, _, e2⟩ := slice_of hv (.inr rfl)
          exact ⟨a, len, cap, e1, nilV_sound hu e2 hx⟩
        · obtain ⟨a, e1⟩ := nils_of hv
          exact ⟨a, 0, 0, e1, nilV_sound (u := .unit) (l := []) hu (fun h => absurd rfl h) hx⟩
        · cases hx
      obtain ⟨a, l, c, e1, v, d', e2, e3, e4⟩ := key
      refine ⟨v, ?_, h.resFlat hn (e4 _ _ _ _) e3⟩
      rw [e1, isNil_spec hnil]
      simp only [Sem.run_bind, eqGuard_plain (a := .slice a l c) (by simp) (by simp), Result.andThen_ok, e2]
    · cases hx
  · split at hx
    · rename_i a b ha hb
      obtain ⟨v, d, h1, h2, h3⟩ := binV_sound (P := P) (n := n) h ha hb hx
      exact ⟨v, h1, h.resFlat hn (h3 _ _ _ _) h2⟩
    · split at hx
      · rename_i sp u hr hy ht
        obtain ⟨e, hu⟩ := isPtrT_spec ht
        obtain ⟨s0, p0⟩ := sp
        obtain ⟨d, t', b, o, hs, hw, he, hp⟩ := refOf_sound h hr
        have hyv : ev tf y = .pointer none := by
          obtain ⟨s, p, hv⟩ := opd_val h hy
          have := (hv.cell rfl).2
          simp only [Rd] at this
          simpa using this
        rw [he, hyv]
        cases op <;> simp only [reduceCtorEq] at hx
        · exact ⟨_, by simp only [Sem.run_bind, eqGuard_plain (a := .pointer (some ⟨b, o, none⟩)) (by simp) (by simp), Result.andThen_ok, run_eql_ptr hu], h.resFlat hn (VR.mk_bool ..) hx⟩
        · exact ⟨_, by simp only [Sem.run_bind, eqGuard_plain (a := .pointer (some ⟨b, o, none⟩)) (by simp) (by simp), Result.andThen_ok, run_neq_ptr hu], h.resFlat hn (VR.mk_bool ..) hx⟩
      · cases hx
theorem nthD_get : ∀ (l : List Dv) (n : Nat), nthD l n = l[n]?
  | [], n => by simp [nthD]
  | d :: l, 0 => rfl
  | d :: l, n + 1 => by simp only [nthD, List.getElem?_cons_succ]; exact nthD_get l n
theorem outD_set : ∀ (l : List Dv) (n : Nat), outD l n = l.set n ⟨.hole, ()⟩
  | [], n => by simp [outD]
  | d :: l, 0 => rfl
  | d :: l, n + 1 => by simp only [outD, List.set_cons_succ]; rw [outD_set l n]
theorem xLen_sound {x : Operand} {t ty : TypeId} {n : Nat} {κ : St → Ent → Option ρ} {r : ρ} (h : Rel M W w ow tf st) (hn : st n = .dead) (hx : xLen P st x t κ = some r) :
    ∃ v, (Builtin.len_ #[t] ty #[ev tf x]).run P w = .ok v w ∧ Res M W w tf st n v κ r := by
  unfold xLen at hx
  split at hx
  · rename_i d hd
    obtain ⟨s, p, hv⟩ := lookV_sound h hd
    split at hx
    · rename_i r' hl
      unfold lens at hl
      split at hl
      · split at hl
        · rename_i ht
          obtain ⟨e, hu⟩ := isSlT_spec ht
          obtain ⟨a, len, cap, e1, e2, _⟩ := slice_of hv (.inl rfl)
          simp only [Option.some.injEq] at hl
          subst hl
          refine ⟨goInt len, by rw [e1]; simp [Builtin.len_, run_underlying hu], h.resFlat hn ?_ hx⟩
          rw [← e2]; exact VR.mk_int ..
        · cases hl
      · split at hl
        · rename_i ht
          obtain ⟨e, hu⟩ := isSlT_spec ht
          obtain ⟨a, len, cap, e1, e2, _⟩ := slice_of hv (.inr rfl)
          simp only [Option.some.injEq] at hl
          subst hl
          refine ⟨goInt len, by rw [e1]; simp [Builtin.len_, run_underlying hu], h.resFlat hn ?_ hx⟩
          rw [← e2]; exact VR.mk_int ..
        · cases hl
      · split at hl
        · rename_i ht
          obtain ⟨e, hu⟩ := isSlT_spec ht
          obtain ⟨a, e1⟩ := nils_of hv
          simp only [Option.some.injEq] at hl
          subst hl
          exact ⟨goInt 0, by rw [e1]; simp [Builtin.len_, run_underlying hu], h.resFlat hn (VR.mk_int ..) hx⟩
        · cases hl
      · split at hl
        · rename_i ht
          have hu := isStrT_spec ht
          simp only [Option.some.injEq] at hl
          subst hl
          exact ⟨goInt _, by rw [hv.str]; simp [Builtin.len_, run_underlying hu], h.resFlat hn (VR.mk_int ..) hx⟩
        · cases hl
      · cases hl
    · cases hx
  · cases hx
theorem xMax_sound {x y : Operand} {ts : Array TypeId} {ty : TypeId} {n : Nat} {κ : St → Ent → Option ρ} {r : ρ} (h : Rel M W w ow tf st) (hn : st n = .dead) (hx : xMM st maxV x y κ = some r) :
    ∃ v, (Builtin.max_ ts ty #[ev tf x, ev tf y]).run P w = .ok v w ∧ Res M W w tf st n v κ r := by
  unfold xMM at hx
  split at hx
  · rename_i a b ha hb
    obtain ⟨s1, p1, v1⟩ := lookV_sound h ha
    obtain ⟨s2, p2, v2⟩ := lookV_sound h hb
    split at hx
    · rename_i d hd
      unfold maxV at hd
      split at hd
      · rename_i k m k' m' e
        simp only [List.cons.injEq, and_true] at e
        obtain ⟨rfl, rfl⟩ := e
        simp only [Option.some.injEq] at hd
        subst hd
        exact ⟨_, by rw [v1.int, v2.int]; exact run_max_int2 w ts ty _ _ _ _, h.resFlat hn (VR.mk_int ..) hx⟩
      · cases hd
    · cases hx
  · cases hx
theorem xMin_sound {x y : Operand} {ts : Array TypeId} {ty : TypeId} {n : Nat} {κ : St → Ent → Option ρ} {r : ρ} (h : Rel M W w ow tf st) (hn : st n = .dead) (hx : xMM st minV x y κ = some r) :
    ∃ v, (Builtin.min_ ts ty #[ev tf x, ev tf y]).run P w = .ok v w ∧ Res M W w tf st n v κ r := by
  unfold xMM at hx
  split at hx
  · rename_i a b ha hb
    obtain ⟨s1, p1, v1⟩ := lookV_sound h ha
    obtain ⟨s2, p2, v2⟩ := lookV_sound h hb
    split at hx
    · rename_i d hd
      unfold minV at hd
      split at hd
      · rename_i k m k' m' e
        simp only [List.cons.injEq, and_true] at e
        obtain ⟨rfl, rfl⟩ := e
        simp only [Option.some.injEq] at hd
        subst hd
        exact ⟨_, by rw [v1.int, v2.int]; exact run_min_int2 w ts ty _ _ _ _, h.resFlat hn (VR.mk_int ..) hx⟩
      · cases hd
    · cases hx
  · cases hx
end Go.Proofs.Ytlmcalffemklnaa.Rf
namespace Go.Proofs.Ytlmcalffemklnaa.Rf
variable {M : Sc} {W w w' : World} {ow ow' : Own} {tf tf' : Nat → Value} {st st1 : St} {ρ : Type} {P : Program}
theorem zAll_spec : ∀ (n : Nat) {f : Nat → Bool}, zAll n f = true → ∀ i, i < n → f i = true
  | 0, f, h, i, hi => by omega
  | n + 1, f, h, i, hi => by
    simp only [zAll, Bool.and_eq_true] at h
    rcases Nat.lt_or_ge i n with k | k
    · exact zAll_spec n h.2 i k
    · rw [show i = n by omega]; exact h.1
theorem rd_replicate {t : Ty} (n i : Nat) (y : t.den) (h : i < n) : rd (List.replicate n y) i = y := by
  unfold rd; simp [List.getD_eq_getElem?_getD, h]
/-- Zero cells read as the zero value. -/
theorem zOk_sound {w : World} {ow : Own} {bs : Fl} : (t : Ty) → {s : Nat} → {p : List Step} → {g : Nat → Option Value} → {o : Nat} → zOk t g o = true → Rd w ow bs t s p g o t.dflt
  | .int k, s, p, g, o, h => by
    simp only [zOk] at h
    split at h
    · rename_i k' n e
      simp only [Bool.and_eq_true, decide_eq_true_eq, beq_iff_eq] at h
      simp only [Rd]; rw [e, h.1, h.2]; rfl
    · cases h
  | .bool, s, p, g, o, h => by
    simp only [zOk] at h
    split at h
    · rename_i b e
      simp only [Bool.not_eq_true'] at h
      simp only [Rd]; rw [e, h]; rfl
    · cases h
  | .str, s, p, g, o, h => by
    simp only [zOk] at h
    split at h
    · rename_i b e
      have h0 := Nat.eq_of_beq_eq_true h
      simp only [Rd]; rw [e]
      congr 2
      obtain ⟨⟨l⟩⟩ := b
      cases l with
      | nil => rfl
      | cons a l => simp [ByteArray.size] at h0
    · cases h
  | .nils, s, p, g, o, h => by
    simp only [zOk] at h
    split at h
    · rename_i e; simp only [Rd]; exact ⟨_, e⟩
    · cases h
  | .sl f t, s, p, g, o, h => by
    simp only [zOk] at h
    split at h
    · rename_i e; simp only [Rd]; exact ⟨_, 0, 0, e, rfl, Nat.le_refl _, fun h => absurd rfl h⟩
    · cases h
  | .nilp, s, p, g, o, h => by
    simp only [zOk] at h
    split at h
    · rename_i e; simp only [Rd]; exact e
    · cases h
  | .unit, s, p, g, o, h => by simp only [Rd]
  | .pair a b, s, p, g, o, h => by
    simp only [zOk, Bool.and_eq_true] at h
    simp only [Rd]
    exact ⟨zOk_sound a h.1, zOk_sound b h.2⟩
  | .arr n t, s, p, g, o, h => by
    simp only [zOk] at h
    simp only [Rd]
    refine ⟨List.length_replicate, fun i hi => ?_⟩
    rw [show rd (t := t) (Ty.arr n t).dflt i = t.dflt from rd_replicate n i _ hi]
    exact zOk_sound t (zAll_spec n h i hi)
  | .hole, _, _, _, _, h => by simp only [zOk, Bool.false_eq_true] at h
  | .osl _ _, _, _, _, _, h => by simp only [zOk, Bool.false_eq_true] at h
  | .optr _ _, _, _, _, _, h => by simp only [zOk, Bool.false_eq_true] at h
  | .sptr _, _, _, _, _, h => by simp only [zOk, Bool.false_eq_true] at h
theorem zeroB_spec {t : TypeId} {ty : Ty} (h : zeroB P t ty = true) : ∃ i v, P.info? t = some i ∧ i.zero = some v ∧ v.cells.size = ty.sz ∧ (∀ w ow bs s p, VR w ow bs ⟨ty, ty.dflt⟩ s p v) := by
  unfold zeroB at h
  split at h
  · rename_i i hi
    split at h
    · rename_i v hv
      simp only [Bool.and_eq_true] at h
      obtain ⟨⟨h1, h2⟩, h3⟩ := h
      have h2 := Nat.eq_of_beq_eq_true h2
      refine ⟨i, v, hi, hv, h2, fun w ow bs s p => ⟨?_, h2, zOk_sound ty h1⟩⟩
      have h3 : isAggV v = ty.agg := by simpa using h3
      rw [← h3]
      cases v <;> simp [isAggV]
    · cases h
  · cases h
theorem run_zeroValue {t : TypeId} {i : TypeInfo} {v : Value} (hi : P.info? t = some i) (hv : i.zero = some v) : (zeroValue t).run P w = .ok v w := by
  simp [zeroValue, typeInfo, hi, hv]
theorem heap_alloc_at (w : World) (o : Obj) : (w.alloc o).heap[w.heap.size]? = some o := by
  show (w.heap.push o)[w.heap.size]? = _
  simp
theorem heap_alloc_lt (w : World) (o : Obj) {b : Nat} (h : b < w.heap.size) : (w.alloc o).heap[b]? = w.heap[b]? := by
  show (w.heap.push o)[b]? = _
  rw [Array.getElem?_push, if_neg (by omega)]
theorem mem_alloc_at (w : World) (c : Array Value) (e : TypeId) (j : Nat) : mem (w.alloc (.cells c e)) w.heap.size j = c[j]? := World.cell?_alloc_new w c e j
theorem Kp.alloc (h : Kp M W w) (top : ∀ b, W.heap.size ≤ b → M.m b) (o : Obj) : Kp M W (w.alloc o) := by
  obtain ⟨h1, h2, h3, h4, h5⟩ := h
  refine ⟨h1, h2, h3, by rw [World.size_alloc]; omega, fun b hb => ?_⟩
  have hlt : b < W.heap.size := Nat.lt_of_not_le (fun hle => hb (top b hle))
  rw [heap_alloc_lt w o (by omega)]; exact h5 b hb
/-- What is in hand becomes something else, in a world that has grown. -/
theorem Hand.change {n : Nat} {d d' : Dv} {v v' : Value} (h : Hand M W w ow tf st n (.val d) v) (hK : Kp M W w') (hs : w.heap.size ≤ w'.heap.size)
    (hn : ∀ b, b < w.heap.size → ow b = none → ow' b = none ∧ w'.heap[b]? = w.heap[b]?)
    (hl : ∀ b s q, s ≠ n → b < w.heap.size → ow b = some (s, q) → ow' b = some (s, q) ∧ w'.heap[b]? = w.heap[b]?)
    (ho : ∀ b l, ow' b = some l → M.m b ∧ b < w'.heap.size) (hv : VR w' ow' M.f d' n [] v') : Hand M W w' ow' tf st n (.val d') v' := by
  obtain ⟨hf, hen, hr⟩ := h
  have hown : (st n).owns = false := by rw [hf.1]; rfl
  refine ⟨hf, by simp [Ent.names], hK, fun x => ?_, ho, hr.top⟩
  by_cases hx : x = n
  · subst hx; rw [setS_same]; simp only [drop_val, ER, upd_same]; exact hv
  · have hent := hr.ent x
    rw [setS_ne st _ hx, hown] at hent ⊢
    refine ER.keep hs (by rw [upd_ne _ _ hx, upd_ne _ _ hx]) hn (fun b q hb hq => hl b x q hx hb hq) (fun s' dd hs' hdd => ?_) hent
    have hsn : s' ≠ n := fun e => hf.2 x (e ▸ hs')
    rw [setS_ne st _ hsn, hown] at hdd
    refine ⟨by rw [setS_ne st _ hsn, hown]; exact hdd, by rw [upd_ne _ _ hsn, upd_ne _ _ hsn], hr.vr (by rw [setS_ne st _ hsn, hown]; exact hdd), fun b q hb hq => (hl b s' q hsn hb hq).2⟩
/-- A variable made of what is in hand. -/
theorem Hand.box {n : Nat} {d : Dv} {v : Value} (e : TypeId) (h : Hand M W w ow tf st n (.val d) v) :
    ∃ ow', Hand M W (w.alloc (.cells v.cells e)) ow' tf st n (.val ⟨.optr true d.1, d.2⟩) (.pointer (some ⟨w.heap.size, 0, none⟩)) := by
  have hr := h.2.2
  have hv : VR w ow M.f d n [] v := by
    have := hr.ent n
    rw [setS_same] at this
    simpa only [drop_val, ER, upd_same] using this
  let ow' : Own := fun b => if b = w.heap.size then some (n, []) else match ow b with
    | some (s, q) => if s = n then some (n, .d :: q) else some (s, q)
    | none => none
  have hnew : ow' w.heap.size = some (n, []) := by simp only [ow', if_true]
  have hold : ∀ b, b < w.heap.size → ow' b = match ow b with | some (s, q) => if s = n then some (n, .d :: q) else some (s, q) | none => none := fun b hb => by
    simp only [ow', if_neg (show b ≠ w.heap.size by omega)]
  have hns : ∀ b, b < w.heap.size → ow b = none → ow' b = none := fun b hb hq => by rw [hold b hb, hq]
  have hmv : ∀ b q, b < w.heap.size → ow b = some (n, q) → ow' b = some (n, [.d] ++ q) := fun b q hb hq => by rw [hold b hb, hq]; simp
  have hsz : w.heap.size ≤ (w.alloc (.cells v.cells e)).heap.size := by rw [World.size_alloc]; omega
  refine ⟨ow', h.change (hr.fr.alloc hr.top _) hsz (fun b hb hq => ⟨hns b hb hq, heap_alloc_lt w _ hb⟩) (fun b s q hs hb hq => ⟨by rw [hold b hb, hq]; simp [hs], heap_alloc_lt w _ hb⟩) (fun b l hl => ?_) ?_⟩
  · by_cases hb : b = w.heap.size
    · subst hb
      exact ⟨hr.top _ hr.fr.2.2.2.1, by rw [World.size_alloc]; omega⟩
    · simp only [ow', if_neg hb] at hl
      cases hq : ow b with
      | none => rw [hq] at hl; cases hl
      | some l0 => have := hr.own b l0 hq; exact ⟨this.1, by rw [World.size_alloc]; omega⟩
  · refine VR.of_cell (g := fun _ => some (.pointer (some ⟨w.heap.size, 0, none⟩))) (o := 0) rfl ?_ rfl
    simp only [Rd]
    refine ⟨w.heap.size, rfl, hnew, M.mf _ _ (hr.top _ hr.fr.2.2.2.1), ⟨v.cells, e, heap_alloc_at w _, by rw [hv.2.1]; exact Nat.le_refl _⟩, ?_⟩
    refine Rd.frame hsz d.1 (fun i hi => ?_) (fun b hb hq => ⟨hns b hb hq, heap_alloc_lt w _ hb⟩) (fun b q hb hq => ⟨hmv b q hb hq, heap_alloc_lt w _ hb⟩) hv.2.2
    rw [mem_alloc_at]
theorem run_box {e : TypeId} {v : Value} : (Instr.box e v).run P w = .ok (.pointer (some ⟨w.heap.size, 0, none⟩)) (w.alloc (.cells v.cells e)) := rfl
theorem xBox_sound {e : TypeId} {x : Operand} {n : Nat} {κ : St → Ent → Option ρ} {r : ρ} (h : Rel M W w ow tf st) (hn : st n = .dead) (hx : xBox st x κ = some r) :
    ∃ v w', (Instr.box e (ev tf x)).run P w = .ok v w' ∧ Res M W w' tf st n v κ r := by
  unfold xBox at hx
  split at hx
  · rename_i d st1 hu
    obtain ⟨⟨ow1, k1⟩, k2⟩ := useV_sound h hu hn
    obtain ⟨ow2, k3⟩ := k1.box e
    exact ⟨_, _, run_box, _, _, hx, k2, ow2, k3⟩
  · cases hx
theorem xAlloc_sound {e : TypeId} {n : Nat} {κ : St → Ent → Option ρ} {r : ρ} (h : Rel M W w ow tf st) (hn : st n = .dead) (hx : xAlloc P st e κ = some r) :
    ∃ v w', (Instr.alloc e true (.tuple #[])).run P w = .ok v w' ∧ Res M W w' tf st n v κ r := by
  unfold xAlloc at hx
  split at hx
  · rename_i t ht
    split at hx
    · rename_i hz
      obtain ⟨i, v, hi, hv, hs, hvr⟩ := zeroB_spec hz
      obtain ⟨ow2, k3⟩ := (h.handVal hn (hvr w ow M.f n [])).box e
      refine ⟨.pointer (some ⟨w.heap.size, 0, none⟩), w.alloc (.cells v.cells e), ?_, _, _, hx, Deads.refl _, ow2, k3⟩
      simp only [Instr.alloc, Sem.run_bind, run_zeroValue hi hv, Result.andThen_ok]
      rfl
    · cases hx
  · cases hx
/-- A list made of new cells. -/
theorem Rel.newList {n : Nat} {u : Ty} {l : List u.den} {c : Array Value} {cap : Nat} (e : TypeId) (h : Rel M W w ow tf st) (hn : st n = .dead) (hfl : u.hasOwn = false) (hcap : l.length ≤ cap) (hsize : c.size = cap * u.sz)
    (hc : ∀ i, i < l.length → Rd w ow M.f u n [] (fun j => c[j]?) (i * u.sz) (rd l i)) :
    ∃ ow', Hand M W (w.alloc (.cells c e)) ow' tf st n (.val ⟨.osl true u, l⟩) (.slice (some ⟨w.heap.size, 0, none⟩) l.length cap) := by
  have h0 := h.handVal (d := ⟨.unit, ()⟩) (v := .agg #[]) hn ⟨⟨fun _ => ⟨_, rfl⟩, fun _ => rfl⟩, rfl, by simp only [Rd]⟩
  let ow' : Own := fun b => if b = w.heap.size then some (n, []) else ow b
  have hnew : ow' w.heap.size = some (n, []) := by simp only [ow', if_true]
  have hold : ∀ b, b < w.heap.size → ow' b = ow b := fun b hb => by simp only [ow', if_neg (show b ≠ w.heap.size by omega)]
  have hsz : w.heap.size ≤ (w.alloc (.cells c e)).heap.size := by rw [World.size_alloc]; omega
  refine ⟨ow', h0.change (h.fr.alloc h.top _) hsz (fun b hb hq => ⟨by rw [hold b hb]; exact hq, heap_alloc_lt w _ hb⟩) (fun b s q hs hb hq => ⟨by rw [hold b hb]; exact hq, heap_alloc_lt w _ hb⟩) (fun b l hl => ?_) ?_⟩
  · by_cases hb : b = w.heap.size
    · subst hb
      exact ⟨h.top _ h.fr.2.2.2.1, by rw [World.size_alloc]; omega⟩
    · simp only [ow', if_neg hb] at hl
      have := h.own b l hl; exact ⟨this.1, by rw [World.size_alloc]; omega⟩
  · refine VR.of_cell (g := fun _ => some (.slice (some ⟨w.heap.size, 0, none⟩) l.length cap)) (o := 0) rfl ?_ rfl
    simp only [Rd]
    refine ⟨_, _, _, rfl, rfl, hcap, fun _ => ⟨w.heap.size, 0, rfl, hnew, M.mf _ _ (h.top _ h.fr.2.2.2.1), ⟨c, e, heap_alloc_at w _, by rw [hsize]; omega⟩, fun i hi => ?_⟩⟩
    refine Rd.flat hsz u hfl (fun j hj => ?_) (fun b hb hq => ⟨by rw [hold b hb]; exact hq, heap_alloc_lt w _ hb⟩) (hc i hi)
    rw [mem_alloc_at, Nat.zero_add]
theorem getElem_madeCells (z : Array Value) (n j : Nat) (h : j < n) : (madeCells z n)[j]? = some z[j % z.size]! := by
  simp [madeCells, h]
end Go.Proofs.Ytlmcalffemklnaa.Rf
namespace Go.Proofs.Ytlmcalffemklnaa.Rf
variable {M : Sc} {W w w' : World} {ow ow' : Own} {tf tf' : Nat → Value} {st st1 : St} {ρ : Type} {P : Program}
theorem room_spec {n b : Nat} (h : room n b = true) : n * b ≤ 140737488355328 := Nat.le_of_ble_eq_true h
theorem zero_cell {ty : Ty} {v : Value} {bs : Fl} {s : Nat} {p : List Step} {c : Array Value} {o : Nat} (h : VR w ow bs ⟨ty, ty.dflt⟩ s p v) (hf : ty.hasOwn = false) {s' : Nat} {p' : List Step} (hc : ∀ j, j < ty.sz → c[o + j]? = v.cells[j]?) : Rd w ow bs ty s' p' (fun j => c[j]?) o ty.dflt :=
  Rd.flat (Nat.le_refl _) ty hf (fun i hi => by rw [Nat.zero_add]; exact hc i hi) (fun b _ hb => ⟨hb, rfl⟩) h.2.2
theorem tyOf_flat : ∀ (n : Nat) {t : TypeId} {ty : Ty}, tyOf P n t = some ty → ty.hasOwn = false
  | 0, t, ty, h => by simp only [tyOf, reduceCtorEq] at h
  | n + 1, t, ty, h => by
    simp only [tyOf] at h
    split at h
    · simp only [Option.some.injEq] at h; subst h; rfl
    · simp only [Option.some.injEq] at h; subst h; rfl
    · simp only [Option.some.injEq] at h; subst h; rfl
    · split at h
      · rename_i t' ht'; simp only [Option.some.injEq] at h; subst h; show t'.hasOwn = false; exact tyOf_flat n ht'
      · cases h
    · split at h
      · rename_i t' ht'; simp only [Option.some.injEq] at h; subst h; show t'.hasOwn = false; exact tyOf_flat n ht'
      · cases h
    · rename_i fs _
      have key : ∀ (l : List Field) (ty : Ty), l.foldr (fun f r => match tyOf P n f.type, r with | some a, some b => some (Ty.pair a b) | _, _ => none) (some .unit) = some ty → ty.hasOwn = false := by
        intro l
        induction l with
        | nil => intro ty h; simp only [List.foldr_nil, Option.some.injEq] at h; subst h; rfl
        | cons f l ih =>
          intro ty h
          simp only [List.foldr_cons] at h
          split at h
          · rename_i a b h1 h2
            simp only [Option.some.injEq] at h; subst h
            simp [Ty.hasOwn, tyOf_flat n h1, ih b h2]
          · cases h
      exact key _ _ h
    · simp only [Option.some.injEq] at h; subst h; rfl
    · cases h
theorem madeCells_at (z : Array Value) (n i k j : Nat) (hz : z.size = k) (hj : j < k) (hin : i * k + j < n) : (madeCells z n)[i * k + j]? = z[j]? := by
  rw [getElem_madeCells z n _ hin, hz, Nat.mul_comm, Nat.mul_add_mod, Nat.mod_eq_of_lt hj]
  have : j < z.size := by omega
  simp [this]
theorem idx_lt {i k n : Nat} (h : i < n) {j : Nat} (hj : j < k) : i * k + j < n * k := by
  have := Nat.mul_le_mul_right k (show i + 1 ≤ n from h); rw [Nat.succ_mul] at this; omega
theorem xMakeSlice_sound {t : TypeId} {l c : Operand} {n : Nat} {κ : St → Ent → Option ρ} {r : ρ} (h : Rel M W w ow tf st) (hn : st n = .dead) (hx : xMakeSlice P st t l c κ = some r) :
    ∃ v w', (Instr.makeSlice t (ev tf l) (ev tf c)).run P w = .ok v w' ∧ Res M W w' tf st n v κ r := by
  unfold xMakeSlice at hx
  split at hx
  · rename_i k a k' m hl hc
    rw [opd_int h hl, opd_int h hc]
    split at hx
    · rename_i e hu
      split at hx
      · rename_i ty ht
        split at hx
        · rename_i hb
          obtain ⟨hm, hx2⟩ := brB_true hx rfl
          clear hx
          simp only [Bool.and_eq_true, Nat.blt_eq] at hb
          obtain ⟨⟨hb1, hb2⟩, hb3⟩ := hb
          have hb1 := Nat.eq_of_beq_eq_true hb1
          simp only [makeB, Bool.and_eq_true, decide_eq_true_eq] at hm
          obtain ⟨⟨m1, m2⟩, m3⟩ := hm
          have m3 := room_spec m3
          obtain ⟨i, z, hi, hz, hzs, hzv⟩ := zeroB_spec hb3
          have hby : P.bytesOf e = i.bytes := by simp [Program.bytesOf, hi]
          have hsz : P.cellsOf e = i.size := by simp [Program.cellsOf, hi]
          rw [hby] at hb2 m3
          have hm0 : (0 : Int) ≤ m := Int.le_trans m1 m2
          obtain ⟨mN, rfl⟩ := Int.eq_ofNat_of_zero_le hm0
          obtain ⟨aN, rfl⟩ := Int.eq_ofNat_of_zero_le m1
          have m3' : mN * i.bytes ≤ 140737488355328 := m3
          have hmle : mN ≤ mN * i.bytes := Nat.le_mul_of_pos_right _ hb2
          have hb' : (i.bytes : Int) * (mN : Int) ≤ 281474976710656 := by
            have h0 : ((i.bytes * mN : Nat) : Int) ≤ 281474976710656 := by rw [Nat.mul_comm]; omega
            rwa [Int.natCast_mul] at h0
          have hfl := tyOf_flat 100 ht
          have hr := run_make (P := P) w t e i z hu hi hz k k' (aN : Int) (mN : Int) m1 m2 hb' (by omega)
          simp only [Int.toNat_natCast] at hr
          have hlen : (List.replicate aN ty.dflt).length = aN := List.length_replicate
          obtain ⟨ow2, k3⟩ := h.newList (u := ty) (l := List.replicate aN ty.dflt) (c := madeCells z.cells (mN * i.size)) (cap := mN) e hn hfl (by rw [hlen]; omega) (by rw [size_madeCells, ← hsz, hb1]) (fun q hq => by
            rw [hlen] at hq
            rw [rd_replicate _ _ _ hq]
            refine zero_cell (hzv w ow M.f n []) hfl (fun j hj => ?_)
            rw [← hsz, hb1]
            exact madeCells_at z.cells _ q ty.sz j hzs hj (idx_lt (by omega) hj))
          rw [hlen] at k3
          refine ⟨_, _, hr, _, _, hx2, Deads.refl _, ow2, ?_⟩
          simp only [repD, Int.toNat_natCast]
          exact k3
        · cases hx
      · cases hx
    · cases hx
  · cases hx
/-- One cell stored. -/
theorem setCell_heap (w : World) (b o : Nat) (v : Value) (x : Nat) : (w.setCell ⟨b, o, none⟩ v).heap[x]? = if x = b then (w.heap[b]?).map (fun | .cells c e f => .cells (c.setIfInBounds o v) e f | ob => ob) else w.heap[x]? := by
  simp only [World.setCell, Array.getElem?_modify]
  by_cases hx : b = x
  · subst hx; simp only [if_true]; rfl
  · rw [if_neg hx, if_neg (fun e => hx e.symm)]
theorem setCells_other (b : Nat) : ∀ (vs : List Value) (o : Nat) (w : World) (x : Nat), x ≠ b → (w.setCells b o vs).heap[x]? = w.heap[x]?
  | [], o, w, x, h => rfl
  | v :: r, o, w, x, h => by rw [World.setCells, setCells_other b r _ _ x h, setCell_heap, if_neg h]
theorem setCells_size (b : Nat) : ∀ (vs : List Value) (o : Nat) (w : World), (w.setCells b o vs).heap.size = w.heap.size
  | [], o, w => rfl
  | v :: r, o, w => by rw [World.setCells, setCells_size b r, World.size_setCell]
theorem setCells_wr (b : Nat) : ∀ (vs : List Value) (o : Nat) (w : World) (k : Nat), writable w b k → writable (w.setCells b o vs) b k
  | [], o, w, k, h => h
  | v :: r, o, w, k, h => by
    rw [World.setCells]
    refine setCells_wr b r _ _ k ?_
    obtain ⟨c, e, hc, hk⟩ := h
    exact ⟨c.setIfInBounds o v, e, by rw [setCell_heap, if_pos rfl, hc]; rfl, by simpa using hk⟩
theorem Put.setCells {w : World} {b o n : Nat} {vs : List Value} (hn : vs.length = n) : Put w (w.setCells b o vs) b o n where
  size := setCells_size b vs o w
  other b' h := setCells_other b vs o w b' h
  outside j h := by
    refine World.cell?_setCells_out b vs o w ⟨b, j, none⟩ (fun _ _ => ?_)
    dsimp only
    omega
  wr k h := setCells_wr b vs o w k h
theorem writable.cell {w : World} {b n j : Nat} (h : writable w b n) (hj : j < n) : (w.cell? ⟨b, j, none⟩).isSome = true ∧ w.frozen? ⟨b, j, none⟩ = false := by
  obtain ⟨c, e, hc, hn⟩ := h
  have : j < c.size := by omega
  constructor
  · simp [World.cell?, hc, this]
  · simp [World.frozen?, hc]
theorem run_stores {w : World} {b o n : Nat} {vs : List Value} (hw : writable w b n) (hn : o + vs.length ≤ n) (h1 : ∀ v ∈ vs, v.oneCell' = true) :
    (storeCells ⟨b, o, none⟩ vs).run P w = .ok () (w.setCells b o vs) := by
  have := run_storeCells_cells (P := P) b o vs 0 w (fun j hj => (hw.cell (by omega)).1) (fun j hj => (hw.cell (by omega)).2) h1
  simpa using this
theorem setCells_in {w : World} {b o n : Nat} {vs : List Value} (hw : writable w b n) (hn : o + vs.length ≤ n) (j : Nat) (hj : j < vs.length) : mem (w.setCells b o vs) b (o + j) = vs[j]? := by
  have := World.cell?_setCells_in b vs o w (fun j hj => (hw.cell (by omega)).1) j hj
  show (w.setCells b o vs).cell? _ = _
  rw [this]; simp [hj]
theorem Kp.setCells (h : Kp M W w) {b : Nat} (hb : M.m b) (o : Nat) (vs : List Value) : Kp M W (w.setCells b o vs) := by
  obtain ⟨h1, h2, h3, h4, h5⟩ := h
  have key : ∀ (vs : List Value) (o : Nat) (w : World), (w.setCells b o vs).os = w.os ∧ (w.setCells b o vs).tape = w.tape ∧ (w.setCells b o vs).output = w.output := by
    intro vs
    induction vs with
    | nil => intro o w; exact ⟨rfl, rfl, rfl⟩
    | cons v r ih => intro o w; rw [World.setCells]; exact ih _ _
  obtain ⟨k1, k2, k3⟩ := key vs o w
  refine ⟨k1.trans h1, k2.trans h2, k3.trans h3, by rw [setCells_size]; exact h4, fun x hx => ?_⟩
  rw [setCells_other b vs o w x (by rintro rfl; exact hx hb)]
  exact h5 x hx
end Go.Proofs.Ytlmcalffemklnaa.Rf
namespace Go.Proofs.Ytlmcalffemklnaa.Rf
variable {M : Sc} {W w w' : World} {ow ow' : Own} {tf tf' : Nat → Value} {st st1 st' : St} {ρ : Type} {P : Program}
/-- A slot that holds nothing may hold any value. -/
theorem Rel.forget {n : Nat} {v : Value} (h : Rel M W w ow (upd tf n v) st) (hn : st n = .dead) : Rel M W w ow tf st := by
  have hf := h.free hn
  refine ⟨h.fr, fun x => ?_, h.own, h.top⟩
  by_cases hx : x = n
  · subst hx; rw [hn]; trivial
  · refine ER.keep (Nat.le_refl _) (upd_ne _ _ hx).symm (fun b _ hb => ⟨hb, rfl⟩) (fun b q _ hq => ⟨hq, rfl⟩) (fun s' d hs' hd => ?_) (h.ent x)
    have hsn : s' ≠ n := fun e => hf.2 x (e ▸ hs')
    exact ⟨hd, (upd_ne _ _ hsn).symm, h.vr hd, fun _ _ _ _ => rfl⟩
theorem Hand.vr {n : Nat} {d : Dv} {v : Value} (h : Hand M W w ow tf st n (.val d) v) : VR w ow M.f d n [] v := by
  have := h.2.2.ent n
  rw [setS_same] at this
  simpa only [drop_val, ER, upd_same] using this
theorem Hand.coe {n : Nat} {d : Dv} {u : Ty} {y : u.den} {v : Value} (h : Hand M W w ow tf st n (.val d) v) (hc : Rf.coe u d.1 d.2 = some y) : ∃ ow', Hand M W w ow' tf st n (.val ⟨u, y⟩) v := by
  have hv := h.vr
  obtain ⟨ow', hl, hr⟩ := Rd.coe (w := w) (s := n) (p := []) u d.1 hc hv.2.2
  obtain ⟨h1, h2⟩ := coe_sz _ _ hc
  refine ⟨ow', h.change h.2.2.fr (Nat.le_refl _) (fun b _ hb => ⟨hl.1 b hb, rfl⟩) (fun b s q hs _ hq => ⟨?_, rfl⟩) (fun b l hb => h.2.2.own b l (hl.some hb)) ⟨?_, ?_, hr⟩⟩
  · rcases hl.2 b _ hq with k | ⟨_, q', e⟩
    · exact k
    · simp only [Prod.mk.injEq] at e; exact absurd e.1 hs
  · dsimp only; rw [← h2]; exact hv.1
  · dsimp only; rw [← h1]; exact hv.2.1
theorem forP_cases {s : Nat} {p : List Step} {d d' : Dv} (h : forP st s p d = some d') : d' = d ∨ Rf.coe d'.1 d.1 d.2 = some d'.2 := by
  unfold forP at h
  split at h
  · simp only [Option.some.injEq] at h; exact .inl h.symm
  · split at h
    · split at h
      · rename_i y hy
        simp only [Option.some.injEq] at h
        subst h
        exact .inr hy
      · cases h
    · cases h
theorem refOf_slot {x : Operand} {r : Nat × List Step} (h : refOf st x = some r) : ∃ z, x = .tmp z ∧ st z ≠ .dead := by
  unfold refOf at h
  split at h
  · rename_i z
    refine ⟨z, rfl, fun e => ?_⟩
    rw [e] at h; cases h
  · cases h
theorem run_storeAt {t : TypeId} {b o : Nat} {v : Value} {n k : Nat} (hz : P.cellsOf t = k) (hk : k ≠ 0) (hv : v.cells.size = k) (hw : writable w b n) (hn : o + k ≤ n) (h1 : ∀ u ∈ v.cells.toList, u.oneCell' = true) :
    (Instr.storeAt t (.pointer (some ⟨b, o, none⟩)) v).run P w = .ok () (w.setCells b o v.cells.toList) := by
  have hs := run_stores (P := P) (o := o) (vs := v.cells.toList) hw (by simp only [Array.length_toList]; omega) h1
  simp only [Instr.storeAt, Instr.sureAddr, storeVar, Sem.run_bind, Sem.run_pure, Result.andThen_ok, run_sizeOf hz hk, hv]
  simp only [ne_eq, not_true_eq_false, if_false, Sem.run_pure, Result.andThen_ok, hs]
theorem VR.ones {d : Dv} {s : Nat} {p : List Step} {v : Value} {bs : Fl} (h : VR w ow bs d s p v) : ∀ u ∈ v.cells.toList, u.oneCell' = true := by
  intro u hu
  obtain ⟨i, hi, rfl⟩ := List.mem_iff_getElem.1 hu
  simp only [Array.length_toList] at hi
  obtain ⟨v', h1, h2⟩ := Rd.some d.1 h.2.2 i (by rw [← h.2.1]; exact hi)
  have : v.cells[i]? = some v.cells[i] := by simp [hi]
  rw [Nat.zero_add, this] at h1
  simp only [Option.some.injEq] at h1
  rw [show v.cells.toList[i] = v.cells[i] from rfl, h1]; exact h2
theorem xStore_sound {t : TypeId} {a x : Operand} {κ : St → Option ρ} {r : ρ} (h : Rel M W w ow tf st) (hn : st VB = .dead) (hx : xStore P st t a x κ = some r) :
    ∃ w' st2, (Instr.storeAt t (ev tf a) (ev tf x)).run P w = .ok () w' ∧ κ st2 = some r ∧ Deads st st2 ∧ ∃ ow', Rel M W w' ow' tf st2 := by
  unfold xStore at hx
  split at hx
  · rename_i d st1 r0 hu hr0
    obtain ⟨⟨ow1, k1⟩, k2⟩ := useV_sound h hu hn
    split at hx
    · rename_i s p hr
      obtain ⟨z, rfl, hzd⟩ := refOf_slot hr0
      have hzn : z ≠ VB := fun e => hzd (e ▸ hn)
      have hrel := k1.2.2
      obtain ⟨dd, t', b, o, hs, hw, he, hp⟩ := refOf_sound hrel hr
      have hst1 : ∀ y, y ≠ VB → setS st1 (some VB) (.val d) y = st1 y := fun y hy => by
        have hown : (st1 VB).owns = false := by rw [k1.1.1]; rfl
        rw [setS_ne st1 _ hy, hown]; rfl
      split at hx
      · rename_i old hg
        split at hx
        · rename_i hf
          simp only [Bool.and_eq_true] at hf
          obtain ⟨hf, hosz⟩ := hf
          have hosz := Nat.eq_of_beq_eq_true hosz
          split at hx
          · rename_i d' hfp
            split at hx
            · rename_i st2 hput
              obtain ⟨T, x0, old', new, h1, h2, h3, h4, h5, h6⟩ := putP_spec hput
              have hsn : s ≠ VB := by rintro rfl; rw [k1.1.1] at h1; cases h1
              obtain ⟨T', x1, g1, g2⟩ := getP_val hg
              rw [h1] at g1; simp only [Ent.val.injEq, Sigma.mk.injEq] at g1
              obtain ⟨rfl, g1⟩ := g1
              obtain rfl := eq_of_heq g1
              rw [h2] at g2; simp only [Option.some.injEq] at g2; subst g2
              have hs' : setS st1 (some VB) (.val d) s = .val ⟨T, x0⟩ := by rw [hst1 s hsn]; exact h1
              rw [hs'] at hs; simp only [Ent.val.injEq] at hs; subst hs
              -- the value, of the place's kind
              obtain ⟨ow2, k3⟩ : ∃ ow', Hand M W w ow' tf st1 VB (.val d') (ev tf x) := by
                rcases forP_cases hfp with e | e
                · exact ⟨ow1, e ▸ k1⟩
                · exact k1.coe e
              have hdsz : d'.1.sz = d.1.sz := by
                rcases forP_cases hfp with e | e
                · rw [e]
                · exact (coe_sz _ _ e).1.symm
              have hrel := k3.2.2
              have hv := k3.vr
              have hst1' : ∀ y, y ≠ VB → setS st1 (some VB) (.val d') y = st1 y := fun y hy => by
                have hown : (st1 VB).owns = false := by rw [k1.1.1]; rfl
                rw [setS_ne st1 _ hy, hown]; rfl
              have hs2 : setS st1 (some VB) (.val d') s = .val ⟨T, x0⟩ := by rw [hst1' s hsn]; exact h1
              have hvT := hrel.vr hs2
              obtain ⟨y, j1, j2⟩ := walk_read p (b := none) hvT.2.2 hw
              rw [h2] at j1; simp only [Option.some.injEq] at j1
              have hot : old'.1 = t' := by rw [j1]
              have hwh := walk_where p (b0 := none) hvT.2.2 hw
              obtain ⟨q0, hob, hwr⟩ : ∃ q0, ow2 b = some (s, q0) ∧ writable w b (o + t'.sz) := by
                rcases hwh with ⟨e, _⟩ | ⟨q, r, _, _, e1, e2⟩
                · cases e
                · exact ⟨_, e1, e2⟩
              have hsz : d'.1.sz = t'.sz := by rw [hdsz, hosz, hot]
              have hcs : (ev tf x).cells.size = d.1.sz := by rw [← hdsz]; exact hv.2.1
              have hea : ev tf (.tmp z) = .pointer (some ⟨b, o, none⟩) := by
                rw [← he]; exact (upd_ne _ _ hzn).symm
              have hrun := run_storeAt (P := P) (fits_spec hf).2 (fits_pos hf) hcs hwr (by rw [← hsz, hdsz]; exact Nat.le_refl _) hv.ones
              refine ⟨_, st2, by rw [hea]; exact hrun, hx, k2.trans (Deads.put hput), ?_⟩
              let ow' : Own := fun b' => match ow2 b' with
                | some (s', q) => if s' = VB then some (s, p ++ q) else some (s', q)
                | none => none
              have hno : ∀ b', ow2 b' = none → ow' b' = none := fun b' hb => by simp only [ow', hb]
              have hlen : (ev tf x).cells.toList.length = d'.1.sz := by rw [Array.length_toList]; exact hv.2.1
              have hne : ∀ b', (∀ q, ow2 b' ≠ some (s, q)) → b' ≠ b := fun b' hb e => by subst e; exact hb _ hob
              have hfin := Rel.putG (w' := w.setCells b o (ev tf x).cells.toList) (ow' := ow') (st' := st2) (n := VB) hrel hs2 hsn
                (fun y => by
                  by_cases hy : y = VB
                  · subst hy; rw [setS_same]; simp [Ent.names]
                  · rw [hst1' y hy]; exact k3.1.2 y)
                h2 h4 (by
                  have : upd tf VB (ev tf x) s = tf s := upd_ne _ _ hsn
                  exact hw) hsz (Put.setCells hlen) ?_ hno
                (fun b' s' q hq hs'n _ => by simp only [ow', hq, if_neg hs'n]) (fun b' l hb' => by
                  cases hq : ow2 b' with
                  | none => rw [hno b' hq] at hb'; cases hb'
                  | some l' => exact ⟨l', rfl⟩) (hrel.fr.setCells (hrel.own b _ hob).1 _ _) h5 (Deads.put hput _ k1.1.1) (fun y hy hyn => by rw [hst1' y hyn]; exact h6 y hy)
              · exact ⟨ow', hfin.forget (Deads.put hput _ k1.1.1)⟩
              · refine Rd.frame (by rw [setCells_size]; exact Nat.le_refl _) d'.1 (fun i hi => ?_) (fun b' _ hb' => ⟨hno b' hb', setCells_other _ _ _ _ _ (hne b' (fun q hq => by rw [hb'] at hq; cases hq))⟩)
                  (fun b' q _ hq => ⟨by simp only [List.nil_append] at hq; simp only [ow', hq, if_true], setCells_other _ _ _ _ _ (hne b' (fun q' hq' => by rw [hq] at hq'; simp only [Option.some.injEq, Prod.mk.injEq] at hq'; exact hsn hq'.1.symm))⟩) hv.2.2
                rw [setCells_in hwr (by rw [hlen, hsz]; exact Nat.le_refl _) i (by rw [hlen]; exact hi), Nat.zero_add, Array.getElem?_toList]
            · cases hx
          · cases hx
        · cases hx
      · cases hx
    · cases hx
  · cases hx
end Go.Proofs.Ytlmcalffemklnaa.Rf
namespace Go.Proofs.Ytlmcalffemklnaa.Rf
variable {M : Sc} {W w w' : World} {ow ow' : Own} {tf tf' : Nat → Value} {st st1 st' : St} {ρ : Type} {P : Program}
theorem run_append_in {t t' ty e e' : TypeId} {i : TypeInfo} {base a2 : Option Addr} {len cap n c2 : Nat} {news : List Value} (hu : P.underlying t = some (.slice e)) (hu' : P.underlying t' = some (.slice e')) (hi : P.info? e = some i)
    (hroom : len + n ≤ cap) (hnew : (Builtin.firstCells i.size n (.slice a2 n c2)).run P w = .ok news.toArray w)
    (hst : ∀ a, base = some a → (storeCells (a.add (len * i.size)) news).run P w = .ok () w') (hb : base = none → w' = w) :
    (Builtin.append_ #[t, t'] ty #[.slice base len cap, .slice a2 n c2]).run P w = .ok (.slice base (len + n) cap) w' := by
  cases base with
  | none =>
    obtain rfl := hb rfl
    simp [Builtin.append_, run_underlying hu, run_underlying hu', sizeOf, typeInfo, hi, Builtin.lenOf, hroom, hnew]
  | some a =>
    have := hst a rfl
    simp [Builtin.append_, run_underlying hu, run_underlying hu', sizeOf, typeInfo, hi, Builtin.lenOf, hroom, hnew, this]
theorem run_append_out {t t' ty e e' : TypeId} {i : TypeInfo} {z : Value} {base a2 : Option Addr} {len cap n c2 : Nat} {olds news : List Value} (hu : P.underlying t = some (.slice e)) (hu' : P.underlying t' = some (.slice e')) (hi : P.info? e = some i) (hz : i.zero = some z)
    (hroom : ¬ len + n ≤ cap) (hb : 0 < i.bytes) (h47 : (len + n) * i.bytes ≤ 140737488355328) (hnew : (Builtin.firstCells i.size n (.slice a2 n c2)).run P w.drew = .ok news.toArray w.drew)
    (hold : (Builtin.firstCells i.size len (.slice base len cap)).run P w.drew = .ok olds.toArray w.drew) :
    (Builtin.append_ #[t, t'] ty #[.slice base len cap, .slice a2 n c2]).run P w =
      .ok (.slice (some ⟨w.heap.size, 0, none⟩) (len + n) (grownCap w (len + n) cap e)) (w.drew.alloc (.cells (olds.toArray ++ news.toArray ++ Builtin.zeroCells z.cells (grownCap w (len + n) cap e - (len + n))) e)) := by
  have hfit := growslice_fits (need := len + n) (old := cap) (bytes := i.bytes) (by omega) h47
  have hle : len + n ≤ (len + n) * i.bytes := Nat.le_mul_of_pos_right _ hb
  have h63' : ¬ (9223372036854775807 < ((len : Int) + (n : Int))) := by omega
  have h48' : ¬ (281474976710656 < Builtin.nextslicecap (len + n) cap * i.bytes) := by omega
  have hb' : ¬ i.bytes = 0 := by omega
  simp [Builtin.append_, run_underlying hu, run_underlying hu', sizeOf, typeInfo, zeroValue, hi, hz, Builtin.lenOf, hroom, h63', h48', hb', Question.forced, hnew, hold, newRow, grownCap]
  congr 2
  apply Array.ext'
  simp [List.append_assoc]
/-- The cells of a list that is read. -/
theorem list_cells {u : Ty} {m : List u.den} {s : Nat} {p : List Step} {bs : Fl} {b o n : Nat} (hn : m.length = n) (h : ∀ i, i < n → Rd w ow bs u s p (mem w b) (o + i * u.sz) (rd m i)) :
    ∃ news : List Value, news.length = n * u.sz ∧ (∀ j, j < n * u.sz → mem w b (o + j) = news[j]?) ∧ (∀ v ∈ news, v.oneCell' = true) := by
  have hcell : ∀ j, j < n * u.sz → ∃ v : Value, mem w b (o + j) = some v ∧ v.oneCell' = true := fun j hj => by
    have hz : 0 < u.sz := by
      rcases Nat.eq_zero_or_pos u.sz with e | e
      · rw [e] at hj; simp at hj
      · exact e
    have hq : j / u.sz < n := (Nat.div_lt_iff_lt_mul hz).2 hj
    obtain ⟨v, h1, h2⟩ := Rd.some u (h _ hq) (j % u.sz) (Nat.mod_lt _ hz)
    refine ⟨v, ?_, h2⟩
    rw [← h1]; congr 1
    have e1 := Nat.div_add_mod j u.sz
    rw [Nat.mul_comm] at e1
    omega
  refine ⟨(List.range (n * u.sz)).map (fun j => (mem w b (o + j)).getD undef), by simp, fun j hj => ?_, fun v hv => ?_⟩
  · obtain ⟨v, h1, _⟩ := hcell j hj
    rw [h1]; simp [hj, h1]
  · simp only [List.mem_map, List.mem_range] at hv
    obtain ⟨j, hj, rfl⟩ := hv
    obtain ⟨v, h1, h2⟩ := hcell j hj
    rw [h1]; exact h2
theorem run_first {b o n len cap z : Nat} {news : List Value} (hl : news.length = n * z) (h : ∀ j, j < n * z → mem w b (o + j) = news[j]?) : (Builtin.firstCells z n (.slice (some ⟨b, o, none⟩) len cap)).run P w = .ok news.toArray w :=
  run_firstCells_some (P := P) w z n ⟨b, o, none⟩ len cap news hl (fun j v hv => by
    have hj : j < news.length := (List.getElem?_eq_some_iff.1 hv).1
    rw [add_off]
    show mem w b (o + j) = _
    rw [h j (by omega), hv])
/-- What a readable list's value is. -/
theorem listV {e : Dv} {u : Ty} {m : List u.den} {s : Nat} {p : List Step} {bs : Fl} {x : Value} (hl : listOf e = some ⟨u, m⟩) (hel : elOwn e = false) (h : VR w ow bs e s p x) :
    u.hasOwn = false ∧ ∃ a n c, x = .slice a n c ∧ m.length = n ∧ (n ≠ 0 → ∃ b o, a = some ⟨b, o, none⟩ ∧ ∀ s' p' i, i < n → Rd w ow bs u s' p' (mem w b) (o + i * u.sz) (rd m i)) := by
  unfold listOf at hl
  split at hl
  · simp only [Option.some.injEq, Sigma.mk.injEq] at hl
    obtain ⟨rfl, hl⟩ := hl
    have hf : u.hasOwn = false := hel
    refine ⟨hf, ?_⟩
    have := (h.cell rfl).2
    simp only [Rd] at this
    obtain ⟨a, n, c, h1, h2, h3, h4⟩ := this
    refine ⟨a, n, c, by simpa using h1, h2, fun hn => ?_⟩
    obtain ⟨b, o, ha, _, _, _, hi⟩ := h4 hn
    exact ⟨b, o, ha, fun s' p' i hi' => Rd.relab hf (hi i hi')⟩
  · simp only [Option.some.injEq, Sigma.mk.injEq] at hl
    obtain ⟨rfl, hl⟩ := hl
    have hf : u.hasOwn = false := hel
    refine ⟨hf, ?_⟩
    have := (h.cell rfl).2
    simp only [Rd] at this
    obtain ⟨a, n, c, h1, h2, h3, h4⟩ := this
    refine ⟨a, n, c, by simpa using h1, h2, fun hn => ?_⟩
    obtain ⟨b, o, ha, _, _, _, hi⟩ := h4 (by omega)
    exact ⟨b, o, ha, fun s' p' i hi' => Rd.relab hf (hi i hi')⟩
  · cases hl
theorem castL_spec {t u : Ty} {l : List t.den} {l' : List u.den} (h : castL t u l = some l') (ht : t.hasOwn = false) : l'.length = l.length ∧ t.sz = u.sz ∧ u.hasOwn = false ∧
    ∀ {w : World} {ow : Own} {bs : Fl} {s s' : Nat} {p p' : List Step} {g : Nat → Option Value} {o i : Nat}, i < l.length → Rd w ow bs t s p g o (rd l i) → Rd w ow bs u s' p' g o (rd l' i) := by
  unfold castL at h
  split at h
  · rename_i hs
    simp only [Option.some.injEq] at h
    subst h
    have e := Ty.den_of_sub hs
    refine ⟨cast_length e _ l, Ty.sz_sub hs, ?_, fun {w ow bs s s' p p' g o i} hi hr => ?_⟩
    · rcases Ty.sub_cases hs with rfl | hf | ⟨f, t1, t2, rfl, rfl, _, _⟩
      · exact ht
      · exact Ty.subF_own _ _ hf
      · cases ht
    · rw [rd_cast e (congrArg List e) l i hi]
      rcases Ty.sub_cases hs with rfl | hf | ⟨f, t1, t2, rfl, rfl, _, _⟩
      · exact Rd.relab ht hr
      · exact Rd.frzFlat _ _ ht hf hr
      · cases ht
  · cases h
theorem rd_append_l {t : Ty} (l m : List t.den) (i : Nat) (h : i < l.length) : rd (List.append l m) i = rd l i := by
  unfold rd; simp only [List.getD_eq_getElem?_getD]
  rw [show List.append l m = l ++ m from rfl, List.getElem?_append_left h]
theorem rd_append_r {t : Ty} (l m : List t.den) (i : Nat) : rd (List.append l m) (l.length + i) = rd m i := by
  unfold rd; simp only [List.getD_eq_getElem?_getD]
  rw [show List.append l m = l ++ m from rfl, List.getElem?_append_right (by omega)]
  congr 2; omega
end Go.Proofs.Ytlmcalffemklnaa.Rf
namespace Go.Proofs.Ytlmcalffemklnaa.Rf
variable {M : Sc} {W w w' : World} {ow ow' : Own} {tf tf' : Nat → Value} {st st1 st' : St} {ρ : Type} {P : Program}
theorem run_first0 {z n c : Nat} {a : Option Addr} : (Builtin.firstCells z 0 (.slice a n c)).run P w = .ok ([] : List Value).toArray w := by
  cases a <;> simp [Builtin.firstCells, loadCells, loadCellsFrom]
theorem Kp.drew (h : Kp M W w) : Kp M W w.drew := h
theorem mul_add_lt {i k n j : Nat} (h : i < n) (hj : j < k) : i * k + j < n * k := idx_lt h hj
theorem append_B {t t' ty ei e' : TypeId} {f : Bool} {u0 u : Ty} {l : List u0.den} {m : List u.den} {m' : List u0.den} {n nn c2 : Nat} {a2 : Option Addr} {v : Value} {i : TypeInfo} {z : Value} (hh : Hand M W w ow tf st n (.val ⟨.osl f u0, l⟩) v)
    (hu : P.underlying t = some (.slice ei)) (hu' : P.underlying t' = some (.slice e')) (hi : P.info? ei = some i) (hz : i.zero = some z) (hzs : z.cells.size = i.size) (hsz : i.size = u.sz) (hby : 0 < i.bytes)
    (hc : castL u u0 m = some m') (hfu : u.hasOwn = false) (hml : m.length = nn) (hmr : nn ≠ 0 → ∃ b o, a2 = some ⟨b, o, none⟩ ∧ ∀ s' p' q, q < nn → Rd w ow M.f u s' p' (mem w b) (o + q * u.sz) (rd m q))
    (h47 : (l.length + m'.length) * i.bytes ≤ 140737488355328) :
    ∃ v' w' ow', (Builtin.append_ #[t, t'] ty #[v, .slice a2 nn c2]).run P w = .ok v' w' ∧ Hand M W w' ow' tf st n (.val ⟨.osl f u0, List.append l m'⟩) v' := by
  obtain ⟨hm'l, hsu, hf0, hmove⟩ := castL_spec hc hfu
  have hv := hh.vr
  obtain ⟨_, hr⟩ := hv.cell rfl
  simp only [Rd] at hr
  obtain ⟨a, len, cap, h1, h2, h3, h4⟩ := hr
  have hve : v = .slice a len cap := by simpa using h1
  have h2' : l.length = len := h2
  by_cases hnn : nn = 0
  · subst hnn
    have hm0 : m' = [] := List.eq_nil_of_length_eq_zero (by omega)
    subst hm0
    refine ⟨.slice a (len + 0) cap, w, ow, ?_, ?_⟩
    · rw [hve]
      refine run_append_in hu hu' hi (by omega) run_first0 (fun a' _ => ?_) (fun _ => rfl)
      rfl
    · rw [Nat.add_zero, ← hve, show List.append l [] = l from List.append_nil l]; exact hh
  · obtain ⟨b2, o2, rfl, hrd⟩ := hmr hnn
    obtain ⟨news, n1, n2, n3⟩ := list_cells (s := 0) (p := []) hml (fun q hq => hrd 0 [] q hq)
    have hsz0 : u.sz = u0.sz := hsu
    by_cases hroom : len + nn ≤ cap
    · -- there is room
      obtain ⟨b, o, rfl, hob, hfr, hwr, hel⟩ := h4 (by omega)
      have hb : ∀ b', ow b' = none → b' ≠ b := fun b' hn e => by subst e; rw [hob] at hn; cases hn
      have hfit : o + len * u0.sz + news.length ≤ o + cap * u0.sz := by
        rw [n1, hsz0]
        have := Nat.mul_le_mul_right u0.sz hroom
        rw [Nat.add_mul] at this; omega
      have hst := run_stores (P := P) (o := o + len * u0.sz) hwr hfit n3
      refine ⟨.slice (some ⟨b, o, none⟩) (len + nn) cap, w.setCells b (o + len * u0.sz) news, ow, ?_, ?_⟩
      · rw [hve]
        refine run_append_in hu hu' hi hroom (run_first (by rw [hsz]; exact n1) (fun j hj => n2 j (by rw [← hsz]; exact hj))) (fun a' ha' => ?_) (fun h => by cases h)
        simp only [Option.some.injEq] at ha'
        subst ha'
        rw [add_off, hsz, hsz0]; exact hst
      · refine hh.change (hh.2.2.fr.setCells (hh.2.2.own b _ hob).1 _ _) (by rw [setCells_size]; exact Nat.le_refl _) (fun b' _ hn => ⟨hn, setCells_other _ _ _ _ _ (hb b' hn)⟩)
          (fun b' s q hs _ hq => ⟨hq, setCells_other _ _ _ _ _ (fun e => by subst e; rw [hob] at hq; simp only [Option.some.injEq, Prod.mk.injEq] at hq; exact hs hq.1.symm)⟩)
          (fun b' l' hl' => ⟨(hh.2.2.own b' l' hl').1, by rw [setCells_size]; exact (hh.2.2.own b' l' hl').2⟩) ?_
        refine VR.of_cell (g := fun _ => some (.slice (some ⟨b, o, none⟩) (len + nn) cap)) (o := 0) rfl ?_ rfl
        simp only [Rd]
        refine ⟨_, _, _, rfl, ?_, hroom, fun _ => ⟨b, o, rfl, hob, hfr, setCells_wr _ _ _ _ _ hwr, fun q hq => ?_⟩⟩
        · show (l ++ m').length = _
          rw [List.length_append]; omega
        · rcases Nat.lt_or_ge q len with hql | hql
          · rw [show rd (t := u0) (List.append l m') q = rd l q from rd_append_l l m' q (by omega)]
            refine Rd.frame (by rw [setCells_size]; exact Nat.le_refl _) u0 (fun j hj => ?_) (fun b' _ hn => ⟨hn, setCells_other _ _ _ _ _ (hb b' hn)⟩) (fun b' q' _ hq' => ⟨hq', setCells_other _ _ _ _ _ (fun e => by
              subst e; rw [hob] at hq'; simp at hq')⟩) (hel q hql)
            refine (Put.setCells (w := w) (b := b) (o := o + len * u0.sz) rfl).outside _ ?_
            left
            have := mul_add_lt (k := u0.sz) hql hj
            omega
          · obtain ⟨k, rfl⟩ : ∃ k, q = len + k := ⟨q - len, by omega⟩
            rw [show rd (t := u0) (List.append l m') (len + k) = rd m' k from by rw [← h2']; exact rd_append_r l m' k]
            have hk := hmove (s' := n) (p' := [] ++ [.i (len + k)]) (i := k) (by omega) (hrd 0 [] k (by omega))
            refine Rd.flat (by rw [setCells_size]; exact Nat.le_refl _) u0 hf0 (fun j hj => ?_) (fun b' _ hn => ⟨hn, setCells_other _ _ _ _ _ (hb b' hn)⟩) hk
            have hjl : k * u0.sz + j < nn * u0.sz := mul_add_lt (by omega) hj
            have e1 : o + (len + k) * u0.sz + j = o + len * u0.sz + (k * u0.sz + j) := by rw [Nat.add_mul]; omega
            rw [e1, setCells_in hwr hfit _ (by rw [n1, hsz0]; exact hjl), Nat.add_assoc, hsz0]
            exact (n2 _ (by rw [hsz0]; exact hjl)).symm
    · -- a new row
      obtain ⟨olds, o1, o2', o3, o4⟩ : ∃ olds : List Value, olds.length = len * u0.sz ∧ (Builtin.firstCells i.size len (.slice a len cap)).run P w.drew = .ok olds.toArray w.drew ∧
          (∀ q j, q < len → j < u0.sz → ∃ b o, a = some ⟨b, o, none⟩ ∧ olds[q * u0.sz + j]? = mem w b (o + q * u0.sz + j)) ∧ (len ≠ 0 → ∃ b o, a = some ⟨b, o, none⟩ ∧ ∀ q, q < len → Rd w ow M.f u0 n ([] ++ [.i q]) (mem w b) (o + q * u0.sz) (rd l q)) := by
        by_cases hl0 : len = 0
        · subst hl0
          exact ⟨[], by simp, run_first0, fun q j hq => by omega, fun h => absurd rfl h⟩
        · obtain ⟨b, o, rfl, hob, hfr, hwr, hel⟩ := h4 (by omega)
          obtain ⟨olds, e1, e2, _⟩ := list_cells (s := n) (p := []) h2' (fun q hq => Rd.relab hf0 (hel q hq))
          refine ⟨olds, e1, run_first (by rw [hsz, hsz0]; exact e1) (fun j hj => e2 j (by rw [← hsz0, ← hsz]; exact hj)), fun q j hq hj => ⟨b, o, rfl, ?_⟩, fun _ => ⟨b, o, rfl, hel⟩⟩
          rw [Nat.add_assoc]; exact (e2 _ (mul_add_lt hq hj)).symm
      have hnew : (Builtin.firstCells i.size nn (.slice (some ⟨b2, o2, none⟩) nn c2)).run P w.drew = .ok news.toArray w.drew := run_first (w := w.drew) (by rw [hsz]; exact n1) (fun j hj => n2 j (by rw [← hsz]; exact hj))
      have hrun := run_append_out (P := P) (ty := ty) (a2 := some ⟨b2, o2, none⟩) (c2 := c2) hu hu' hi hz hroom hby (by rw [← h2', ← hml, ← hm'l]; exact h47) hnew o2'
      have hge := grownCap_ge w (len + nn) cap ei
      have hsize : w.drew.heap.size = w.heap.size := rfl
      let ow' : Own := fun b => if b = w.heap.size then some (n, []) else ow b
      have hown' : ow' w.heap.size = some (n, []) := by simp only [ow', if_true]
      have hold : ∀ b, b < w.heap.size → ow' b = ow b := fun b hb => by simp only [ow', if_neg (show b ≠ w.heap.size by omega)]
      have hlt : ∀ (ob : Obj) b, b < w.heap.size → (w.drew.alloc ob).heap[b]? = w.heap[b]? := fun ob b hb => heap_alloc_lt w.drew ob hb
      have hss : ∀ ob : Obj, w.heap.size ≤ (w.drew.alloc ob).heap.size := fun ob => by rw [World.size_alloc, hsize]; omega
      have htop := hh.2.2.top
      refine ⟨_, _, ow', by rw [hve]; exact hrun, hh.change (hh.2.2.fr.drew.alloc htop _) (hss _) (fun b hb hn => ⟨by rw [hold b hb]; exact hn, hlt _ b hb⟩) (fun b s q hs hb hq => ⟨by rw [hold b hb]; exact hq, hlt _ b hb⟩) (fun b l' hl' => ?_) ?_⟩
      · by_cases hb : b = w.heap.size
        · subst hb
          exact ⟨htop _ hh.2.2.fr.2.2.2.1, by rw [World.size_alloc, hsize]; omega⟩
        · simp only [ow', if_neg hb] at hl'
          have := hh.2.2.own b l' hl'; exact ⟨this.1, by rw [World.size_alloc, hsize]; omega⟩
      · refine VR.of_cell (g := fun _ => some (.slice (some ⟨w.heap.size, 0, none⟩) (len + nn) (grownCap w (len + nn) cap ei))) (o := 0) rfl ?_ rfl
        simp only [Rd]
        refine ⟨_, _, _, rfl, ?_, hge, fun _ => ⟨w.heap.size, 0, rfl, hown', M.mf _ _ (hh.2.2.top _ hh.2.2.fr.2.2.2.1), ⟨_, ei, heap_alloc_at w.drew _, ?_⟩, fun q hq => ?_⟩⟩
        · show (l ++ m').length = _
          rw [List.length_append]; omega
        · simp only [Array.size_append, List.size_toArray, o1, n1, size_zeroCells, hzs, hsz, hsz0, ← Nat.add_mul]
          rw [show len + nn + (grownCap w (len + nn) cap ei - (len + nn)) = grownCap w (len + nn) cap ei by omega]; omega
        · have hmem : ∀ j, mem (w.drew.alloc (.cells (olds.toArray ++ news.toArray ++ Builtin.zeroCells z.cells (grownCap w (len + nn) cap ei - (len + nn))) ei)) w.heap.size j = (olds.toArray ++ news.toArray ++ Builtin.zeroCells z.cells (grownCap w (len + nn) cap ei - (len + nn)))[j]? := fun j => mem_alloc_at w.drew _ _ j
          rcases Nat.lt_or_ge q len with hql | hql
          · rw [show rd (t := u0) (List.append l m') q = rd l q from rd_append_l l m' q (by omega)]
            obtain ⟨b, o, e1, hel⟩ := o4 (by omega)
            refine Rd.flat (hss _) u0 hf0 (fun j hj => ?_) (fun b' hb hn => ⟨by rw [hold b' hb]; exact hn, hlt _ b' hb⟩) (hel q hql)
            obtain ⟨b', o', e2, e3⟩ := o3 q j hql hj
            rw [e1] at e2
            simp only [Option.some.injEq, Addr.mk.injEq] at e2
            obtain ⟨rfl, rfl, _⟩ := e2
            have hin : q * u0.sz + j < len * u0.sz := mul_add_lt hql hj
            rw [hmem, Nat.zero_add, Array.getElem?_append_left (by simp [o1]; omega), Array.getElem?_append_left (by simp [o1]; omega), ← e3]
            simp
          · obtain ⟨k, rfl⟩ : ∃ k, q = len + k := ⟨q - len, by omega⟩
            rw [show rd (t := u0) (List.append l m') (len + k) = rd m' k from by rw [← h2']; exact rd_append_r l m' k]
            have hk := hmove (s' := n) (p' := [] ++ [.i (len + k)]) (i := k) (by omega) (hrd 0 [] k (by omega))
            refine Rd.flat (hss _) u0 hf0 (fun j hj => ?_) (fun b' hb hn => ⟨by rw [hold b' hb]; exact hn, hlt _ b' hb⟩) hk
            have hjl : k * u0.sz + j < nn * u0.sz := mul_add_lt (by omega) hj
            have e1 : 0 + (len + k) * u0.sz + j = len * u0.sz + (k * u0.sz + j) := by rw [Nat.add_mul]; omega
            rw [hmem, e1, Array.getElem?_append_left (by simp [o1, n1, hsz0]; omega), Array.getElem?_append_right (by simp [o1])]
            have e2 : len * u0.sz + (k * u0.sz + j) - olds.toArray.size = k * u0.sz + j := by simp [o1]
            rw [e2, Nat.add_assoc, hsz0, n2 _ (by rw [hsz0]; exact hjl)]
            simp
end Go.Proofs.Ytlmcalffemklnaa.Rf
namespace Go.Proofs.Ytlmcalffemklnaa.Rf
variable {M : Sc} {W w w' : World} {ow ow' : Own} {tf tf' : Nat → Value} {st st1 st2 st' : St} {ρ : Type} {P : Program}
/-- What another name stands for is taken out of its place. -/
theorem Rel.takeHole {z s n : Nat} {p : List Step} {u : Ty} {d : Dv} (h : Rel M W w ow tf st) (hz : st z = .al s p u) (hp : p ≠ []) (hg : getP st s p = some d) (hput : putP st s p ⟨.hole, ()⟩ = some st1) (hn : st n = .dead) :
    ∃ ow', Hand M W w ow' tf st1 n (.val d) (tf z) := by
  classical
  have hent := h.ent z
  rw [hz] at hent
  simp only [ER] at hent
  obtain ⟨dd, h1, f, t', b0, o, h2, h3⟩ := hent
  obtain ⟨T, x0, old, new, g1, g2, g3, g4, g5, g6⟩ := putP_spec hput
  rw [h1] at g1; simp only [Ent.val.injEq] at g1; subst g1
  have hv := h.vr h1
  obtain ⟨b, hb⟩ := walk_top h2 g3 hp
  dsimp only at hb
  subst hb
  obtain ⟨e1, hrd⟩ := getP_walk h h1 h2 hg
  have hsn : s ≠ n := by rintro rfl; rw [h1] at hn; cases hn
  have hf := h.free hn
  let ow' : Own := fun b' => match ow b' with
    | some (s', q) => if h : s' = s ∧ ∃ r, q = p ++ r then some (n, h.2.choose) else some (s', q)
    | none => none
  have hno : ∀ b', ow b' = none → ow' b' = none := fun b' hb => by simp only [ow', hb]
  have hmv : ∀ b' r, ow b' = some (s, p ++ r) → ow' b' = some (n, r) := fun b' r hb => by
    have hx : s = s ∧ ∃ r', p ++ r = p ++ r' := ⟨rfl, r, rfl⟩
    have e0 : ow' b' = if h : s = s ∧ ∃ r', p ++ r = p ++ r' then some (n, h.2.choose) else some (s, p ++ r) := by
      show (match ow b' with | some (s', q) => if h : s' = s ∧ ∃ r, q = p ++ r then some (n, h.2.choose) else some (s', q) | none => none) = _
      rw [hb]
    rw [e0, dif_pos hx]
    have := hx.2.choose_spec
    rw [List.append_cancel_left_eq] at this
    rw [← this]
  have hkp : ∀ b' s' q, ow b' = some (s', q) → ¬ (s' = s ∧ ∃ r, q = p ++ r) → ow' b' = some (s', q) := fun b' s' q hb hne => by
    simp only [ow', hb]; rw [dif_neg hne]
  have ha : d.1.agg = false := by rw [e1]; rfl
  have hz1 : d.1.sz = 1 := by rw [e1]; rfl
  obtain ⟨c, hc, hone⟩ := Rd.some d.1 hrd 0 (by omega)
  have hrel : Rel M W w ow' tf st1 := Rel.putG (n := n) (ow' := ow') h h1 hsn hf.2 g2 g4 h2 (by rfl) (Put.refl _ _ _ _) (by simp only [Rd]; exact ⟨c, by rw [Nat.add_zero] at hc; exact hc, hone⟩) hno
    (fun b' s' q hq _ hne => hkp b' s' q hq hne) (fun b' l hb' => by
      cases hq : ow b' with
      | none => rw [hno b' hq] at hb'; cases hb'
      | some l' => exact ⟨l', rfl⟩) h.fr g5 (Deads.put hput n hn) (fun y hy _ => g6 y hy)
  refine ⟨ow', hrel.handVal (Deads.put hput n hn) (VR.of_cell ha ?_ h3)⟩
  exact Rd.frame (Nat.le_refl _) d.1 (fun _ _ => rfl) (fun b' _ hb => ⟨hno b' hb, rfl⟩) (fun b' q _ hq => ⟨by rw [List.nil_append]; exact hmv b' q hq, rfl⟩) hrd
theorem begun_sound {x : Operand} {d : Dv} {n : Nat} (h : Rel M W w ow tf st) (hu : begun st x = some (d, st1)) (hn : st n = .dead) : (∃ ow', Hand M W w ow' tf st1 n (.val d) (ev tf x)) ∧ Deads st st1 := by
  unfold begun at hu
  split at hu
  · rename_i s
    split at hu
    · rename_i d0 hs
      exact takeV_sound h (x := .tmp s) (by simp only [takeV, hs]; exact hu) hn
    · rename_i s' u hs
      exact takeV_sound h (x := .tmp s) (by simp only [takeV, hs]; exact hu) hn
    · rename_i s' p u hne hs
      split at hu
      · rename_i d0 hg
        split at hu
        · rename_i st1' hput
          simp only [Option.some.injEq, Prod.mk.injEq] at hu
          obtain ⟨rfl, rfl⟩ := hu
          exact ⟨h.takeHole hs (by rintro rfl; exact hne rfl) hg hput hn, Deads.put hput⟩
        · cases hu
      · cases hu
    · cases hu
  · rename_i hx
    split at hu
    · rename_i d0 hs
      refine takeV_sound h (x := x) ?_ hn
      cases x with
      | tmp s => exact absurd rfl (hx s)
      | _ => simp only [takeV, hs]; exact hu
    · cases hu
theorem clr_dead (st : St) {y : Nat} (h : VB ≤ y) : clr st y = .dead := by simp only [clr, Nat.ble_eq_true_of_le h]
theorem clr_lt (st : St) {y : Nat} (h : y < VB) : clr st y = st y := by
  have : Nat.ble VB y = false := by
    cases hb : Nat.ble VB y with
    | false => rfl
    | true => have := Nat.le_of_ble_eq_true hb; omega
  simp only [clr, this]
/-- The hand, and the state behind, apart. -/
theorem clr_hand {d : Dv} (hfin : ∀ y, VB < y → st y = .dead) (h : st VB = .val d) : setS (clr st) (some VB) (.val d) = st := by
  have hd : clr st VB = .dead := clr_dead st (Nat.le_refl _)
  have hown : (clr st VB).owns = false := by rw [hd]; rfl
  funext y
  by_cases hy : y = VB
  · subst hy; rw [setS_same, h]; rfl
  · rw [setS_ne _ _ hy, hown]
    simp only [Bool.false_eq_true, if_false]
    rcases Nat.lt_or_gt_of_ne hy with k | k
    · have : Nat.ble VB y = false := by
        cases hb : Nat.ble VB y with
        | false => rfl
        | true => have := Nat.le_of_ble_eq_true hb; omega
      simp only [clr, this]
    · rw [hfin y k]
      have : Nat.ble VB y = true := Nat.ble_eq_true_of_le (by omega)
      simp only [clr, this]
theorem handOf {d : Dv} {v : Value} (h : Rel M W w ow (upd tf VB v) st) (hfin : ∀ y, VB < y → st y = .dead) (hv : st VB = .val d) (hnn : ∀ y, (st y).names ≠ some VB) : Hand M W w ow tf (clr st) VB (.val d) v := by
  refine ⟨⟨clr_dead st (Nat.le_refl _), fun y => ?_⟩, by simp [Ent.names], by rw [clr_hand hfin hv]; exact h⟩
  rcases Nat.lt_or_ge y VB with k | k
  · rw [clr_lt st k]; exact hnn y
  · rw [clr_dead st k]; simp [Ent.names]
/-- What is frozen elsewhere leaves a value where it stood. -/
theorem frz_keeps {s : Nat} {p : List Step} {d : Dv} (h : frzP st s p = some (d, st1)) {y : Nat} (hy : y ≠ s) : st1 y = st y ∨ (st1 y = .dead ∧ (st y).names ≠ none) := by
  obtain ⟨_, _, _, _, _, _, hp⟩ := frzP_spec h
  obtain ⟨T, x, old, new, _, _, _, _, _, h6⟩ := putP_spec hp
  rcases h6 y hy with ⟨k1, k2⟩ | ⟨k1, _⟩
  · exact .inr ⟨k1, k2⟩
  · exact .inl k1
theorem frz_names {s : Nat} {p : List Step} {d : Dv} (h : frzP st s p = some (d, st1)) {n : Nat} (hnn : ∀ y, (st y).names ≠ some n) : ∀ y, (st1 y).names ≠ some n := by
  intro y
  by_cases hy : y = s
  · subst hy
    obtain ⟨_, _, _, _, _, _, hp⟩ := frzP_spec h
    obtain ⟨T, x, old, new, _, _, _, _, h5, _⟩ := putP_spec hp
    rw [h5]; simp [Ent.names]
  · rcases frz_keeps h hy with e | ⟨e, _⟩
    · rw [e]; exact hnn y
    · rw [e]; simp [Ent.names]
theorem elOwn_flat {d : Dv} (h : d.1.hasOwn = false) : elOwn d = false ∨ (∀ u m, listOf d ≠ some ⟨u, m⟩) := by
  obtain ⟨t, x⟩ := d
  cases t with
  | sl f t => exact .inl h
  | osl f t => cases h
  | _ => exact .inr (fun u m => by simp [listOf])
/-- A hand is emptied. -/
theorem Hand.drop {n : Nat} {d : Dv} {v : Value} (h : Hand M W w ow tf st n (.val d) v) : Rel M W w ow tf st := by
  have hown : (st n).owns = false := by rw [h.1.1]; rfl
  refine Rel.forget (n := n) (v := v) (Rel.weaken h.2.2 (fun s => ?_) (fun s s' hs hs' => ?_)) h.1.1
  · by_cases e : s = n
    · subst e; exact .inr h.1.1
    · left; rw [setS_ne _ _ e, hown]; rfl
  · have : s' ≠ n := fun e => h.1.2 s (e ▸ hs')
    rw [setS_ne _ _ this, hown]; rfl
/-- What is appended is read; the hand stays as it is. -/
theorem added_sound {y : Operand} {d e : Dv} {z : Nat} (h : Rel M W w ow tf st) (hy : y = .tmp z) (hz : z ≠ VB) (hv : st VB = .val d) (hnn : ∀ x, (st x).names ≠ some VB) (hfin : st (VB + 1) = .dead) (ha : added st y = some (e, st2)) :
    (∃ ow', Rel M W w ow' tf st2 ∧ ∃ s p, VR w ow' M.f e s p (ev tf y)) ∧ Deads st st2 ∧ st2 VB = .val d ∧ (∀ x, (st2 x).names ≠ some VB) ∧ (elOwn e = false ∨ ∀ u m, listOf e ≠ some ⟨u, m⟩) := by
  subst hy
  unfold added at ha
  simp only at ha
  split at ha
  · rename_i d0 hs
    split at ha
    · obtain ⟨ow', hr, h1⟩ := h.frzSlot ha
      obtain ⟨_, _, _, _, _, hfl, _⟩ := frzP_spec ha
      refine ⟨⟨ow', hr, z, [], hr.vr h1⟩, Deads.frz ha, ?_, frz_names ha hnn, elOwn_flat hfl⟩
      rcases frz_keeps ha (Ne.symm hz) with e | ⟨_, e⟩
      · rw [e]; exact hv
      · rw [hv] at e; exact absurd rfl e
    · rename_i hel
      simp only [Option.some.injEq, Prod.mk.injEq] at ha
      obtain ⟨rfl, rfl⟩ := ha
      exact ⟨⟨ow, h, z, [], h.vr hs⟩, Deads.refl _, hv, hnn, .inl hel⟩
  · rename_i s' p u hs
    have hs'n : s' ≠ VB := by
      rintro rfl
      exact hnn z (by rw [hs]; rfl)
    split at ha
    · rename_i d0 hg
      split at ha
      · -- a free slot for the lemma
        obtain ⟨_, _, _, _, _, hfl, _⟩ := frzP_spec ha
        obtain ⟨ow', k⟩ := h.frzAl hs ha hfin
        refine ⟨⟨ow', k.drop, _, _, k.vr⟩, Deads.frz ha, ?_, frz_names ha hnn, elOwn_flat hfl⟩
        rcases frz_keeps ha (Ne.symm hs'n) with e | ⟨_, e⟩
        · rw [e]; exact hv
        · rw [hv] at e; exact absurd rfl e
      · rename_i hel
        simp only [Option.some.injEq, Prod.mk.injEq] at ha
        obtain ⟨rfl, rfl⟩ := ha
        obtain ⟨s, p, k⟩ := lookV_sound h (x := .tmp z) (d := d0) (by simp only [lookV, opd, hs]; exact hg)
        exact ⟨⟨ow, h, s, p, k⟩, Deads.refl _, hv, hnn, .inl hel⟩
    · cases ha
  · cases ha
theorem Hand.nils {n : Nat} {y : Ty.nils.den} {v : Value} (u : Ty) (h : Hand M W w ow tf st n (.val ⟨.nils, y⟩) v) : Hand M W w ow tf st n (.val ⟨.osl true u, ([] : List u.den)⟩) v := by
  have hv := h.vr
  obtain ⟨hc, hr⟩ := hv.cell rfl
  refine h.change h.2.2.fr (Nat.le_refl _) (fun b _ hb => ⟨hb, rfl⟩) (fun b s q _ _ hq => ⟨hq, rfl⟩) h.2.2.own ?_
  exact VR.of_cell (g := fun o => (#[v] : Array Value)[o]?) (o := 0) rfl (Rd.nilsList hr).2 rfl
theorem listOf_nil {e : Dv} {u : Ty} {m : List u.den} (h : listOf e = some ⟨u, m⟩) : True := trivial
theorem zsz_spec {t : TypeId} (h : zsz P t = true) : ∃ i z, P.info? t = some i ∧ i.zero = some z ∧ z.cells.size = i.size := by
  unfold zsz at h
  split at h
  · rename_i i hi
    split at h
    · rename_i z hz; exact ⟨i, z, hi, hz, Nat.eq_of_beq_eq_true h⟩
    · cases h
  · cases h
theorem appV_sound {t t' ty : TypeId} {d e : Dv} {n s : Nat} {p : List Step} {v x : Value} {κ : Dv → Option ρ} {r : ρ} (hh : Hand M W w ow tf st n (.val d) v) (he : VR w ow M.f e s p x) (hel : elOwn e = false ∨ ∀ u m, listOf e ≠ some ⟨u, m⟩)
    (ht : isSlT P t' = true) (hx : appV P t d e κ = some r) : ∃ d' v' w' ow', κ d' = some r ∧ (Builtin.append_ #[t, t'] ty #[v, x]).run P w = .ok v' w' ∧ Hand M W w' ow' tf st n (.val d') v' := by
  obtain ⟨e', hu'⟩ := isSlT_spec ht
  unfold appV at hx
  split at hx
  · cases hx
  · rename_i u m hl
    have hel : elOwn e = false := by
      rcases hel with k | k
      · exact k
      · exact absurd hl (k u m)
    obtain ⟨hfu, a2, nn, c2, rfl, hml, hrd⟩ := listV hl hel he
    split at hx
    · cases hx
    · rename_i ei hs
      obtain ⟨hu, hcz, hz0⟩ := isSl_spec hs
      split at hx
      · rename_i y hb
        simp only [Bool.and_eq_true, Nat.blt_eq] at hb
        obtain ⟨i, z, hi, hz, hzs⟩ := zsz_spec hb.2
        have hby : P.bytesOf ei = i.bytes := by simp [Program.bytesOf, hi]
        have hsz : P.cellsOf ei = i.size := by simp [Program.cellsOf, hi]
        split at hx
        · rename_i m' hc
          obtain ⟨hr, hx⟩ := brB_true hx rfl
          have hr := room_spec hr
          have k1 := hh.nils u.frz
          have h47 : (([] : List u.frz.den).length + m'.length) * i.bytes ≤ 140737488355328 := by
            rw [List.length_nil, Nat.zero_add, ← hby]; exact hr
          obtain ⟨v', w', ow', j1, j2⟩ := append_B (ty := ty) (c2 := c2) k1 hu hu' hi hz hzs (by rw [← hsz, hcz]) (by rw [← hby]; omega) hc hfu hml hrd h47
          exact ⟨_, v', w', ow', hx, j1, j2⟩
        · cases hx
      · rename_i f u0 l hb
        simp only [Bool.and_eq_true, Nat.blt_eq] at hb
        obtain ⟨i, z, hi, hz, hzs⟩ := zsz_spec hb.2
        have hby : P.bytesOf ei = i.bytes := by simp [Program.bytesOf, hi]
        have hsz : P.cellsOf ei = i.size := by simp [Program.cellsOf, hi]
        split at hx
        · rename_i m' hc
          obtain ⟨hr, hx⟩ := brB_true hx rfl
          have hr := room_spec hr
          rw [hby] at hr
          obtain ⟨v', w', ow', j1, j2⟩ := append_B (ty := ty) (c2 := c2) hh hu hu' hi hz hzs (by rw [← hsz, hcz]) (by rw [← hby]; omega) hc hfu hml hrd hr
          exact ⟨_, v', w', ow', hx, j1, j2⟩
        · cases hx
      · cases hx
end Go.Proofs.Ytlmcalffemklnaa.Rf
namespace Go.Proofs.Ytlmcalffemklnaa.Rf
variable {M : Sc} {W w w' : World} {ow ow' : Own} {tf tf' : Nat → Value} {st st1 st2 st' : St} {ρ : Type} {P : Program}
/-- Nothing lies behind the slots. -/
def Fin (st : St) : Prop := ∀ y, VB ≤ y → st y = .dead
theorem Fin.of (h : Fin st) (k : Deads st st1) : Fin st1 := fun y hy => k y (h y hy)
theorem append_zeros {t t' ty e : TypeId} {i : TypeInfo} {z : Value} {a : Option Addr} {n : Int} (hu : P.underlying t = some (.slice e)) (hu' : P.underlying t' = some (.int .i64)) (hi : P.info? e = some i) (hz : i.zero = some z) (h0 : 0 ≤ n) (hb : 0 < i.bytes) (h47 : n.toNat * i.bytes ≤ 140737488355328) (hs0 : i.size ≠ 0) :
    (n = 0 → (Builtin.append_ #[t, t'] ty #[.slice a 0 0, .int .i64 n]).run P w = .ok (.slice a 0 0) w) ∧
    (n ≠ 0 → (Builtin.append_ #[t, t'] ty #[.slice a 0 0, .int .i64 n]).run P w = .ok (.slice (some ⟨w.heap.size, 0, none⟩) n.toNat (grownCap w n.toNat 0 e))
      (w.drew.alloc (.cells (Builtin.zeroCells z.cells n.toNat ++ Builtin.zeroCells z.cells (grownCap w n.toNat 0 e - n.toNat)) e))) := by
  obtain ⟨k, rfl⟩ := Int.eq_ofNat_of_zero_le h0
  have h47' : k * i.bytes ≤ 140737488355328 := h47
  have hle : k ≤ k * i.bytes := Nat.le_mul_of_pos_right _ hb
  have hw : IntKind.i64.wrap (k : Int) = k := by rw [IntKind.wrap_i64]; omega
  have hbig : ¬ (281474976710656 < (k : Int) * (i.bytes : Int)) := by
    have : ((k * i.bytes : Nat) : Int) ≤ 140737488355328 := by omega
    rw [Int.natCast_mul] at this; omega
  have hneg : ¬ ((k : Int) < 0) := by omega
  constructor
  · intro hk
    have : k = 0 := by omega
    subst this
    cases a <;> simp [Builtin.append_, run_underlying hu, run_underlying hu', sizeOf, typeInfo, hi, asInt, asIntOf, IntKind.wrap_i64, storeCells]
  · intro hk
    have hk0 : ¬ k = 0 := by omega
    have hk1 : ¬ k ≤ 0 := by omega
    have hfit := growslice_fits (need := k) (old := 0) (bytes := i.bytes) (by omega) h47'
    have h48' : ¬ (281474976710656 < Builtin.nextslicecap k 0 * i.bytes) := by omega
    have h63' : ¬ (9223372036854775807 < (k : Int)) := by omega
    have hf0 := run_first0 (P := P) (w := w.drew) (z := i.size) (n := 0) (c := 0) (a := a)
    · have hks : ¬ k * i.size = 0 := by
        intro h; rcases Nat.mul_eq_zero.1 h with h | h
        · exact hk0 h
        · exact hs0 h
      simp [Builtin.append_, run_underlying hu, run_underlying hu', sizeOf, typeInfo, zeroValue, hi, hz, asInt, asIntOf, hw, hbig, hneg, hk0, hk1, h48', h63', Question.forced, hf0, newRow, grownCap, hks, hs0]
theorem zeroCells_at (z : Array Value) (n i k j : Nat) (hz : z.size = k) (hj : j < k) (hin : i < n) : (Builtin.zeroCells z n)[i * k + j]? = z[j]? := by
  have h1 : i * k + j < n * z.size := by rw [hz]; exact mul_add_lt hin hj
  simp only [Builtin.zeroCells]
  rw [Array.getElem?_map, Array.getElem?_range, if_pos h1]
  simp only [Option.map_some]
  rw [hz, Nat.mul_comm, Nat.mul_add_mod, Nat.mod_eq_of_lt hj]
  have : j < z.size := by omega
  simp [this]
theorem appZ_sound {t t' ty : TypeId} {m : Int} {n : Nat} {a : Option Addr} {κ : Dv → Option ρ} {r : ρ} (h : Rel M W w ow tf st) (hn : st n = .dead) (ht : isI64 P t' = true) (hx : appZ P t m κ = some r) :
    ∃ d' v' w' ow', κ d' = some r ∧ (Builtin.append_ #[t, t'] ty #[.slice a 0 0, .int .i64 m]).run P w = .ok v' w' ∧ Hand M W w' ow' tf st n (.val d') v' := by
  have hu' : P.underlying t' = some (.int .i64) := by
    unfold isI64 at ht; split at ht
    · assumption
    · cases ht
  unfold appZ at hx
  split at hx
  · rename_i e hu
    split at hx
    · rename_i tt htt
      split at hx
      · rename_i hb
        obtain ⟨hz, hx⟩ := brB_true hx rfl
        simp only [Bool.and_eq_true, Nat.blt_eq] at hb
        obtain ⟨⟨⟨hb1, hb2⟩, hb3⟩, hb4⟩ := hb
        have hb1 := Nat.eq_of_beq_eq_true hb1
        simp only [zerosOk, Bool.and_eq_true, decide_eq_true_eq] at hz
        obtain ⟨h0, h47⟩ := hz
        have h47 := room_spec h47
        obtain ⟨i, z, hi, hzz, hzs, hzv⟩ := zeroB_spec hb3
        have hby : P.bytesOf e = i.bytes := by simp [Program.bytesOf, hi]
        have hsz : P.cellsOf e = i.size := by simp [Program.cellsOf, hi]
        rw [hby] at hb2 h47
        have hfl := tyOf_flat 100 htt
        obtain ⟨r1, r2⟩ := append_zeros (P := P) (w := w) (ty := ty) (a := a) hu hu' hi hzz h0 (by omega) h47 (by rw [← hsz, hb1]; omega)
        by_cases hm : m = 0
        · refine ⟨_, _, w, ow, hx, r1 hm, ?_⟩
          subst hm
          exact (h.handVal (d := ⟨.nils, ()⟩) hn (VR.mk_nils ..)).nils tt
        · -- a row of zeros, with room behind
          have hge := grownCap_ge w m.toNat 0 e
          have hd : Rel M W w.drew ow tf st := h.world h.fr.drew (Nat.le_refl _) (fun b hb => rfl)
          have hlen : (List.replicate m.toNat tt.dflt).length = m.toNat := List.length_replicate
          have hsize : (Builtin.zeroCells z.cells m.toNat).size = m.toNat * tt.sz := by rw [size_zeroCells, hzs]
          obtain ⟨ow2, k⟩ := hd.newList (u := tt) (l := List.replicate m.toNat tt.dflt) (c := Builtin.zeroCells z.cells m.toNat ++ Builtin.zeroCells z.cells (grownCap w m.toNat 0 e - m.toNat)) (cap := grownCap w m.toNat 0 e) e hn hfl (by rw [hlen]; exact hge)
            (by rw [Array.size_append, size_zeroCells, size_zeroCells, hzs, ← Nat.add_mul]; congr 1; omega) (fun q hq => by
              rw [hlen] at hq
              rw [rd_replicate _ _ _ hq]
              refine zero_cell (hzv w.drew ow M.f n []) hfl (fun j hj => ?_)
              have hin : q * tt.sz + j < m.toNat * tt.sz := mul_add_lt hq hj
              rw [Array.getElem?_append_left (by rw [hsize]; exact hin)]
              exact zeroCells_at z.cells _ q tt.sz j hzs hj hq)
          rw [hlen] at k
          exact ⟨_, _, _, ow2, hx, r2 hm, k⟩
      · cases hx
    · cases hx
  · cases hx
theorem xAppend_sound {x y : Operand} {t t' ty : TypeId} {κ : St → Ent → Option ρ} {r : ρ} (h : Rel M W w ow tf st) (hn : Fin st) (hx : xAppend P st x y t t' κ = some r) :
    ∃ v' w', (Builtin.append_ #[t, t'] ty #[ev tf x, ev tf y]).run P w = .ok v' w' ∧ Res M W w' tf st VB v' κ r := by
  have hnVB := hn VB (Nat.le_refl _)
  unfold xAppend at hx
  split at hx
  · rename_i ht
    split at hx
    · rename_i u m hox hoy
      obtain ⟨s, p, hv⟩ := opd_val h hox
      obtain ⟨a, ha⟩ := nils_of hv
      obtain ⟨d', v', w', ow', k1, k2, k3⟩ := appZ_sound (P := P) (ty := ty) (a := a) h hnVB ht hx
      refine ⟨v', w', ?_, _, _, k1, Deads.refl _, ow', k3⟩
      rw [ha, opd_int h hoy]; exact k2
    · cases hx
  · split at hx
    · rename_i d st1 hb
      obtain ⟨⟨ow1, k1⟩, k2⟩ := begun_sound h hb hnVB
      split at hx
      · rename_i e st2 ha hc
        simp only [Bool.and_eq_true] at hc
        have hown : (st1 VB).owns = false := by rw [k1.1.1]; rfl
        have hset : ∀ z, z ≠ VB → setS st1 (some VB) (.val d) z = st1 z := fun z hz => by rw [setS_ne st1 _ hz, hown]; rfl
        obtain ⟨z, rfl, hz⟩ : ∃ z, y = .tmp z ∧ z ≠ VB := by
          cases y with
          | tmp z =>
            refine ⟨z, rfl, fun e => ?_⟩
            subst e
            have := hc.2
            simp only [opd, k1.1.1, notDead, Bool.false_eq_true] at this
          | _ => simp only [added, reduceCtorEq] at ha
        have hnn : ∀ q, (setS st1 (some VB) (.val d) q).names ≠ some VB := fun q => by
          by_cases hq : q = VB
          · subst hq; rw [setS_same]; simp [Ent.names]
          · rw [hset q hq]; exact k1.1.2 q
        have hfin1 : ∀ q, VB < q → setS st1 (some VB) (.val d) q = .dead := fun q hq => by
          rw [hset q (by omega)]; exact k2 q (hn q (by omega))
        obtain ⟨⟨ow2, j1, s, p, j2⟩, j3, j4, j5, j6⟩ := added_sound k1.2.2 rfl hz (setS_same st1 VB (.val d)) hnn (hfin1 _ (by omega)) ha
        have hhand := handOf j1 (fun q hq => j3 q (hfin1 q hq)) j4 j5
        obtain ⟨d', v', w', ow', i1, i2, i3⟩ := appV_sound (P := P) (ty := ty) hhand j2 j6 hc.1 hx
        refine ⟨v', w', ?_, _, _, i1, fun q hq => ?_, ow', i3⟩
        · have e1 : ev (upd tf VB (ev tf x)) (.tmp z) = ev tf (.tmp z) := upd_ne _ _ hz
          rw [e1] at i2; exact i2
        · rcases Nat.lt_or_ge q VB with hlt | hge
          · rw [clr_lt _ hlt]
            refine j3 q ?_
            rw [hset q (by omega)]; exact k2 q hq
          · exact clr_dead _ hge
      · cases hx
    · cases hx
end Go.Proofs.Ytlmcalffemklnaa.Rf
namespace Go.Proofs.Ytlmcalffemklnaa.Rf
variable {M : Sc} {W w w' : World} {ow ow' : Own} {tf tf' : Nat → Value} {st st1 st2 st' : St} {ρ : Type} {P : Program}
theorem run_extract {vs : List Value} {n : Nat} {v : Value} (hv : vs[n]? = some v) : (Instr.extract (.tuple vs.toArray) n).run P w = .ok v w := by
  simp only [Instr.extract, List.getElem?_toArray, hv]
  rfl
theorem Ty.beq_refl' : ∀ t : Ty, t.beq t = true := by
  intro t; induction t <;> simp_all [Ty.beq]
/-- A component of a tuple is taken out. -/
theorem Rel.takePart {s n j : Nat} {l : List Dv} {vs : List Value} {d : Dv} {v : Value} (h : Rel M W w ow tf st) (hs : st s = .tup l) (hvs : tf s = .tuple vs.toArray) (hj : l[j]? = some d) (hv : vs[j]? = some v) (hd : d.1 ≠ .hole) (ho : d.1.hasOwn = true) (hn : st n = .dead) :
    ∃ ow', Hand M W w ow' tf (setS st (some s) (.tup (outD l j))) n (.val d) v := by
  classical
  have hsn : s ≠ n := by rintro rfl; rw [hs] at hn; cases hn
  let ow' : Own := fun b => match ow b with
    | some (s', .i i :: q) => if s' = s ∧ i = j then some (n, q) else some (s', .i i :: q)
    | o => o
  have hno : ∀ b, ow b = none → ow' b = none := fun b hb => by simp only [ow', hb]
  have hmv : ∀ b q, ow b = some (s, .i j :: q) → ow' b = some (n, q) := fun b q hb => by simp only [ow', hb]; simp
  have hkp : ∀ b s' q, s' ≠ s → ow b = some (s', q) → ow' b = some (s', q) := fun b s' q hne hb => by
    simp only [ow', hb]
    split
    · rename_i e; simp only [Option.some.injEq, Prod.mk.injEq] at e; obtain ⟨rfl, rfl⟩ := e
      rw [if_neg (by simp [hne])]
    · rfl
  have hkj : ∀ b i q, i ≠ j → ow b = some (s, .i i :: q) → ow' b = some (s, .i i :: q) := fun b i q hne hb => by
    simp only [ow', hb]; rw [if_neg (by simp [hne])]
  have hany : (st s).owns = true := by
    rw [hs]; simp only [Ent.owns, List.any_eq_true]
    exact ⟨d, List.mem_of_getElem? hj, ho⟩
  have hent := h.ent s
  rw [hs] at hent
  simp only [ER] at hent
  obtain ⟨vs', e1, h2, h3⟩ := hent
  rw [hvs] at e1
  simp only [Value.tuple.injEq] at e1
  obtain rfl : vs = vs' := by have := congrArg Array.toList e1; simpa using this
  have hrel : Rel M W w ow' tf (setS st (some s) (.tup (outD l j))) := by
    refine ⟨h.fr, fun x => ?_, fun b l' hb => ?_, h.top⟩
    · by_cases hx : x = s
      · subst hx
        rw [setS_same, drop_tup]
        simp only [ER]
        refine ⟨vs, hvs, by rw [outD_set, List.length_set]; exact h2, fun i dd vv hd' hv' hne => ?_⟩
        rw [outD_set, List.getElem?_set] at hd'
        split at hd'
        · split at hd'
          · simp only [Option.some.injEq] at hd'; subst hd'; exact absurd rfl hne
          · cases hd'
        · rename_i hij
          exact VR.frame (Nat.le_refl _) (fun b _ hb => ⟨hno b hb, rfl⟩) (fun b q _ hq => ⟨hkj b i q (Ne.symm hij) hq, rfl⟩) (h3 i dd vv hd' hv' hne)
      · rw [setS_ne st _ hx, if_pos hany]
        by_cases hdead : (st x).drop s = .dead
        · rw [hdead]; trivial
        · obtain ⟨k1, k2⟩ := drop_names hdead
          rw [k1]
          refine ER.keep (Nat.le_refl _) rfl (fun b _ hb => ⟨hno b hb, rfl⟩) (fun b q _ hq => ⟨hkp b x q hx hq, rfl⟩) (fun s' dd hs' hdd => ?_) (h.ent x)
          have hne : s' ≠ s := fun e => k2 (e ▸ hs')
          refine ⟨by rw [setS_ne st _ hne, if_pos hany, hdd]; rfl, rfl, h.vr hdd, fun _ _ _ _ => rfl⟩
    · cases hq : ow b with
      | none => rw [hno b hq] at hb; cases hb
      | some l'' => exact h.own b l'' hq
  refine ⟨ow', hrel.handVal (by rw [setS_ne st _ (Ne.symm hsn), hn]; split <;> rfl) ?_⟩
  exact VR.frame (p := [.i j]) (Nat.le_refl _) (fun b _ hb => ⟨hno b hb, rfl⟩) (fun b q _ hq => ⟨hmv b q hq, rfl⟩) (h3 j d v hj hv hd)
theorem xExtract_sound {x : Operand} {i n : Nat} {κ : St → Ent → Option ρ} {r : ρ} (h : Rel M W w ow tf st) (hn : st n = .dead) (hx : xExtract st x i κ = some r) :
    ∃ v, (Instr.extract (ev tf x) i).run P w = .ok v w ∧ Res M W w tf st n v κ r := by
  unfold xExtract at hx
  split at hx
  · rename_i s
    split at hx
    · rename_i l hs
      split at hx
      · rename_i d hd
        rw [nthD_get] at hd
        have hent := h.ent s
        rw [hs] at hent
        simp only [ER] at hent
        obtain ⟨vs, e1, h2, h3⟩ := hent
        have hlt : i < vs.length := by rw [h2]; exact (List.getElem?_eq_some_iff.1 hd).1
        obtain ⟨v, hv⟩ : ∃ v, vs[i]? = some v := ⟨vs[i], List.getElem?_eq_getElem hlt⟩
        refine ⟨v, by show (Instr.extract (tf s) i).run P w = _; rw [e1]; exact run_extract hv, ?_⟩
        split at hx
        · cases hx
        · rename_i hb ho
          have hne : d.1 ≠ .hole := fun e => by rw [e] at hb; exact absurd (Ty.beq_refl' .hole) (by rw [hb]; simp)
          obtain ⟨ow', k⟩ := h.takePart hs e1 hd hv hne ho hn
          refine ⟨_, _, hx, fun y hy => ?_, ow', k⟩
          by_cases hys : y = s
          · subst hys; rw [hs] at hy; cases hy
          · rw [setS_ne st _ hys, hy]; split <;> rfl
        · rename_i hb ho
          have hne : d.1 ≠ .hole := fun e => by rw [e] at hb; exact absurd (Ty.beq_refl' .hole) (by rw [hb]; simp)
          exact ⟨_, _, hx, fun y hy => hy, ow, h.handVal hn (VR.any ho (h3 i d v hd hv hne))⟩
      · cases hx
    · cases hx
  · cases hx
end Go.Proofs.Ytlmcalffemklnaa.Rf
namespace Go.Proofs.Ytlmcalffemklnaa.Rf
variable {M : Sc} {W w w' : World} {ow ow' : Own} {tf tf' : Nat → Value} {st st1 st2 st' : St} {ρ : Type} {P : Program}
theorem capt_sound : ∀ {xs : List Operand} {ds : List Dv} {st st1 : St} {ow : Own}, Rel M W w ow tf st → capt st xs = some (ds, st1) →
    (∃ ow', Rel M W w ow' tf st1) ∧ Deads st st1 ∧ ds.length = xs.length ∧ (∀ (j : Nat) (d : Dv) (x : Operand), ds[j]? = some d → xs[j]? = some x → ∃ s, x = .tmp s ∧ st1 s = .val d ∧ d.1.hasOwn = false) ∧
    ∀ y d, st y = .val d → d.1.hasOwn = false → st1 y = .val d
  | [], ds, st, st1, ow, h, hc => by
    simp only [capt, Option.some.injEq, Prod.mk.injEq] at hc
    obtain ⟨rfl, rfl⟩ := hc
    exact ⟨⟨ow, h⟩, Deads.refl _, rfl, fun j d x hd => by simp at hd, fun y d hy _ => hy⟩
  | x :: xs, ds, st, st1, ow, h, hc => by
    cases x with
    | tmp s =>
      simp only [capt] at hc
      split at hc
      · rename_i d hs
        split at hc
        · rename_i ho
          split at hc
          · rename_i ds' st2 hr
            simp only [Option.some.injEq, Prod.mk.injEq] at hc
            obtain ⟨rfl, rfl⟩ := hc
            obtain ⟨k1, k2, k3, k4, k5⟩ := capt_sound h hr
            refine ⟨k1, k2, by simp [k3], fun j d' x hd hx => ?_, k5⟩
            cases j with
            | zero =>
              simp only [List.getElem?_cons_zero, Option.some.injEq] at hd hx
              subst hd; subst hx
              exact ⟨s, rfl, k5 s d hs ho, ho⟩
            | succ j => simp only [List.getElem?_cons_succ] at hd hx; exact k4 j d' x hd hx
          · cases hc
        · rename_i ho
          split at hc
          · rename_i d1 st3 hf
            split at hc
            · rename_i ds' st2 hr
              simp only [Option.some.injEq, Prod.mk.injEq] at hc
              obtain ⟨rfl, rfl⟩ := hc
              obtain ⟨ow1, h1, hs1⟩ := h.frzSlot hf
              obtain ⟨_, _, _, _, _, hflat, _⟩ := frzP_spec hf
              obtain ⟨k1, k2, k3, k4, k5⟩ := capt_sound h1 hr
              refine ⟨k1, (Deads.frz hf).trans k2, by simp [k3], fun j d' x hd hx => ?_, fun y d' hy hy' => ?_⟩
              · cases j with
                | zero =>
                  simp only [List.getElem?_cons_zero, Option.some.injEq] at hd hx
                  subst hd; subst hx
                  exact ⟨s, rfl, k5 s d1 hs1 hflat, hflat⟩
                | succ j => simp only [List.getElem?_cons_succ] at hd hx; exact k4 j d' x hd hx
              · have hys : y ≠ s := by
                  rintro rfl
                  rw [hs] at hy; simp only [Ent.val.injEq] at hy; subst hy
                  rw [ho] at hy'; cases hy'
                refine k5 y d' ?_ hy'
                rcases frz_keeps hf hys with e | ⟨_, e⟩
                · rw [e, hy]
                · rw [hy] at e; exact absurd rfl e
            · cases hc
          · cases hc
      · cases hc
    | _ => simp only [capt] at hc; cases hc
theorem capt_hand {xs : List Operand} {ds : List Dv} {f : FuncId} {n : Nat} (h : Rel M W w ow tf st) (hc : capt st xs = some (ds, st1)) (hn : st n = .dead) :
    (∃ ow', Hand M W w ow' tf st1 n (.fn f ds) (.func (.func f) #[] (xs.map (ev tf)).toArray)) ∧ Deads st st1 := by
  obtain ⟨⟨ow', k1⟩, k2, k3, k4, k5⟩ := capt_sound h hc
  refine ⟨⟨ow', k1.hand (k2 n hn) (by simp [Ent.names]) ?_⟩, k2⟩
  simp only [ER, upd_same]
  refine ⟨xs.map (ev tf), rfl, by rw [List.length_map, k3], fun j d v hd hv => ?_⟩
  rw [List.getElem?_map] at hv
  cases hx : xs[j]? with
  | none => rw [hx] at hv; cases hv
  | some x =>
    rw [hx] at hv
    simp only [Option.map_some, Option.some.injEq] at hv
    subst hv
    obtain ⟨s, rfl, e, ho⟩ := k4 j d x hd hx
    exact ⟨ho, VR.any ho (k1.vr e)⟩
/-- Bounds of a piece. -/
theorem bnd_some {o : Option Operand} {dft n : Int} (h : Rel M W w ow tf st) (hb : bnd st o dft = some n) : (o = none ∧ n = dft) ∨ ∃ x k, o = some x ∧ ev tf x = .int k n := by
  unfold bnd at hb
  split at hb
  · simp only [Option.some.injEq] at hb; exact .inl ⟨rfl, hb.symm⟩
  · rename_i x
    split at hb
    · rename_i k m hx
      cases hb
      exact .inr ⟨x, k, rfl, opd_int h hx⟩
    · cases hb
end Go.Proofs.Ytlmcalffemklnaa.Rf
namespace Go.Proofs.Ytlmcalffemklnaa.Rf
variable {M : Sc} {W w w' : World} {ow ow' : Own} {tf tf' : Nat → Value} {st st1 st2 st' : St} {ρ : Type} {P : Program}
/-- A bound of a piece, told or not. -/
def BndS (v : Option Value) (dft n : Int) : Prop := (v = none ∧ n = dft) ∨ ∃ k, v = some (.int k n)
theorem bnd_told {o : Option Operand} {dft n : Int} (h : Rel M W w ow tf st) (hb : bnd st o dft = some n) : BndS (o.map (ev tf)) dft n := by
  rcases bnd_some h hb with ⟨rfl, e⟩ | ⟨x, k, rfl, e⟩
  · exact .inl ⟨rfl, e⟩
  · exact .inr ⟨k, by rw [Option.map_some, e]⟩
theorem run_sliceBound {k : IntKind} {i : Int} {y : Nat} {c : BoundsCode} (h0 : 0 ≤ i) (h1 : i ≤ y) : (Instr.sliceBound (.int k i) y c).run P w = .ok i.toNat w := by
  simp only [Instr.sliceBound, asIntOf, Sem.run_bind, Sem.run_pure, Result.andThen_ok]
  rw [if_pos ⟨h0, h1⟩]; rfl
theorem run_sliceBounds {isS : Bool} {len cap : Nat} {low high : Option Value} {l h : Int} (hl : BndS low 0 l) (hh : BndS high len h) (h0 : 0 ≤ l) (h1 : l ≤ h) (h2 : h ≤ len) (hc : len ≤ cap) :
    (Instr.sliceBounds isS len cap low high none).run P w = .ok (l.toNat, h.toNat, cap) w := by
  rcases hl with ⟨rfl, rfl⟩ | ⟨k, rfl⟩ <;> rcases hh with ⟨rfl, rfl⟩ | ⟨k', rfl⟩
  · simp [Instr.sliceBounds]
  · simp only [Instr.sliceBounds, Sem.run_bind, Sem.run_pure, Result.andThen_ok, run_sliceBound (show (0 : Int) ≤ h by omega) (show h ≤ (cap : Int) by omega)]
    rfl
  · simp only [Instr.sliceBounds, Sem.run_bind, Sem.run_pure, Result.andThen_ok]
    simp only [run_sliceBound h0 h1, Result.andThen_ok, Int.toNat_natCast]
  · simp only [Instr.sliceBounds, Sem.run_bind, Sem.run_pure, Result.andThen_ok, run_sliceBound (show (0 : Int) ≤ h by omega) (show h ≤ (cap : Int) by omega)]
    simp only [run_sliceBound h0 (show l ≤ (h.toNat : Int) by omega), Result.andThen_ok]
theorem run_sliceSl {t e : TypeId} {z : Nat} {a : Option Addr} {len cap : Nat} {low high : Option Value} {l h : Int} (hu : P.underlying t = some (.slice e)) (hz : P.cellsOf e = z) (hz0 : z ≠ 0)
    (hl : BndS low 0 l) (hh : BndS high len h) (h0 : 0 ≤ l) (h1 : l ≤ h) (h2 : h ≤ len) (hc : len ≤ cap) :
    (Instr.slice t (.slice a len cap) low high none).run P w = .ok (.slice (if cap = l.toNat then a else a.map (·.add (l.toNat * z))) (h.toNat - l.toNat) (cap - l.toNat)) w := by
  simp only [Instr.slice, Sem.run_bind, run_underlying hu, Result.andThen_ok, run_sliceBounds hl hh h0 h1 h2 hc, run_sizeOf hz hz0, Sem.run_pure]
theorem run_sliceStr {t : TypeId} {s : ByteArray} {low high : Option Value} {l h : Int} (hu : P.underlying t = some .string)
    (hl : BndS low 0 l) (hh : BndS high s.size h) (h0 : 0 ≤ l) (h1 : l ≤ h) (h2 : h ≤ s.size) :
    (Instr.slice t (.string s) low high none).run P w = .ok (.string (s.extract l.toNat h.toNat)) w := by
  simp only [Instr.slice, Sem.run_bind, run_underlying hu, Result.andThen_ok]
  simp [run_sliceBounds hl hh h0 h1 h2 (Nat.le_refl _)]
theorem run_sliceArr {t e : TypeId} {z n : Nat} {b o : Nat} {low high : Option Value} {l h : Int} (hu : P.underlying t = some (.array n e)) (hz : P.cellsOf e = z) (hz0 : z ≠ 0)
    (hl : BndS low 0 l) (hh : BndS high n h) (h0 : 0 ≤ l) (h1 : l ≤ h) (h2 : h ≤ n) :
    (Instr.sliceAt t (.pointer (some ⟨b, o, none⟩)) low high none).run P w = .ok (.slice (some (if n = l.toNat then ⟨b, o, none⟩ else ⟨b, o + l.toNat * z, none⟩)) (h.toNat - l.toNat) (n - l.toNat)) w := by
  simp only [Instr.sliceAt, Sem.run_bind, run_underlying hu, Instr.sureAddr, Result.andThen_ok, Sem.run_pure, run_sliceBounds hl hh h0 h1 h2 (Nat.le_refl _), run_sizeOf hz hz0, add_off]
theorem run_sliceAt {t : TypeId} {x : Value} {lo hi : Option Value} (h : (isSlT P t || isStrT P t) = true) : (Instr.sliceAt t x lo hi none).run P w = (Instr.slice t x lo hi none).run P w := by
  rcases Bool.or_eq_true _ _ ▸ h with k | k
  · obtain ⟨e, hu⟩ := isSlT_spec k
    simp only [Instr.sliceAt, Sem.run_bind, run_underlying hu, Result.andThen_ok]
  · have hu := isStrT_spec k
    simp only [Instr.sliceAt, Sem.run_bind, run_underlying hu, Result.andThen_ok]
theorem cutL_len {t : Ty} {l : List t.den} {lo hi : Int} (h0 : 0 ≤ lo) (h1 : lo ≤ hi) (h2 : hi ≤ l.length) : (cutL l lo hi).length = hi.toNat - lo.toNat := by
  simp only [cutL, List.length_drop, List.length_take]; omega
theorem rd_cutL {t : Ty} {l : List t.den} {lo hi : Int} {i : Nat} (h0 : 0 ≤ lo) (h1 : lo ≤ hi) (h2 : hi ≤ l.length) (hi' : i < hi.toNat - lo.toNat) : rd (cutL l lo hi) i = rd l (lo.toNat + i) := by
  simp only [rd, cutL, List.getD_eq_getElem?_getD, List.getElem?_drop]
  rw [List.getElem?_take_of_lt (by omega)]
theorem inS_spec {lo hi : Int} {n : Nat} (h : inS lo hi n = true) : 0 ≤ lo ∧ lo ≤ hi ∧ hi ≤ n := by
  simp only [inS, Bool.and_eq_true, decide_eq_true_eq] at h
  exact ⟨h.1.1, h.1.2, h.2⟩
theorem slOk_spec {t : TypeId} (h : slOk P t = true) : ∃ e, P.underlying t = some (.slice e) ∧ P.cellsOf e ≠ 0 := by
  unfold slOk at h; split at h
  · rename_i e hu; exact ⟨e, hu, by rw [Nat.blt_eq] at h; omega⟩
  · cases h
theorem cut_ne {h l : Int} {len cap : Nat} (hne : h.toNat - l.toNat ≠ 0) (k2 : h ≤ len) (e3 : len ≤ cap) : ¬ cap = l.toNat := by omega
theorem cut_ne' {h l : Int} {len : Nat} (hne : h.toNat - l.toNat ≠ 0) (k2 : h ≤ len) : len ≠ 0 := by omega
theorem cutV_sound {st0 : St} {ow0 : Own} {w0 : World} {t : TypeId} {d : Dv} {v : Value} {lo hi : Option Operand} {n : Nat} {κ : Dv → Option ρ} {r : ρ} (h0 : Rel M W w0 ow0 tf st0) (hh : Hand M W w ow tf st1 n (.val d) v)
    (hx : cutV P t st0 d lo hi κ = some r) :
    ∃ v' d', (Instr.slice t v (lo.map (ev tf)) (hi.map (ev tf)) none).run P w = .ok v' w ∧ κ d' = some r ∧ Hand M W w ow tf st1 n (.val d') v' := by
  have hv := hh.vr
  have chg : ∀ {d' : Dv} {v' : Value}, VR w ow M.f d' n [] v' → Hand M W w ow tf st1 n (.val d') v' := fun k =>
    hh.change hh.2.2.fr (Nat.le_refl _) (fun b _ hb => ⟨hb, rfl⟩) (fun b s q _ _ hq => ⟨hq, rfl⟩) hh.2.2.own k
  unfold cutV at hx
  split at hx
  · rename_i s
    split at hx
    · rename_i l h ht hl hh'
      obtain ⟨hb, hx⟩ := brB_true hx rfl
      obtain ⟨k0, k1, k2⟩ := inS_spec hb
      rw [hv.str]
      exact ⟨_, _, run_sliceStr (isStrT_spec ht) (bnd_told h0 hl) (bnd_told h0 hh') k0 k1 k2, hx, chg (VR.mk_str ..)⟩
    · cases hx
  · rename_i f u s
    split at hx
    · rename_i e l h ht hl hh'
      obtain ⟨hb, hx⟩ := brB_true hx rfl
      obtain ⟨k0, k1, k2⟩ := inS_spec hb
      obtain ⟨hu, hz, hz0⟩ := isSl_spec ht
      obtain ⟨hc, hr⟩ := hv.cell rfl
      simp only [Rd] at hr
      obtain ⟨a, len, cap, e1, e2, e3, e4⟩ := hr
      have he : v = .slice a len cap := by simpa using e1
      subst he
      rw [e2] at k2
      refine ⟨_, _, run_sliceSl hu hz hz0 (bnd_told h0 hl) (by rw [← e2]; exact bnd_told h0 hh') k0 k1 k2 e3, hx, chg ?_⟩
      refine VR.of_cell (g := fun _ => some (.slice (if cap = l.toNat then a else a.map (·.add (l.toNat * u.sz))) (h.toNat - l.toNat) (cap - l.toNat))) (o := 0) rfl ?_ rfl
      simp only [Rd]
      refine ⟨_, _, _, rfl, cutL_len k0 k1 (by rw [e2]; exact k2), by omega, fun hne => ?_⟩
      obtain ⟨b, o, rfl, j1, j2, j3, j4⟩ := e4 (cut_ne' hne k2)
      have hcl : ¬ cap = l.toNat := cut_ne hne k2 e3
      refine ⟨b, o + l.toNat * u.sz, by rw [if_neg hcl]; simp [add_off], j1, j2, j3, fun i hi => ?_⟩
      have k3 : h ≤ ((List.length s : Nat) : Int) := by rw [e2]; exact k2
      rw [rd_cutL (t := u) (l := s) k0 k1 k3 hi, Nat.add_assoc, ← Nat.add_mul]
      exact j4 _ (by omega)
    · cases hx
  · rename_i s
    split at hx
    · rename_i l h ht hl hh'
      obtain ⟨hb, hx⟩ := brB_true hx rfl
      simp only [Bool.and_eq_true, beq_iff_eq] at hb
      obtain ⟨rfl, rfl⟩ := hb
      obtain ⟨e, hu, hz0⟩ := slOk_spec ht
      obtain ⟨hc, hr⟩ := hv.cell rfl
      simp only [Rd] at hr
      obtain ⟨a, e1⟩ := hr
      have he : v = .slice a 0 0 := by simpa using e1
      subst he
      refine ⟨.slice a 0 0, _, ?_, hx, chg (VR.mk_nils ..)⟩
      have := run_sliceSl (P := P) (w := w) (a := a) (len := 0) (cap := 0) hu rfl hz0 (bnd_told h0 hl) (bnd_told h0 hh') (by omega) (by omega) (by omega) (by omega)
      simpa using this
    · cases hx
  · rename_i f u s
    split at hx
    · rename_i e h ht hl
      obtain ⟨hb, hx⟩ := brB_true hx rfl
      obtain ⟨k0, k1, k2⟩ := inS_spec hb
      obtain ⟨hu, hz, hz0⟩ := isSl_spec ht
      obtain ⟨hc, hr⟩ := hv.cell rfl
      simp only [Rd] at hr
      obtain ⟨a, len, cap, e1, e2, e3, e4⟩ := hr
      have he : v = .slice a len cap := by simpa using e1
      subst he
      rw [e2] at k2
      refine ⟨_, _, run_sliceSl (l := 0) hu hz hz0 (.inl ⟨rfl, rfl⟩) (by rw [← e2]; exact bnd_told h0 hl) (by omega) k1 k2 e3, hx, chg ?_⟩
      refine VR.of_cell (g := fun _ => some (.slice (if cap = (0 : Int).toNat then a else a.map (·.add ((0 : Int).toNat * u.sz))) (h.toNat - (0 : Int).toNat) (cap - (0 : Int).toNat))) (o := 0) rfl ?_ rfl
      simp only [Rd]
      refine ⟨_, _, _, rfl, cutL_len (by omega) k1 (by rw [e2]; exact k2), by simp only [Int.toNat_zero]; omega, fun hne => ?_⟩
      simp only [Int.toNat_zero, Nat.sub_zero] at hne ⊢
      obtain ⟨b, o, rfl, j1, j2, j3, j4⟩ := e4 hne
      refine ⟨b, o, by rw [if_neg hne]; simp [add_off], j1, j2, j3, fun i hi => ?_⟩
      have k3 : h ≤ ((List.length s : Nat) : Int) := by rw [e2]; exact k2
      rw [rd_cutL (t := u) (l := s) (lo := 0) (hi := h) (i := i) (by omega) k1 k3 (by simp only [Int.toNat_zero]; omega)]
      simp only [Int.toNat_zero, Nat.zero_add]
      exact j4 i (by omega)
    · cases hx
  · cases hx
theorem Ty.frz_flat : ∀ t : Ty, t.hasOwn = false → t.frz = t := by
  intro t
  induction t with
  | sl f t ih => intro h; simp only [Ty.hasOwn] at h; simp only [Ty.frz, ih h]
  | osl f t ih => intro h; cases h
  | optr f t ih => intro h; cases h
  | sptr t ih => intro h; simp only [Ty.hasOwn] at h; simp only [Ty.frz, ih h]
  | pair a b iha ihb => intro h; simp only [Ty.hasOwn, Bool.or_eq_false_iff] at h; simp only [Ty.frz, iha h.1, ihb h.2]
  | arr n t ih => intro h; simp only [Ty.hasOwn] at h; simp only [Ty.frz, ih h]
  | _ => intro h; rfl
theorem isPArr_spec {t : TypeId} {m : Nat} {u : Ty} (h : isPArr P t m u = true) : ∃ e, P.underlying t = some (.array m e) ∧ P.cellsOf e = u.sz ∧ u.sz ≠ 0 := by
  unfold isPArr at h
  split at h
  · rename_i m' e hu'
    simp only [Bool.and_eq_true, Nat.blt_eq] at h
    obtain rfl := Nat.eq_of_beq_eq_true h.1.1
    exact ⟨e, hu', Nat.eq_of_beq_eq_true h.1.2, by omega⟩
  · cases h
theorem castT_same {t u : Ty} {x : t.den} {y : u.den} (h : castT t u x = some y) : HEq x y := by
  unfold castT at h
  split at h
  · simp only [Option.some.injEq] at h
    rw [← h]; exact (cast_heq _ _).symm
  · cases h
end Go.Proofs.Ytlmcalffemklnaa.Rf
namespace Go.Proofs.Ytlmcalffemklnaa.Rf
variable {M : Sc} {W w w' : World} {ow ow' : Own} {tf tf' : Nat → Value} {st st1 st2 st' : St} {ρ : Type} {P : Program}
theorem frzP_arr {s : Nat} {f : Bool} {m : Nat} {u : Ty} {l : (Ty.optr f (.arr m u)).den} {d : Dv} (hu : u.hasOwn = false) (hs : st s = .val ⟨.optr f (.arr m u), l⟩) (h : frzP st s [] = some (d, st1)) :
    ∃ y : (Ty.sptr (.arr m u)).den, d = ⟨.sptr (.arr m u), y⟩ ∧ HEq y l := by
  obtain ⟨t, x, hg, hd, hc, hown, hp⟩ := frzP_spec h
  obtain ⟨T', x1, g1, g2⟩ := getP_val hg
  rw [hs] at g1
  have g3 : (⟨.optr f (.arr m u), l⟩ : Dv) = ⟨T', x1⟩ := Ent.val.inj g1
  have g4 : (⟨T', x1⟩ : Dv) = ⟨t, x⟩ := Option.some.inj g2
  have g5 := g3.trans g4
  cases g5
  obtain ⟨dt, dy⟩ := d
  have e1 : dt = .sptr (.arr m u) := by
    have : dt = (Ty.optr f (.arr m u)).frz := hd
    rw [this]; simp only [Ty.frz, Ty.frz_flat u hu]
  subst e1
  exact ⟨dy, rfl, (castT_same hc).symm⟩
theorem xSliceArr_sound {t : TypeId} {x : Operand} {s n : Nat} {lo hi : Option Operand} {κ : St → Ent → Option ρ} {r : ρ} (h : Rel M W w ow tf st) (hn : st n = .dead) (hr : refOf st x = some (s, [.d])) (hx : xSliceArr P st t s lo hi κ = some r) :
    ∃ v, (Instr.sliceAt t (ev tf x) (lo.map (ev tf)) (hi.map (ev tf)) none).run P w = .ok v w ∧ Res M W w tf st n v κ r := by
  unfold xSliceArr at hx
  split at hx
  · rename_i f m u l hs
    split at hx
    · rename_i d st1 a b ht hf hl hh
      split at hx
      · rename_i hu
        obtain ⟨hb, hx⟩ := brB_true hx rfl
        obtain ⟨k0, k1, k2⟩ := inS_spec hb
        obtain ⟨e, hut, hz, hz0⟩ := isPArr_spec ht
        obtain ⟨d0, t', b0, o0, h1, hw, he, _⟩ := refOf_sound h hr
        rw [hs] at h1; simp only [Ent.val.injEq] at h1; subst h1
        obtain ⟨ow', g1, g2⟩ := h.frzSlot hf
        obtain ⟨y, hd, hy⟩ := frzP_arr hu hs hf
        subst hd
        have hy : y = l := eq_of_heq hy
        subst hy
        obtain ⟨c1, c2⟩ := (h.vr hs).cell rfl
        obtain ⟨c3, c4⟩ := (g1.vr g2).cell rfl
        simp only [Rd] at c2 c4
        obtain ⟨bb, p1, p2, p3, p4, p5, p6⟩ := c2
        obtain ⟨b', o', q1, q2, _, q3, q4, q5⟩ := c4
        rw [p1] at q1
        simp only [Option.some.injEq, Value.pointer.injEq, Addr.mk.injEq, and_true] at q1
        obtain ⟨rfl, rfl⟩ := q1
        have hv : tf s = .pointer (some ⟨bb, 0, none⟩) := by simpa using p1
        have hb0 : b0 = bb ∧ o0 = 0 := by
          rw [hv] at hw
          simp only [walk, cellAt, Value.cells] at hw
          simp at hw
          exact ⟨hw.2.1.symm, hw.2.2.symm⟩
        obtain ⟨rfl, rfl⟩ := hb0
        refine ⟨_, by rw [he]; exact run_sliceArr hut hz hz0 (bnd_told h hl) (bnd_told h hh) k0 k1 k2, _, _, hx, Deads.frz hf, ow', g1.handVal (Deads.frz hf n hn) ?_⟩
        refine VR.of_cell (g := fun _ => some (.slice (some (if m = a.toNat then ⟨b0, 0, none⟩ else ⟨b0, 0 + a.toNat * u.sz, none⟩)) (b.toNat - a.toNat) (m - a.toNat))) (o := 0) rfl ?_ rfl
        simp only [Rd]
        have k3 : b ≤ ((List.length (α := u.den) y : Nat) : Int) := by rw [q4]; exact k2
        refine ⟨_, _, _, rfl, cutL_len k0 k1 k3, by omega, fun hne => ?_⟩
        have hcl : ¬ m = a.toNat := cut_ne hne k2 (Nat.le_refl _)
        refine ⟨b0, 0 + a.toNat * u.sz, by rw [if_neg hcl], q2, p3, q3, fun i hi => ?_⟩
        rw [rd_cutL (t := u) (l := y) k0 k1 k3 hi, Nat.add_assoc, ← Nat.add_mul]
        exact Rd.flat (Nat.le_refl _) u hu (fun _ _ => rfl) (fun b _ hb => ⟨hb, rfl⟩) (q5 _ (by omega))
      · cases hx
    · cases hx
  · cases hx
theorem xSlice_sound {t : TypeId} {x : Operand} {n : Nat} {lo hi : Option Operand} {κ : St → Ent → Option ρ} {r : ρ} (h : Rel M W w ow tf st) (hn : st n = .dead) (hx : xSlice P st t x lo hi κ = some r) :
    ∃ v, (Instr.sliceAt t (ev tf x) (lo.map (ev tf)) (hi.map (ev tf)) none).run P w = .ok v w ∧ Res M W w tf st n v κ r := by
  unfold xSlice at hx
  split at hx
  · split at hx
    · rename_i s hr
      exact xSliceArr_sound h hn hr hx
    · cases hx
  · rename_i hsl
    suffices hh : ∃ v, (Instr.slice t (ev tf x) (lo.map (ev tf)) (hi.map (ev tf)) none).run P w = .ok v w ∧ Res M W w tf st n v κ r by
      obtain ⟨v, k1, k2⟩ := hh
      exact ⟨v, by rw [run_sliceAt hsl]; exact k1, k2⟩
    split at hx
    · rename_i s
      split at hx
      · rename_i s' u hs
        have hent := h.ent s
        rw [hs] at hent
        simp only [ER] at hent
        obtain ⟨dd, h1, f, t', b, o, h2, h3⟩ := hent
        split at hx
        · split at hx
          · rename_i d hd
            rw [hd] at h1; simp only [Ent.val.injEq] at h1; subst h1
            have hsn : s' ≠ n := by rintro rfl; rw [hd] at hn; cases hn
            obtain ⟨ow', k⟩ := h.take hd rfl hn hsn
            simp only [walk, Option.some.injEq, Prod.mk.injEq] at h2
            obtain ⟨e1, rfl, rfl⟩ := h2
            have hts : tf s = tf s' := by
              obtain ⟨c1, _⟩ := (h.vr hd).cell (by rw [e1]; rfl)
              simp only [cellAt, c1] at h3
              simpa using h3.symm
            rw [← hts] at k
            obtain ⟨v', d', g1, g2, g3⟩ := cutV_sound h k hx
            exact ⟨v', g1, _, _, g2, Deads.take st s', ow', g3⟩
          · cases hx
        · split at hx
          · rename_i d st1 hf
            obtain ⟨ow', k⟩ := h.frzAl hs hf hn
            obtain ⟨v', d', g1, g2, g3⟩ := cutV_sound k.drop k hx
            exact ⟨v', g1, _, _, g2, Deads.frz hf, ow', g3⟩
          · cases hx
      · rename_i s' p u hp hs
        split at hx
        · rename_i d st1 hf
          obtain ⟨ow', k⟩ := h.frzAl hs hf hn
          obtain ⟨v', d', g1, g2, g3⟩ := cutV_sound k.drop k hx
          exact ⟨v', g1, _, _, g2, Deads.frz hf, ow', g3⟩
        · cases hx
      · rename_i d hd
        have hsn : s ≠ n := by rintro rfl; rw [hd] at hn; cases hn
        split at hx
        · obtain ⟨ow', k⟩ := h.take hd rfl hn hsn
          obtain ⟨v', d', g1, g2, g3⟩ := cutV_sound h k hx
          exact ⟨v', g1, _, _, g2, Deads.take st s, ow', g3⟩
        · rename_i ho
          obtain ⟨v', d', g1, g2, g3⟩ := cutV_sound h (h.handVal hn (VR.any ho (h.vr hd))) hx
          exact ⟨v', g1, _, _, g2, Deads.refl _, ow, g3⟩
      · cases hx
    · cases hx
end Go.Proofs.Ytlmcalffemklnaa.Rf
namespace Go.Proofs.Ytlmcalffemklnaa.Rf
variable {M : Sc} {W w w' : World} {ow ow' : Own} {tf tf' : Nat → Value} {st st1 st2 st' : St} {ρ : Type} {P : Program}
/-- Nobody names a slot of the hand. -/
def Low (st : St) : Prop := ∀ y n, (st y).names = some n → n < VB
theorem Rel.low (h : Rel M W w ow tf st) (hf : Fin st) : Low st := fun y n hn => by
  obtain ⟨_, d, hd⟩ := (h.ent y).names_own hn
  rcases Nat.lt_or_ge n VB with k | k
  · exact k
  · rw [hf n k] at hd; cases hd
theorem Low.take (h : Low st) (s : Nat) : Low (takeS st s) := fun y n hn => by
  by_cases hy : y = s
  · subst hy; rw [takeS_same] at hn; cases hn
  · rw [takeS_ne st hy] at hn
    rcases drop_cases s (st y) with k | k
    · rw [k] at hn; exact h y n hn
    · rw [k] at hn; cases hn
theorem Low.frz {s : Nat} {p : List Step} {d : Dv} (h : Low st) (hf : frzP st s p = some (d, st1)) : Low st1 := fun y n hn => by
  by_cases hy : y = s
  · subst hy
    obtain ⟨_, _, _, _, _, _, hp⟩ := frzP_spec hf
    obtain ⟨T, x, old, new, _, _, _, _, h5, _⟩ := putP_spec hp
    rw [h5] at hn; cases hn
  · rcases frz_keeps hf hy with e | ⟨e, _⟩
    · rw [e] at hn; exact h y n hn
    · rw [e] at hn; cases hn
theorem Low.set {b : Nat} {d : Dv} (h : Low st) (hb : st b = .dead) : Low (setS st (some b) (.val d)) := fun y n hn => by
  by_cases hy : y = b
  · subst hy; rw [setS_same] at hn; cases hn
  · rw [setS_ne st _ hy, hb] at hn; exact h y n hn
/-- A value in the hand stays while another is taken up. -/
theorem useV_low {x : Operand} {d : Dv} (hl : Low st) (hu : useV st x = some (d, st1)) (hx : lowX x = true) : Low st1 ∧ ∀ k d0, VB ≤ k → st k = .val d0 → st1 k = .val d0 := by
  unfold useV at hu
  split at hu
  · rename_i s
    have hs' : s < VB := Nat.blt_eq.mp hx
    split at hu
    · rename_i d0 hs
      split at hu
      · simp only [Option.some.injEq, Prod.mk.injEq] at hu
        obtain ⟨rfl, rfl⟩ := hu
        refine ⟨hl.take s, fun k d0 hk hd => ?_⟩
        rw [takeS_ne st (Nat.ne_of_gt (Nat.lt_of_lt_of_le hs' hk)), hd]; rfl
      · simp only [Option.some.injEq, Prod.mk.injEq] at hu
        obtain ⟨rfl, rfl⟩ := hu
        exact ⟨hl, fun k d0 _ hd => hd⟩
    · rename_i s' p u hs
      have hs'n : s' < VB := hl s s' (by rw [hs]; rfl)
      refine ⟨hl.frz hu, fun k d0 hk hd => ?_⟩
      rcases frz_keeps hu (show k ≠ s' by omega) with e | ⟨_, e⟩
      · rw [e]; exact hd
      · rw [hd] at e; exact absurd rfl e
    · cases hu
  · split at hu
    · simp only [Option.some.injEq, Prod.mk.injEq] at hu
      obtain ⟨rfl, rfl⟩ := hu
      exact ⟨hl, fun k d0 _ hd => hd⟩
    · cases hu
theorem ev_low {x : Operand} {v : Value} {b : Nat} (hx : lowX x = true) (hb : VB ≤ b) : ev (upd tf b v) x = ev tf x := by
  cases x with
  | tmp s => have : s < VB := Nat.blt_eq.mp hx; exact upd_ne _ _ (Nat.ne_of_lt (Nat.lt_of_lt_of_le this hb))
  | _ => rfl
theorem useAll_sound : ∀ {xs : List Operand} {ds : List Dv} {st st1 : St} {ow : Own} {tf : Nat → Value} {b : Nat}, VB ≤ b → Rel M W w ow tf st → Low st → (∀ y, b ≤ y → st y = .dead) → useAll st b xs = some (ds, st1) →
    ∃ ow' tf', Rel M W w ow' tf' st1 ∧ Low st1 ∧ ds.length = xs.length ∧ (∀ x ∈ xs, lowX x = true) ∧ (∀ y, y < b → tf' y = tf y) ∧ (∀ (j : Nat) (x : Operand), xs[j]? = some x → tf' (b + j) = ev tf x) ∧ (∀ (j : Nat) (d : Dv), ds[j]? = some d → st1 (b + j) = .val d) ∧
    (∀ y, b + xs.length ≤ y → st1 y = .dead) ∧ (∀ y, y < b → st y = .dead → st1 y = .dead) ∧ ∀ k d0, VB ≤ k → st k = .val d0 → st1 k = .val d0
  | [], ds, st, st1, ow, tf, b, hb, h, hl, hf, hu => by
    simp only [useAll, Option.some.injEq, Prod.mk.injEq] at hu
    obtain ⟨rfl, rfl⟩ := hu
    exact ⟨ow, tf, h, hl, rfl, fun x hx => (List.not_mem_nil hx).elim, fun y _ => rfl, fun j x hx => by simp at hx, fun j d hd => by simp at hd, fun y hy => hf y hy, fun y _ hy => hy, fun k d0 _ hd => hd⟩
  | x :: xs, ds, st, st1, ow, tf, b, hb, h, hl, hf, hu => by
    simp only [useAll] at hu
    split at hu
    · rename_i d sta hv hx
      split at hu
      · rename_i ds' st2 hr
        simp only [Option.some.injEq, Prod.mk.injEq] at hu
        obtain ⟨rfl, rfl⟩ := hu
        obtain ⟨⟨ow1, k1⟩, k2⟩ := useV_sound h hv (hf b (Nat.le_refl _))
        obtain ⟨l1, l2⟩ := useV_low hl hv hx
        have hdb : sta b = .dead := k2 b (hf b (Nat.le_refl _))
        have hset : ∀ y, y ≠ b → setS sta (some b) (.val d) y = sta y := fun y hy => by rw [setS_ne sta _ hy, hdb]; rfl
        obtain ⟨ow2, tf2, m1, m2, m3, m4, m5, m6, m7, m8, m9, m10⟩ := useAll_sound (b := b + 1) (by omega) k1.2.2 (l1.set hdb) (fun y hy => by rw [hset y (by omega)]; exact k2 y (hf y (by omega))) hr
        refine ⟨ow2, tf2, m1, m2, by simp [m3], fun z hz => ?_, fun y hy => by rw [m5 y (by omega), upd_ne _ _ (by omega)], fun j z hz => ?_, fun j e he => ?_, fun y hy => m8 y (by simp only [List.length_cons] at hy; omega), fun y hy hd => m9 y (by omega) (by rw [hset y (by omega)]; exact k2 y hd), fun k d0 hk hd => ?_⟩
        · rcases List.mem_cons.1 hz with rfl | hz
          · exact hx
          · exact m4 z hz
        · cases j with
          | zero =>
            simp only [List.getElem?_cons_zero, Option.some.injEq] at hz; subst hz
            rw [Nat.add_zero, m5 b (by omega), upd_same]
          | succ j =>
            simp only [List.getElem?_cons_succ] at hz
            rw [show b + (j + 1) = b + 1 + j by omega, m6 j z hz]
            exact ev_low (m4 z (List.mem_of_getElem? hz)) hb
        · cases j with
          | zero =>
            simp only [List.getElem?_cons_zero, Option.some.injEq] at he; subst he
            exact m10 b d hb (by rw [setS_same]; rfl)
          | succ j =>
            simp only [List.getElem?_cons_succ] at he
            rw [show b + (j + 1) = b + 1 + j by omega]
            exact m7 j e he
        · have hkb : k ≠ b := by rintro rfl; rw [hf k (Nat.le_refl _)] at hd; cases hd
          exact m10 k d0 hk (by rw [hset k hkb]; exact l2 k d0 hk hd)
      · cases hu
    · cases hu
end Go.Proofs.Ytlmcalffemklnaa.Rf
namespace Go.Proofs.Ytlmcalffemklnaa.Rf
variable {M : Sc} {W w w' : World} {ow ow' : Own} {tf tf' : Nat → Value} {st st1 st2 st' : St} {ρ : Type} {P : Program}
theorem zip_set : ∀ (vs : List Value) (k : Nat) (cs : Array Value) (off : Nat),
    ((vs.zipIdx k).foldl (fun (cs : Array Value) (x : Value × Nat) => cs.setIfInBounds (off + x.2) x.1) cs).size = cs.size ∧
    ∀ i, ((vs.zipIdx k).foldl (fun (cs : Array Value) (x : Value × Nat) => cs.setIfInBounds (off + x.2) x.1) cs)[i]? = if off + k ≤ i ∧ i < off + k + vs.length ∧ i < cs.size then vs[i - (off + k)]? else cs[i]?
  | [], k, cs, off => by
    refine ⟨rfl, fun i => ?_⟩
    rw [if_neg (by simp only [List.length_nil]; omega)]; rfl
  | v :: vs, k, cs, off => by
    simp only [List.zipIdx_cons, List.foldl_cons]
    obtain ⟨h1, h2⟩ := zip_set vs (k + 1) (cs.setIfInBounds (off + k) v) off
    refine ⟨by rw [h1, Array.size_setIfInBounds], fun i => ?_⟩
    rw [h2 i, Array.size_setIfInBounds, Array.getElem?_setIfInBounds]
    simp only [List.length_cons]
    by_cases hi : off + k = i
    · subst hi
      rw [if_neg (by omega), if_pos rfl]
      by_cases hs : off + k < cs.size
      · rw [if_pos hs, if_pos (by omega), Nat.sub_self]; rfl
      · rw [if_neg hs, if_neg (by omega)]
        rw [Array.getElem?_eq_none (by omega)]
    · rw [if_neg hi]
      by_cases hc : off + (k + 1) ≤ i ∧ i < off + (k + 1) + vs.length ∧ i < cs.size
      · rw [if_pos hc, if_pos (by omega)]
        rw [show i - (off + k) = (i - (off + (k + 1))) + 1 by omega, List.getElem?_cons_succ]
      · rw [if_neg hc, if_neg (by omega)]
/-- Cells, and a value's laid over them. -/
def laid (cs : Array Value) (off : Nat) (v : Value) : Array Value := v.cells.zipIdx.foldl (fun (cs : Array Value) (x : Value × Nat) => cs.setIfInBounds (off + x.2) x.1) cs
theorem laid_list (cs : Array Value) (off : Nat) (v : Value) : laid cs off v = (v.cells.toList.zipIdx).foldl (fun (cs : Array Value) (x : Value × Nat) => cs.setIfInBounds (off + x.2) x.1) cs := by
  unfold laid
  rw [← Array.foldl_toList, Array.toList_zipIdx]
theorem laid_size (cs : Array Value) (off : Nat) (v : Value) : (laid cs off v).size = cs.size := by
  rw [laid_list]; exact (zip_set _ 0 cs off).1
theorem laid_at (cs : Array Value) (off : Nat) (v : Value) (hin : off + v.cells.size ≤ cs.size) (i : Nat) : (laid cs off v)[i]? = if off ≤ i ∧ i < off + v.cells.size then v.cells[i - off]? else cs[i]? := by
  rw [laid_list, (zip_set _ 0 cs off).2 i]
  simp only [Nat.add_zero, Array.length_toList, Array.getElem?_toList]
  by_cases h : off ≤ i ∧ i < off + v.cells.size
  · rw [if_pos h, if_pos (by omega)]
  · rw [if_neg h, if_neg (by omega)]
theorem fill_cons {place : Nat → Option (Nat × Nat)} {cells : Array Value} {i off size : Nat} {v : Value} {rest : List (Nat × Value)} (hp : place i = some (off, size)) (hs : v.cells.size = size) (hin : off + size ≤ cells.size) :
    Instr.fill place cells ((i, v) :: rest) = Instr.fill place (laid cells off v) rest := by
  simp only [Instr.fill, hp]
  rw [if_neg (by simp only [hs]; simp; omega)]
  rfl
/-- A slot is emptied, with no more ado. -/
def kill (st : St) (k : Nat) : St := fun y => if y = k then .dead else st y
theorem Rel.asHand {k : Nat} {d : Dv} (h : Rel M W w ow tf st) (hv : st k = .val d) (hnn : ∀ y, (st y).names ≠ some k) : Hand M W w ow tf (kill st k) k (.val d) (tf k) := by
  have e1 : upd tf k (tf k) = tf := by funext y; by_cases e : y = k <;> simp [upd, e]
  have e2 : setS (kill st k) (some k) (.val d) = st := by
    funext y
    by_cases e : y = k
    · subst e; rw [setS_same, hv]; rfl
    · rw [setS_ne _ _ e]; simp [kill, e, Ent.owns]
  refine ⟨⟨by simp [kill], fun y => ?_⟩, by simp [Ent.names], by rw [e1, e2]; exact h⟩
  by_cases e : y = k
  · simp [kill, e, Ent.names]
  · simp only [kill, if_neg e]; exact hnn y
/-- Values of slots that hold nothing do not matter. -/
theorem Rel.cong (h : Rel M W w ow tf st) (he : ∀ y, st y ≠ .dead → tf' y = tf y) : Rel M W w ow tf' st where
  fr := h.fr
  ent s := by
    by_cases hd : st s = .dead
    · rw [hd]; trivial
    · exact ER.keep (Nat.le_refl _) (he s hd) (fun b _ k => ⟨k, rfl⟩) (fun b q _ k => ⟨k, rfl⟩) (fun s' d hs' hd' => ⟨hd', he s' (by rw [hd']; simp), h.vr hd', fun _ _ _ _ => rfl⟩) (h.ent s)
  own := h.own
  top := h.top
theorem Rel.kill (h : Rel M W w ow tf st) {k : Nat} (hnn : ∀ y, (st y).names ≠ some k) : Rel M W w ow tf (kill st k) :=
  h.weaken (fun s => by by_cases e : s = k <;> simp [Rf.kill, e]) (fun s s' hs hn => by
    have e : s ≠ k := fun e => hs (by simp [Rf.kill, e])
    simp only [Rf.kill, if_neg e] at hn
    have : s' ≠ k := fun e' => hnn s (e' ▸ hn)
    simp [Rf.kill, this])
end Go.Proofs.Ytlmcalffemklnaa.Rf
namespace Go.Proofs.Ytlmcalffemklnaa.Rf
variable {M : Sc} {W w w' : World} {ow ow' : Own} {tf tf' : Nat → Value} {st st1 st2 st' : St} {ρ : Type} {P : Program}
/-- A field of a value at hand is another one from here on. -/
theorem put_field {d : Dv} {bs : Fl} {s : Nat} (hno : ∀ b, ow b = none → ow' b = none) (hkeep : ∀ b q, ow b = some (s, q) → ow' b = some (s, q)) : ∀ (f : Nat) {T : Ty} {x : T.den} {old : Dv} {T' : Ty} {x' : T'.den} {p0 : List Step} {g g' : Nat → Option Value} {o0 : Nat},
    get (fpath f) T x = some old → put (fpath f) T x d = some ⟨T', x'⟩ → old.1.sz = d.1.sz → Rd w ow bs T s p0 g o0 x →
    (∀ i, ¬ (o0 + offOf T f ≤ i ∧ i < o0 + offOf T f + d.1.sz) → g' i = g i) → Rd w ow' bs d.1 s (p0 ++ fpath f) g' (o0 + offOf T f) d.2 → Rd w ow' bs T' s p0 g' o0 x' ∧ T'.sz = T.sz ∧ T'.agg = T.agg
  | 0, T, x, old, T', x', p0, g, g', o0, hg, hp, hsz, hR, hout, hin => by
    cases T <;> simp only [fpath, get, reduceCtorEq] at hg
    rename_i a b
    simp only [Option.some.injEq] at hg
    subst hg
    simp only [fpath, put, Option.some.injEq] at hp
    cases hp
    simp only [offOf, Nat.add_zero] at hout hin
    have hsz : a.sz = d.1.sz := hsz
    simp only [Rd] at hR ⊢
    refine ⟨⟨hin, Rd.frame (Nat.le_refl _) b (fun i hi => ?_) (fun b _ hb => ⟨hno b hb, rfl⟩) (fun b q _ hq => ⟨hkeep b _ hq, rfl⟩) hR.2⟩, by simp only [Ty.sz]; omega, rfl⟩
    rw [← hsz]; exact hout _ (by omega)
  | f + 1, T, x, old, T', x', p0, g, g', o0, hg, hp, hsz, hR, hout, hin => by
    cases T <;> simp only [fpath, get, reduceCtorEq] at hg
    rename_i a b
    simp only [fpath, put] at hp
    split at hp
    · rename_i b' y hp'
      simp only [Option.some.injEq] at hp
      cases hp
      simp only [offOf] at hout hin
      simp only [Rd] at hR ⊢
      have hIH := put_field hno hkeep f (p0 := p0 ++ [.r]) (g := g) (g' := g') (o0 := o0 + a.sz) hg hp' hsz hR.2 (fun i hi => hout i (by omega)) (by rw [List.append_assoc, Nat.add_assoc]; exact hin)
      refine ⟨⟨Rd.frame (Nat.le_refl _) a (fun i hi => hout _ (by omega)) (fun b _ hb => ⟨hno b hb, rfl⟩) (fun b q _ hq => ⟨hkeep b _ hq, rfl⟩) hR.1, hIH.1⟩, by simp only [Ty.sz, hIH.2.1], rfl⟩
    · cases hp
theorem put_item {d : Dv} {bs : Fl} {s n m : Nat} {u : Ty} {x : List u.den} {T' : Ty} {x' : T'.den} {p0 : List Step} {g g' : Nat → Option Value} {o0 : Nat} (hno : ∀ b, ow b = none → ow' b = none) (hkeep : ∀ b q, ow b = some (s, q) → ow' b = some (s, q))
    (hn : n < m) (hp : put [.i n] (.arr m u) x d = some ⟨T', x'⟩) (hR : Rd w ow bs (.arr m u) s p0 g o0 x)
    (hout : ∀ i, ¬ (o0 + n * u.sz ≤ i ∧ i < o0 + n * u.sz + d.1.sz) → g' i = g i) (hin : Rd w ow' bs d.1 s (p0 ++ [.i n]) g' (o0 + n * u.sz) d.2) : Rd w ow' bs T' s p0 g' o0 x' ∧ T' = .arr m u ∧ d.1 = u := by
  simp only [put] at hp
  split at hp
  · rename_i y' hc
    simp only [Option.some.injEq] at hp
    cases hp
    unfold castE at hc
    split at hc
    · rename_i hbq
      have e := Ty.eq_of_beq _ _ hbq
      obtain ⟨dt, dx⟩ := d
      dsimp only at hbq e hin hout hc
      subst e
      simp only [Option.some.injEq, cast_eq] at hc
      subst hc
      refine ⟨?_, rfl, rfl⟩
      simp only [Rd] at hR ⊢
      obtain ⟨hlen, hall⟩ := hR
      refine ⟨by rw [List.length_set]; exact hlen, fun i hi => ?_⟩
      by_cases hin' : i = n
      · subst hin'
        have : rd (List.set x i dx) i = dx := by
          simp only [rd, List.getD_eq_getElem?_getD]
          rw [List.getElem?_set_self (by omega)]; rfl
        rw [this]; exact hin
      · have : rd (List.set x n dx) i = rd x i := by
          simp only [rd, List.getD_eq_getElem?_getD]
          rw [List.getElem?_set_ne (Ne.symm hin')]
        rw [this]
        refine Rd.frame (Nat.le_refl _) dt (fun j hj => hout _ ?_) (fun b _ hb => ⟨hno b hb, rfl⟩) (fun b q _ hq => ⟨hkeep b _ hq, rfl⟩) (hall i hi)
        rcases Nat.lt_or_gt_of_ne hin' with k | k
        · have := Nat.mul_le_mul_right dt.sz (show i + 1 ≤ n by omega)
          rw [Nat.succ_mul] at this; omega
        · have := Nat.mul_le_mul_right dt.sz (show n + 1 ≤ i by omega)
          rw [Nat.succ_mul] at this; omega
    · cases hc
  · cases hp
end Go.Proofs.Ytlmcalffemklnaa.Rf
namespace Go.Proofs.Ytlmcalffemklnaa.Rf
variable {M : Sc} {W w w' : World} {ow ow' : Own} {tf tf' : Nat → Value} {st st1 st2 st' : St} {ρ : Type} {P : Program}
/-- The state after a slot's value has become a part of another's. -/
def joined (st : St) (a k : Nat) (d : Dv) : St := fun y => if y = a then .val d else if y = k then .dead else st y
theorem Rel.putPart {a k off : Nat} {p : List Step} {T T' : Ty} {x : T.den} {x' : T'.den} {d : Dv} {cs : Array Value} (h : Rel M W w ow tf st) (ha : st a = .val ⟨T, x⟩) (hav : tf a = .agg cs) (hk : st k = .val d) (hak : a ≠ k)
    (hna : ∀ y, (st y).names ≠ some a) (hnk : ∀ y, (st y).names ≠ some k) (hin : off + d.1.sz ≤ cs.size) (hsz : T'.sz = T.sz) (hagg : T'.agg = true)
    (hput : ∀ ow', (∀ b, ow b = none → ow' b = none) → (∀ b q, ow b = some (a, q) → ow' b = some (a, q)) → Rd w ow' M.f d.1 a p (fun i => (laid cs off (tf k))[i]?) off d.2 →
      (∀ i, ¬ (off ≤ i ∧ i < off + d.1.sz) → (laid cs off (tf k))[i]? = cs[i]?) → Rd w ow' M.f T' a [] (fun i => (laid cs off (tf k))[i]?) 0 x') :
    ∃ ow', Rel M W w ow' (upd tf a (.agg (laid cs off (tf k)))) (joined st a k ⟨T', x'⟩) := by
  let ow' : Own := fun b => match ow b with
    | some (s', q) => if s' = k then some (a, p ++ q) else some (s', q)
    | none => none
  have hno : ∀ b, ow b = none → ow' b = none := fun b hb => by simp only [ow', hb]
  have hlab : ∀ b s' q, s' ≠ k → ow b = some (s', q) → ow' b = some (s', q) := fun b s' q hs hb => by simp only [ow', hb, if_neg hs]
  have hmov : ∀ b q, ow b = some (k, q) → ow' b = some (a, p ++ q) := fun b q hb => by simp only [ow', hb, if_true]
  have hvk := h.vr hk
  have hva := h.vr ha
  rw [hav] at hva
  have hcs : cs.size = T.sz := hva.2.1
  have hvs : (tf k).cells.size = d.1.sz := hvk.2.1
  refine ⟨ow', h.fr, fun y => ?_, fun b l hl => ?_, h.top⟩
  · by_cases hy : y = a
    · subst hy
      simp only [joined, if_true, ER, upd_same]
      refine ⟨⟨fun _ => ⟨_, rfl⟩, fun _ => hagg⟩, ?_, ?_⟩
      · show (laid cs off (tf k)).size = T'.sz
        rw [laid_size, hsz, hcs]
      · refine hput ow' hno (fun b q hq => hlab b y q hak hq) ?_ ?_
        · refine Rd.frame (Nat.le_refl _) d.1 (fun i hi => ?_) (fun b _ hb => ⟨hno b hb, rfl⟩) (fun b q _ hq => ⟨hmov b q hq, rfl⟩) hvk.2.2
          show (laid cs off (tf k))[off + i]? = (tf k).cells[0 + i]?
          rw [laid_at cs off _ (by rw [hvs]; exact hin), if_pos (by rw [hvs]; omega)]
          congr 1; omega
        · intro i hi
          rw [laid_at cs off _ (by rw [hvs]; exact hin), if_neg (by rw [hvs]; exact hi)]
    · by_cases hyk : y = k
      · subst hyk; simp only [joined, if_neg hy, if_true]; trivial
      · have e : joined st a k ⟨T', x'⟩ y = st y := by simp only [joined, if_neg hy, if_neg hyk]
        rw [e]
        refine ER.keep (Nat.le_refl _) (upd_ne _ _ hy) (fun b _ hb => ⟨hno b hb, rfl⟩) (fun b q _ hq => ⟨hlab b y q hyk hq, rfl⟩) (fun s' dd hs' hdd => ?_) (h.ent y)
        have h1 : s' ≠ a := fun e => hna y (e ▸ hs')
        have h2 : s' ≠ k := fun e => hnk y (e ▸ hs')
        exact ⟨by simp only [joined, if_neg h1, if_neg h2]; exact hdd, upd_ne _ _ h1, h.vr hdd, fun _ _ _ _ => rfl⟩
  · obtain ⟨l', hl'⟩ : ∃ l', ow b = some l' := by
      cases hb : ow b with
      | none => rw [hno b hb] at hl; cases hl
      | some l' => exact ⟨l', rfl⟩
    exact h.own b l' hl'
/-- A type's fields' sizes. -/
def shp : Ty → List Nat
  | .pair a b => a.sz :: shp b
  | _ => []
theorem shp_get : ∀ (f : Nat) {T : Ty} {x : T.den} {old : Dv}, get (fpath f) T x = some old → (shp T)[f]? = some old.1.sz ∧ offOf T f = ((shp T).take f).sum
  | 0, T, x, old, h => by
    cases T <;> simp only [fpath, get, reduceCtorEq] at h
    simp only [Option.some.injEq] at h; subst h
    simp [shp, offOf]
  | f + 1, T, x, old, h => by
    cases T <;> simp only [fpath, get, reduceCtorEq] at h
    obtain ⟨h1, h2⟩ := shp_get f h
    simp only [shp, List.getElem?_cons_succ, offOf, List.take_succ_cons, List.sum_cons]
    exact ⟨h1, by rw [h2]⟩
theorem shp_put {d : Dv} : ∀ (f : Nat) {T : Ty} {x : T.den} {old : Dv} {T' : Ty} {x' : T'.den}, get (fpath f) T x = some old → put (fpath f) T x d = some ⟨T', x'⟩ → old.1.sz = d.1.sz → shp T' = shp T
  | 0, T, x, old, T', x', hg, hp, hs => by
    cases T <;> simp only [fpath, get, reduceCtorEq] at hg
    simp only [Option.some.injEq] at hg; subst hg
    simp only [fpath, put, Option.some.injEq] at hp
    cases hp
    simp only [shp]
    have : _ = d.1.sz := hs
    rw [← this]
  | f + 1, T, x, old, T', x', hg, hp, hs => by
    cases T <;> simp only [fpath, get, reduceCtorEq] at hg
    simp only [fpath, put] at hp
    split at hp
    · rename_i b' y hp'
      simp only [Option.some.injEq] at hp
      cases hp
      simp only [shp, shp_put f hg hp' hs]
    · cases hp
end Go.Proofs.Ytlmcalffemklnaa.Rf
namespace Go.Proofs.Ytlmcalffemklnaa.Rf
variable {M : Sc} {W w w' : World} {ow ow' : Own} {tf tf' : Nat → Value} {st st1 st2 st' : St} {ρ : Type} {P : Program}
theorem info_cells {t : TypeId} (h : P.cellsOf t ≠ 0) : ∃ i, P.info? t = some i ∧ i.size = P.cellsOf t := by
  unfold Program.cellsOf at h ⊢
  cases hi : P.info? t with
  | none => rw [hi] at h; simp at h
  | some i => exact ⟨i, rfl, by simp⟩
theorem layF_places : ∀ (fs : List Field) (n : Nat) (ty : Ty), layF P fs n ty = true → ty.agg = true ∧
    ∃ pl, fs.mapM (fun f => (P.info? f.type).map fun i => (f.offset, i.size)) = some pl ∧ ∀ i sz, (shp ty)[i]? = some sz → pl[i]? = some (n + ((shp ty).take i).sum, sz)
  | [], n, ty, h => by
    cases ty <;> simp only [layF, reduceCtorEq, Bool.false_eq_true] at h
    exact ⟨rfl, [], by simp, fun i sz hi => by simp [shp] at hi⟩
  | f :: fs, n, ty, h => by
    cases ty <;> simp only [layF, reduceCtorEq, Bool.false_eq_true] at h
    rename_i a b
    simp only [Bool.and_eq_true] at h
    obtain ⟨⟨h1, h2⟩, h3⟩ := h
    obtain ⟨_, pl, k1, k2⟩ := layF_places fs _ b h3
    have h1 := Nat.eq_of_beq_eq_true h1
    have hsz := (fits_spec h2).2
    obtain ⟨i, hi, hs⟩ := info_cells (P := P) (t := f.type) (by rw [hsz]; exact fits_pos h2)
    refine ⟨rfl, (f.offset, i.size) :: pl, by simp [List.mapM_cons, hi, k1], fun j sz hj => ?_⟩
    cases j with
    | zero =>
      simp only [shp, List.getElem?_cons_zero, Option.some.injEq] at hj
      simp [shp, h1, hs, hsz, hj]
    | succ j =>
      simp only [shp, List.getElem?_cons_succ] at hj
      simp only [shp, List.getElem?_cons_succ, List.take_succ_cons, List.sum_cons]
      rw [k2 j sz hj, Nat.add_assoc]
/-- What one part asks for. -/
def StepOk (w : World) (bs : Fl) (place : Nat → Option (Nat × Nat)) (pf : Nat → List Step) (Inv : Ty → Prop) (Q : Nat → Prop) : Prop :=
  ∀ (T : Ty) (x : T.den) (i : Nat) (d old : Dv) (T' : Ty) (x' : T'.den), Q i → Inv T → get (pf i) T x = some old → put (pf i) T x d = some ⟨T', x'⟩ → old.1.sz = d.1.sz →
    ∃ off, place i = some (off, d.1.sz) ∧ off + d.1.sz ≤ T.sz ∧ Inv T' ∧ T'.sz = T.sz ∧ T'.agg = true ∧
      ∀ (ow ow' : Own) (g g' : Nat → Option Value), (∀ b, ow b = none → ow' b = none) → (∀ b q, ow b = some (VB, q) → ow' b = some (VB, q)) → Rd w ow bs T VB [] g 0 x →
        (∀ j, ¬ (off ≤ j ∧ j < off + d.1.sz) → g' j = g j) → Rd w ow' bs d.1 VB (pf i) g' off d.2 → Rd w ow' bs T' VB [] g' 0 x'
theorem parts_fold {place : Nat → Option (Nat × Nat)} {pf : Nat → List Step} {Inv : Ty → Prop} {Q : Nat → Prop} (hs : StepOk w M.f place pf Inv Q) :
    ∀ (idx : List Nat) (vals : List Value) (ds : List Dv) {k : Nat} {st : St} {tf : Nat → Value} {ow : Own} {T : Ty} {x : T.den} {cs : Array Value} {d' : Dv}, (∀ i ∈ idx, Q i) → VB < k → Rel M W w ow tf st → st VB = .val ⟨T, x⟩ → tf VB = .agg cs → Inv T → Low st →
      idx.length = ds.length → vals.length = ds.length → (∀ (j : Nat) (d : Dv), ds[j]? = some d → st (k + j) = .val d) → (∀ (j : Nat) (v : Value), vals[j]? = some v → tf (k + j) = v) →
      putParts T x ((idx.map pf).zip ds) = some d' →
      ∃ cs' ow' st', Instr.fill place cs (idx.zip vals) = some cs' ∧ Rel M W w ow' (upd tf VB (.agg cs')) st' ∧ st' VB = .val d' ∧ Low st' ∧ ∀ y, y ≠ VB → st' y = if k ≤ y ∧ y < k + ds.length then .dead else st y
  | [], vals, ds, k, st, tf, ow, T, x, cs, d', hQ, hk, h, hv, ht, hi, hl, e1, e2, hd, hvv, hp => by
    obtain rfl : ds = [] := List.length_eq_zero_iff.1 e1.symm
    simp only [List.map_nil, List.zip_nil_left, putParts, Option.some.injEq] at hp
    subst hp
    have e0 : upd tf VB (.agg cs) = tf := by funext y; by_cases e : y = VB <;> simp [upd, e, ht]
    exact ⟨cs, ow, st, by simp [Instr.fill], by rw [e0]; exact h, hv, hl, fun y _ => by rw [if_neg (by simp only [List.length_nil]; omega)]⟩
  | i :: idx, [], d :: ds, k, st, tf, ow, T, x, cs, d', hQ, hk, h, hv, ht, hi, hl, e1, e2, hd, hvv, hp => by simp at e2
  | i :: idx, vals, [], k, st, tf, ow, T, x, cs, d', hQ, hk, h, hv, ht, hi, hl, e1, e2, hd, hvv, hp => by simp at e1
  | i :: idx, v :: vals, d :: ds, k, st, tf, ow, T, x, cs, d', hQ, hk, h, hv, ht, hi, hl, e1, e2, hd, hvv, hp => by
    simp only [List.map_cons, List.zip_cons_cons, putParts] at hp
    split at hp
    · rename_i old T' x' hg hput
      split at hp
      · rename_i hsz
        have hsz := Nat.eq_of_beq_eq_true hsz
        obtain ⟨off, p1, p2, p3, p4, p5, p6⟩ := hs T x i d old T' x' (hQ i List.mem_cons_self) hi hg hput hsz
        have hdk : st k = .val d := hd 0 d rfl
        have htk : tf k = v := hvv 0 v rfl
        have hva := h.vr hv
        rw [ht] at hva
        have hcs : cs.size = T.sz := hva.2.1
        have hvk : v.cells.size = d.1.sz := by rw [← htk]; exact (h.vr hdk).2.1
        obtain ⟨ow1, h1⟩ := h.putPart (a := VB) (k := k) (off := off) (p := pf i) (x' := x') hv ht hdk (by omega) (fun y e => absurd (hl y VB e) (Nat.lt_irrefl _)) (fun y e => absurd (hl y k e) (by omega)) (by omega) p4 p5
          (fun ow' hno hkeep hin hout => p6 ow ow' (fun j => cs[j]?) _ hno hkeep hva.2.2 hout hin)
        have hj : ∀ y, y ≠ VB → y ≠ k → joined st VB k ⟨T', x'⟩ y = st y := fun y e e' => by simp only [joined, if_neg e, if_neg e']
        have hl1 : Low (joined st VB k ⟨T', x'⟩) := fun y n hn => by
          by_cases e : y = VB
          · simp [joined, e, Ent.names] at hn
          · by_cases e' : y = k
            · simp only [joined, if_neg e, if_pos e'] at hn; cases hn
            · rw [hj y e e'] at hn; exact hl y n hn
        obtain ⟨cs', ow', st', q1, q2, q3, q4, q5⟩ := parts_fold hs idx vals ds (k := k + 1) (T := T') (x := x') (cs := laid cs off (tf k)) (d' := d') (fun i hi => hQ i (List.mem_cons_of_mem _ hi)) (by omega) h1 (by simp [joined]) (upd_same _ _ _) p3 hl1
          (by simpa using e1) (by simpa using e2) (fun j e he => by rw [hj _ (by omega) (by omega), show k + 1 + j = k + (j + 1) by omega]; exact hd (j + 1) e he)
          (fun j e he => by rw [upd_ne _ _ (show k + 1 + j ≠ VB by omega), show k + 1 + j = k + (j + 1) by omega]; exact hvv (j + 1) e he) hp
        refine ⟨cs', ow', st', ?_, ?_, q3, q4, fun y hy => ?_⟩
        · rw [List.zip_cons_cons, fill_cons p1 hvk (by omega), ← htk]; exact q1
        · have : upd (upd tf VB (.agg (laid cs off (tf k)))) VB (.agg cs') = upd tf VB (.agg cs') := by funext y; by_cases e : y = VB <;> simp [upd, e]
          rw [this] at q2; exact q2
        · rw [q5 y hy]
          simp only [List.length_cons]
          by_cases e : y = k
          · subst e
            rw [if_neg (by omega), if_pos (by omega)]; simp [joined, hy]
          · rw [hj y hy e]
            by_cases c : k + 1 ≤ y ∧ y < k + 1 + ds.length
            · rw [if_pos c, if_pos (by omega)]
            · rw [if_neg c, if_neg (by omega)]
      · cases hp
    · cases hp
end Go.Proofs.Ytlmcalffemklnaa.Rf
