/- A walk by reckoning: what a Go function comes to, reckoned out of its operations, and why that is so. -/
import Derived.Test.YtlmcalffemklnaaRf2
import Derived.OrdersIn
set_option linter.unusedVariables false
set_option linter.unusedSimpArgs false
namespace Go.Proofs.Ytlmcalffemklnaa.Rf
variable {M : Sc} {W w w' : World} {ow ow' : Own} {tf tf' : Nat → Value} {st st1 st2 st' : St} {ρ : Type} {P : Program}
theorem zip_parts (f : Operand → Value) : ∀ (parts : List (Nat × Operand)), (parts.map (·.1)).zip (parts.map fun q => f q.2) = parts.map fun q => (q.1, f q.2)
  | [] => rfl
  | q :: parts => by simp only [List.map_cons, List.zip_cons_cons, zip_parts f parts]
theorem build_core {place : Nat → Option (Nat × Nat)} {pf : Nat → List Step} {Inv : Ty → Prop} {Q : Nat → Prop} {parts : List (Nat × Operand)} {ds : List Dv} {ty : Ty} {d : Dv} {z : Value} (hs : StepOk w M.f place pf Inv Q)
    (hQ : ∀ q ∈ parts, Q q.1) (h : Rel M W w ow tf st) (hf : Fin st) (hu : useAll st (VB + 1) (parts.map (·.2)) = some (ds, st1)) (hz : ∀ w ow bs s p, VR w ow bs ⟨ty, ty.dflt⟩ s p z) (hagg : ty.agg = true) (hi : Inv ty)
    (hp : putParts ty ty.dflt ((parts.map fun q => pf q.1).zip ds) = some d) :
    ∃ cs', Instr.fill place z.cells (parts.map fun q => (q.1, ev tf q.2)) = some cs' ∧ (∃ ow', Hand M W w ow' tf (clr st1) VB (.val d) (.agg cs')) ∧ Deads st (clr st1) := by
  obtain ⟨ow1, tf1, m1, m2, m3, m4, m5, m6, m7, m8, m9, m10⟩ := useAll_sound (Nat.le_succ VB) h (h.low hf) (fun y hy => hf y (by omega)) hu
  have hdead : st1 VB = .dead := m9 VB (Nat.lt_succ_self _) (hf VB (Nat.le_refl _))
  have hzr := m1.handVal (d := ⟨ty, ty.dflt⟩) (v := z) hdead (hz ..)
  have hset : ∀ y, y ≠ VB → setS st1 (some VB) (.val ⟨ty, ty.dflt⟩) y = st1 y := fun y hy => by rw [setS_ne st1 _ hy, hdead]; rfl
  obtain ⟨cs, rfl⟩ := ((hz w ow M.f 0 []).1).1 hagg
  rw [List.length_map] at m3 m8
  obtain ⟨cs', ow', st', q1, q2, q3, q4, q5⟩ := parts_fold hs (parts.map (·.1)) (parts.map fun q => ev tf q.2) ds (k := VB + 1) (d' := d) (fun i hi => by obtain ⟨q, hq, rfl⟩ := List.mem_map.1 hi; exact hQ q hq) (Nat.lt_succ_self _) hzr.2.2 (by rw [setS_same]; rfl) (upd_same _ _ _) hi (m2.set hdead)
    (by rw [List.length_map]; exact m3.symm) (by rw [List.length_map]; exact m3.symm) (fun j e he => by rw [hset _ (by omega)]; exact m7 j e he)
    (fun j v hv => by
      rw [upd_ne _ _ (show VB + 1 + j ≠ VB by omega)]
      rw [List.getElem?_map] at hv
      cases hq : parts[j]? with
      | none => rw [hq] at hv; cases hv
      | some q =>
        rw [hq] at hv
        simp only [Option.map_some, Option.some.injEq] at hv
        rw [← hv]
        exact m6 j q.2 (by rw [List.getElem?_map, hq]; rfl)) (by rw [List.map_map]; exact hp)
  refine ⟨cs', by rw [← zip_parts]; exact q1, ?_, fun y hy => ?_⟩
  · have hfin : ∀ y, VB < y → st' y = .dead := fun y hy => by
      rw [q5 y (by omega)]
      split
      · rfl
      · rename_i c
        rw [hset y (by omega)]; exact m8 y (by omega)
    have hlow : ∀ y, y < VB → st' y = st1 y := fun y hy => by rw [q5 y (by omega), if_neg (by omega), hset y (by omega)]
    have hclr : clr st' = clr st1 := by
      funext y
      rcases Nat.lt_or_ge y VB with k | k
      · rw [clr_lt _ k, clr_lt _ k, hlow y k]
      · rw [clr_dead _ k, clr_dead _ k]
    have hcong : Rel M W w ow' (upd tf VB (.agg cs')) st' := q2.cong fun y hy => by
      by_cases e : y = VB
      · subst e; rw [upd_same, upd_same]
      · have : y < VB := by
          rcases Nat.lt_trichotomy y VB with k | k | k
          · exact k
          · exact absurd k e
          · exact absurd (hfin y k) hy
        rw [upd_ne _ _ e, upd_ne _ _ e, upd_ne _ _ e, m5 y (by omega)]
    refine ⟨ow', ?_⟩
    rw [← hclr]
    exact handOf hcong hfin q3 (fun y e => absurd (q4 y VB e) (Nat.lt_irrefl _))
  · rcases Nat.lt_or_ge y VB with k | k
    · rw [clr_lt _ k]; exact m9 y (by omega) hy
    · exact clr_dead _ k
theorem put_agg {d old : Dv} {f : Nat} {T : Ty} {x : T.den} {T' : Ty} {x' : T'.den} (hg : get (fpath f) T x = some old) (hp : put (fpath f) T x d = some ⟨T', x'⟩) : T'.agg = true := by
  cases f with
  | zero =>
    cases T <;> simp only [fpath, get, reduceCtorEq] at hg
    simp only [fpath, put, Option.some.injEq] at hp
    cases hp; rfl
  | succ f =>
    cases T <;> simp only [fpath, get, reduceCtorEq] at hg
    simp only [fpath, put] at hp
    split at hp
    · simp only [Option.some.injEq] at hp; cases hp; rfl
    · cases hp
theorem struct_step {bs : Fl} {S : List Nat} {place : Nat → Option (Nat × Nat)} (hpl : ∀ i sz, S[i]? = some sz → place i = some ((S.take i).sum, sz)) : StepOk w bs place fpath (fun T => shp T = S) (fun _ => True) := by
  intro T x i d old T' x' _ hi hg hp hsz
  obtain ⟨k1, k2⟩ := shp_get i hg
  have hw := walk_field (w := w) (v := .nilFunc) i none 0 hg
  refine ⟨offOf T i, by rw [← hsz, k2]; rw [hi] at k1 ⊢; exact hpl i _ k1, by rw [← hsz]; exact walk_inside (v := .nilFunc) i hg, (shp_put i hg hp hsz).trans hi, put_sz (fpath i) hw hsz.symm hp, put_agg hg hp, ?_⟩
  intro ow ow' g g' hno hkeep hR hout hin
  have := put_field hno hkeep i (p0 := []) (o0 := 0) (g := g) (g' := g') hg hp hsz hR (fun j hj => hout j (by simpa using hj)) (by simpa using hin)
  exact this.1
end Go.Proofs.Ytlmcalffemklnaa.Rf
namespace Go.Proofs.Ytlmcalffemklnaa.Rf
variable {M : Sc} {W w w' : World} {ow ow' : Own} {tf tf' : Nat → Value} {st st1 st2 st' : St} {ρ : Type} {P : Program}
theorem put_item_ty {d : Dv} {n m : Nat} {u : Ty} {x : List u.den} {T' : Ty} {x' : T'.den} (hp : put [.i n] (.arr m u) x d = some ⟨T', x'⟩) : T' = .arr m u ∧ d.1 = u := by
  simp only [put] at hp
  split at hp
  · rename_i y' hc
    simp only [Option.some.injEq] at hp
    cases hp
    unfold castE at hc
    split at hc
    · rename_i hbq
      exact ⟨rfl, Ty.eq_of_beq _ _ hbq⟩
    · cases hc
  · cases hp
theorem arr_step {bs : Fl} {n : Nat} {u : Ty} {place : Nat → Option (Nat × Nat)} (hpl : ∀ i, place i = some (i * u.sz, u.sz)) : StepOk w bs place ipath (fun T => T = .arr n u) (fun i => i < n) := by
  intro T x i d old T' x' hq hi hg hp hsz
  subst hi
  obtain ⟨e1, e2⟩ := put_item_ty hp
  subst e1
  have hm := Nat.mul_le_mul_right u.sz (show i + 1 ≤ n by exact hq)
  rw [Nat.succ_mul] at hm
  refine ⟨i * u.sz, by rw [e2]; exact hpl i, by rw [e2]; exact hm, rfl, rfl, rfl, ?_⟩
  intro ow ow' g g' hno hkeep hR hout hin
  exact (put_item (p0 := []) (o0 := 0) (g := g) (g' := g') hno hkeep hq hp hR (fun j hj => hout j (by simpa using hj)) (by simpa [ipath] using hin)).1
theorem xBuildArr_sound {t : TypeId} {parts : List (Nat × Operand)} {κ : St → Ent → Option ρ} {r : ρ} (h : Rel M W w ow tf st) (hf : Fin st) (hx : xBuildArr P st t parts κ = some r) :
    ∃ v, (Instr.build t (parts.map fun q => (q.1, ev tf q.2)).toArray).run P w = .ok v w ∧ Res M W w tf st VB v κ r := by
  unfold xBuildArr at hx
  split at hx
  · rename_i n u ds st1 hty hu
    split at hx
    · rename_i hc
      simp only [Bool.and_eq_true, List.all_eq_true] at hc
      obtain ⟨⟨c1, c2⟩, c3⟩ := hc
      split at hx
      · rename_i d hp
        obtain ⟨e, hue, hfit⟩ := isArr_spec c1
        obtain ⟨i, z, hi, hz, hzs, hzv⟩ := zeroB_spec c3
        have hsz := (fits_spec hfit).2
        obtain ⟨ie, hie, hies⟩ := info_cells (P := P) (t := e) (by rw [hsz]; exact fits_pos hfit)
        obtain ⟨cs', k1, k2, k3⟩ := build_core (place := fun i => some (i * ie.size, ie.size)) (arr_step (n := n) (u := u) (fun i => by rw [hies, hsz])) (fun q hq => Nat.blt_eq.mp (c2 q hq)) h hf hu hzv rfl rfl hp
        refine ⟨_, run_build w t _ cs' ?_, _, _, hx, k3, k2⟩
        simp only [Program.built, hi, hue, hz, hie]
        exact k1
      · cases hx
    · cases hx
  · cases hx
theorem xBuild_sound {t : TypeId} {parts : List (Nat × Operand)} {κ : St → Ent → Option ρ} {r : ρ} (h : Rel M W w ow tf st) (hf : Fin st) (hx : xBuild P st t parts κ = some r) :
    ∃ v, (Instr.build t (parts.map fun q => (q.1, ev tf q.2)).toArray).run P w = .ok v w ∧ Res M W w tf st VB v κ r := by
  unfold xBuild at hx
  split at hx
  · exact xBuildArr_sound h hf hx
  · split at hx
    · rename_i ty ds st1 hty hu
      split at hx
      · cases hx
      · rename_i hc
        simp only [Bool.and_eq_true] at hc
        obtain ⟨c1, c3⟩ := hc
        split at hx
        · rename_i d hp
          obtain ⟨i, z, hi, hz, hzs, hzv⟩ := zeroB_spec c3
          unfold layB at c1
          split at c1
          · rename_i fs hus
            obtain ⟨hagg, pl, p1, p2⟩ := layF_places fs.toList 0 _ c1
            obtain ⟨cs', k1, k2, k3⟩ := build_core (place := fun i => pl.toArray[i]?) (struct_step (S := shp ty.nilz) (fun i sz hi => by
              rw [List.getElem?_toArray, p2 i sz hi, Nat.zero_add])) (fun q hq => trivial) h hf hu hzv hagg rfl hp
            refine ⟨_, run_build w t _ cs' ?_, _, _, hx, k3, k2⟩
            simp only [Program.built, hi, hus, hz, p1]
            exact k1
          · cases c1
        · cases hx
    · cases hx
end Go.Proofs.Ytlmcalffemklnaa.Rf
namespace Go.Proofs.Ytlmcalffemklnaa.Rf
variable {M : Sc} {W w w' : World} {ow ow' : Own} {tf tf' : Nat → Value} {st st1 st2 st' : St} {ρ : Type} {P : Program}
def setV (st : St) (k : Nat) (d : Dv) : St := fun z => if z = k then .val d else st z
theorem Rel.coeSlot {k : Nat} {d : Dv} {u : Ty} {y : u.den} (h : Rel M W w ow tf st) (hk : st k = .val d) (hnn : ∀ y, (st y).names ≠ some k) (hc : Rf.coe u d.1 d.2 = some y) : ∃ ow', Rel M W w ow' tf (setV st k ⟨u, y⟩) := by
  obtain ⟨ow', k1⟩ := (h.asHand hk hnn).coe hc
  have e1 : upd tf k (tf k) = tf := by funext y; by_cases e : y = k <;> simp [upd, e]
  have e2 : setS (Rf.kill st k) (some k) (.val ⟨u, y⟩) = setV st k ⟨u, y⟩ := by
    funext z
    by_cases e : z = k
    · subst e; rw [setS_same]; simp [setV]
    · rw [setS_ne _ _ e]; simp [Rf.kill, setV, e, Ent.owns]
  exact ⟨ow', by have := k1.2.2; rw [e1, e2] at this; exact this⟩
theorem coe_all {u : Ty} : ∀ (ds : List Dv) (l : List u.den) {k : Nat} {st : St} {ow : Own}, lstOf u ds = some l → VB ≤ k → Rel M W w ow tf st → Low st → (∀ (j : Nat) (d : Dv), ds[j]? = some d → st (k + j) = .val d) →
    l.length = ds.length ∧ ∃ ow' st', Rel M W w ow' tf st' ∧ Low st' ∧ (∀ j, j < ds.length → st' (k + j) = .val ⟨u, rd l j⟩) ∧ (∀ y, y < k → st' y = st y) ∧ ∀ y, k + ds.length ≤ y → st' y = st y
  | [], l, k, st, ow, hl, hk, h, hlow, hd => by
    simp only [lstOf, Option.some.injEq] at hl
    subst hl
    exact ⟨rfl, ow, st, h, hlow, fun j hj => absurd hj (Nat.not_lt_zero _), fun _ _ => rfl, fun _ _ => rfl⟩
  | d :: ds, l, k, st, ow, hl, hk, h, hlow, hd => by
    simp only [lstOf] at hl
    split at hl
    · rename_i x l' hc hr
      simp only [Option.some.injEq] at hl
      subst hl
      obtain ⟨ow1, h1⟩ := h.coeSlot (hd 0 d rfl) (fun y e => absurd (hlow y _ e) (by omega)) hc
      have hl1 : Low (setV st (k + 0) ⟨u, x⟩) := fun y n hn => by
        by_cases e : y = k + 0
        · simp only [setV, if_pos e] at hn; cases hn
        · simp only [setV, if_neg e] at hn; exact hlow y n hn
      obtain ⟨g1, ow', st', g2, g3, g4, g5, g6⟩ := coe_all ds l' (k := k + 1) hr (by omega) h1 hl1 (fun j e he => by
        simp only [setV, if_neg (show ¬ k + 1 + j = k + 0 by omega)]
        rw [show k + 1 + j = k + (j + 1) by omega]; exact hd (j + 1) e he)
      refine ⟨by simp only [List.length_cons, g1], ow', st', g2, g3, fun j hj => ?_, fun y hy => ?_, fun y hy => ?_⟩
      · cases j with
        | zero => rw [g5 _ (by omega)]; simp [setV, rd]
        | succ j =>
          simp only [List.length_cons] at hj
          rw [show k + (j + 1) = k + 1 + j by omega, g4 j (by omega)]
          simp [rd]
      · rw [g5 y (by omega)]; simp only [setV, if_neg (show ¬ y = k + 0 by omega)]
      · simp only [List.length_cons] at hy
        rw [g6 y (by omega)]; simp only [setV, if_neg (show ¬ y = k + 0 by omega)]
    · cases hl
theorem inOrder_range : ∀ (l : List Nat) (n : Nat), inOrder n l = true → l = List.range' n l.length
  | [], n, _ => rfl
  | i :: l, n, h => by
    simp only [inOrder, Bool.and_eq_true] at h
    obtain rfl := Nat.eq_of_beq_eq_true h.1
    rw [List.length_cons, List.range'_succ, ← inOrder_range l _ h.2]
theorem fill_row {z : Nat} : ∀ (vals : List Value) (i0 : Nat) (cs : Array Value), (∀ v ∈ vals, v.cells.size = z) → (i0 + vals.length) * z ≤ cs.size →
    ∃ cs', Instr.fill (fun i => some (i * z, z)) cs ((List.range' i0 vals.length).zip vals) = some cs' ∧ cs'.size = cs.size ∧ (∀ m, m < i0 * z → cs'[m]? = cs[m]?) ∧ ∀ (i : Nat) (v : Value), vals[i]? = some v → ∀ j, j < z → cs'[(i0 + i) * z + j]? = v.cells[j]?
  | [], i0, cs, hv, hs => ⟨cs, by simp [Instr.fill], rfl, fun _ _ => rfl, fun i v h => by simp at h⟩
  | v :: vals, i0, cs, hv, hs => by
    have hvz := hv v List.mem_cons_self
    simp only [List.length_cons] at hs
    have hle : (i0 + 1) * z ≤ (i0 + (vals.length + 1)) * z := Nat.mul_le_mul_right z (by omega)
    have hmul : (i0 + 1) * z = i0 * z + z := Nat.succ_mul i0 z
    obtain ⟨cs', k1, k2, k3, k4⟩ := fill_row vals (i0 + 1) (laid cs (i0 * z) v) (fun x hx => hv x (List.mem_cons_of_mem _ hx)) (by rw [laid_size, show i0 + 1 + vals.length = i0 + (vals.length + 1) by omega]; exact hs)
    refine ⟨cs', ?_, by rw [k2, laid_size], fun m hm => ?_, fun i x hx j hj => ?_⟩
    · rw [List.length_cons, List.range'_succ, List.zip_cons_cons, fill_cons rfl hvz (by omega)]
      exact k1
    · rw [k3 m (by omega), laid_at _ _ _ (by omega), if_neg (by omega)]
    · cases i with
      | zero =>
        simp only [List.getElem?_cons_zero, Option.some.injEq] at hx
        subst hx
        rw [Nat.add_zero, k3 _ (by omega), laid_at _ _ _ (by omega), if_pos (by omega)]
        congr 1; omega
      | succ i =>
        simp only [List.getElem?_cons_succ] at hx
        rw [show i0 + (i + 1) = i0 + 1 + i by omega]
        exact k4 i x hx j hj
end Go.Proofs.Ytlmcalffemklnaa.Rf
namespace Go.Proofs.Ytlmcalffemklnaa.Rf
variable {M : Sc} {W w w' : World} {ow ow' : Own} {tf tf' : Nat → Value} {st st1 st2 st' : St} {ρ : Type} {P : Program}
theorem run_buildSlice {t e : TypeId} {n z : Nat} {i : TypeInfo} {zv : Value} {parts : List (Nat × Value)} {cs : Array Value} (hu : P.underlying t = some (.slice e)) (hi : P.info? e = some i) (hz : i.size = z) (hzv : i.zero = some zv) (hbig : n * z ≤ 16777216) (hn0 : n * z ≠ 0)
    (hfill : Instr.fill (fun i => some (i * z, z)) ((Array.range (n * z)).map (zv.cells[· % zv.cells.size]!)) parts = some cs) :
    (Instr.buildSlice t n parts.toArray).run P w = .ok (.slice (some ⟨w.heap.size, 0, none⟩) n n) (w.alloc (.cells cs e)) := by
  have hb : ¬ (n * z > 2 ^ 24) := by omega
  subst hz
  simp [Instr.buildSlice, run_underlying hu, sizeOf, typeInfo, hi, zeroValue, hzv, hb, hn0, hfill, newRow]
theorem run_buildSlice0 {t e : TypeId} (hu : P.underlying t = some (.slice e)) (hz : P.cellsOf e ≠ 0) : (Instr.buildSlice t 0 #[]).run P w = .ok (.slice (some ⟨w.heap.size, 0, none⟩) 0 0) (w.alloc (.cells #[] e)) := by
  obtain ⟨i, hi, hs⟩ := info_cells hz
  simp [Instr.buildSlice, run_underlying hu, sizeOf, typeInfo, hi, Instr.fill, newRow]
  congr 2
  apply Array.eq_empty_of_size_eq_zero; simp
theorem Rel.clr (h : Rel M W w ow tf st) (hl : Low st) : Rel M W w ow tf (clr st) :=
  h.weaken (fun s => by
    rcases Nat.lt_or_ge s VB with k | k
    · exact .inl (clr_lt st k)
    · exact .inr (clr_dead st k)) (fun s s' hs hn => by
    have k : s < VB := by
      rcases Nat.lt_or_ge s VB with k | k
      · exact k
      · exact absurd (clr_dead st k) hs
    rw [clr_lt st k] at hn
    exact clr_lt st (hl s s' hn))
theorem xBuildSlice_sound {t : TypeId} {n : Nat} {parts : List (Nat × Operand)} {κ : St → Ent → Option ρ} {r : ρ} (h : Rel M W w ow tf st) (hf : Fin st) (hx : xBuildSlice P st t n parts κ = some r) :
    ∃ v w', (Instr.buildSlice t n (parts.map fun q => (q.1, ev tf q.2)).toArray).run P w = .ok v w' ∧ Res M W w' tf st VB v κ r := by
  unfold xBuildSlice at hx
  split at hx
  · split at hx
    · rename_i hn hs
      obtain rfl := Nat.eq_of_beq_eq_true hn
      obtain ⟨e, hu, hz⟩ := slOk_spec hs
      refine ⟨_, _, run_buildSlice0 hu hz, _, _, hx, Deads.refl _, ow, ?_⟩
      have hsz : w.heap.size ≤ (w.alloc (.cells #[] e)).heap.size := by rw [World.size_alloc]; omega
      exact (h.world (h.fr.alloc h.top _) hsz (fun b hb => heap_alloc_lt w _ hb)).handVal (hf VB (Nat.le_refl _)) (VR.mk_nils ..)
    · cases hx
  · rename_i hne
    split at hx
    · rename_i ds st1 hu
      split at hx
      · rename_i d ds' hc
        split at hx
        · rename_i e l hs hl
          split at hx
          · rename_i hc2
            simp only [Bool.and_eq_true, Bool.not_eq_true'] at hc hc2
            obtain ⟨⟨c1, c2⟩, c3⟩ := hc
            obtain ⟨⟨c4, c5⟩, c6⟩ := hc2
            obtain rfl := Nat.eq_of_beq_eq_true c2
            obtain ⟨hus, hz, hz0⟩ := isSl_spec hs
            obtain ⟨i, zv, hi, hzv, hzs⟩ := zsz_spec c4
            have hbig := Nat.le_of_ble_eq_true c5
            have hord := inOrder_range _ _ c1
            rw [List.length_map] at hord
            have hsize : i.size = d.1.frz.sz := by rw [← hz]; simp [Program.cellsOf, hi]
            obtain ⟨ow1, tf1, m1, m2, m3, m4, m5, m6, m7, m8, m9, m10⟩ := useAll_sound (Nat.le_succ VB) h (h.low hf) (fun y hy => hf y (by omega)) hu
            rw [List.length_map] at m3 m8
            obtain ⟨g1, ow2, st2, g2, g3, g4, g5, g6⟩ := coe_all _ _ (k := VB + 1) hl (Nat.le_succ VB) m1 m2 m7
            have hclr : clr st2 = clr st1 := by
              funext y
              rcases Nat.lt_or_ge y VB with k | k
              · rw [clr_lt _ k, clr_lt _ k, g5 y (by omega)]
              · rw [clr_dead _ k, clr_dead _ k]
            have hrel : Rel M W w ow2 tf (clr st1) := by
              rw [← hclr]
              refine (g2.clr g3).cong fun y hy => ?_
              rcases Nat.lt_or_ge y VB with k | k
              · exact (m5 y (by omega)).symm
              · exact absurd (clr_dead _ k) hy
            have hdv : Deads st (clr st1) := fun y hy => by
              rcases Nat.lt_or_ge y VB with k | k
              · rw [clr_lt _ k]; exact m9 y (by omega) hy
              · exact clr_dead _ k
            have hlen : l.length = parts.length := by rw [g1, m3]
            have hval : ∀ (j : Nat) (q : Nat × Operand), parts[j]? = some q → VR w ow2 M.f ⟨d.1.frz, rd l j⟩ (VB + 1 + j) [] (ev tf q.2) := fun j q hq => by
              have hj : j < (d :: ds').length := by rw [m3]; exact (List.getElem?_eq_some_iff.1 hq).1
              have := g2.vr (g4 j hj)
              rw [m6 j q.2 (by rw [List.getElem?_map, hq]; rfl)] at this
              exact this
            have hnz : parts.length * d.1.frz.sz ≠ 0 := by
              have : 0 < parts.length := by rw [← m3]; simp
              exact Nat.ne_of_gt (Nat.mul_pos this (by omega))
            obtain ⟨cs', k1, k2, _, k4⟩ := fill_row (z := d.1.frz.sz) (parts.map fun q => ev tf q.2) 0 ((Array.range (parts.length * d.1.frz.sz)).map (zv.cells[· % zv.cells.size]!)) (fun v hv => by
              obtain ⟨q, hq, rfl⟩ := List.mem_map.1 hv
              obtain ⟨j, hj⟩ := List.getElem?_of_mem hq
              exact (hval j q hj).2.1) (by simp)
            rw [List.length_map, ← hord, zip_parts] at k1
            have hcs : cs'.size = parts.length * d.1.frz.sz := by rw [k2]; simp
            obtain ⟨ow3, k3⟩ := hrel.newList (u := d.1.frz) (l := l) (c := cs') (cap := parts.length) e (clr_dead _ (Nat.le_refl _)) c6 (by omega) hcs (fun q hq => by
              obtain ⟨pq, hpq⟩ : ∃ pq, parts[q]? = some pq := ⟨parts[q]'(by omega), List.getElem?_eq_getElem (by omega)⟩
              refine Rd.flat (Nat.le_refl _) d.1.frz c6 (fun j hj => ?_) (fun b _ hb => ⟨hb, rfl⟩) (hval q pq hpq).2.2
              have := k4 q (ev tf pq.2) (by rw [List.getElem?_map, hpq]; rfl) j hj
              rw [Nat.zero_add] at this ⊢
              exact this)
            rw [hlen] at k3
            exact ⟨_, _, run_buildSlice hus hi hsize hzv hbig hnz k1, _, _, hx, hdv, ow3, k3⟩
          · cases hx
        · cases hx
      · cases hx
    · cases hx
end Go.Proofs.Ytlmcalffemklnaa.Rf
namespace Go.Proofs.Ytlmcalffemklnaa.Rf
variable {M : Sc} {W w w' : World} {ow ow' : Own} {tf tf' : Nat → Value} {st st1 st2 st' : St} {ρ : Type} {P : Program}
/-- The temporaries, as the walk sees them. -/
def tfA (a : Act) : Nat → Value := fun s => a.tmps.getD s undef
theorem eval_ev (a : Act) : a.eval = ev (tfA a) := by funext x; cases x <;> rfl
theorem tfA_put {a : Act} {d : Nat} {v : Value} (h : d < a.tmps.size) : tfA (a.put (some d) v) = upd (tfA a) d v := by
  funext s
  simp only [tfA, Act.put, upd, Array.getD_eq_getD_getElem?, Array.getElem?_setIfInBounds]
  by_cases e : d = s
  · subst e; simp [h]
  · rw [if_neg e, if_neg (Ne.symm e)]
theorem Hand.leave {n : Nat} {e : Ent} {v : Value} (h : Hand M W w ow tf st n e v) : Rel M W w ow tf st := by
  have hown : (st n).owns = false := by rw [h.1.1]; rfl
  refine Rel.forget (n := n) (v := v) (Rel.weaken h.2.2 (fun s => ?_) (fun s s' hs hs' => ?_)) h.1.1
  · by_cases e : s = n
    · subst e; exact .inr h.1.1
    · left; rw [setS_ne _ _ e, hown]; rfl
  · have : s' ≠ n := fun e => h.1.2 s (e ▸ hs')
    rw [setS_ne _ _ this, hown]; rfl
/-- What else a walk keeps of an activation: its deferred calls, and the slots of what is lent to it. -/
def _root_.Go.Act.dk (a : Act) (M : Sc) : List Deferred × List Value := (a.defers, M.pin.map (tfA a))
/-- What an operation leaves: the walk goes on. -/
def Nx (M : Sc) (W : World) (st : St) (o : Oper) (κ : St → Option ρ) (r : ρ) (a a' : Act) (w' : World) : Prop :=
  ∃ st2 ow2, κ st2 = some r ∧ Fin st2 ∧ Rel M W w' ow2 (tfA a') st2 ∧ a'.tmps.size = a.tmps.size ∧ a'.dk M = a.dk M ∧ ∀ y, st y = .dead → o.dst ≠ some y → st2 y = .dead
def dstOk (M : Sc) (o : Oper) (n : Nat) : Prop := ∀ d, o.dst = some d → d < n ∧ d < VB ∧ d ∉ M.pin
theorem Fin.set {d : Nat} {e : Ent} (h : Fin st) (hd : d < VB) : Fin (setS st (some d) e) := fun y hy => by
  rw [setS_ne st e (show y ≠ d from fun k => absurd (k ▸ hd) (Nat.not_lt_of_le hy)), h y hy]; split <;> rfl
theorem nx_value {o : Oper} {a : Act} {v : Value} {κ : St → Option ρ} {r : ρ} (hd : dstOk M o a.tmps.size) (hf : Fin st) (h : Res M W w' (tfA a) st VB v (fun st e => κ (setS st o.dst e)) r) : Nx M W st o κ r a (a.put o.dst v) w' := by
  obtain ⟨st1, e, h1, h2, ow', h3⟩ := h
  have hf1 := hf.of h2
  cases hdst : o.dst with
  | none =>
    rw [hdst] at h1
    exact ⟨st1, ow', h1, hf1, h3.leave, rfl, rfl, fun y hy _ => h2 y hy⟩
  | some d =>
    rw [hdst] at h1
    obtain ⟨d1, d2, d3⟩ := hd d hdst
    obtain ⟨ow2, k⟩ := h3.2.2.place h3.1 h3.2.1 (Nat.ne_of_lt d2)
    refine ⟨_, ow2, h1, hf1.set d2, ?_, ?_, ?_, fun y hy hne => ?_⟩
    · rw [tfA_put d1]; exact k
    · simp [Act.put]
    · refine Prod.ext rfl (List.map_congr_left fun s hs => ?_)
      rw [tfA_put d1]; exact upd_ne _ _ (fun e : s = d => d3 (e ▸ hs))
    · rw [setS_ne _ _ (fun e : y = d => hne (by rw [hdst, e])), h2 y hy]; split <;> rfl
theorem op_value {o : Oper} {a : Act} {v : Value} {κ : St → Option ρ} {r : ρ} {Q : Exit → Act → World → Prop} (hd : dstOk M o a.tmps.size) (hf : Fin st) (he : (execOp a.eval o).run P w = .ok (.value v) w')
    (h : Res M W w' (tfA a) st VB v (fun st e => κ (setS st o.dst e)) r) : o.wp P a w (Nx M W st o κ r a) Q := by
  unfold Oper.wp
  rw [he]
  exact nx_value hd hf h
theorem run_v {s : Sem Value} {v : Value} (h : s.run P w = .ok v w') : (do pure (Next.value (← s)) : Sem Next).run P w = .ok (.value v) w' := by
  simp only [Sem.run_bind, h, Result.andThen_ok, Sem.run_pure]
theorem exec1_box {o : Oper} {t : TypeId} {x : Operand} {a : Act} {κ : St → Option ρ} {r : ρ} {Q : Exit → Act → World → Prop} (ho : o.op = .box t x) (hd : dstOk M o a.tmps.size) (hf : Fin st) (h : Rel M W w ow (tfA a) st)
    (hx : xBox st x (fun st e => κ (setS st o.dst e)) = some r) : o.wp P a w (Nx M W st o κ r a) Q := by
  obtain ⟨v, w', k1, k2⟩ := xBox_sound (P := P) (e := t) h (hf VB (Nat.le_refl _)) hx
  refine op_value hd hf ?_ k2
  simp only [execOp, ho, eval_ev]
  exact run_v k1
theorem exec1_load {o : Oper} {t : TypeId} {x : Operand} {a : Act} {κ : St → Option ρ} {r : ρ} {Q : Exit → Act → World → Prop} (ho : o.op = .load t x) (hd : dstOk M o a.tmps.size) (hf : Fin st) (h : Rel M W w ow (tfA a) st)
    (hx : xLoad P st t x (fun st e => κ (setS st o.dst e)) = some r) : o.wp P a w (Nx M W st o κ r a) Q := by
  obtain ⟨v, k1, k2⟩ := xLoad_sound (P := P) h (hf VB (Nat.le_refl _)) hx
  refine op_value hd hf ?_ k2
  simp only [execOp, ho, eval_ev]
  exact run_v k1
end Go.Proofs.Ytlmcalffemklnaa.Rf
namespace Go.Proofs.Ytlmcalffemklnaa.Rf
variable {M : Sc} {W w w' : World} {ow ow' : Own} {tf tf' : Nat → Value} {st st1 st2 st' : St} {ρ : Type} {P : Program}
variable {o : Oper} {a : Act} {κ : St → Option ρ} {r : ρ} {Q : Exit → Act → World → Prop}
theorem exec1_alloc {t : TypeId} (ho : o.op = .alloc t) (hd : dstOk M o a.tmps.size) (hf : Fin st) (h : Rel M W w ow (tfA a) st)
    (hx : xAlloc P st t (fun st e => κ (setS st o.dst e)) = some r) : o.wp P a w (Nx M W st o κ r a) Q := by
  obtain ⟨v, w', k1, k2⟩ := xAlloc_sound (P := P) h (hf VB (Nat.le_refl _)) hx
  refine op_value hd hf ?_ k2
  simp only [execOp, ho, eval_ev]
  exact run_v k1
theorem exec1_bin {op : BinOp} {t t2 : TypeId} {x y : Operand} (ho : o.op = .binOp op t x y t2) (hd : dstOk M o a.tmps.size) (hf : Fin st) (h : Rel M W w ow (tfA a) st)
    (hx : xBin P st op t x y (fun st e => κ (setS st o.dst e)) = some r) : o.wp P a w (Nx M W st o κ r a) Q := by
  obtain ⟨v, k1, k2⟩ := xBin_sound (P := P) (t' := t) h (hf VB (Nat.le_refl _)) hx
  refine op_value hd hf ?_ k2
  simp only [execOp, ho, eval_ev]
  exact run_v k1
theorem exec1_convert {s t : TypeId} {x : Operand} (ho : o.op = .convert s t x) (hd : dstOk M o a.tmps.size) (hf : Fin st) (h : Rel M W w ow (tfA a) st)
    (hx : xConvert P st s t x (fun st e => κ (setS st o.dst e)) = some r) : o.wp P a w (Nx M W st o κ r a) Q := by
  obtain ⟨v, k1, k2⟩ := xConvert_sound (P := P) h (hf VB (Nat.le_refl _)) hx
  refine op_value hd hf ?_ k2
  simp only [execOp, ho, eval_ev]
  exact run_v k1
theorem exec1_makeSlice {t : TypeId} {l c : Operand} (ho : o.op = .makeSlice t l c) (hd : dstOk M o a.tmps.size) (hf : Fin st) (h : Rel M W w ow (tfA a) st)
    (hx : xMakeSlice P st t l c (fun st e => κ (setS st o.dst e)) = some r) : o.wp P a w (Nx M W st o κ r a) Q := by
  obtain ⟨v, w', k1, k2⟩ := xMakeSlice_sound (P := P) h (hf VB (Nat.le_refl _)) hx
  refine op_value hd hf ?_ k2
  simp only [execOp, ho, eval_ev]
  exact run_v k1
theorem exec1_slice {t : TypeId} {x : Operand} {lo hi : Option Operand} (ho : o.op = .slice t x lo hi none) (hd : dstOk M o a.tmps.size) (hf : Fin st) (h : Rel M W w ow (tfA a) st)
    (hx : xSlice P st t x lo hi (fun st e => κ (setS st o.dst e)) = some r) : o.wp P a w (Nx M W st o κ r a) Q := by
  obtain ⟨v, k1, k2⟩ := xSlice_sound (P := P) h (hf VB (Nat.le_refl _)) hx
  refine op_value hd hf ?_ k2
  simp only [execOp, ho, eval_ev]
  exact run_v k1
theorem exec1_fieldAddr {t : TypeId} {x : Operand} {f : Nat} (ho : o.op = .fieldAddr t x f) (hd : dstOk M o a.tmps.size) (hf : Fin st) (h : Rel M W w ow (tfA a) st)
    (hx : xFieldAddr P st t x f (fun st e => κ (setS st o.dst e)) = some r) : o.wp P a w (Nx M W st o κ r a) Q := by
  obtain ⟨v, k1, k2⟩ := xFieldAddr_sound (P := P) h (hf VB (Nat.le_refl _)) hx
  refine op_value hd hf ?_ k2
  simp only [execOp, ho, eval_ev]
  exact run_v k1
theorem exec1_field {t : TypeId} {x : Operand} {f : Nat} (ho : o.op = .field t x f) (hd : dstOk M o a.tmps.size) (hf : Fin st) (h : Rel M W w ow (tfA a) st)
    (hx : xField P st t x f (fun st e => κ (setS st o.dst e)) = some r) : o.wp P a w (Nx M W st o κ r a) Q := by
  obtain ⟨v, k1, k2⟩ := xField_sound (P := P) h (hf VB (Nat.le_refl _)) hx
  refine op_value hd hf ?_ k2
  simp only [execOp, ho, eval_ev]
  exact run_v k1
theorem exec1_indexAddr {t : TypeId} {x i : Operand} (ho : o.op = .indexAddr t x i) (hd : dstOk M o a.tmps.size) (hf : Fin st) (h : Rel M W w ow (tfA a) st)
    (hx : xIndexAddr P st t x i (fun st e => κ (setS st o.dst e)) = some r) : o.wp P a w (Nx M W st o κ r a) Q := by
  obtain ⟨v, k1, k2⟩ := xIndexAddr_sound (P := P) h (hf VB (Nat.le_refl _)) hx
  refine op_value hd hf ?_ k2
  simp only [execOp, ho, eval_ev]
  exact run_v k1
theorem exec1_index {t : TypeId} {x i : Operand} (ho : o.op = .index t x i) (hd : dstOk M o a.tmps.size) (hf : Fin st) (h : Rel M W w ow (tfA a) st)
    (hx : xIndex P st t x i (fun st e => κ (setS st o.dst e)) = some r) : o.wp P a w (Nx M W st o κ r a) Q := by
  obtain ⟨v, k1, k2⟩ := xIndex_sound (P := P) h (hf VB (Nat.le_refl _)) hx
  refine op_value hd hf ?_ k2
  simp only [execOp, ho, eval_ev]
  exact run_v k1
theorem exec1_extract {x : Operand} {n : Nat} (ho : o.op = .extract x n) (hd : dstOk M o a.tmps.size) (hf : Fin st) (h : Rel M W w ow (tfA a) st)
    (hx : xExtract st x n (fun st e => κ (setS st o.dst e)) = some r) : o.wp P a w (Nx M W st o κ r a) Q := by
  obtain ⟨v, k1, k2⟩ := xExtract_sound (P := P) h (hf VB (Nat.le_refl _)) hx
  refine op_value hd hf ?_ k2
  simp only [execOp, ho, eval_ev]
  exact run_v k1
theorem exec1_move {x : Operand} (ho : o.op = .move x) (hd : dstOk M o a.tmps.size) (hf : Fin st) (h : Rel M W w ow (tfA a) st)
    (hx : xMove st x (fun st e => κ (setS st o.dst e)) = some r) : o.wp P a w (Nx M W st o κ r a) Q := by
  refine op_value hd hf ?_ (xMove_sound h (hf VB (Nat.le_refl _)) hx)
  simp only [execOp, ho, eval_ev]; rfl
theorem exec1_assign {x : Operand} (ho : o.op = .assign x) (hd : dstOk M o a.tmps.size) (hf : Fin st) (h : Rel M W w ow (tfA a) st)
    (hx : xAssign st x (fun st e => κ (setS st o.dst e)) = some r) : o.wp P a w (Nx M W st o κ r a) Q := by
  refine op_value hd hf ?_ (xAssign_sound h (hf VB (Nat.le_refl _)) hx)
  simp only [execOp, ho, eval_ev]; rfl
theorem exec1_pick {c x y : Operand} (ho : o.op = .pick c x y) (hd : dstOk M o a.tmps.size) (hf : Fin st) (h : Rel M W w ow (tfA a) st)
    (hx : xPick st c x y (fun st e => κ (setS st o.dst e)) = some r) : o.wp P a w (Nx M W st o κ r a) Q := by
  obtain ⟨z, k1, k2⟩ := xPick_sound h (hf VB (Nat.le_refl _)) hx
  refine op_value hd hf ?_ k2
  simp only [execOp, ho, eval_ev, k1, asBool, Sem.run_bind, Sem.run_pure, Result.andThen_ok]
  cases z <;> rfl
theorem exec1_nilCheck {x : Operand} (ho : o.op = .nilCheck x) (hd : dstOk M o a.tmps.size) (hf : Fin st) (h : Rel M W w ow (tfA a) st)
    (hx : xNilCheck st x (fun st e => κ (setS st o.dst e)) = some r) : o.wp P a w (Nx M W st o κ r a) Q := by
  obtain ⟨k1, k2⟩ := xNilCheck_sound h (hf VB (Nat.le_refl _)) hx
  refine op_value hd hf ?_ k1
  simp only [execOp, ho, eval_ev]
  rcases k2 with ⟨b, e⟩ | ⟨f, l, e⟩ <;> rw [e] <;> rfl
theorem exec1_unOp {op : UnOp} {t : TypeId} {x : Operand} {d e : Dv} (ho : o.op = .unOp op t x) (hd : dstOk M o a.tmps.size) (hf : Fin st) (h : Rel M W w ow (tfA a) st)
    (hl : lookV st x = some d) (hu : unV op d = some e) (hx : κ (setS st o.dst (.val e)) = some r) : o.wp P a w (Nx M W st o κ r a) Q := by
  obtain ⟨s, p, hv⟩ := lookV_sound h hl
  obtain ⟨u, k1, k2⟩ := unV_run (P := P) (w := w) hu hv
  refine op_value (st := st) (v := u) hd hf ?_ ⟨st, .val e, hx, Deads.refl _, ow, h.handVal (hf VB (Nat.le_refl _)) (k2 _ _ _ _)⟩
  simp only [execOp, ho, eval_ev]
  exact run_v k1
theorem exec1_store {t : TypeId} {x y : Operand} (ho : o.op = .store t x y) (hdst : o.dst = none) (hf : Fin st) (h : Rel M W w ow (tfA a) st)
    (hx : xStore P st t x y (fun st => κ (setS st o.dst .dead)) = some r) : o.wp P a w (Nx M W st o κ r a) Q := by
  obtain ⟨w', st2, k1, k2, k3, ow', k4⟩ := xStore_sound (P := P) h (hf VB (Nat.le_refl _)) hx
  have hrun : (execOp a.eval o).run P w = .ok .skip w' := by
    simp only [execOp, ho, eval_ev]
    simp only [Sem.run_bind, k1, Result.andThen_ok, Sem.run_pure]
  unfold Oper.wp
  rw [hrun]
  show Nx M W st o κ r a (a.put o.dst undef) w'
  rw [hdst] at k2 ⊢
  exact ⟨st2, ow', k2, hf.of k3, k4, rfl, rfl, fun y hy _ => k3 y hy⟩
theorem exec1_build {t : TypeId} {parts : Array (Nat × Operand)} (ho : o.op = .build t parts) (hd : dstOk M o a.tmps.size) (hf : Fin st) (h : Rel M W w ow (tfA a) st)
    (hx : xBuild P st t parts.toList (fun st e => κ (setS st o.dst e)) = some r) : o.wp P a w (Nx M W st o κ r a) Q := by
  obtain ⟨v, k1, k2⟩ := xBuild_sound (P := P) h hf hx
  refine op_value hd hf ?_ k2
  simp only [execOp, ho, eval_ev]
  refine run_v ?_
  rw [← k1]; congr 2
  rw [← List.map_toArray]
theorem exec1_buildSlice {t : TypeId} {n : Nat} {parts : Array (Nat × Operand)} (ho : o.op = .buildSlice t n parts) (hd : dstOk M o a.tmps.size) (hf : Fin st) (h : Rel M W w ow (tfA a) st)
    (hx : xBuildSlice P st t n parts.toList (fun st e => κ (setS st o.dst e)) = some r) : o.wp P a w (Nx M W st o κ r a) Q := by
  obtain ⟨v, w', k1, k2⟩ := xBuildSlice_sound (P := P) h hf hx
  refine op_value hd hf ?_ k2
  simp only [execOp, ho, eval_ev]
  refine run_v ?_
  rw [← k1]; congr 2
  rw [← List.map_toArray]
theorem exec1_makeFunc {f : FuncId} {first caps : Array Operand} {ds : List Dv} (ho : o.op = .makeFunc (.func f) first caps) (hd : dstOk M o a.tmps.size) (hf : Fin st) (h : Rel M W w ow (tfA a) st)
    (h0 : first.toList = []) (hc : capt st caps.toList = some (ds, st1)) (hx : κ (setS st1 o.dst (.fn f ds)) = some r) : o.wp P a w (Nx M W st o κ r a) Q := by
  obtain ⟨⟨ow', k1⟩, k2⟩ := capt_hand (f := f) h hc (hf VB (Nat.le_refl _))
  refine op_value (st := st) hd hf ?_ ⟨st1, .fn f ds, hx, k2, ow', k1⟩
  have e0 : first = #[] := by cases first; simp_all
  simp only [execOp, ho, eval_ev]
  refine run_v ?_
  subst e0
  simp only [Instr.makeFunc, Sem.run_pure]
  congr 2
  · simp
  · rw [← List.map_toArray]
end Go.Proofs.Ytlmcalffemklnaa.Rf
namespace Go.Proofs.Ytlmcalffemklnaa.Rf
variable {M : Sc} {W w w' : World} {ow ow' : Own} {tf tf' : Nat → Value} {st st1 st2 st' : St} {ρ : Type} {P : Program}
variable {o : Oper} {a : Act} {κ : St → Option ρ} {r : ρ} {Q : Exit → Act → World → Prop}
theorem arr1 {α : Type} {x : Array α} {y : α} (h : x.toList = [y]) : x = #[y] := by cases x; simp_all
theorem arr2 {α : Type} {x : Array α} {y z : α} (h : x.toList = [y, z]) : x = #[y, z] := by cases x; simp_all
theorem exec1_builtin {b : Builtin} {args : Array Operand} {ts : Array TypeId} (ho : o.op = .call { callee := .builtin b, args := args, argTypes := ts }) (hd : dstOk M o a.tmps.size) (hf : Fin st) (h : Rel M W w ow (tfA a) st)
    (hx : xBuiltin P st b args.toList ts.toList (fun st e => κ (setS st o.dst e)) = some r) : o.wp P a w (Nx M W st o κ r a) Q := by
  have hn := hf VB (Nat.le_refl _)
  unfold xBuiltin at hx
  split at hx
  · rename_i x t e1 e2
    obtain rfl := arr1 e1
    obtain rfl := arr1 e2
    obtain ⟨v, k1, k2⟩ := xLen_sound (P := P) (ty := o.type) h hn hx
    refine op_value hd hf ?_ k2
    simp only [execOp, ho, resolve, eval_ev, invoke, builtin, Sem.run_bind, Sem.run_pure, Result.andThen_ok]
    simp only [List.map_toArray, List.map_cons, List.map_nil, k1, Result.andThen_ok]
  · rename_i x t e1 e2
    obtain rfl := arr1 e1
    obtain rfl := arr1 e2
    split at hx
    · rename_i u hop ht
      obtain ⟨e, hu⟩ := isSlT_spec ht
      obtain ⟨s, p, hv⟩ := opd_val h hop
      obtain ⟨hc, hr⟩ := hv.cell rfl
      simp only [Rd] at hr
      obtain ⟨ad, hr⟩ := hr
      have hv' : ev (tfA a) x = .slice ad 0 0 := by simpa using hr
      refine op_value (st := st) (v := .int .i64 0) hd hf ?_ ⟨st, _, hx, Deads.refl _, ow, h.handVal hn (VR.mk_int ..)⟩
      simp only [execOp, ho, resolve, eval_ev, invoke, builtin, Sem.run_bind, Sem.run_pure, Result.andThen_ok]
      simp only [List.map_toArray, List.map_cons, List.map_nil, hv']
      simp [Builtin.cap_, run_underlying hu, goInt]
    · cases hx
  · rename_i x y t t' e1 e2
    obtain rfl := arr2 e1
    obtain rfl := arr2 e2
    obtain ⟨v, w', k1, k2⟩ := xAppend_sound (P := P) (ty := o.type) h hf hx
    refine op_value hd hf ?_ k2
    simp only [execOp, ho, resolve, eval_ev, invoke, builtin, Sem.run_bind, Sem.run_pure, Result.andThen_ok]
    simp only [List.map_toArray, List.map_cons, List.map_nil, k1, Result.andThen_ok]
  · rename_i x y e1
    obtain rfl := arr2 e1
    obtain ⟨v, k1, k2⟩ := xMax_sound (P := P) (ts := ts) (ty := o.type) h hn hx
    refine op_value hd hf ?_ k2
    simp only [execOp, ho, resolve, eval_ev, invoke, builtin, Sem.run_bind, Sem.run_pure, Result.andThen_ok]
    simp only [List.map_toArray, List.map_cons, List.map_nil, k1, Result.andThen_ok]
  · rename_i x y e1
    obtain rfl := arr2 e1
    obtain ⟨v, k1, k2⟩ := xMin_sound (P := P) (ts := ts) (ty := o.type) h hn hx
    refine op_value hd hf ?_ k2
    simp only [execOp, ho, resolve, eval_ev, invoke, builtin, Sem.run_bind, Sem.run_pure, Result.andThen_ok]
    simp only [List.map_toArray, List.map_cons, List.map_nil, k1, Result.andThen_ok]
  · cases hx
end Go.Proofs.Ytlmcalffemklnaa.Rf
namespace Go.Proofs.Ytlmcalffemklnaa.Rf
variable {M : Sc} {W w w' : World} {ow ow' : Own} {tf tf' : Nat → Value} {st st1 st2 st' : St} {ρ : Type}
variable {o : Oper} {a : Act} {κ : St → Option ρ} {r : ρ} {Q : Exit → Act → World → Prop}
/-- An operation that is no call of a function. -/
theorem exec1_sound {C : Cx ρ} (hcall : ∀ f args ts, o.op = .call { callee := .value f, args := args, argTypes := ts } → exec1 C st o κ = some r → o.wp C.P a w (Nx M W st o κ r a) Q)
    (hd : dstOk M o a.tmps.size) (hst : ∀ t x y, o.op = .store t x y → o.dst = none) (hf : Fin st) (h : Rel M W w ow (tfA a) st)
    (hx : exec1 C st o κ = some r) : o.wp C.P a w (Nx M W st o κ r a) Q := by
  have hx0 := hx
  unfold exec1 at hx
  split at hx
  · rename_i ho; exact exec1_move ho hd hf h hx
  · rename_i ho; exact exec1_assign ho hd hf h hx
  · rename_i ho; exact exec1_pick ho hd hf h hx
  · rename_i ho; exact exec1_alloc ho hd hf h hx
  · rename_i ho; exact exec1_box ho hd hf h hx
  · rename_i ho; exact exec1_build ho hd hf h hx
  · rename_i ho; exact exec1_buildSlice ho hd hf h hx
  · rename_i ho; exact exec1_load ho hd hf h hx
  · rename_i ho; exact exec1_store ho (hst _ _ _ ho) hf h hx
  · rename_i ho; exact exec1_nilCheck ho hd hf h hx
  · rename_i ho; exact exec1_bin ho hd hf h hx
  · rename_i ho
    split at hx
    · rename_i d hl
      split at hx
      · rename_i e hu; exact exec1_unOp ho hd hf h hl hu hx
      · cases hx
    · cases hx
  · rename_i ho; exact exec1_convert ho hd hf h hx
  · rename_i ho
    split at hx
    · rename_i h0 hc; exact exec1_makeFunc ho hd hf h h0 hc hx
    · cases hx
  · rename_i ho; exact exec1_makeSlice ho hd hf h hx
  · rename_i ho; exact exec1_slice ho hd hf h hx
  · rename_i ho; exact exec1_fieldAddr ho hd hf h hx
  · rename_i ho; exact exec1_field ho hd hf h hx
  · rename_i ho; exact exec1_indexAddr ho hd hf h hx
  · rename_i ho; exact exec1_index ho hd hf h hx
  · rename_i ho; exact exec1_extract ho hd hf h hx
  · rename_i ho; exact exec1_builtin ho hd hf h hx
  · rename_i ho; exact hcall _ _ _ ho hx0
  · cases hx
end Go.Proofs.Ytlmcalffemklnaa.Rf
namespace Go.Proofs.Ytlmcalffemklnaa.Rf
variable {M : Sc} {W w w' : World} {ow ow' : Own} {tf tf' : Nat → Value} {st st1 st2 st' : St} {ρ : Type}
variable {o : Oper} {a : Act} {κ : St → Option ρ} {r : ρ} {Q : Exit → Act → World → Prop}
/-- A walk's fence: any function, in a loop's round or in none. -/
abbrev FR (ro : Option Nat) : Fence := { fn := fun _ => True, depth := none, alive := false, round := ro }
theorem callsIn_FR {ro : Option Nat} {n : Nat} {P : Program} {f : FuncId} {args : Array Value} {w : World} {R : Ending → World → Prop} (h : Calls P f args w R) : CallsIn (FR ro) n P f args w R :=
  (callsIn_wide (n := n)).2 h
theorem rowsIn_FR {ro : Option Nat} {n : Nat} {P : Program} {row : String} {args : Array Value} {w : World} {R : Value → World → Prop} (h : Rows P row args w R) : RowsIn (FR ro) n P row args w R := fun c cs _ =>
  let ⟨v, w', r, s⟩ := h c cs; ⟨v, w', r, stepsIn_wide.2 s⟩
theorem wpIn_of {ro : Option Nat} {n : Nat} {P : Program} {K : Act → World → Prop} (hd : ∀ c, o.op ≠ .defer c) (h : o.wp P a w K Q) : o.wpIn (FR ro) n P a w K Q := by
  refine ⟨fun _ _ => trivial, ?_⟩
  rw [Oper.semAt_eq _ _ _ hd]
  unfold Oper.wp at h
  revert h
  generalize (execOp a.eval o).run P w = res
  intro h
  cases res with
  | ok x w' =>
    cases x with
    | enter f args => exact ⟨fun e => (by cases e), callsIn_FR h⟩
    | row row args => exact ⟨fun e => (by cases e), rowsIn_FR h⟩
    | round l f tmps as body => exact h.elim
    | _ => exact h
  | halt p w' => cases p <;> exact h
theorem exec1_nd {C : Cx ρ} (h : exec1 C st o κ = some r) : ∀ c, o.op ≠ .defer c := by
  intro c hc
  unfold exec1 at h
  rw [hc] at h
  cases h
theorem setB_same {s : Nat} {b : Bool} (h : st s = .val ⟨.bool, b⟩) : setB st s b = st := by
  funext y
  simp only [setB]
  by_cases e : y = s
  · subst e; rw [beq_self]; exact h.symm
  · rw [beq_ne e]
theorem nthOp_get : ∀ (l : List Oper) (n : Nat), nthOp l n = l[n]?
  | [], n => by simp [nthOp]
  | d :: l, 0 => rfl
  | d :: l, n + 1 => by simp only [nthOp, List.getElem?_cons_succ]; exact nthOp_get l n
theorem tfA_some {s : Nat} {v : Value} (h : tfA a s = v) (hv : v ≠ undef) : a.tmps[s]? = some v := by
  simp only [tfA, Array.getD_eq_getD_getElem?] at h
  cases e : a.tmps[s]? with
  | none => rw [e] at h; exact absurd h.symm hv
  | some u => rw [e] at h; exact congrArg some h
/-- An operation that is left out. -/
theorem nx_skip (hd : dstOk M o a.tmps.size) (hf : Fin st) (h : Rel M W w ow (tfA a) st) (hx : κ (setS st o.dst (.tup [])) = some r) : Nx M W st o κ r a (a.put o.dst undef) w := by
  refine nx_value hd hf ⟨st, .tup [], hx, Deads.refl _, ow, h.hand (hf VB (Nat.le_refl _)) (by simp [Ent.names]) ?_⟩
  simp only [ER, upd_same]
  exact ⟨[], rfl, rfl, fun j d v hd => by simp at hd⟩
theorem execOps_sound {ro : Option Nat} {nn : Nat} {C : Cx ρ} {ops : Array Oper} {n : Nat}
    (hop : ∀ o ∈ ops.toList, ∀ (st : St) (a : Act) (w : World) (ow : Own) (κ : St → Option ρ), a.tmps.size = n → Fin st → Rel M W w ow (tfA a) st → exec1 C st o κ = some r → ∀ Q, o.wp C.P a w (Nx M W st o κ r a) Q)
    (hdst : ∀ o ∈ ops.toList, dstOk M o n) {ds : List Deferred × List Value} (hQ : ∀ a' w' st2 ow2, κ st2 = some r → Fin st2 → Rel M W w' ow2 (tfA a') st2 → a'.tmps.size = n → a'.dk M = ds → Q .normal a' w') :
    ∀ (os : List Oper) (i : Nat) {st : St} {a : Act} {w : World} {ow : Own}, os = ops.toList.drop i → a.tmps.size = n → a.dk M = ds → Fin st → Rel M W w ow (tfA a) st → execOps C ops.toList os st κ = some r →
      wpOpsIn (FR ro) nn C.P ops Q (List.range' i os.length) a w
  | [], i, st, a, w, ow, ho, hn, hds, hf, h, hx => hQ a w st ow hx hf h hn hds
  | o :: os, i, st, a, w, ow, ho, hn, hds, hf, h, hx => by
    have hi : ops.toList[i]? = some o := by
      have := congrArg (·[0]?) ho
      simpa using this.symm
    have hmem : o ∈ ops.toList := List.mem_of_getElem? hi
    have hos : os = ops.toList.drop (i + 1) := by
      have := congrArg (List.drop 1) ho
      simpa [List.drop_drop, Nat.add_comm] using this
    have hio : ops[i]? = some o := by simpa using hi
    rw [List.length_cons, List.range'_succ, wpOpsIn_cons]
    unfold wpOpIn
    rw [hio]
    dsimp only
    have go : ∀ {a' : Act} {w' : World}, Nx M W st o (fun st1 => execOps C ops.toList os st1 κ) r a a' w' → wpOpsIn (FR ro) nn C.P ops Q (List.range' (i + 1) os.length) a' w' := fun {a' w'} hN => by
      obtain ⟨st2, ow2, k1, k2, k3, k4, k5, _⟩ := hN
      exact execOps_sound hop hdst hQ os (i + 1) hos (by rw [k4, hn]) (by rw [k5, hds]) k2 k3 k1
    simp only [execOps, step1] at hx
    cases hg : o.guard with
    | none =>
      rw [hg] at hx
      rw [if_pos (by simp [Region.wanted, hg])]
      exact wpIn_of (exec1_nd hx) (Oper.wp_mono (fun a' w' hN => go hN) (hop o hmem st a w ow _ hn hf h hx Q))
    | some jw =>
      obtain ⟨j, wnt⟩ := jw
      rw [hg] at hx
      dsimp only at hx
      split at hx
      · rename_i oj hj
        rw [nthOp_get] at hj
        have hjo : ops[j]? = some oj := by simpa using hj
        split at hx
        · rename_i s hs
          have hy : yielded ops a.tmps j = match a.tmps[s]? with | some (.bool b) => some b | _ => none := by
            simp only [yielded, hjo, hs, Option.bind_some]
            rfl
          split at hx
          · rename_i b hb
            have hx := brB_some hx
            rw [setB_same hb] at hx
            have hv : a.tmps[s]? = some (.bool b) := tfA_some (h.vr hb).bool (by simp [undef])
            have hy : yielded ops a.tmps j = some (show Bool from b) := by rw [hy, hv]
            have hwant : Region.wanted o (yielded ops a.tmps) = ((show Bool from b) == wnt) := by
              simp only [Region.wanted, hg, hy]; cases (show Bool from b) <;> cases wnt <;> rfl
            split at hx
            · rename_i hw
              rw [if_pos (by rw [hwant]; exact hw)]
              exact wpIn_of (exec1_nd hx) (Oper.wp_mono (fun a' w' hN => go hN) (hop o hmem st a w ow _ hn hf h hx Q))
            · rename_i hw
              rw [if_neg (by rw [hwant]; exact Bool.eq_false_iff.1 hw)]
              exact ⟨fun _ _ => trivial, go (nx_skip (by rw [hn]; exact hdst o hmem) hf h hx)⟩
          · rename_i hb
            have hent := h.ent s
            rw [hb] at hent
            simp only [ER] at hent
            obtain ⟨vs, e1, e2, _⟩ := hent
            obtain rfl := List.length_eq_zero_iff.1 e2
            have hy' : yielded ops a.tmps j = none := by
              rw [hy]
              cases e : a.tmps[s]? with
              | none => rfl
              | some u =>
                have : tfA a s = u := by simp [tfA, Array.getD_eq_getD_getElem?, e]
                rw [e1] at this
                rw [← this]
            rw [if_neg (by simp [Region.wanted, hg, hy'])]
            exact ⟨fun _ _ => trivial, go (nx_skip (by rw [hn]; exact hdst o hmem) hf h hx)⟩
          · cases hx
        · cases hx
      · cases hx
end Go.Proofs.Ytlmcalffemklnaa.Rf
namespace Go.Proofs.Ytlmcalffemklnaa.Rf
def Ty.okA (ok : Bool → Bool) (sp : Bool) : Ty → Bool
  | .sl f t => ok f && t.okA ok sp | .osl _ t => t.okA ok sp | .optr _ t => t.okA ok sp | .sptr t => ok false && t.okA ok sp
  | .pair a b => a.okA ok sp && b.okA ok sp | .arr _ t => t.okA ok sp | _ => true
theorem Ty.okR_okA (bor : Bool) : (t : Ty) → t.okR bor = true → t.okA (fun f => f || !bor) false = true := by
  intro t
  induction t with
  | pair a b iha ihb => intro h; simp only [Ty.okR, Ty.okA, Bool.and_eq_true] at *; exact ⟨iha h.1, ihb h.2⟩
  | sl f t ih => intro h; simp only [Ty.okR, Ty.okA, Bool.and_eq_true] at *; exact ⟨h.1, ih h.2⟩
  | osl f t ih => intro h; exact ih h
  | optr f t ih => intro h; exact ih h
  | arr n t ih => intro h; exact ih h
  | sptr t ih => intro h; simp only [Ty.okR, Ty.okA, Bool.and_eq_true, Bool.false_or] at *; exact ⟨h.1, ih h.2⟩
  | _ => intro h; rfl
theorem Ty.noFr_okA : (t : Ty) → t.noFr = true → t.okA (fun f => !f) true = true := by
  intro t
  induction t with
  | pair a b iha ihb => intro h; simp only [Ty.noFr, Ty.okA, Bool.and_eq_true] at *; exact ⟨iha h.1, ihb h.2⟩
  | sl f t ih => intro h; simp only [Ty.noFr, Ty.okA, Bool.and_eq_true] at *; exact ⟨h.1, ih h.2⟩
  | osl f t ih => intro h; exact ih h
  | optr f t ih => intro h; exact ih h
  | arr n t ih => intro h; exact ih h
  | sptr t ih => intro h; simp only [Ty.okA, Bool.not_false, Bool.true_and]; exact ih h
  | _ => intro h; rfl
theorem Ty.okA_all : (t : Ty) → t.okA (fun _ => true) true = true := by
  intro t
  induction t with
  | pair a b iha ihb => simp only [Ty.okA, iha, ihb]; rfl
  | sl f t ih => simp only [Ty.okA, ih]; rfl
  | sptr t ih => simp only [Ty.okA, ih]; rfl
  | osl f t ih => exact ih
  | optr f t ih => exact ih
  | arr n t ih => exact ih
  | _ => rfl
/-- A value, its labels and classes turned. -/
theorem rdTr {w : World} {ow ow' : Own} {bs bs' : Fl} {ok : Bool → Bool} {sp : Bool}
    (hsl : ∀ q b, ok q = true → b < w.heap.size → ow b = none → bs.at q b → ow' b = none ∧ bs'.at q b)
    : (t : Ty) → t.okA ok sp = true → {s s' : Nat} → {p p' : List Step} → {g : Nat → Option Value} → {o : Nat} → {x : t.den} →
    (t.hasOwn = true → ∀ b q, ow b = some (s, p ++ q) → ow' b = some (s', p' ++ q)) → (t.hasOwn = true → ∀ q b q', ow b = some (s, p ++ q') → bs.at q b → bs'.at q b) → Rd w ow bs t s p g o x → Rd w ow' bs' t s' p' g o x
  | .int k, _, _, _, _, _, _, _, _, _, _, h => h
  | .bool, _, _, _, _, _, _, _, _, _, _, h => h
  | .str, _, _, _, _, _, _, _, _, _, _, h => h
  | .nils, _, _, _, _, _, _, _, _, _, _, h => h
  | .nilp, _, _, _, _, _, _, _, _, _, _, h => h
  | .hole, _, _, _, _, _, _, _, _, _, _, h => h
  | .unit, _, _, _, _, _, _, _, _, _, _, h => by simp only [Rd]
  | .pair a b, ha, s, s', p, p', g, o, x, hl, hown, h => by
    simp only [Ty.okA, Bool.and_eq_true] at ha
    simp only [Rd] at h ⊢
    refine ⟨rdTr hsl a ha.1 (fun ho b' q hq => ?_) (fun ho => ?_) h.1, rdTr hsl b ha.2 (fun ho b' q hq => ?_) (fun ho => ?_) h.2⟩
    · rw [List.append_assoc] at hq ⊢; exact hl (by simp [Ty.hasOwn, ho]) b' _ hq
    · intro q b q' hq; rw [List.append_assoc] at hq; exact hown (by simp [Ty.hasOwn, ho]) q b _ hq
    · rw [List.append_assoc] at hq ⊢; exact hl (by simp [Ty.hasOwn, ho]) b' _ hq
    · intro q b q' hq; rw [List.append_assoc] at hq; exact hown (by simp [Ty.hasOwn, ho]) q b _ hq
  | .arr n t, ha, s, s', p, p', g, o, x, hl, hown, h => by
    simp only [Ty.okA] at ha
    simp only [Rd] at h ⊢
    refine ⟨h.1, fun i hi => rdTr hsl t ha (fun ho b' q hq => ?_) (fun ho q b q' hq => hown ho q b _ (by rw [List.append_assoc] at hq; exact hq)) (h.2 i hi)⟩
    rw [List.append_assoc] at hq ⊢; exact hl ho b' _ hq
  | .sptr t, ha, s, s', p, p', g, o, x, hl, hown, h => by
    simp only [Ty.okA, Bool.and_eq_true] at ha
    simp only [Rd] at h ⊢
    obtain ⟨b, o1, h1, h2, hc, hb, h3⟩ := h
    obtain ⟨k1, k2⟩ := hsl false b ha.1 hb h2 hc
    exact ⟨b, o1, h1, k1, k2, hb, rdTr hsl t ha.2 (fun ho => hl ho) (fun ho => hown ho) h3⟩
  | .optr f t, ha, s, s', p, p', g, o, x, hl, hown, h => by
    simp only [Ty.okA] at ha
    simp only [Rd] at h ⊢
    obtain ⟨b, h1, h2, hf, hw, h3⟩ := h
    exact ⟨b, h1, by simpa using hl rfl b [] (by simpa using h2), hown rfl _ _ [] (by simpa using h2) hf, hw, rdTr hsl t ha (fun ho b' q hq => by rw [List.append_assoc] at hq ⊢; exact hl rfl b' _ hq) (fun _ q b q' hq => hown rfl q b _ (by rw [List.append_assoc] at hq; exact hq)) h3⟩
  | .sl f t, ha, s, s', p, p', g, o, x, hl, hown, h => by
    simp only [Ty.okA, Bool.and_eq_true] at ha
    simp only [Rd] at h ⊢
    obtain ⟨a, len, cap, h1, h2, hle, h3⟩ := h
    refine ⟨a, len, cap, h1, h2, hle, fun h0 => ?_⟩
    obtain ⟨b, o1, hab, hb, hf, hlt, hi⟩ := h3 h0
    obtain ⟨k1, k2⟩ := hsl f b ha.1 hlt hb hf
    exact ⟨b, o1, hab, k1, k2, hlt, fun i hi' => rdTr hsl t ha.2 (fun ho => hl ho) (fun ho => hown ho) (hi i hi')⟩
  | .osl f t, ha, s, s', p, p', g, o, x, hl, hown, h => by
    simp only [Ty.okA] at ha
    simp only [Rd] at h ⊢
    obtain ⟨a, len, cap, h1, h2, hle, h3⟩ := h
    refine ⟨a, len, cap, h1, h2, hle, fun h0 => ?_⟩
    obtain ⟨b, o1, hab, hb, hf, hw, hi⟩ := h3 h0
    exact ⟨b, o1, hab, by simpa using hl rfl b [] (by simpa using hb), hown rfl _ _ [] (by simpa using hb) hf, hw, fun i hlt => rdTr hsl t ha (fun ho b' q hq => by rw [List.append_assoc] at hq ⊢; exact hl rfl b' _ hq) (fun _ q b q' hq => hown rfl q b _ (by rw [List.append_assoc] at hq; exact hq)) (hi i hlt)⟩
variable {M : Sc} {W w w' : World} {ow ow' : Own} {tf tf' : Nat → Value} {st st1 st2 st' : St} {ρ : Type}
abbrev own0 : Own := fun _ => none
theorem coeFlat {w : World} {bs : Fl} : (u t : Ty) → {ow : Own} → {s : Nat} → {p : List Step} → {g : Nat → Option Value} → {o : Nat} → {x : t.den} → {y : u.den} → t.hasOwn = false → Rf.coe u t x = some y → Rd w ow bs t s p g o x →
    Rd w ow bs u s p g o y := by
  have cs : ∀ {u t : Ty} {ow : Own} {s : Nat} {p : List Step} {g : Nat → Option Value} {o : Nat} {x : t.den} {y : u.den}, t.hasOwn = false → Rf.castT t u x = some y → Rd w ow bs t s p g o x → Rd w ow bs u s p g o y := fun {u t ow s p g o x y} ht h hr => by
    unfold Rf.castT at h
    split at h
    · rename_i hs
      simp only [Option.some.injEq] at h
      subst h
      rcases Ty.sub_cases hs with rfl | hf | ⟨f, t1, t2, rfl, rfl, h1, h2⟩
      · exact hr
      · exact Rd.frzFlat _ _ ht hf hr
      · cases ht
    · cases h
  intro u
  induction u with
  | sl f u ih =>
    intro t ow s p g o x y ht h hr
    cases t <;> simp only [Rf.coe] at h <;> try exact cs ht h hr
    obtain rfl := Option.some.inj h
    exact (Rd.nilsList hr).1
  | osl f u ih =>
    intro t ow s p g o x y ht h hr
    cases t <;> simp only [Rf.coe] at h <;> try exact cs ht h hr
    obtain rfl := Option.some.inj h
    exact (Rd.nilsList hr).2
  | optr f u ih =>
    intro t ow s p g o x y ht h hr
    cases t <;> simp only [Rf.coe] at h <;> first | exact cs ht h hr | cases ht
  | pair a b iha ihb =>
    intro t ow s p g o x y ht h hr
    cases t <;> simp only [Rf.coe] at h <;> try exact cs ht h hr
    split at h
    · exact cs ht h hr
    · simp only [Ty.hasOwn, Bool.or_eq_false_iff] at ht
      split at h
      · rename_i e1 e2
        obtain rfl := Option.some.inj h
        simp only [Rd] at hr ⊢
        refine ⟨iha _ ht.1 e1 hr.1, ?_⟩
        rw [← (coe_sz _ _ e1).1]
        exact ihb _ ht.2 e2 hr.2
      · cases h
  | _ => intro t ow s p g o x y ht h hr; cases t <;> simp only [Rf.coe] at h <;> exact cs ht h hr
/-- What is lent to a callee, or what nobody owns. -/
theorem VR.entry {Oc : Own} {d : Dv} {t : Ty} {y : t.den} {v : Value} {F Fc : Fl} {s s' : Nat} {p p' : List Step} (hc : Rf.coe t d.1 d.2 = some y) (ht : t.hasOwn = false) (hv : VR w ow F d s p v)
    (H : (d.1.hasOwn = false ∧ ∀ q b, ow b = none → F.at q b → Oc b = none ∧ Fc.at q b) ∨ (t.noFr = true ∧ ∀ b, (ow b = none ∨ ∃ q, ow b = some (s, q)) → Oc b = none ∧ Fc.s b)) : VR w Oc Fc ⟨t, y⟩ s' p' v := by
  obtain ⟨h1, h2, h3⟩ := hv
  obtain ⟨k1, k2⟩ := coe_sz _ _ hc
  refine ⟨by rw [← h1, k2], by rw [h2, k1], ?_⟩
  rcases H with ⟨hf, hF⟩ | ⟨hn, hF⟩
  · have h5 := coeFlat _ _ hf hc h3
    exact rdTr (ow := ow) (bs := F) (ok := fun _ => true) (sp := true) (s := s) (p := p) (fun q b _ _ hb hq => hF q b hb hq) t (Ty.okA_all _) (fun ho => by rw [ht] at ho; cases ho) (fun ho => by rw [ht] at ho; cases ho) h5
  · obtain ⟨ow', hl, h5⟩ := Rd.coe _ _ hc h3
    have hlab : ∀ b, ow' b = none → ow b = none ∨ ∃ q, ow b = some (s, q) := fun b hb => by
      cases hb' : ow b with
      | none => exact .inl rfl
      | some l =>
        rcases hl.2 b l hb' with k | ⟨_, q, e⟩
        · rw [hb] at k; cases k
        · exact .inr ⟨_, by rw [e]⟩
    exact rdTr (ow := ow') (bs := F) (ok := fun f => !f) (sp := true) (s := s) (p := p) (fun q b hq _ hb hF' => ⟨(hF b (hlab b hb)).1, by cases q <;> first | exact (hF b (hlab b hb)).2 | cases hq⟩) t (Ty.noFr_okA t hn) (fun ho => by rw [ht] at ho; cases ho) (fun ho => by rw [ht] at ho; cases ho) h5
end Go.Proofs.Ytlmcalffemklnaa.Rf
namespace Go.Proofs.Ytlmcalffemklnaa.Rf
variable {M : Sc} {W w w' : World} {ow ow' : Own} {tf tf' : Nat → Value} {st st1 st2 st' : St} {ρ : Type}
/-- What an argument's entry says of its value. -/
def ArgE (w : World) (ow : Own) (F : Fl) (st : St) (e : Ent) (v : Value) : Prop :=
  match e with
  | .val d => d.1.hasOwn = false ∧ ∃ s p, VR w ow F d s p v
  | .al s p _ => ∀ d, getP st s p = some d → VR w ow F d s p v
  | .fn f ds => ∃ vs : List Value, v = .func (.func f) #[] vs.toArray ∧ vs.length = ds.length ∧ ∀ (j : Nat) (d : Dv) (u : Value), ds[j]? = some d → vs[j]? = some u → d.1.hasOwn = false ∧ ∃ s p, VR w ow F d s p u
  | _ => True
def ArgsE (w : World) (ow : Own) (F : Fl) (st : St) : List Ent → List Value → Prop
  | [], [] => True
  | e :: es, v :: vs => ArgE w ow F st e v ∧ ArgsE w ow F st es vs
  | _, _ => False
theorem entOf_sound (h : Rel M W w ow tf st) (x : Operand) : ArgE w ow M.f st (entOf st x) (ev tf x) := by
  cases x with
  | tmp s =>
    simp only [entOf]
    split
    · rename_i d hs
      split
      · intro d' hd'
        simp only [getP, hs, get, Option.some.injEq] at hd'
        subst hd'
        exact h.vr hs
      · rename_i ho; exact ⟨ho, s, [], h.vr hs⟩
    · rename_i e hne
      cases hs : st s with
      | val d => exact absurd hs (hne d)
      | al s' p t =>
        intro d hd
        have hent := h.ent s
        rw [hs] at hent
        simp only [ER] at hent
        obtain ⟨dd, h1, f, t', b, o, h2, h3⟩ := hent
        obtain ⟨T, x, g1, g2⟩ := getP_val hd
        rw [h1] at g1; simp only [Ent.val.injEq] at g1; subst g1
        obtain ⟨y, k1, k2⟩ := walk_read p (b := none) (h.vr h1).2.2 h2
        rw [g2] at k1
        simp only [Option.some.injEq] at k1; subst k1
        exact VR.of_cell rfl k2 h3
      | fn f ds =>
        have k := h.ent s
        rw [hs] at k
        obtain ⟨vs, h1, h2, h3⟩ := k
        exact ⟨vs, h1, h2, fun j d u hd hu => ⟨(h3 j d u hd hu).1, _, _, (h3 j d u hd hu).2⟩⟩
      | ref => trivial
      | tup => trivial
      | dead => trivial
  | const v =>
    simp only [entOf, opd]
    rcases cst_cases (v := v) rfl with e | ⟨d, e, h1, h2⟩
    · rw [e]; trivial
    · rw [e]; exact ⟨h1, 0, [], h2 _ _ _ _ _⟩
  | func f => exact ⟨[], rfl, rfl, fun j d u hd => by simp at hd⟩
  | global g => trivial
/-- What a callee may change, and what it may hand out. -/
def scC (M : Sc) (w : World) (ow : Own) (bor : Bool) : Sc where
  m b := w.heap.size ≤ b
  f := { t := fun b => w.heap.size ≤ b ∨ (ow b = none ∧ M.f.t b), s := fun b => bor = true ∨ w.heap.size ≤ b ∨ (ow b = none ∧ M.f.s b)
         ts := fun b h => .inr (h.imp id fun k => ⟨k.1, M.f.ts b k.2⟩) }
  mf q b h := by cases q with | true => exact .inl h | false => exact .inr (.inl h)
theorem scC_at {bor q : Bool} {b : Nat} (h1 : ow b = none) (h2 : M.f.at q b) : (scC M w ow bor).f.at q b := by
  cases q with
  | true => exact .inr ⟨h1, h2⟩
  | false => exact .inr (.inr ⟨h1, h2⟩)
theorem HL_of : ∀ (ts : List Ty) (ds : List Dv) {x : HL ts}, HL.of ts ds = some x → (HL.dvs ts x).length = ds.length ∧ ∀ (j : Nat) (d' : Dv), (HL.dvs ts x)[j]? = some d' → ∃ d, ds[j]? = some d ∧ d'.1 ∈ ts ∧ Rf.coe d'.1 d.1 d.2 = some d'.2
  | [], [], x, h => ⟨rfl, fun j d' hd => by simp [HL.dvs] at hd⟩
  | [], _ :: _, x, h => by simp only [HL.of, reduceCtorEq] at h
  | _ :: _, [], x, h => by simp only [HL.of, reduceCtorEq] at h
  | t :: ts, d :: ds, x, h => by
    simp only [HL.of] at h
    split at h
    · rename_i y z h1 h2
      obtain rfl := Option.some.inj h
      obtain ⟨k1, k2⟩ := HL_of ts ds h2
      refine ⟨by simp only [HL.dvs, List.length_cons, k1], fun j d' hd => ?_⟩
      cases j with
      | zero => simp only [HL.dvs, List.getElem?_cons_zero, Option.some.injEq] at hd; subst hd; exact ⟨d, rfl, List.mem_cons_self, h1⟩
      | succ j =>
        simp only [HL.dvs, List.getElem?_cons_succ] at hd
        obtain ⟨d0, e1, e2, e3⟩ := k2 j d' hd
        exact ⟨d0, by simpa using e1, List.mem_cons_of_mem _ e2, e3⟩
    · cases h
theorem argL_v (n : Nat) (t : Ty) (r : List LS) (e : Ent) (es : List Ent) : argL st n (.v t :: r) (e :: es) = (match t.hasOwn with
    | true => none
    | false => match e with
      | .val d => match coe t d.1 d.2, argL st (n + 1) r es with | some x, some y => some (x, y) | _, _ => none
      | .al s p _ => match getP st s p, t.noFr with
        | some d, true => match coe t d.1 d.2, argL st (n + 1) r es with | some x, some y => some (x, y) | _, _ => none
        | _, _ => none
      | _ => none : Option (t.den × LL (idx (n + 1) r))) := rfl
theorem argL_fn (n : Nat) (f : FuncId) (ts : List Ty) (r : List LS) (e : Ent) (es : List Ent) : argL st n (.fn f ts :: r) (e :: es) = (match e with
    | .fn f' ds => match Nat.beq f' f && ts.all fun t => !t.hasOwn with
      | true => match HL.of ts ds, argL st (n + 1) r es with | some x, some y => some (x, y) | _, _ => none
      | false => none
    | _ => none : Option (HL ts × LL (idx (n + 1) r))) := rfl
theorem argL_sound {bor : Bool} {Oc : Own} {Fc : Fl} (hF : ∀ q b, ow b = none → M.f.at q b → Oc b = none ∧ Fc.at q b) (hB : bor = true → ∀ s d, st s = .val d → ∀ b, (ow b = none ∨ ∃ q, ow b = some (s, q)) → Oc b = none ∧ Fc.s b) :
    ∀ (ps : List LS) (n : Nat) (es : List Ent) (vs : List Value) {H : LL (idx n ps)}, argL st n ps es = some H → ArgsE w ow M.f st es vs → (∀ e ∈ es, e.borrows = true → bor = true) →
    ∀ (tfc : Nat → Value), (∀ (i : Nat) (v : Value), vs[i]? = some v → tfc (n + i) = v) → ∀ (stX : St) (s : Nat), ER w Oc Fc tfc stX s (mkSt (idx n ps) H s)
  | [], n, [], vs, H, h, hf, hb, tfc, ht, stX, s => trivial
  | [], n, _ :: _, vs, H, h, hf, hb, tfc, ht, stX, s => by exact absurd (show (none : Option (LL (idx n _))) = some H from h) (by simp)
  | .v t :: r, n, [], vs, H, h, hf, hb, tfc, ht, stX, s => by exact absurd (show (none : Option (LL (idx n _))) = some H from h) (by simp)
  | .no :: r, n, [], vs, H, h, hf, hb, tfc, ht, stX, s => by exact absurd (show (none : Option (LL (idx n _))) = some H from h) (by simp)
  | .fn _ _ :: r, n, [], vs, H, h, hf, hb, tfc, ht, stX, s => by exact absurd (show (none : Option (LL (idx n _))) = some H from h) (by simp)
  | .al _ _ _ :: r, n, [], vs, H, h, hf, hb, tfc, ht, stX, s => by exact absurd (show (none : Option (LL (idx n _))) = some H from h) (by simp)
  | .ref _ _ _ :: r, n, [], vs, H, h, hf, hb, tfc, ht, stX, s => by exact absurd (show (none : Option (LL (idx n _))) = some H from h) (by simp)
  | .al _ _ _ :: r, n, _ :: _, vs, H, h, hf, hb, tfc, ht, stX, s => by exact absurd (show (none : Option (LL (idx n _))) = some H from h) (by simp)
  | .ref _ _ _ :: r, n, _ :: _, vs, H, h, hf, hb, tfc, ht, stX, s => by exact absurd (show (none : Option (LL (idx n _))) = some H from h) (by simp)
  | .no :: r, n, e :: es, vs, H, h, hf, hb, tfc, ht, stX, s => by
    cases vs with
    | nil => exact hf.elim
    | cons v0 vs =>
      obtain ⟨h1, h2⟩ := hf
      exact argL_sound hF hB r (n + 1) es _ h h2 (fun e he => hb e (List.mem_cons_of_mem _ he)) tfc (fun i v hv => by rw [← ht (i + 1) v (by simpa using hv)]; congr 1; omega) stX s
  | .v t :: r, n, e :: es, vs, H, h, hf, hb, tfc, ht, stX, s => by
    cases vs with
    | nil => exact hf.elim
    | cons v0 vs =>
      obtain ⟨h1, h2⟩ := hf
      have hv0 : tfc n = v0 := ht 0 v0 rfl
      have rec1 : ∀ {z : LL (idx (n + 1) r)}, argL st (n + 1) r es = some z → ER w Oc Fc tfc stX s (mkSt (idx (n + 1) r) z s) := fun hz =>
        argL_sound hF hB r (n + 1) es _ hz h2 (fun e he => hb e (List.mem_cons_of_mem _ he)) tfc (fun i v hv => by rw [← ht (i + 1) v (by simpa using hv)]; congr 1; omega) stX s
      have fin : ∀ {y : t.den} {z : LL (idx (n + 1) r)}, argL st (n + 1) r es = some z → (∀ s' p', VR w Oc Fc ⟨t, y⟩ s' p' v0) → ER w Oc Fc tfc stX s (mkSt (idx n (.v t :: r)) (y, z) s) := fun {y z} hz hy => by
        simp only [idx, mkSt]
        by_cases e : s = n
        · subst e; rw [beq_self]; simp only [ER]; rw [hv0]; exact hy _ _
        · rw [beq_ne e]; exact rec1 hz
      rw [argL_v] at h
      split at h
      · cases h
      · rename_i hto
        split at h
        · rename_i d
          split at h
          · rename_i y z hy hz
            obtain rfl := Option.some.inj h
            obtain ⟨g1, s0, p0, g2⟩ := h1
            exact fin hz fun s' p' => VR.entry hy hto g2 (.inl ⟨g1, hF⟩)
          · cases h
        · rename_i s1 p1 t1
          split at h
          · rename_i d hd hno
            split at h
            · rename_i y z hy hz
              obtain rfl := Option.some.inj h
              have g2 := h1 d hd
              have : bor = true := hb _ List.mem_cons_self rfl
              obtain ⟨T, x, g3, _⟩ := getP_val hd
              exact fin hz fun s' p' => VR.entry hy hto g2 (.inr ⟨hno, hB this _ _ g3⟩)
            · cases h
          · cases h
        · cases h
  | .fn f ts :: r, n, e :: es, vs, H, h, hf, hb, tfc, ht, stX, s => by
    cases vs with
    | nil => exact hf.elim
    | cons v0 vs =>
      obtain ⟨h1, h2⟩ := hf
      have hv0 : tfc n = v0 := ht 0 v0 rfl
      rw [argL_fn] at h
      split at h
      · rename_i f' ds
        split at h
        · rename_i hc
          simp only [Bool.and_eq_true, List.all_eq_true, Bool.not_eq_true'] at hc
          have hff : f' = f := Nat.eq_of_beq_eq_true hc.1
          subst hff
          split at h
          · rename_i y z hy hz
            obtain rfl := Option.some.inj h
            obtain ⟨us, g1, g2, g3⟩ := h1
            simp only [idx, mkSt]
            by_cases e : s = n
            · subst e
              rw [beq_self]
              simp only [ER]
              obtain ⟨k1, k2⟩ := HL_of ts ds hy
              refine ⟨us, by rw [hv0, g1], by rw [g2, k1], fun j d u hd hu => ?_⟩
              obtain ⟨d0, e1, e2, e3⟩ := k2 j d hd
              obtain ⟨q1, s0, p0, q2⟩ := g3 j d0 u e1 hu
              exact ⟨hc.2 _ e2, VR.entry e3 (hc.2 _ e2) q2 (.inl ⟨q1, hF⟩)⟩
            · rw [beq_ne e]
              exact argL_sound hF hB r (n + 1) es _ hz h2 (fun e he => hb e (List.mem_cons_of_mem _ he)) tfc (fun i v hv => by rw [← ht (i + 1) v (by simpa using hv)]; congr 1; omega) stX s
          · cases h
        · cases h
      · cases h
/-- A function's results, as a value. -/
def resVal : List Value → Value
  | [v] => v
  | l => .tuple l.toArray
/-- .. or the function that is made. -/
def retV (F : Fn) (vs : List Value) : Value :=
  match F.mkf with
  | none => resVal vs
  | some g => .func (.func g) #[] vs.toArray
/-- What a call must do. -/
def CallOk (P : Program) (F : Fn) (h : LL (F.sh 0)) (r : HR F.rs) : Prop :=
  ∀ (M : Sc) (w : World) (ow : Own) (args : Array Value) (tf : Nat → Value), M.pin = F.ino → (∀ s, tf s = args.getD s undef) → Rel M w w ow tf (mkSt (F.sh 0) h) →
    Calls P F.fid args w fun e w' => ∃ (vs : List Value) (ow' : Own), e = .returned (retV F vs) ∧ Kp M w w' ∧ (∀ b l, ow' b = some l → M.m b ∧ b < w'.heap.size) ∧ (vs ++ F.ino.map tf).length = (HR.dvs F.rs r).length ∧
      ∀ (j : Nat) (d : Dv) (v : Value), (HR.dvs F.rs r)[j]? = some d → (vs ++ F.ino.map tf)[j]? = some v → VR w' ow' M.f d (VB + 1 + j) [] v
theorem HR_ty : ∀ (ts : List Ty) (x : HR ts) (d : Dv), d ∈ HR.dvs ts x → d.1 ∈ ts
  | [], x, d, h => by simp [HR.dvs] at h
  | [t], x, d, h => by simp only [HR.dvs, List.mem_singleton] at h; subst h; exact List.mem_singleton.2 rfl
  | t :: u :: ts, x, d, h => by
    simp only [HR.dvs, List.mem_cons] at h
    rcases h with rfl | h
    · exact List.mem_cons_self
    · exact List.mem_cons_of_mem _ (HR_ty (u :: ts) x.2 d h)
/-- What a call hands back, in hand. -/
theorem hand_result {F : Fn} {bor : Bool} {ds : List Dv} {vs : List Value} (h : Rel M W w ow tf st) (hn : st VB = .dead) (hK : Kp (scC M w ow bor) w w') (ho : ∀ b l, ow' b = some l → w.heap.size ≤ b ∧ b < w'.heap.size)
    (hlen : vs.length = ds.length) (hok : ∀ d ∈ ds, d.1.okR bor = true) (hmk : F.mkf ≠ none → ∀ d ∈ ds, d.1.hasOwn = false) (hr : ∀ (j : Nat) (d : Dv) (v : Value), ds[j]? = some d → vs[j]? = some v → VR w' ow' (scC M w ow bor).f d (VB + 1 + j) [] v) :
    ∃ ow2, Hand M W w' ow2 tf st VB (resF F ds) (retV F vs) := by
  let one : Bool := Nat.beq ds.length 1
  let ow2 : Own := fun b => match ow' b with
    | some (s', q) => if one then some (VB, q) else some (VB, .i (s' - (VB + 1)) :: q)
    | none => ow b
  have hlow : ∀ b l, ow b = some l → ow' b = none := fun b l hb => by
    cases hb' : ow' b with
    | none => rfl
    | some l' => exact absurd (h.own b l hb).2 (Nat.not_lt_of_le (ho b l' hb').1)
  have how : ∀ b, b < w.heap.size → ow2 b = ow b := fun b hb => by
    simp only [ow2]
    cases hb' : ow' b with
    | none => rfl
    | some l' => exact absurd hb (Nat.not_lt_of_le (ho b l' hb').1)
  have hnew : ∀ b, w.heap.size ≤ b → ow b = none := fun b hb => by
    cases hb' : ow b with
    | none => rfl
    | some l => exact absurd (h.own b l hb').2 (Nat.not_lt_of_le hb)
  have hsz : w.heap.size ≤ w'.heap.size := hK.2.2.2.1
  have hw : ∀ b, b < w.heap.size → w'.heap[b]? = w.heap[b]? := fun b hb => hK.2.2.2.2 b (Nat.not_le_of_lt hb)
  have hMm : ∀ b, w.heap.size ≤ b → M.m b := fun b hb => h.top b (Nat.le_trans h.fr.2.2.2.1 hb)
  have hfr : Kp M W w' := ⟨hK.1.trans h.fr.1, hK.2.1.trans h.fr.2.1, hK.2.2.1.trans h.fr.2.2.1, Nat.le_trans h.fr.2.2.2.1 hsz, fun b hb => by
    have : b < w.heap.size := Nat.lt_of_not_le fun k => hb (hMm b k)
    rw [hw b this]; exact h.fr.2.2.2.2 b hb⟩
  have hbase : Rel M W w' ow2 tf st := by
    refine ⟨hfr, fun x => ?_, fun b l hl => ?_, h.top⟩
    · refine ER.keep hsz rfl (fun b hb hn => ⟨by rw [how b hb]; exact hn, hw b hb⟩) (fun b q hb hq => ⟨by rw [how b hb]; exact hq, hw b hb⟩) (fun s' dd hs' hdd => ⟨hdd, rfl, h.vr hdd, fun b q hb hq => hw b hb⟩) (h.ent x)
    · simp only [ow2] at hl
      cases hb' : ow' b with
      | none => rw [hb'] at hl; exact ⟨(h.own b l hl).1, Nat.lt_of_lt_of_le (h.own b l hl).2 hsz⟩
      | some l' => exact ⟨hMm b (ho b l' hb').1, (ho b l' hb').2⟩
  have tr : ∀ (j : Nat) (d : Dv) (v : Value), ds[j]? = some d → vs[j]? = some v → ∀ p', (∀ b q, ow' b = some (VB + 1 + j, q) → ow2 b = some (VB, p' ++ q)) → VR w' ow2 M.f d VB p' v := fun j d v hd hv p' hp => by
    obtain ⟨k1, k2, k3⟩ := hr j d v hd hv
    refine ⟨k1, k2, rdTr (ow := ow') (bs := (scC M w ow bor).f) (ok := fun f => f || !bor) (sp := false) (s := VB + 1 + j) (p := []) (fun q b hq _ hb hF => ?_) d.1 (Ty.okR_okA bor d.1 (hok d (List.mem_of_getElem? hd))) (fun _ b q hq => hp b q hq) (fun _ q b q' hl _ => M.mf q b (hMm b (ho b _ hl).1)) k3⟩
    have e2 : ow2 b = ow b := by simp only [ow2, hb]
    rw [e2]
    cases q with
    | true =>
      rcases hF with hF | hF
      · exact ⟨hnew b hF, M.mf true b (hMm b hF)⟩
      · exact hF
    | false =>
      rcases hF with hF | hF | hF
      · subst hF; cases hq
      · exact ⟨hnew b hF, M.mf false b (hMm b hF)⟩
      · exact hF
  have tr0 : ∀ (j : Nat) (d : Dv) (v : Value), ds[j]? = some d → vs[j]? = some v → d.1.hasOwn = false → VR w' ow2 M.f d VB [] v := fun j d v hd hv hno => by
    obtain ⟨k1, k2, k3⟩ := hr j d v hd hv
    refine ⟨k1, k2, rdTr (ow := ow') (bs := (scC M w ow bor).f) (ok := fun f => f || !bor) (sp := false) (s := VB + 1 + j) (p := []) (fun q b hq _ hb hF => ?_) d.1 (Ty.okR_okA bor d.1 (hok d (List.mem_of_getElem? hd))) (fun e => by rw [hno] at e; cases e) (fun e => by rw [hno] at e; cases e) k3⟩
    have e2 : ow2 b = ow b := by simp only [ow2, hb]
    rw [e2]
    cases q with
    | true =>
      rcases hF with hF | hF
      · exact ⟨hnew b hF, M.mf true b (hMm b hF)⟩
      · exact hF
    | false =>
      rcases hF with hF | hF | hF
      · subst hF; cases hq
      · exact ⟨hnew b hF, M.mf false b (hMm b hF)⟩
      · exact hF
  unfold resF retV
  cases hF : F.mkf with
  | some g =>
    show ∃ ow2, Hand M W w' ow2 tf st VB (.fn g ds) (.func (.func g) #[] vs.toArray)
    refine ⟨ow2, hbase.hand hn (by simp [Ent.names]) ?_⟩
    simp only [ER, upd_same]
    refine ⟨vs, rfl, hlen, fun j d v hd hv => ?_⟩
    have hno := hmk (by rw [hF]; simp) d (List.mem_of_getElem? hd)
    exact ⟨hno, tr0 j d v hd hv hno⟩
  | none =>
  show ∃ ow2, Hand M W w' ow2 tf st VB (resE ds) (resVal vs)
  refine ⟨ow2, hbase.hand hn ?_ ?_⟩
  · unfold resE; split <;> simp [Ent.names]
  · unfold resE
    split
    · rename_i d
      obtain ⟨v, rfl⟩ := List.length_eq_one_iff.1 hlen
      simp only [ER, upd_same, resVal]
      exact tr 0 d v rfl rfl [] (fun b q hq => by simp only [ow2, hq]; rfl)
    · rename_i hne
      have h1 : ds.length ≠ 1 := fun e => by obtain ⟨d, e⟩ := List.length_eq_one_iff.1 e; exact hne d e
      have hone : one = false := beq_ne h1
      simp only [ER, upd_same]
      refine ⟨vs, ?_, hlen, fun j d v hd hv _ => tr j d v hd hv [.i j] (fun b q hq => ?_)⟩
      · unfold resVal
        split
        · simp only [List.length_singleton] at hlen; exact absurd hlen.symm h1
        · rfl
      · simp only [ow2, hq, hone]
        simp
/-- What a callee may change to which a slot's box is given. -/
def scI (M : Sc) (w : World) (ow : Own) (bor : Bool) (s : Nat) : Sc where
  m b := w.heap.size ≤ b ∨ ∃ q, ow b = some (s, q)
  f := { t := fun b => (w.heap.size ≤ b ∨ ∃ q, ow b = some (s, q)) ∨ (ow b = none ∧ M.f.t b), s := fun b => bor = true ∨ (w.heap.size ≤ b ∨ ∃ q, ow b = some (s, q)) ∨ (ow b = none ∧ M.f.s b)
         ts := fun b h => .inr (h.imp id fun k => ⟨k.1, M.f.ts b k.2⟩) }
  mf q b h := by cases q with | true => exact .inl h | false => exact .inr (.inl h)
  pin := [0]
theorem scI_at {bor q : Bool} {b s : Nat} (h1 : ow b = none) (h2 : M.f.at q b) : (scI M w ow bor s).f.at q b := by
  cases q with
  | true => exact .inr ⟨h1, h2⟩
  | false => exact .inr (.inr ⟨h1, h2⟩)
/-- The box, as the callee has it. -/
theorem box_in {d : Dv} {t : Ty} {y : t.den} {v : Value} {s : Nat} {bor : Bool} (hc : Rf.coe t d.1 d.2 = some y) (hv : VR w ow M.f d s [] v) :
    ∃ Oc : Own, VR w Oc (scI M w ow bor s).f ⟨t, y⟩ 0 [] v ∧ (∀ b, (∀ q, ow b ≠ some (s, q)) → Oc b = none) ∧ ∀ b l, Oc b = some l → ∃ q, ow b = some (s, q) := by
  obtain ⟨h1, h2, h3⟩ := hv
  obtain ⟨k1, k2⟩ := coe_sz _ _ hc
  obtain ⟨o, hl, h5⟩ := Rd.coe _ _ hc h3
  let Oc : Own := fun b => match o b with | some (s1, q) => if s1 = s then some (0, q) else none | none => none
  have hlab : ∀ b, o b = none → ow b = none ∨ ∃ q, ow b = some (s, q) := fun b hb => by
    cases hb' : ow b with
    | none => exact .inl rfl
    | some l =>
      rcases hl.2 b l hb' with k | ⟨_, q, e⟩
      · rw [hb] at k; cases k
      · exact .inr ⟨_, by rw [e]⟩
  have hOc : ∀ b l, Oc b = some l → ∃ q, ow b = some (s, q) := fun b l hb => by
    simp only [Oc] at hb
    cases ho : o b with
    | none => rw [ho] at hb; cases hb
    | some l1 =>
      obtain ⟨s1, q⟩ := l1
      rw [ho] at hb
      by_cases hs : s1 = s
      · subst hs; exact ⟨q, hl.some ho⟩
      · simp only [hs, if_false] at hb; cases hb
  refine ⟨Oc, ⟨by rw [← h1, k2], by rw [h2, k1], ?_⟩, fun b hb => ?_, hOc⟩
  · refine rdTr (ow := o) (bs := M.f) (ok := fun _ => true) (sp := true) (s := s) (p := []) (fun q b _ _ hb hq => ⟨by simp only [Oc, hb], ?_⟩) t (Ty.okA_all _) (fun _ b q hq => ?_) (fun _ q b q' hq _ => ?_) h5
    · rcases hlab b hb with k | k
      · exact scI_at k hq
      · exact (scI M w ow bor s).mf q b (.inr k)
    · rw [List.nil_append] at hq ⊢; simp only [Oc, hq, if_true]
    · exact (scI M w ow bor s).mf q b (.inr ⟨_, hl.some hq⟩)
  · cases hb' : Oc b with
    | none => rfl
    | some l => obtain ⟨q, e⟩ := hOc b l hb'; exact absurd e (hb q)
/-- What a call hands back, in hand, and the box where it stood. -/
theorem hand_resultI {bor : Bool} {ds : List Dv} {d : Dv} {vs : List Value} {s : Nat} (h : Rel M W w ow tf st) (hs : st s = .dead) (hsn : s ≠ VB) (hn : st VB = .dead) (hK : Kp (scI M w ow bor s) w w')
    (ho : ∀ b l, ow' b = some l → (scI M w ow bor s).m b ∧ b < w'.heap.size) (hlen : vs.length = ds.length) (hok : ∀ d ∈ ds, d.1.okR bor = true) (hokd : d.1.okR bor = true)
    (hr : ∀ (j : Nat) (d : Dv) (v : Value), ds[j]? = some d → vs[j]? = some v → VR w' ow' (scI M w ow bor s).f d (VB + 1 + j) [] v) (hrd : VR w' ow' (scI M w ow bor s).f d (VB + 1 + ds.length) [] (tf s)) :
    ∃ ow2, Hand M W w' ow2 tf (setS st (some s) (.val d)) VB (resE ds) (resVal vs) := by
  let one : Bool := Nat.beq ds.length 1
  let ow2 : Own := fun b => match ow' b with
    | some (s', q) => if s' = VB + 1 + ds.length then some (s, q) else if one then some (VB, q) else some (VB, .i (s' - (VB + 1)) :: q)
    | none => match ow b with
      | some (s', q) => if s' = s then none else some (s', q)
      | none => none
  have hm : ∀ b, (scI M w ow bor s).m b → M.m b := fun b hb => by
    rcases hb with hb | ⟨q, hb⟩
    · exact h.top b (Nat.le_trans h.fr.2.2.2.1 hb)
    · exact (h.own b _ hb).1
  have hnew : ∀ b, w.heap.size ≤ b → ow b = none := fun b hb => by
    cases hb' : ow b with
    | none => rfl
    | some l => exact absurd (h.own b l hb').2 (Nat.not_lt_of_le hb)
  have hsz : w.heap.size ≤ w'.heap.size := hK.2.2.2.1
  have hno : ∀ b, b < w.heap.size → (∀ q, ow b ≠ some (s, q)) → ow' b = none ∧ w'.heap[b]? = w.heap[b]? := fun b hb hq => by
    have hnm : ¬ (scI M w ow bor s).m b := fun k => by
      rcases k with k | ⟨q, k⟩
      · exact Nat.not_lt_of_le k hb
      · exact hq q k
    refine ⟨?_, hK.2.2.2.2 b hnm⟩
    cases hb' : ow' b with
    | none => rfl
    | some l => exact absurd (ho b l hb').1 hnm
  have hfr : Kp M W w' := ⟨hK.1.trans h.fr.1, hK.2.1.trans h.fr.2.1, hK.2.2.1.trans h.fr.2.2.1, Nat.le_trans h.fr.2.2.2.1 hsz, fun b hb => by
    rw [hK.2.2.2.2 b (fun k => hb (hm b k))]; exact h.fr.2.2.2.2 b hb⟩
  have hbase : Rel M W w' ow2 tf st := by
    refine ⟨hfr, fun x => ?_, fun b l hl => ?_, h.top⟩
    · by_cases hx : x = s
      · subst hx; rw [hs]; trivial
      · refine ER.keep hsz rfl (fun b hb hn => ?_) (fun b q hb hq => ?_) (fun s' dd hs' hdd => ⟨hdd, rfl, h.vr hdd, fun b q hb hq => ?_⟩) (h.ent x)
        · obtain ⟨k1, k2⟩ := hno b hb (fun q e => by rw [hn] at e; cases e)
          exact ⟨by simp only [ow2, k1, hn], k2⟩
        · obtain ⟨k1, k2⟩ := hno b hb (fun q' e => by rw [hq] at e; simp only [Option.some.injEq, Prod.mk.injEq] at e; exact hx e.1)
          exact ⟨by simp only [ow2, k1, hq, if_neg hx], k2⟩
        · have hss : s' ≠ s := fun e => by rw [e, hs] at hdd; cases hdd
          exact (hno b hb (fun q' e => by rw [hq] at e; simp only [Option.some.injEq, Prod.mk.injEq] at e; exact hss e.1)).2
    · simp only [ow2] at hl
      cases hb' : ow' b with
      | none =>
        rw [hb'] at hl
        cases hb2 : ow b with
        | none => rw [hb2] at hl; cases hl
        | some l2 => exact ⟨(h.own b l2 hb2).1, Nat.lt_of_lt_of_le (h.own b l2 hb2).2 hsz⟩
      | some l' => exact ⟨hm b (ho b l' hb').1, (ho b l' hb').2⟩
  have tr : ∀ (j : Nat) (d : Dv) (v : Value), d.1.okR bor = true → VR w' ow' (scI M w ow bor s).f d (VB + 1 + j) [] v → ∀ s' p', (∀ b q, ow' b = some (VB + 1 + j, q) → ow2 b = some (s', p' ++ q)) → VR w' ow2 M.f d s' p' v := fun j d v hd hv s' p' hp => by
    obtain ⟨k1, k2, k3⟩ := hv
    have hno2 : ∀ b, ow' b = none → (scI M w ow bor s).m b → ow2 b = none := fun b hb hm => by
      simp only [ow2, hb]
      rcases hm with hm | ⟨q, hm⟩
      · rw [hnew b hm]
      · rw [hm]; simp
    refine ⟨k1, k2, rdTr (ow := ow') (bs := (scI M w ow bor s).f) (ok := fun f => f || !bor) (sp := false) (s := VB + 1 + j) (p := []) (fun q b hq _ hb hF => ?_) d.1 (Ty.okR_okA bor d.1 hd) (fun _ b q hq => hp b q hq) (fun _ q b q' hl _ => M.mf q b (hm b (ho b _ hl).1)) k3⟩
    have hn0 : ow b = none → ow2 b = none := fun e => by simp only [ow2, hb, e]
    cases q with
    | true =>
      rcases hF with hF | hF
      · exact ⟨hno2 b hb hF, M.mf true b (hm b hF)⟩
      · exact ⟨hn0 hF.1, hF.2⟩
    | false =>
      rcases hF with hF | hF | hF
      · subst hF; cases hq
      · exact ⟨hno2 b hb hF, M.mf false b (hm b hF)⟩
      · exact ⟨hn0 hF.1, hF.2⟩
  have hbox : Rel M W w' ow2 tf (setS st (some s) (.val d)) := by
    have := (hbase.hand (n := s) (v := tf s) (e := .val d) hs (by simp [Ent.names]) (by
      simp only [ER, upd_same]
      exact tr ds.length d (tf s) hokd hrd s [] (fun b q hq => by simp only [ow2, hq, if_true]; rfl))).2.2
    have e : upd tf s (tf s) = tf := by funext x; unfold upd; split <;> simp_all
    rwa [e] at this
  have hn' : setS st (some s) (.val d) VB = .dead := by
    rw [setS_ne _ _ (Ne.symm hsn), hn]; split <;> rfl
  have hjl : ∀ j, j < ds.length → VB + 1 + j ≠ VB + 1 + ds.length := fun j hj => by omega
  refine ⟨ow2, hbox.hand hn' ?_ ?_⟩
  · unfold resE; split <;> simp [Ent.names]
  · unfold resE
    split
    · rename_i d0
      obtain ⟨v, rfl⟩ := List.length_eq_one_iff.1 hlen
      simp only [ER, upd_same, resVal]
      exact tr 0 d0 v (hok d0 (by simp)) (hr 0 d0 v rfl rfl) VB [] (fun b q hq => by simp only [ow2, hq, if_neg (hjl 0 (by simp))]; rfl)
    · rename_i hne
      have h1 : ds.length ≠ 1 := fun e => by obtain ⟨d, e⟩ := List.length_eq_one_iff.1 e; exact hne d e
      have hone : one = false := beq_ne h1
      simp only [ER, upd_same]
      refine ⟨vs, ?_, hlen, fun j d v hd hv _ => tr j d v (hok d (List.mem_of_getElem? hd)) (hr j d v hd hv) VB [.i j] (fun b q hq => ?_)⟩
      · unfold resVal
        split
        · simp only [List.length_singleton] at hlen; exact absurd hlen.symm h1
        · rfl
      · have hj : j < ds.length := (List.getElem?_eq_some_iff.1 hd).1
        simp only [ow2, hq, if_neg (hjl j hj), hone]
        simp
end Go.Proofs.Ytlmcalffemklnaa.Rf
namespace Go.Proofs.Ytlmcalffemklnaa.Rf
variable {M : Sc} {W w w' : World} {ow ow' : Own} {tf tf' : Nat → Value} {st st1 st2 st' : St} {ρ : Type}
variable {o : Oper} {a : Act} {κ : St → Option ρ} {r : ρ} {Q : Exit → Act → World → Prop}
structure Good (C : Cx ρ) : Prop where
  fns : ∀ (v : Nat) (F : Fn), C.tab[v]? = some F → C.P.funcs[F.fid]? = some F.f ∧ (F.f.name == "runtime.NumGoroutine") = false ∧ F.f.body.isNone = false
  ok : ∀ (v : Nat) (h : LL ((C.fn v).sh 0)) (r : HR (C.fn v).rs), v < C.tab.length → C.D v 0 h = some r → CallOk C.P (C.fn v) h r
theorem callV_spec {C : Cx ρ} {f : FuncId} {es : List Ent} {κ : Ent → Option ρ} : ∀ (v : Nat) (Fs : List Fn), Fs = C.tab.drop v → callV C st f es κ v Fs = some r →
    ∃ v' h r', v' < C.tab.length ∧ (C.fn v').fid = f ∧ argL st 0 (C.fn v').ps es = some h ∧ ((C.fn v').rs.all (Ty.okR (es.any Ent.borrows)) && mkB (C.fn v')) = true ∧ C.D v' 0 h = some r' ∧ κ (resF (C.fn v') (HR.dvs (C.fn v').rs r')) = some r
  | v, [], _, h => by simp only [callV, reduceCtorEq] at h
  | v, F :: Fs, hF, h => by
    have hlt : v < C.tab.length := Nat.lt_of_not_le fun hle => by rw [List.drop_eq_nil_of_le hle] at hF; cases hF
    have e := List.drop_eq_getElem_cons hlt
    rw [e] at hF
    obtain ⟨e1, e2⟩ := List.cons.inj hF
    have hv : C.fn v = F := by
      unfold Cx.fn
      rw [List.getD_eq_getElem?_getD, List.getElem?_eq_getElem hlt, e1]; rfl
    simp only [callV] at h
    split at h
    · rename_i hfid
      split at h
      · rename_i H hH
        split at h
        · rename_i hok
          cases hD : C.D v 0 H with
          | none => rw [hD] at h; cases h
          | some r' =>
            rw [hD] at h
            exact ⟨v, H, r', hlt, by rw [hv]; exact Nat.eq_of_beq_eq_true hfid, hH, hok, hD, h⟩
        · cases h
      · exact callV_spec (v + 1) Fs e2 h
    · exact callV_spec (v + 1) Fs e2 h
theorem mkB_spec {F : Fn} (h : mkB F = true) : F.ino = [] ∧ (F.mkf ≠ none → ∀ t ∈ F.rs, t.hasOwn = false) := by
  simp only [mkB, Bool.and_eq_true] at h
  refine ⟨?_, fun hm t ht => ?_⟩
  · have := h.1
    split at this
    · assumption
    · cases this
  · have := h.2
    split at this
    · rename_i e; exact absurd e hm
    · simpa using List.all_eq_true.1 this t ht
theorem callI_spec {C : Cx ρ} {st0 : St} {f : FuncId} {s : Nat} {lt : Dv} {es : List Ent} {κ : St → Ent → Option ρ} : ∀ (v : Nat) (Fs : List Fn), Fs = C.tab.drop v → callI C st0 st f s lt es κ v Fs = some r →
    ∃ v' h r' ds f2 u2 y2, v' < C.tab.length ∧ (C.fn v').fid = f ∧ argI st lt (C.fn v').ps es = some h ∧ ((C.fn v').rs.all (Ty.okR (es.any Ent.borrows)) && (match (C.fn v').mkf with | none => true | some _ => false)) = true ∧ C.D v' 0 h = some r' ∧ lastD' (HR.dvs (C.fn v').rs r') = some (ds, ⟨.optr f2 u2, y2⟩) ∧ κ (back st0 st s f2 u2 y2) (resE ds) = some r
  | v, [], _, h => by simp only [callI, reduceCtorEq] at h
  | v, F :: Fs, hF, h => by
    have hlt : v < C.tab.length := Nat.lt_of_not_le fun hle => by rw [List.drop_eq_nil_of_le hle] at hF; cases hF
    have e := List.drop_eq_getElem_cons hlt
    rw [e] at hF
    obtain ⟨e1, e2⟩ := List.cons.inj hF
    have hv : C.fn v = F := by
      unfold Cx.fn
      rw [List.getD_eq_getElem?_getD, List.getElem?_eq_getElem hlt, e1]; rfl
    simp only [callI] at h
    split at h
    · rename_i hfid
      split at h
      · rename_i H hH
        split at h
        · rename_i hok
          cases hD : C.D v 0 H with
          | none => rw [hD] at h; cases h
          | some r' =>
            rw [hD] at h
            dsimp only [Option.bind] at h
            split at h
            · rename_i ds f2 u2 y2 hl
              exact ⟨v, H, r', ds, f2, u2, y2, hlt, by rw [hv]; exact Nat.eq_of_beq_eq_true hfid, hH, hok, hD, hl, h⟩
            · cases h
        · cases h
      · exact callI_spec (v + 1) Fs e2 h
    · exact callI_spec (v + 1) Fs e2 h
theorem argI_o {lt : Dv} {f : Bool} {u : Ty} {r : List LS} {e : Ent} {es : List Ent} : argI st lt (.v (.optr f u) :: r) (e :: es) = (match Rf.coe (.optr f u) lt.1 lt.2, argL st 1 r es with | some x, some y => some (x, y) | _, _ => none : Option (u.den × LL (idx 1 r))) := rfl
theorem lastD'_spec : ∀ {l : List Dv} {ds : List Dv} {d : Dv}, lastD' l = some (ds, d) → l = ds ++ [d]
  | [], _, _, h => by cases h
  | [x], ds, d, h => by simp only [lastD', Option.some.injEq, Prod.mk.injEq] at h; obtain ⟨rfl, rfl⟩ := h; rfl
  | x :: y :: l, ds, d, h => by
    simp only [lastD'] at h
    split at h
    · rename_i r z hr
      simp only [Option.some.injEq, Prod.mk.injEq] at h
      obtain ⟨rfl, rfl⟩ := h
      rw [lastD'_spec hr]; rfl
    · cases h
theorem lentS_spec {x : Operand} {s : Nat} {g : Bool} {u : Ty} {y : u.den} (h : Rel M W w ow tf st) (hl : lentS st x = some s) (hs : st s = .val ⟨.optr g u, y⟩) : ev tf x = tf s := by
  unfold lentS at hl
  split at hl
  · rename_i z
    split at hl
    · simp only [Option.some.injEq] at hl; subst hl; rfl
    · rename_i s' t hz
      simp only [Option.some.injEq] at hl; subst hl
      have k := h.ent z
      rw [hz] at k
      obtain ⟨d, e1, t', b, o, e2, e3⟩ := k
      rw [hs] at e1
      simp only [Ent.val.injEq] at e1; subst e1
      obtain ⟨k1, k2, k3⟩ := h.vr hs
      simp only [Rd] at k3
      obtain ⟨b1, g1, _⟩ := k3
      simp only [walk, cellAt, g1, Option.some.injEq, Prod.mk.injEq] at e2
      obtain ⟨_, rfl, rfl⟩ := e2
      show tf z = tf s'
      rw [e3]
      have hna : ¬ ∃ cs, tf s' = .agg cs := fun k => by have := k1.2 k; cases this
      cases hv : tf s' <;> rw [hv] at g1 hna <;> first | exact (by simpa [Value.cells] using g1.symm) | exact absurd ⟨_, rfl⟩ hna
    · cases hl
  · cases hl
theorem asFn_spec {e : Ent} {f : FuncId} {ds : List Dv} (h : asFn e = some (f, ds)) : e = .fn f ds := by
  unfold asFn at h; split at h
  · simp only [Option.some.injEq, Prod.mk.injEq] at h; rw [h.1, h.2]
  · cases h
theorem argsE_ents (h : Rel M W w ow tf st) : ∀ (l : List Operand) {es : List Ent} {vs : List Value}, ArgsE w ow M.f st es vs → ArgsE w ow M.f st (entsOf st l ++ es) (l.map (ev tf) ++ vs)
  | [], _, _, k => k
  | x :: l, _, _, k => ⟨entOf_sound h x, argsE_ents h l k⟩
theorem argsE_caps : ∀ (ds : List Dv) (vs : List Value), vs.length = ds.length → (∀ (j : Nat) (d : Dv) (u : Value), ds[j]? = some d → vs[j]? = some u → d.1.hasOwn = false ∧ ∃ s p, VR w ow M.f d s p u) → ArgsE w ow M.f st (ends ds) vs
  | [], [], _, _ => trivial
  | [], _ :: _, h, _ => by cases h
  | _ :: _, [], h, _ => by cases h
  | d :: ds, v :: vs, h, k => ⟨k 0 d v rfl rfl, argsE_caps ds vs (Nat.succ.inj h) fun j d' u hd hu => k (j + 1) d' u (by simpa using hd) (by simpa using hu)⟩
theorem run_call {P : Program} {f : FuncId} {args : Array Operand} {ts : Array TypeId} {x : Operand} {us : List Value} {fn : Func} (ho : o.op = .call { callee := .value x, args := args, argTypes := ts })
    (hx : ev (tfA a) x = .func (.func f) #[] us.toArray) (hf : P.funcs[f]? = some fn) (hn : (fn.name == "runtime.NumGoroutine") = false) (hb : fn.body.isNone = false) :
    (execOp a.eval o).run P w = .ok (.enter f (args.toList.map (ev (tfA a)) ++ us).toArray) w := by
  simp only [execOp, ho, resolve, eval_ev, hx, Deferred.ofValue, Sem.run_bind, Sem.run_pure, Result.andThen_ok, invoke, callFunc]
  have hp : (program : Sem Program).run P w = .ok P w := rfl
  simp only [hp, Result.andThen_ok, hf, hn, hb, Bool.false_eq_true, if_false, Sem.run_pure]
  congr 2
  apply Array.ext'
  simp
theorem Hand.back {stB : St} {n s : Nat} {e : Ent} {v : Value} {f : Bool} {u : Ty} {y : u.den} (h : Hand M W w ow tf st n e v) (hs : st s = .val ⟨.optr f u, y⟩) (hsn : s ≠ n)
    (hst : ∀ x, stB x = st x ∨ (st x = .dead ∧ x ≠ s ∧ x ≠ n ∧ stB x = .ref s [.d] u ∧ tf x = tf s)) : Hand M W w ow tf stB n e v := by
  obtain ⟨⟨f1, f2⟩, g, k⟩ := h
  have hB : stB n = .dead := by
    rcases hst n with q | q
    · rw [q]; exact f1
    · exact absurd rfl q.2.2.1
  have hset : ∀ {z : St}, z n = .dead → ∀ x, x ≠ n → setS z (some n) e x = z x := fun hz x hx => by rw [setS_ne _ _ hx, hz]; rfl
  refine ⟨⟨hB, fun x hx => ?_⟩, g, k.back (s := s) (f := f) (u := u) (y := y) (by rw [hset f1 s hsn]; exact hs) fun x => ?_⟩
  · rcases hst x with q | q
    · rw [q] at hx; exact f2 x hx
    · rw [q.2.2.2.1] at hx; simp only [Ent.names, Option.some.injEq] at hx; exact hsn hx
  · by_cases hx : x = n
    · subst hx; left; rw [setS_same, setS_same]
    · rw [hset hB x hx, hset f1 x hx]
      rcases hst x with q | q
      · exact .inl q
      · exact .inr ⟨q.1, q.2.2.2.1, by rw [upd_ne _ _ hx, upd_ne _ _ hsn]; exact q.2.2.2.2⟩
theorem exec1_call {C : Cx ρ} (hC : Good C) {args : Array Operand} {ts : Array TypeId} {x : Operand} (ho : o.op = .call { callee := .value x, args := args, argTypes := ts }) (hd : dstOk M o a.tmps.size) (hf : Fin st)
    (h : Rel M W w ow (tfA a) st) (hx : exec1 C st o κ = some r) : o.wp C.P a w (Nx M W st o κ r a) Q := by
  have hn := hf VB (Nat.le_refl _)
  unfold exec1 at hx
  rw [ho] at hx
  dsimp only at hx
  split at hx
  · rename_i f ds hfn
    have hfn := asFn_spec hfn
    obtain ⟨us, e1, e2, e3⟩ : ∃ us : List Value, ev (tfA a) x = .func (.func f) #[] us.toArray ∧ us.length = ds.length ∧ ∀ (j : Nat) (d : Dv) (u : Value), ds[j]? = some d → us[j]? = some u → d.1.hasOwn = false ∧ ∃ s p, VR w ow M.f d s p u := by
      cases x with
      | tmp s =>
        have k := h.ent s
        simp only [opd] at hfn
        rw [hfn] at k
        obtain ⟨vs, h1, h2, h3⟩ := k
        exact ⟨vs, h1, h2, fun j d u hd hu => ⟨(h3 j d u hd hu).1, _, _, (h3 j d u hd hu).2⟩⟩
      | func g =>
        simp only [opd, Ent.fn.injEq] at hfn
        obtain ⟨rfl, rfl⟩ := hfn
        exact ⟨[], rfl, rfl, fun j d u hd => by simp at hd⟩
      | const v =>
        simp only [opd] at hfn
        rcases cst_cases hfn with e | ⟨d, e, _⟩ <;> cases e
      | global g => cases hfn
    cases hino : inoF f C.tab with
    | true =>
      rw [hino] at hx
      dsimp only at hx
      unfold callJ at hx
      split at hx
      · cases hx
      rename_i x0 xs hargs0
      rw [hargs0] at hx
      split at hx
      · rename_i s hls
        split at hx
        · rename_i g u y hs
          obtain ⟨v', H, r', ds', f2, u2, y2, k1, k2, k3, k4, k5, kl, k6⟩ := callI_spec 0 C.tab (by simp) hx
          obtain ⟨g1, g2, g3⟩ := hC.fns v' (C.fn v') (by unfold Cx.fn; rw [List.getD_eq_getElem?_getD, List.getElem?_eq_getElem k1]; rfl)
          rw [k2] at g1
          have hrun := run_call (w := w) ho e1 g1 g2 g3
          unfold Oper.wp
          rw [hrun, Oper.upon_enter]
          have hsn : s ≠ VB := fun e => by rw [e, hn] at hs; cases hs
          have hts : ∀ z, takeS st s z = st z ∨ takeS st s z = .dead := fun z => by
            by_cases hz : z = s
            · subst hz; exact .inr (takeS_same _ _)
            · rw [takeS_ne st hz]; exact drop_cases s (st z)
          have h1 : Rel M W w ow (tfA a) (takeS st s) := h.weaken hts fun z z' hz hn' => by
            have hzs : z ≠ s := fun e => hz (by rw [e, takeS_same])
            rw [takeS_ne st hzs] at hz hn'
            obtain ⟨q1, q2⟩ := drop_names hz
            rw [q1] at hn'
            have hzz : z' ≠ s := fun e => q2 (e ▸ hn')
            obtain ⟨_, d0, hd0⟩ := (h.ent z).names_own hn'
            rw [takeS_ne st hzz, hd0]; rfl
          have hdead : takeS st s s = .dead := takeS_same _ _
          have hn1 : takeS st s VB = .dead := by rcases hts VB with e | e <;> rw [e]; exact hn
          let es : List Ent := entsOf (takeS st s) (x0 :: xs) ++ ends ds
          let bor : Bool := es.any Ent.borrows
          let vs0 : List Value := args.toList.map (ev (tfA a)) ++ us
          have hargs : ArgsE w ow M.f (takeS st s) es vs0 := by
            have := argsE_ents h1 (x0 :: xs) (argsE_caps ds us e2 e3)
            simp only [vs0, hargs0]; exact this
          obtain ⟨f0, u0, ps, x1, y1, p1, p2, p3⟩ : ∃ (f0 : Bool) (u0 : Ty) (ps : List LS) (x1 : u0.den) (y1 : LL (idx 1 ps)), (C.fn v').ps = .v (.optr f0 u0) :: ps ∧ Rf.coe (.optr f0 u0) (.optr g u) y = some x1 ∧
              (argL (takeS st s) 1 ps es.tail = some y1 ∧ ∀ z, mkSt ((C.fn v').sh 0) H z = match Nat.beq z 0 with | true => .val ⟨.optr f0 u0, x1⟩ | false => mkSt (idx 1 ps) y1 z) := by
            have key : ∀ (l : List LS) (HH : LL (idx 0 l)), argI (takeS st s) ⟨.optr g u, y⟩ l es = some HH → ∃ (f0 : Bool) (u0 : Ty) (ps : List LS) (x1 : u0.den) (y1 : LL (idx 1 ps)), l = .v (.optr f0 u0) :: ps ∧ Rf.coe (.optr f0 u0) (.optr g u) y = some x1 ∧
              (argL (takeS st s) 1 ps es.tail = some y1 ∧ ∀ z, mkSt (idx 0 l) HH z = match Nat.beq z 0 with | true => .val ⟨.optr f0 u0, x1⟩ | false => mkSt (idx 1 ps) y1 z) := fun l HH hh => by
              have hes : es = entOf (takeS st s) x0 :: (entsOf (takeS st s) xs ++ ends ds) := rfl
              rw [hes] at hh
              cases l with
              | nil => exact absurd (show (none : Option (LL (idx 0 []))) = some HH from hh) (by simp)
              | cons l0 l =>
                cases l0 with
                | v t =>
                  cases t with
                  | optr f0 u0 =>
                    rw [argI_o] at hh
                    split at hh
                    · rename_i x1 y1 c1 c2
                      obtain rfl := Option.some.inj hh
                      exact ⟨f0, u0, l, x1, y1, rfl, c1, c2, fun z => rfl⟩
                    · cases hh
                  | _ => exact absurd (show (none : Option (LL (idx 0 _))) = some HH from hh) (by simp)
                | _ => exact absurd (show (none : Option (LL (idx 0 _))) = some HH from hh) (by simp)
            exact key (C.fn v').ps H k3
          have hpin : (C.fn v').ino = [0] := by unfold Fn.ino; rw [p1]; rfl
          have hv0 : ev (tfA a) x0 = tfA a s := lentS_spec h hls hs
          obtain ⟨Oc, b1, b2, b3⟩ := box_in (s := s) (bor := bor) p2 (h.vr hs)
          let tfc : Nat → Value := fun s => vs0.toArray.getD s undef
          have htf0 : tfc 0 = tfA a s := by
            rw [← hv0]; simp only [tfc, vs0, hargs0]; rfl
          have hrel : Rel (scI M w ow bor s) w w Oc tfc (mkSt ((C.fn v').sh 0) H) := by
            refine ⟨⟨rfl, rfl, rfl, Nat.le_refl _, fun _ _ => rfl⟩, fun z => ?_, fun b l hl => ?_, fun b hb => .inl hb⟩
            · rw [p3.2 z]
              by_cases hz : z = 0
              · subst hz
                rw [beq_self]
                show VR w Oc _ _ 0 [] (tfc 0)
                rw [htf0]; exact b1
              · rw [beq_ne hz]
                have hvs : vs0 = ev (tfA a) x0 :: (xs.map (ev (tfA a)) ++ us) := by simp only [vs0, hargs0]; rfl
                rw [hvs] at hargs
                refine argL_sound (st := takeS st s) (ow := ow) (M := M) (bor := bor) (fun q b hb hq => ⟨b2 b (fun q' e => by rw [hb] at e; cases e), scI_at hb hq⟩) (fun hb s2 d2 hs2 b hb2 => ⟨b2 b (fun q' e => ?_), .inl hb⟩) ps 1 _ (xs.map (ev (tfA a)) ++ us) p3.1 hargs.2 (fun e he hb => List.any_eq_true.2 ⟨e, List.mem_cons_of_mem _ he, hb⟩) tfc (fun i v hv => ?_) _ z
                · rcases hb2 with hb2 | ⟨q2, hb2⟩
                  · rw [hb2] at e; cases e
                  · rw [hb2] at e
                    simp only [Option.some.injEq, Prod.mk.injEq] at e
                    rw [e.1, hdead] at hs2; cases hs2
                · simp only [tfc, hvs, Array.getD_eq_getD_getElem?, List.getElem?_toArray, Nat.add_comm 1 i, List.getElem?_cons_succ, hv, Option.getD_some]
            · obtain ⟨q, e⟩ := b3 b l hl
              exact ⟨.inr ⟨q, e⟩, (h.own b _ e).2⟩
          have hcall := hC.ok v' H r' k1 k5 (scI M w ow bor s) w Oc vs0.toArray tfc (by rw [hpin]; rfl) (fun s => rfl) hrel
          rw [k2, hpin] at hcall
          rw [Bool.and_eq_true] at k4
          have hmk : (C.fn v').mkf = none := by
            have := k4.2
            split at this
            · assumption
            · cases this
          have k4 := k4.1
          simp only [retV, hmk] at hcall
          refine hcall.mono fun e w' he => ?_
          obtain ⟨vs, ow', rfl, q2, q3, q4, q5⟩ := he
          obtain ⟨d', hd'e⟩ : ∃ d' : Dv, d' = ⟨.optr f2 u2, y2⟩ := ⟨_, rfl⟩
          rw [← hd'e] at kl
          have hds := lastD'_spec kl
          rw [hds] at q4 q5
          simp only [List.map_cons, List.map_nil, List.length_append, List.length_singleton] at q4 q5
          have hlen : vs.length = ds'.length := by omega
          have hokm : ∀ d ∈ ds' ++ [d'], d.1.okR bor = true := fun d hd' => by
            have hd2 : d ∈ HR.dvs (C.fn v').rs r' := by rw [hds]; exact hd'
            exact List.all_eq_true.1 k4 _ (HR_ty _ r' d hd2)
          obtain ⟨ow3, hh⟩ := hand_resultI h1 hdead hsn hn1 q2 q3 hlen (fun d hd' => hokm d (List.mem_append_left _ hd')) (hokm d' (by simp)) (fun j d v hd' hv => q5 j d v (by rw [List.getElem?_append_left (List.getElem?_eq_some_iff.1 hd').1]; exact hd') (by rw [List.getElem?_append_left (List.getElem?_eq_some_iff.1 hv).1]; exact hv))
            (by rw [← htf0]; exact q5 ds'.length d' (tfc 0) (by simp) (by rw [← hlen]; simp))
          subst hd'e
          have hso : (takeS st s s).owns = false := by rw [hdead]; rfl
          have hset : ∀ z, z ≠ s → setS (takeS st s) (some s) (.val ⟨.optr f2 u2, y2⟩) z = takeS st s z := fun z hz => by rw [setS_ne _ _ hz, hso]; rfl
          have hbk : ∀ z, back st (takeS st s) s f2 u2 y2 z = setS (takeS st s) (some s) (.val ⟨.optr f2 u2, y2⟩) z ∨ (setS (takeS st s) (some s) (.val ⟨.optr f2 u2, y2⟩) z = .dead ∧ z ≠ s ∧ z ≠ VB ∧ back st (takeS st s) s f2 u2 y2 z = .ref s [.d] u2 ∧ tfA a z = tfA a s) := fun z => by
            by_cases hz : z = s
            · subst hz; left; rw [setS_same]; simp only [back, beq_self]; rfl
            · rw [hset z hz]
              simp only [back, beq_ne hz]
              split
              · rename_i s' tz hzs
                by_cases hs' : s' = s
                · subst hs'
                  rw [beq_self]
                  refine .inr ⟨by rw [takeS_ne st hz, hzs]; simp [Ent.drop, beq_self], hz, fun e => (by rw [e, hn] at hzs; cases hzs), rfl, ?_⟩
                  exact lentS_spec (x := .tmp z) h (by simp only [lentS, hzs]) hs
                · rw [beq_ne hs']; exact .inl rfl
              · exact .inl rfl
          refine nx_value (st := st) hd hf ⟨_, _, k6, fun z hz => ?_, ow3, hh.back (setS_same _ _ _) hsn hbk⟩
          · rcases hbk z with k | k
            · rw [k]
              by_cases hzs : z = s
              · subst hzs; rw [hs] at hz; cases hz
              · rw [hset z hzs, takeS_ne st hzs, hz]; rfl
            · exfalso
              have := k.2.2.2.1
              have hzs := k.2.1
              simp only [back, beq_ne hzs, hz] at this
              rw [takeS_ne st hzs, hz] at this; cases this
        · cases hx
      · cases hx
    | false =>
    rw [hino] at hx
    dsimp only at hx
    obtain ⟨v', H, r', k1, k2, k3, k4, k5, k6⟩ := callV_spec 0 C.tab (by simp) hx
    obtain ⟨g1, g2, g3⟩ := hC.fns v' (C.fn v') (by unfold Cx.fn; rw [List.getD_eq_getElem?_getD, List.getElem?_eq_getElem k1]; rfl)
    rw [k2] at g1
    rw [Bool.and_eq_true] at k4
    obtain ⟨hnil, hmkf⟩ := mkB_spec k4.2
    have hrun := run_call (w := w) ho e1 g1 g2 g3
    unfold Oper.wp
    rw [hrun, Oper.upon_enter]
    let bor : Bool := (entsOf st args.toList ++ ends ds).any Ent.borrows
    let vs0 : List Value := args.toList.map (ev (tfA a)) ++ us
    have hargs : ArgsE w ow M.f st (entsOf st args.toList ++ ends ds) vs0 := argsE_ents h _ (argsE_caps ds us e2 e3)
    let tfc : Nat → Value := fun s => vs0.toArray.getD s undef
    have hrel : Rel (scC M w ow bor) w w own0 tfc (mkSt ((C.fn v').sh 0) H) := by
      refine ⟨⟨rfl, rfl, rfl, Nat.le_refl _, fun _ _ => rfl⟩, fun s => ?_, fun b l hl => (by cases hl), fun b hb => hb⟩
      refine argL_sound (ow := ow) (M := M) (st := st) (bor := bor) (fun q b hb hq => ⟨rfl, scC_at hb hq⟩) (fun hb _ _ _ b _ => ⟨rfl, .inl hb⟩) (C.fn v').ps 0 _ vs0 k3 hargs (fun e he hb => List.any_eq_true.2 ⟨e, he, hb⟩) tfc (fun i v hv => ?_) _ s
      simp only [tfc, Nat.zero_add, Array.getD_eq_getD_getElem?, List.getElem?_toArray, hv, Option.getD_some]
    have hcall := hC.ok v' H r' k1 k5 (scC M w ow bor) w own0 vs0.toArray tfc (by rw [hnil]; rfl) (fun s => rfl) hrel
    rw [k2, hnil] at hcall
    refine hcall.mono fun e w' he => ?_
    obtain ⟨vs, ow', rfl, q2, q3, q4, q5⟩ := he
    simp only [List.map_nil, List.append_nil] at q4 q5
    refine nx_value (st := st) hd hf ⟨st, _, k6, Deads.refl _, ?_⟩
    refine hand_result (F := C.fn v') h hn q2 q3 q4 (fun d hd' => List.all_eq_true.1 k4.1 _ (HR_ty _ _ d hd')) (fun hmk d hd' => hmkf hmk _ (HR_ty (C.fn v').rs r' d hd')) q5
  · cases hx
theorem exec1_all {C : Cx ρ} (hC : Good C) (hd : dstOk M o a.tmps.size) (hst : ∀ t x y, o.op = .store t x y → o.dst = none) (hf : Fin st) (h : Rel M W w ow (tfA a) st)
    (hx : exec1 C st o κ = some r) : o.wp C.P a w (Nx M W st o κ r a) Q :=
  exec1_sound (fun _ _ _ ho hx => exec1_call hC ho hd hf h hx) hd hst hf h hx
end Go.Proofs.Ytlmcalffemklnaa.Rf
namespace Go.Proofs.Ytlmcalffemklnaa.Rf
variable {st st' : St} {ρ : Type} {P : Program}
/-- Two states that agree at an operand, and at what it names. -/
def AgX (st st' : St) (x : Operand) : Prop := ∀ s, x = .tmp s → st' s = st s ∧ ∀ s', (st s).names = some s' → st' s' = st s'
theorem AgX.opd {x : Operand} (h : AgX st st' x) : opd st' x = opd st x := by
  cases x with
  | tmp s => exact (h s rfl).1
  | _ => rfl
theorem AgX.seen {x : Operand} (h : AgX st st' x) : seen st' x = seen st x := by
  cases x with
  | tmp s => simp only [Rf.seen, (h s rfl).1]
  | _ => rfl
theorem AgX.refOf {x : Operand} (h : AgX st st' x) : refOf st' x = refOf st x := by
  cases x with
  | tmp s => simp only [Rf.refOf, (h s rfl).1]
  | _ => rfl
theorem AgX.entOf {x : Operand} (h : AgX st st' x) : entOf st' x = entOf st x := by
  cases x with
  | tmp s => simp only [Rf.entOf, (h s rfl).1]
  | _ => rfl
theorem AgX.getRef {x : Operand} (h : AgX st st' x) {s : Nat} {p : List Step} (hr : Rf.refOf st x = some (s, p)) : st' s = st s := by
  cases x with
  | tmp z =>
    simp only [Rf.refOf] at hr
    split at hr
    · rename_i s' p' t hz
      simp only [Option.some.injEq, Prod.mk.injEq] at hr
      obtain ⟨rfl, rfl⟩ := hr
      exact (h z rfl).2 _ (by rw [hz]; rfl)
    · simp only [Option.some.injEq, Prod.mk.injEq] at hr
      obtain ⟨rfl, rfl⟩ := hr
      exact (h z rfl).1
    · cases hr
  | _ => cases hr
theorem getP_congr {s : Nat} {p : List Step} (h : st' s = st s) : getP st' s p = getP st s p := by simp only [getP, h]
theorem AgX.getPRef {x : Operand} (h : AgX st st' x) {s : Nat} {p q : List Step} (hr : Rf.refOf st x = some (s, p)) : getP st' s q = getP st s q := getP_congr (h.getRef hr)
theorem AgX.getAl {x : Operand} (h : AgX st st' x) {s : Nat} {p q : List Step} {t : Ty} (hr : Rf.opd st x = .al s p t) : getP st' s q = getP st s q := by
  cases x with
  | tmp z =>
    simp only [Rf.opd] at hr
    exact getP_congr ((h z rfl).2 _ (by rw [hr]; rfl))
  | const v => simp only [Rf.opd] at hr; rcases cst_cases hr with e | ⟨d, e, _⟩ <;> cases e
  | func f => cases hr
  | global g => cases hr
theorem AgX.look {x : Operand} (h : AgX st st' x) : lookV st' x = lookV st x := by
  simp only [lookV, h.opd]
  split
  · rfl
  · rename_i s p t e; exact h.getAl e
  · rfl
theorem AgX.flatO {x : Operand} (h : AgX st st' x) : flatO st' x = flatO st x := by simp only [Rf.flatO, h.opd]
theorem AgX.slot {s : Nat} (h : AgX st st' (.tmp s)) : st' s = st s := (h s rfl).1
/-- What an entry may name: what was read, or what that names. -/
def NmX (st : St) (xs : List Operand) (e : Ent) : Prop := ∀ s', e.names = some s' → ∃ z, Operand.tmp z ∈ xs ∧ (z = s' ∨ (st z).names = some s')
theorem NmX.none {xs : List Operand} {e : Ent} (h : e.names = .none) : NmX st xs e := fun s' k => by rw [h] at k; cases k
theorem nmRef {x : Operand} {xs : List Operand} (hm : x ∈ xs) {s : Nat} {p q : List Step} {t : Ty} (hr : Rf.refOf st x = some (s, p)) : NmX st xs (.ref s q t) ∧ NmX st xs (.al s q t) := by
  have : ∃ z, Operand.tmp z ∈ xs ∧ (z = s ∨ (st z).names = some s) := by
    cases x with
    | tmp z =>
      refine ⟨z, hm, ?_⟩
      simp only [Rf.refOf] at hr
      split at hr
      · rename_i s' p' t hz
        simp only [Option.some.injEq, Prod.mk.injEq] at hr
        obtain ⟨rfl, rfl⟩ := hr
        right; rw [hz]; rfl
      · simp only [Option.some.injEq, Prod.mk.injEq] at hr
        exact .inl hr.1
      · cases hr
    | _ => cases hr
  exact ⟨fun s' h => by cases h; exact this, fun s' h => by cases h; exact this⟩
theorem nmOpd {x : Operand} {xs : List Operand} (hm : x ∈ xs) : NmX st xs (opd st x) := fun s' h => by
  cases x with
  | tmp z => exact ⟨z, hm, .inr h⟩
  | const v => simp only [opd] at h; rcases cst_cases (v := v) rfl with e | ⟨d, e, _⟩ <;> rw [e] at h <;> cases h
  | func f => cases h
  | global g => cases h
theorem nmSeen {x : Operand} {xs : List Operand} (hm : x ∈ xs) : NmX st xs (seen st x) := fun s' h => by
  cases x with
  | tmp z =>
    refine ⟨z, hm, ?_⟩
    simp only [seen] at h
    split at h
    · simp only [Ent.names, Option.some.injEq] at h; exact .inl h
    · simp only [Ent.names, Option.some.injEq] at h; exact .inl h
    · split at h <;> cases h
    · split at h <;> cases h
    · exact .inr h
  | const v => simp only [seen, opd] at h; rcases cst_cases (v := v) rfl with e | ⟨d, e, _⟩ <;> rw [e] at h <;> cases h
  | func f => cases h
  | global g => cases h
/-- What is computed and handed on, the state left alone: one entry, or none. -/
def Pass (st : St) (xs : List Operand) (F : St → (St → Ent → Option ρ) → Option ρ) : Prop :=
  ∃ o : Option Ent, (∀ e, o = some e → NmX st xs e) ∧ ∀ st', (∀ x ∈ xs, AgX st st' x) → Fin st' → ∀ κ, F st' κ = match o with | some e => κ st' e | none => none
theorem pass_move {x : Operand} (hq : seen st x ≠ .dead) : Pass (ρ := ρ) st [x] (fun st κ => xMove st x κ) := by
  refine ⟨some (seen st x), fun e he => by cases he; exact nmSeen List.mem_cons_self, fun st' h _ κ => ?_⟩
  simp only [xMove, (h x List.mem_cons_self).seen]
  all_goals (cases hs : seen st x <;> first | rfl | exact absurd hs hq)
theorem pass_nilCheck {x : Operand} : Pass (ρ := ρ) st [x] (fun st κ => xNilCheck st x κ) := by
  refine ⟨match seen st x with | .ref s p t => some (.ref s p t) | .fn f ds => some (.fn f ds) | .val ⟨.sptr t, y⟩ => some (.val ⟨.sptr t, y⟩) | _ => none, fun e he => ?_, fun st' h _ κ => ?_⟩
  · have k := nmSeen (st := st) (x := x) (xs := [x]) List.mem_cons_self
    split at he
    all_goals first | (rename_i hs; rw [hs] at k; cases he; exact k) | cases he
  · simp only [xNilCheck, (h x List.mem_cons_self).seen]
    split <;> simp_all
theorem flatO_spec {x : Operand} (h : flatO st x = true) : ∃ d, opd st x = .val d ∧ d.1.hasOwn = false := by
  simp only [flatO] at h; split at h
  · rename_i d e; exact ⟨d, e, by simpa using h⟩
  · cases h
theorem takeV_flat {x : Operand} {d : Dv} (h : opd st x = .val d) (hf : d.1.hasOwn = false) : takeV st x = some (d, st) ∧ useV st x = some (d, st) := by
  cases x with
  | tmp s => simp only [opd] at h; exact ⟨by simp only [takeV, h, hf], by simp only [useV, h, hf]⟩
  | const v => exact ⟨by simp only [takeV, h], by simp only [useV, h]⟩
  | func f => cases h
  | global g => cases h
theorem pass_assign {x : Operand} (hq : flatO st x = true) : Pass (ρ := ρ) st [x] (fun st κ => xAssign st x κ) := by
  obtain ⟨d, h1, h2⟩ := flatO_spec hq
  refine ⟨some (.val d), fun e he => by cases he; exact .none rfl, fun st' h _ κ => ?_⟩
  have e := (h x List.mem_cons_self).opd.trans h1
  simp only [xAssign, e, (takeV_flat e h2).1]
theorem pass_load {t : TypeId} {a : Operand} (hq : (match refOf st a with
    | some (s, p) => match getP st s p with
      | some d => match d.1 with | .osl _ _ => true | .optr _ _ => true | ty => !ty.hasOwn
      | none => false
    | none => true) = true) : Pass (ρ := ρ) st [a] (fun st κ => xLoad P st t a κ) := by
  refine ⟨xLoad (ρ := Ent) P st t a (fun _ e => some e), fun e he => ?_, fun st' h _ κ => ?_⟩
  · unfold xLoad at he
    split at he
    · rename_i s p hr
      obtain ⟨n1, n2⟩ := nmRef (t := .unit) (q := p) (List.mem_cons_self (a := a) (l := [])) hr
      split at he
      · rename_i ty x hg
        split at he
        · split at he
          · cases he; exact (nmRef List.mem_cons_self hr).2
          · cases he; exact (nmRef List.mem_cons_self hr).1
          · rename_i h1 h2
            rw [hr] at hq; simp only [hg] at hq
            have : ty.hasOwn = false := by
              cases ty <;> first | exact (h1 _ _ _ rfl HEq.rfl).elim | exact (h2 _ _ _ rfl HEq.rfl).elim | simpa using hq
            rw [this] at he
            cases he; exact .none rfl
        · cases he
      · cases he
    · split at he
      · split at he
        · cases he; exact .none rfl
        · cases he
      · cases he
  · have ha := h a List.mem_cons_self
    dsimp only
    unfold xLoad
    rw [ha.refOf, ha.opd]
    cases hr : refOf st a with
    | some sp =>
      obtain ⟨s, p⟩ := sp
      dsimp only
      rw [ha.getPRef hr]
      cases hg : getP st s p with
      | none => rfl
      | some d =>
        obtain ⟨ty, x⟩ := d
        rw [hr] at hq; simp only [hg] at hq
        dsimp only
        cases fits P t ty with
        | false => rfl
        | true =>
          dsimp only
          cases ty <;> first | rfl | (simp only [Bool.not_eq_true'] at hq; simp only [hq])
    | none =>
      dsimp only
      split
      · split <;> rfl
      · rfl
theorem pass_alloc {t : TypeId} : Pass (ρ := ρ) st [] (fun st κ => xAlloc P st t κ) := by
  refine ⟨xAlloc (ρ := Ent) P st t (fun _ e => some e), fun e he => ?_, fun st' h _ κ => ?_⟩
  · unfold xAlloc at he
    split at he
    · split at he
      · cases he; exact .none rfl
      · cases he
    · cases he
  · dsimp only; unfold xAlloc
    split
    · split <;> rfl
    · rfl
theorem pass_convert {s d : TypeId} {x : Operand} : Pass (ρ := ρ) st [x] (fun st κ => xConvert P st s d x κ) := by
  refine ⟨xConvert (ρ := Ent) P st s d x (fun _ e => some e), fun e he => ?_, fun st' h _ κ => ?_⟩
  · unfold xConvert at he
    split at he
    · split at he
      · cases he; exact .none rfl
      · cases he
    · cases he
  · dsimp only; unfold xConvert; rw [(h x List.mem_cons_self).opd]
    split
    · split <;> rfl
    · rfl
theorem pass_fieldAddr {t : TypeId} {x : Operand} {f : Nat} : Pass (ρ := ρ) st [x] (fun st κ => xFieldAddr P st t x f κ) := by
  refine ⟨xFieldAddr (ρ := Ent) P st t x f (fun _ e => some e), fun e he => ?_, fun st' h _ κ => ?_⟩
  · unfold xFieldAddr at he
    split at he
    · rename_i s p hr
      repeat' split at he
      all_goals first | (cases he; exact (nmRef List.mem_cons_self hr).1) | cases he
    · repeat' split at he
      all_goals first | (cases he; exact .none rfl) | cases he
  · have ha := h x List.mem_cons_self
    dsimp only; unfold xFieldAddr; rw [ha.refOf, ha.opd]
    cases hr : refOf st x with
    | some sp =>
      obtain ⟨s, p⟩ := sp
      dsimp only
      rw [ha.getPRef hr]
      repeat' split
      all_goals first | rfl | simp_all
    | none =>
      dsimp only
      repeat' split
      all_goals first | rfl | simp_all
theorem pass_field {t : TypeId} {x : Operand} {f : Nat} : Pass (ρ := ρ) st [x] (fun st κ => xField P st t x f κ) := by
  refine ⟨xField (ρ := Ent) P st t x f (fun _ e => some e), fun e he => ?_, fun st' h _ κ => ?_⟩
  · unfold xField at he
    repeat' split at he
    all_goals first | (cases he; exact .none rfl) | cases he
  · dsimp only; unfold xField; rw [(h x List.mem_cons_self).opd]
    repeat' split
    all_goals first | rfl | simp_all
theorem brB_eq {b : Bool} {f : Bool → Option ρ} : brB b f = f b := by cases b <;> rfl
theorem pass_index {t : TypeId} {x i : Operand} : Pass (ρ := ρ) st [x, i] (fun st κ => xIndex P st t x i κ) := by
  refine ⟨xIndex (ρ := Ent) P st t x i (fun _ e => some e), fun e he => ?_, fun st' h _ κ => ?_⟩
  · unfold xIndex at he
    simp only [brB_eq] at he
    repeat' split at he
    all_goals first | (cases he; exact .none rfl) | cases he
  · dsimp only; unfold xIndex; rw [(h x (by simp)).opd, (h i (by simp)).opd]
    simp only [brB_eq]
    repeat' split
    all_goals first | rfl | simp_all
theorem pass_indexAddr {t : TypeId} {x i : Operand} : Pass (ρ := ρ) st [x, i] (fun st κ => xIndexAddr P st t x i κ) := by
  refine ⟨xIndexAddr (ρ := Ent) P st t x i (fun _ e => some e), fun e he => ?_, fun st' h _ κ => ?_⟩
  · unfold xIndexAddr at he
    split at he
    · split at he
      · rename_i s p hr
        simp only [brB_eq] at he
        repeat' split at he
        all_goals first | (cases he; exact (nmRef (by simp) hr).1) | cases he
      · split at he
        · simp only [brB_eq] at he
          repeat' split at he
          all_goals first | (cases he; exact .none rfl) | cases he
        · rename_i e0 hne
          unfold idxV at he
          split at he
          · simp only [brB_eq] at he
            repeat' split at he
            all_goals first | (cases he; exact .none rfl) | cases he
          · split at he
            · rename_i hs0
              simp only [brB_eq] at he
              split at he
              · cases he
                cases x with
                | tmp z =>
                  simp only [slotOf, Option.some.injEq] at hs0
                  exact fun s' hs' => ⟨z, by simp, .inl (by simp only [Ent.names, Option.some.injEq] at hs'; exact hs0.trans hs')⟩
                | _ => cases hs0
              · cases he
            · cases he
          · rename_i s p t0 ho
            have hnm := nmOpd (st := st) (x := x) (xs := [x, i]) (by simp)
            rw [ho] at hnm
            simp only [brB_eq] at he
            repeat' split at he
            all_goals first | (cases he; exact fun s' hs' => hnm s' (by simpa [Ent.names] using hs')) | cases he
          · cases he
    · cases he
  · have hx := h x (by simp)
    dsimp only; unfold xIndexAddr; rw [hx.opd, (h i (by simp)).opd, hx.refOf]
    simp only [brB_eq]
    split
    · cases hr : refOf st x with
      | some sp =>
        obtain ⟨s, p⟩ := sp
        dsimp only
        rw [hx.getPRef hr]
        repeat' split
        all_goals first | rfl | simp_all
      | none =>
        dsimp only
        split
        · repeat' split
          all_goals first | rfl | simp_all
        · unfold idxV
          simp only [brB_eq]
          split
          · repeat' split
            all_goals first | rfl | simp_all
          · repeat' split
            all_goals first | rfl | simp_all
          · rename_i s p t0 ho
            rw [hx.getAl ho]
            repeat' split
            all_goals first | rfl | simp_all
          · rfl
    · rfl
theorem pass_extract {s n : Nat} {l : List Dv} {d : Dv} (h1 : st s = .tup l) (h2 : nthD l n = some d) (h3 : d.1.hasOwn = false) : Pass (ρ := ρ) st [.tmp s] (fun st κ => xExtract st (.tmp s) n κ) := by
  refine ⟨match d.1.beq .hole with | true => none | false => some (.val d), fun e he => ?_, fun st' h _ κ => ?_⟩
  · split at he
    · cases he
    · cases he; exact .none rfl
  · simp only [xExtract, (h _ List.mem_cons_self).slot, h1, h2, h3]
    cases d.1.beq .hole <;> rfl
theorem pass_len {x : Operand} {t : TypeId} : Pass (ρ := ρ) st [x] (fun st κ => xLen P st x t κ) := by
  refine ⟨xLen (ρ := Ent) P st x t (fun _ e => some e), fun e he => ?_, fun st' h _ κ => ?_⟩
  · unfold xLen at he
    repeat' split at he
    all_goals first | (cases he; exact .none rfl) | cases he
  · dsimp only; unfold xLen; rw [(h x List.mem_cons_self).look]
    repeat' split
    all_goals first | rfl | simp_all
theorem pass_unOp {op : UnOp} {x : Operand} : Pass (ρ := ρ) st [x] (fun st κ => match lookV st x with | some d => (match unV op d with | some r => κ st (.val r) | none => none) | none => none) := by
  refine ⟨match lookV st x with | some d => (match unV op d with | some r => some (.val r) | none => none) | none => none, fun e he => ?_, fun st' h _ κ => ?_⟩
  · repeat' split at he
    all_goals first | (cases he; exact .none rfl) | cases he
  · dsimp only; rw [(h x List.mem_cons_self).look]
    repeat' split
    all_goals first | rfl | simp_all
theorem AgX.bnd {st st' : St} {o : Option Operand} (h : ∀ x, o = some x → AgX st st' x) (d : Int) : Rf.bnd st' o d = Rf.bnd st o d := by
  cases o with
  | none => rfl
  | some x => simp only [Rf.bnd, (h x rfl).opd]
theorem cutV_nat {t : TypeId} {d : Dv} {lo hi : Option Operand} : ∃ o : Option Dv, ∀ st', (∀ x, lo = some x → AgX st st' x) → (∀ x, hi = some x → AgX st st' x) → ∀ κ : Dv → Option ρ, cutV P t st' d lo hi κ = match o with | some e => κ e | none => none := by
  refine ⟨cutV (ρ := Dv) P t st d lo hi (fun e => some e), fun st' h1 h2 κ => ?_⟩
  unfold cutV
  simp only [AgX.bnd h1, AgX.bnd h2, brB_eq]
  repeat' split
  all_goals first | rfl | simp_all
theorem flat_val {x : Operand} {s : Nat} {d : Dv} (h : opd st x = .val d) (e : x = .tmp s) : st s = .val d := by subst e; exact h
theorem pass_slice {t : TypeId} {x : Operand} {lo hi : Option Operand} (hq : (isSlT P t || isStrT P t) = true) (hf : flatO st x = true) : Pass (ρ := ρ) st (x :: (optO lo ++ optO hi)) (fun st κ => xSlice P st t x lo hi κ) := by
  obtain ⟨d, h1, h2⟩ := flatO_spec hf
  cases x with
  | tmp s =>
    obtain ⟨o, ho⟩ := cutV_nat (ρ := ρ) (P := P) (st := st) (t := t) (d := d) (lo := lo) (hi := hi)
    refine ⟨o.map .val, fun e he => ?_, fun st' h _ κ => ?_⟩
    · cases o with
      | none => cases he
      | some o => cases he; exact .none rfl
    · have hs : st' s = .val d := (h _ List.mem_cons_self).slot.trans h1
      simp only [xSlice, hq, hs, h2]
      rw [ho st' (fun y hy => h y (by subst hy; simp [optO])) (fun y hy => h y (by subst hy; simp [optO]))]
      cases o <;> rfl
  | const v => exact ⟨none, fun e he => (by cases he), fun st' h _ κ => (by show xSlice P st' t (.const v) lo hi κ = none; unfold xSlice; rw [hq])⟩
  | func f => cases h1
  | global g => cases h1
def flatsV (st : St) : List Operand → Option (List Dv)
  | [] => some []
  | x :: xs => match opd st x, lowX x, flatsV st xs with | .val d, true, some ds => some (d :: ds) | _, _, _ => none
theorem flatsV_low {st st' : St} (h : ∀ s, s < VB → st' s = st s) : ∀ xs, flatsV st' xs = flatsV st xs
  | [] => rfl
  | x :: xs => by
    simp only [flatsV, flatsV_low h xs]
    cases x with
    | tmp s =>
      by_cases hs : s < VB
      · simp only [opd, h s hs]
      · have : lowX (.tmp s) = false := by simp only [lowX]; cases hb : Nat.blt s VB with
          | false => rfl
          | true => exact absurd (Nat.blt_eq.mp hb) hs
        simp only [this]
        split <;> split <;> simp_all
    | _ => rfl
theorem flatsV_ag {st st' : St} : ∀ xs, (∀ x ∈ xs, AgX st st' x) → flatsV st' xs = flatsV st xs
  | [], _ => rfl
  | x :: xs, h => by simp only [flatsV, (h x List.mem_cons_self).opd, flatsV_ag xs fun y hy => h y (List.mem_cons_of_mem _ hy)]
theorem useAll_flat : ∀ (xs : List Operand) (st : St) (b : Nat), VB ≤ b → (∀ x ∈ xs, flatO st x = true) → (∀ s, b ≤ s → st s = .dead) →
    (match flatsV st xs with | none => useAll st b xs = none | some ds => ∃ st1, useAll st b xs = some (ds, st1) ∧ ∀ s, s < b → st1 s = st s)
  | [], st, b, hb, hf, hd => ⟨st, rfl, fun _ _ => rfl⟩
  | x :: xs, st, b, hb, hf, hd => by
    obtain ⟨d, h1, h2⟩ := flatO_spec (hf x List.mem_cons_self)
    have hown : (st b).owns = false := by rw [hd b (Nat.le_refl _)]; rfl
    have hset : ∀ s, s ≠ b → setS st (some b) (.val d) s = st s := fun s hs => by rw [setS_ne st _ hs, hown]; rfl
    have hlow : ∀ s, s < VB → setS st (some b) (.val d) s = st s := fun s hs => hset s (Nat.ne_of_lt (Nat.lt_of_lt_of_le hs hb))
    simp only [flatsV, useAll, h1, (takeV_flat h1 h2).2]
    cases hx : lowX x with
    | false => rfl
    | true =>
      by_cases hall : ∀ y ∈ xs, flatO (setS st (some b) (.val d)) y = true
      · have k := useAll_flat xs (setS st (some b) (.val d)) (b + 1) (Nat.le_succ_of_le hb) hall (fun s hs => by rw [hset s (Nat.ne_of_gt hs)]; exact hd s (Nat.le_of_succ_le hs))
        rw [flatsV_low hlow] at k
        cases hfl : flatsV st xs with
        | none => rw [hfl] at k; dsimp only at k ⊢; rw [k]
        | some ds =>
          rw [hfl] at k
          obtain ⟨st1, k1, k2⟩ := k
          dsimp only
          rw [k1]
          exact ⟨st1, rfl, fun s hs => (k2 s (Nat.lt_succ_of_lt hs)).trans (hset s (Nat.ne_of_lt hs))⟩
      · exfalso; apply hall
        intro y hy
        have := hf y (List.mem_cons_of_mem _ hy)
        cases y with
        | tmp s =>
          by_cases hs : s = b
          · subst hs
            simp only [flatO, opd, hd s (Nat.le_refl _)] at this; cases this
          · simpa only [flatO, opd, hset s hs] using this
        | _ => exact this
theorem clr_fin {st st1 : St} (hf : Fin st) (h : ∀ s, s < VB → st1 s = st s) : clr st1 = st := by
  funext s
  simp only [clr]
  cases hb : Nat.ble VB s with
  | true => exact (hf s (Nat.le_of_ble_eq_true hb)).symm
  | false => exact h s (Nat.lt_of_not_le fun k => by rw [Nat.ble_eq_true_of_le k] at hb; cases hb)
theorem useAll_ag {st st' : St} {xs : List Operand} (hq : ∀ x ∈ xs, flatO st x = true) (h : ∀ x ∈ xs, AgX st st' x) (hf : Fin st') :
    (match flatsV st xs with | none => useAll st' (VB + 1) xs = none | some ds => ∃ st1, useAll st' (VB + 1) xs = some (ds, st1) ∧ clr st1 = st') := by
  have k := useAll_flat xs st' (VB + 1) (Nat.le_succ _) (fun x hx => (h x hx).flatO.trans (hq x hx)) (fun s hs => hf s (Nat.le_of_succ_le hs))
  rw [flatsV_ag xs h] at k
  cases hfl : flatsV st xs with
  | none => rw [hfl] at k; exact k
  | some ds =>
    rw [hfl] at k
    obtain ⟨st1, k1, k2⟩ := k
    exact ⟨st1, k1, clr_fin hf fun s hs => k2 s (Nat.lt_succ_of_lt hs)⟩
end Go.Proofs.Ytlmcalffemklnaa.Rf
