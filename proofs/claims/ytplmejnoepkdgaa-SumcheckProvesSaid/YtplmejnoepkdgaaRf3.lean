/- A walk by reckoning: what a Go function comes to, reckoned out of its operations, and why that is so. -/
import Derived.Test.YtplmejnoepkdgaaRf2
import Derived.Orders
set_option linter.unusedVariables false
set_option linter.unusedSimpArgs false
namespace Go.Proofs.Ytplmejnoepkdgaa.Rf
variable {M : Sc} {W w w' : World} {ow ow' : Own} {tf tf' : Nat → Value} {st st1 st2 st' : St} {ρ : Type} {P : Program}
theorem zip_parts (f : Operand → Value) : ∀ (parts : List (Nat × Operand)), (parts.map (·.1)).zip (parts.map fun q => f q.2) = parts.map fun q => (q.1, f q.2)
  | [] => rfl
  | q :: parts => by simp only [List.map_cons, List.zip_cons_cons, zip_parts f parts]
theorem build_core {place : Nat → Option (Nat × Nat)} {pf : Nat → List Step} {Inv : Ty → Prop} {Q : Nat → Prop} {parts : List (Nat × Operand)} {ds : List Dv} {ty : Ty} {d : Dv} {z : Value} (hs : StepOk w M.f place pf Inv Q)
    (hQ : ∀ q ∈ parts, Q q.1) (h : Rel M W w ow tf st) (hf : Fin st) (hu : useAll st (VB + 1) (parts.map (·.2)) = some (ds, st1)) (hz : ∀ w ow bs s p, VR w ow bs ⟨ty, ty.dflt⟩ s p z) (hagg : ty.agg = true) (hi : Inv ty)
    (hp : putParts ty ty.dflt ((parts.map fun q => pf q.1).zip ds) = some d) :
    ∃ cs', Instr.fill place z.cells (parts.map fun q => (q.1, ev tf q.2)) = some cs' ∧ (∃ ow', Hand M W w ow' tf (clr st1) VB (.val d) (.agg cs')) ∧ Deads st (clr st1) := by
  obtain ⟨ow1, tf1, m1, m2, m3, m4, m5, m6, m7, m8, m9, m10⟩ := useAll_sound (Nat.le_succ VB) h (h.low hf) (fun y hy => hf y (by omega)) hu
  have hdead : st1 VB = .dead := m9 VB (Nat.lt_succ_self _) (hf VB (Nat.le_refl _))
  have hzr := m1.handVal (d := ⟨ty, ty.dflt⟩) (v := z) hdead (hz ..)
  have hset : ∀ y, y ≠ VB → setS st1 (some VB) (.val ⟨ty, ty.dflt⟩) y = st1 y := fun y hy => by rw [setS_ne st1 _ hy, hdead]; rfl
  obtain ⟨cs, rfl⟩ := ((hz w ow M.f 0 []).1).1 hagg
  rw [List.length_map] at m3 m8
  obtain ⟨cs', ow', st', q1, q2, q3, q4, q5⟩ := parts_fold hs (parts.map (·.1)) (parts.map fun q => ev tf q.2) ds (k := VB + 1) (d' := d) (fun i hi => by obtain ⟨q, hq, rfl⟩ := List.mem_map.1 hi; exact hQ q hq) (Nat.lt_succ_self _) hzr.2.2 (by rw [setS_same]; rfl) (upd_same _ _ _) hi (m2.set hdead)
    (by rw [List.length_map]; exact m3.symm) (by rw [List.length_map]; exact m3.symm) (fun j e he => by rw [hset _ (by omega)]; exact m7 j e he)
    (fun j v hv => by
      rw [upd_ne _ _ (show VB + 1 + j ≠ VB by omega)]
      rw [List.getElem?_map] at hv
      cases hq : parts[j]? with
      | none => rw [hq] at hv; cases hv
      | some q =>
        rw [hq] at hv
        simp only [Option.map_some, Option.some.injEq] at hv
        rw [← hv]
        exact m6 j q.2 (by rw [List.getElem?_map, hq]; rfl)) (by rw [List.map_map]; exact hp)
  refine ⟨cs', by rw [← zip_parts]; exact q1, ?_, fun y hy => ?_⟩
  · have hfin : ∀ y, VB < y → st' y = .dead := fun y hy => by
      rw [q5 y (by omega)]
      split
      · rfl
      · rename_i c
        rw [hset y (by omega)]; exact m8 y (by omega)
    have hlow : ∀ y, y < VB → st' y = st1 y := fun y hy => by rw [q5 y (by omega), if_neg (by omega), hset y (by omega)]
    have hclr : clr st' = clr st1 := by
      funext y
      rcases Nat.lt_or_ge y VB with k | k
      · rw [clr_lt _ k, clr_lt _ k, hlow y k]
      · rw [clr_dead _ k, clr_dead _ k]
    have hcong : Rel M W w ow' (upd tf VB (.agg cs')) st' := q2.cong fun y hy => by
      by_cases e : y = VB
      · subst e; rw [upd_same, upd_same]
      · have : y < VB := by
          rcases Nat.lt_trichotomy y VB with k | k | k
          · exact k
          · exact absurd k e
          · exact absurd (hfin y k) hy
        rw [upd_ne _ _ e, upd_ne _ _ e, upd_ne _ _ e, m5 y (by omega)]
    refine ⟨ow', ?_⟩
    rw [← hclr]
    exact handOf hcong hfin q3 (fun y e => absurd (q4 y VB e) (Nat.lt_irrefl _))
  · rcases Nat.lt_or_ge y VB with k | k
    · rw [clr_lt _ k]; exact m9 y (by omega) hy
    · exact clr_dead _ k
theorem put_agg {d old : Dv} {f : Nat} {T : Ty} {x : T.den} {T' : Ty} {x' : T'.den} (hg : get (fpath f) T x = some old) (hp : put (fpath f) T x d = some ⟨T', x'⟩) : T'.agg = true := by
  cases f with
  | zero =>
    cases T <;> simp only [fpath, get, reduceCtorEq] at hg
    simp only [fpath, put, Option.some.injEq] at hp
    cases hp; rfl
  | succ f =>
    cases T <;> simp only [fpath, get, reduceCtorEq] at hg
    simp only [fpath, put] at hp
    split at hp
    · simp only [Option.some.injEq] at hp; cases hp; rfl
    · cases hp
theorem struct_step {bs : Fl} {S : List Nat} {place : Nat → Option (Nat × Nat)} (hpl : ∀ i sz, S[i]? = some sz → place i = some ((S.take i).sum, sz)) : StepOk w bs place fpath (fun T => shp T = S) (fun _ => True) := by
  intro T x i d old T' x' _ hi hg hp hsz
  obtain ⟨k1, k2⟩ := shp_get i hg
  have hw := walk_field (w := w) (v := .nilFunc) i none 0 hg
  refine ⟨offOf T i, by rw [← hsz, k2]; rw [hi] at k1 ⊢; exact hpl i _ k1, by rw [← hsz]; exact walk_inside (v := .nilFunc) i hg, (shp_put i hg hp hsz).trans hi, put_sz (fpath i) hw hsz.symm hp, put_agg hg hp, ?_⟩
  intro ow ow' g g' hno hkeep hR hout hin
  have := put_field hno hkeep i (p0 := []) (o0 := 0) (g := g) (g' := g') hg hp hsz hR (fun j hj => hout j (by simpa using hj)) (by simpa using hin)
  exact this.1
end Go.Proofs.Ytplmejnoepkdgaa.Rf
namespace Go.Proofs.Ytplmejnoepkdgaa.Rf
variable {M : Sc} {W w w' : World} {ow ow' : Own} {tf tf' : Nat → Value} {st st1 st2 st' : St} {ρ : Type} {P : Program}
theorem put_item_ty {d : Dv} {n m : Nat} {u : Ty} {x : List u.den} {T' : Ty} {x' : T'.den} (hp : put [.i n] (.arr m u) x d = some ⟨T', x'⟩) : T' = .arr m u ∧ d.1 = u := by
  simp only [put] at hp
  split at hp
  · rename_i y' hc
    simp only [Option.some.injEq] at hp
    cases hp
    unfold castE at hc
    split at hc
    · rename_i hbq
      exact ⟨rfl, Ty.eq_of_beq _ _ hbq⟩
    · cases hc
  · cases hp
theorem arr_step {bs : Fl} {n : Nat} {u : Ty} {place : Nat → Option (Nat × Nat)} (hpl : ∀ i, place i = some (i * u.sz, u.sz)) : StepOk w bs place ipath (fun T => T = .arr n u) (fun i => i < n) := by
  intro T x i d old T' x' hq hi hg hp hsz
  subst hi
  obtain ⟨e1, e2⟩ := put_item_ty hp
  subst e1
  have hm := Nat.mul_le_mul_right u.sz (show i + 1 ≤ n by exact hq)
  rw [Nat.succ_mul] at hm
  refine ⟨i * u.sz, by rw [e2]; exact hpl i, by rw [e2]; exact hm, rfl, rfl, rfl, ?_⟩
  intro ow ow' g g' hno hkeep hR hout hin
  exact (put_item (p0 := []) (o0 := 0) (g := g) (g' := g') hno hkeep hq hp hR (fun j hj => hout j (by simpa using hj)) (by simpa [ipath] using hin)).1
theorem xBuildArr_sound {t : TypeId} {parts : List (Nat × Operand)} {κ : St → Ent → Option ρ} {r : ρ} (h : Rel M W w ow tf st) (hf : Fin st) (hx : xBuildArr P st t parts κ = some r) :
    ∃ v, (Instr.build t (parts.map fun q => (q.1, ev tf q.2)).toArray).run P w = .ok v w ∧ Res M W w tf st VB v κ r := by
  unfold xBuildArr at hx
  split at hx
  · rename_i n u ds st1 hty hu
    split at hx
    · rename_i hc
      simp only [Bool.and_eq_true, List.all_eq_true] at hc
      obtain ⟨⟨c1, c2⟩, c3⟩ := hc
      split at hx
      · rename_i d hp
        obtain ⟨e, hue, hfit⟩ := isArr_spec c1
        obtain ⟨i, z, hi, hz, hzs, hzv⟩ := zeroB_spec c3
        have hsz := (fits_spec hfit).2
        obtain ⟨ie, hie, hies⟩ := info_cells (P := P) (t := e) (by rw [hsz]; exact fits_pos hfit)
        obtain ⟨cs', k1, k2, k3⟩ := build_core (place := fun i => some (i * ie.size, ie.size)) (arr_step (n := n) (u := u) (fun i => by rw [hies, hsz])) (fun q hq => Nat.blt_eq.mp (c2 q hq)) h hf hu hzv rfl rfl hp
        refine ⟨_, run_build w t _ cs' ?_, _, _, hx, k3, k2⟩
        simp only [Program.built, hi, hue, hz, hie]
        exact k1
      · cases hx
    · cases hx
  · cases hx
theorem xBuild_sound {t : TypeId} {parts : List (Nat × Operand)} {κ : St → Ent → Option ρ} {r : ρ} (h : Rel M W w ow tf st) (hf : Fin st) (hx : xBuild P st t parts κ = some r) :
    ∃ v, (Instr.build t (parts.map fun q => (q.1, ev tf q.2)).toArray).run P w = .ok v w ∧ Res M W w tf st VB v κ r := by
  unfold xBuild at hx
  split at hx
  · exact xBuildArr_sound h hf hx
  · split at hx
    · rename_i ty ds st1 hty hu
      split at hx
      · cases hx
      · rename_i hc
        simp only [Bool.and_eq_true] at hc
        obtain ⟨c1, c3⟩ := hc
        split at hx
        · rename_i d hp
          obtain ⟨i, z, hi, hz, hzs, hzv⟩ := zeroB_spec c3
          unfold layB at c1
          split at c1
          · rename_i fs hus
            obtain ⟨hagg, pl, p1, p2⟩ := layF_places fs.toList 0 _ c1
            obtain ⟨cs', k1, k2, k3⟩ := build_core (place := fun i => pl.toArray[i]?) (struct_step (S := shp ty.nilz) (fun i sz hi => by
              rw [List.getElem?_toArray, p2 i sz hi, Nat.zero_add])) (fun q hq => trivial) h hf hu hzv hagg rfl hp
            refine ⟨_, run_build w t _ cs' ?_, _, _, hx, k3, k2⟩
            simp only [Program.built, hi, hus, hz, p1]
            exact k1
          · cases c1
        · cases hx
    · cases hx
end Go.Proofs.Ytplmejnoepkdgaa.Rf
namespace Go.Proofs.Ytplmejnoepkdgaa.Rf
variable {M : Sc} {W w w' : World} {ow ow' : Own} {tf tf' : Nat → Value} {st st1 st2 st' : St} {ρ : Type} {P : Program}
def setV (st : St) (k : Nat) (d : Dv) : St := fun z => if z = k then .val d else st z
theorem Rel.coeSlot {k : Nat} {d : Dv} {u : Ty} {y : u.den} (h : Rel M W w ow tf st) (hk : st k = .val d) (hnn : ∀ y, (st y).names ≠ some k) (hc : Rf.coe u d.1 d.2 = some y) : ∃ ow', Rel M W w ow' tf (setV st k ⟨u, y⟩) := by
  obtain ⟨ow', k1⟩ := (h.asHand hk hnn).coe hc
  have e1 : upd tf k (tf k) = tf := by funext y; by_cases e : y = k <;> simp [upd, e]
  have e2 : setS (Rf.kill st k) (some k) (.val ⟨u, y⟩) = setV st k ⟨u, y⟩ := by
    funext z
    by_cases e : z = k
    · subst e; rw [setS_same]; simp [setV]
    · rw [setS_ne _ _ e]; simp [Rf.kill, setV, e, Ent.owns]
  exact ⟨ow', by have := k1.2.2; rw [e1, e2] at this; exact this⟩
theorem coe_all {u : Ty} : ∀ (ds : List Dv) (l : List u.den) {k : Nat} {st : St} {ow : Own}, lstOf u ds = some l → VB ≤ k → Rel M W w ow tf st → Low st → (∀ (j : Nat) (d : Dv), ds[j]? = some d → st (k + j) = .val d) →
    l.length = ds.length ∧ ∃ ow' st', Rel M W w ow' tf st' ∧ Low st' ∧ (∀ j, j < ds.length → st' (k + j) = .val ⟨u, rd l j⟩) ∧ (∀ y, y < k → st' y = st y) ∧ ∀ y, k + ds.length ≤ y → st' y = st y
  | [], l, k, st, ow, hl, hk, h, hlow, hd => by
    simp only [lstOf, Option.some.injEq] at hl
    subst hl
    exact ⟨rfl, ow, st, h, hlow, fun j hj => absurd hj (Nat.not_lt_zero _), fun _ _ => rfl, fun _ _ => rfl⟩
  | d :: ds, l, k, st, ow, hl, hk, h, hlow, hd => by
    simp only [lstOf] at hl
    split at hl
    · rename_i x l' hc hr
      simp only [Option.some.injEq] at hl
      subst hl
      obtain ⟨ow1, h1⟩ := h.coeSlot (hd 0 d rfl) (fun y e => absurd (hlow y _ e) (by omega)) hc
      have hl1 : Low (setV st (k + 0) ⟨u, x⟩) := fun y n hn => by
        by_cases e : y = k + 0
        · simp only [setV, if_pos e] at hn; cases hn
        · simp only [setV, if_neg e] at hn; exact hlow y n hn
      obtain ⟨g1, ow', st', g2, g3, g4, g5, g6⟩ := coe_all ds l' (k := k + 1) hr (by omega) h1 hl1 (fun j e he => by
        simp only [setV, if_neg (show ¬ k + 1 + j = k + 0 by omega)]
        rw [show k + 1 + j = k + (j + 1) by omega]; exact hd (j + 1) e he)
      refine ⟨by simp only [List.length_cons, g1], ow', st', g2, g3, fun j hj => ?_, fun y hy => ?_, fun y hy => ?_⟩
      · cases j with
        | zero => rw [g5 _ (by omega)]; simp [setV, rd]
        | succ j =>
          simp only [List.length_cons] at hj
          rw [show k + (j + 1) = k + 1 + j by omega, g4 j (by omega)]
          simp [rd]
      · rw [g5 y (by omega)]; simp only [setV, if_neg (show ¬ y = k + 0 by omega)]
      · simp only [List.length_cons] at hy
        rw [g6 y (by omega)]; simp only [setV, if_neg (show ¬ y = k + 0 by omega)]
    · cases hl
theorem inOrder_range : ∀ (l : List Nat) (n : Nat), inOrder n l = true → l = List.range' n l.length
  | [], n, _ => rfl
  | i :: l, n, h => by
    simp only [inOrder, Bool.and_eq_true] at h
    obtain rfl := Nat.eq_of_beq_eq_true h.1
    rw [List.length_cons, List.range'_succ, ← inOrder_range l _ h.2]
theorem fill_row {z : Nat} : ∀ (vals : List Value) (i0 : Nat) (cs : Array Value), (∀ v ∈ vals, v.cells.size = z) → (i0 + vals.length) * z ≤ cs.size →
    ∃ cs', Instr.fill (fun i => some (i * z, z)) cs ((List.range' i0 vals.length).zip vals) = some cs' ∧ cs'.size = cs.size ∧ (∀ m, m < i0 * z → cs'[m]? = cs[m]?) ∧ ∀ (i : Nat) (v : Value), vals[i]? = some v → ∀ j, j < z → cs'[(i0 + i) * z + j]? = v.cells[j]?
  | [], i0, cs, hv, hs => ⟨cs, by simp [Instr.fill], rfl, fun _ _ => rfl, fun i v h => by simp at h⟩
  | v :: vals, i0, cs, hv, hs => by
    have hvz := hv v List.mem_cons_self
    simp only [List.length_cons] at hs
    have hle : (i0 + 1) * z ≤ (i0 + (vals.length + 1)) * z := Nat.mul_le_mul_right z (by omega)
    have hmul : (i0 + 1) * z = i0 * z + z := Nat.succ_mul i0 z
    obtain ⟨cs', k1, k2, k3, k4⟩ := fill_row vals (i0 + 1) (laid cs (i0 * z) v) (fun x hx => hv x (List.mem_cons_of_mem _ hx)) (by rw [laid_size, show i0 + 1 + vals.length = i0 + (vals.length + 1) by omega]; exact hs)
    refine ⟨cs', ?_, by rw [k2, laid_size], fun m hm => ?_, fun i x hx j hj => ?_⟩
    · rw [List.length_cons, List.range'_succ, List.zip_cons_cons, fill_cons rfl hvz (by omega)]
      exact k1
    · rw [k3 m (by omega), laid_at _ _ _ (by omega), if_neg (by omega)]
    · cases i with
      | zero =>
        simp only [List.getElem?_cons_zero, Option.some.injEq] at hx
        subst hx
        rw [Nat.add_zero, k3 _ (by omega), laid_at _ _ _ (by omega), if_pos (by omega)]
        congr 1; omega
      | succ i =>
        simp only [List.getElem?_cons_succ] at hx
        rw [show i0 + (i + 1) = i0 + 1 + i by omega]
        exact k4 i x hx j hj
end Go.Proofs.Ytplmejnoepkdgaa.Rf
namespace Go.Proofs.Ytplmejnoepkdgaa.Rf
variable {M : Sc} {W w w' : World} {ow ow' : Own} {tf tf' : Nat → Value} {st st1 st2 st' : St} {ρ : Type} {P : Program}
theorem run_buildSlice {t e : TypeId} {n z : Nat} {i : TypeInfo} {zv : Value} {parts : List (Nat × Value)} {cs : Array Value} (hu : P.underlying t = some (.slice e)) (hi : P.info? e = some i) (hz : i.size = z) (hzv : i.zero = some zv) (hbig : n * z ≤ 16777216) (hn0 : n * z ≠ 0)
    (hfill : Instr.fill (fun i => some (i * z, z)) ((Array.range (n * z)).map (zv.cells[· % zv.cells.size]!)) parts = some cs) :
    (Instr.buildSlice t n parts.toArray).run P w = .ok (.slice (some ⟨w.heap.size, 0, none⟩) n n) (w.alloc (.cells cs e)) := by
  have hb : ¬ (n * z > 2 ^ 24) := by omega
  subst hz
  simp [Instr.buildSlice, run_underlying hu, sizeOf, typeInfo, hi, zeroValue, hzv, hb, hn0, hfill, newRow]
theorem run_buildSlice0 {t e : TypeId} (hu : P.underlying t = some (.slice e)) (hz : P.cellsOf e ≠ 0) : (Instr.buildSlice t 0 #[]).run P w = .ok (.slice (some ⟨w.heap.size, 0, none⟩) 0 0) (w.alloc (.cells #[] e)) := by
  obtain ⟨i, hi, hs⟩ := info_cells hz
  simp [Instr.buildSlice, run_underlying hu, sizeOf, typeInfo, hi, Instr.fill, newRow]
  congr 2
  apply Array.eq_empty_of_size_eq_zero; simp
theorem Rel.clr (h : Rel M W w ow tf st) (hl : Low st) : Rel M W w ow tf (clr st) :=
  h.weaken (fun s => by
    rcases Nat.lt_or_ge s VB with k | k
    · exact .inl (clr_lt st k)
    · exact .inr (clr_dead st k)) (fun s s' hs hn => by
    have k : s < VB := by
      rcases Nat.lt_or_ge s VB with k | k
      · exact k
      · exact absurd (clr_dead st k) hs
    rw [clr_lt st k] at hn
    exact clr_lt st (hl s s' hn))
theorem xBuildSlice_sound {t : TypeId} {n : Nat} {parts : List (Nat × Operand)} {κ : St → Ent → Option ρ} {r : ρ} (h : Rel M W w ow tf st) (hf : Fin st) (hx : xBuildSlice P st t n parts κ = some r) :
    ∃ v w', (Instr.buildSlice t n (parts.map fun q => (q.1, ev tf q.2)).toArray).run P w = .ok v w' ∧ Res M W w' tf st VB v κ r := by
  unfold xBuildSlice at hx
  split at hx
  · split at hx
    · rename_i hn hs
      obtain rfl := Nat.eq_of_beq_eq_true hn
      obtain ⟨e, hu, hz⟩ := slOk_spec hs
      refine ⟨_, _, run_buildSlice0 hu hz, _, _, hx, Deads.refl _, ow, ?_⟩
      have hsz : w.heap.size ≤ (w.alloc (.cells #[] e)).heap.size := by rw [World.size_alloc]; omega
      exact (h.world (h.fr.alloc h.top _) hsz (fun b hb => heap_alloc_lt w _ hb)).handVal (hf VB (Nat.le_refl _)) (VR.mk_nils ..)
    · cases hx
  · rename_i hne
    split at hx
    · rename_i ds st1 hu
      split at hx
      · rename_i d ds' hc
        split at hx
        · rename_i e l hs hl
          split at hx
          · rename_i hc2
            simp only [Bool.and_eq_true, Bool.not_eq_true'] at hc hc2
            obtain ⟨⟨c1, c2⟩, c3⟩ := hc
            obtain ⟨⟨c4, c5⟩, c6⟩ := hc2
            obtain rfl := Nat.eq_of_beq_eq_true c2
            obtain ⟨hus, hz, hz0⟩ := isSl_spec hs
            obtain ⟨i, zv, hi, hzv, hzs⟩ := zsz_spec c4
            have hbig := Nat.le_of_ble_eq_true c5
            have hord := inOrder_range _ _ c1
            rw [List.length_map] at hord
            have hsize : i.size = d.1.frz.sz := by rw [← hz]; simp [Program.cellsOf, hi]
            obtain ⟨ow1, tf1, m1, m2, m3, m4, m5, m6, m7, m8, m9, m10⟩ := useAll_sound (Nat.le_succ VB) h (h.low hf) (fun y hy => hf y (by omega)) hu
            rw [List.length_map] at m3 m8
            obtain ⟨g1, ow2, st2, g2, g3, g4, g5, g6⟩ := coe_all _ _ (k := VB + 1) hl (Nat.le_succ VB) m1 m2 m7
            have hclr : clr st2 = clr st1 := by
              funext y
              rcases Nat.lt_or_ge y VB with k | k
              · rw [clr_lt _ k, clr_lt _ k, g5 y (by omega)]
              · rw [clr_dead _ k, clr_dead _ k]
            have hrel : Rel M W w ow2 tf (clr st1) := by
              rw [← hclr]
              refine (g2.clr g3).cong fun y hy => ?_
              rcases Nat.lt_or_ge y VB with k | k
              · exact (m5 y (by omega)).symm
              · exact absurd (clr_dead _ k) hy
            have hdv : Deads st (clr st1) := fun y hy => by
              rcases Nat.lt_or_ge y VB with k | k
              · rw [clr_lt _ k]; exact m9 y (by omega) hy
              · exact clr_dead _ k
            have hlen : l.length = parts.length := by rw [g1, m3]
            have hval : ∀ (j : Nat) (q : Nat × Operand), parts[j]? = some q → VR w ow2 M.f ⟨d.1.frz, rd l j⟩ (VB + 1 + j) [] (ev tf q.2) := fun j q hq => by
              have hj : j < (d :: ds').length := by rw [m3]; exact (List.getElem?_eq_some_iff.1 hq).1
              have := g2.vr (g4 j hj)
              rw [m6 j q.2 (by rw [List.getElem?_map, hq]; rfl)] at this
              exact this
            have hnz : parts.length * d.1.frz.sz ≠ 0 := by
              have : 0 < parts.length := by rw [← m3]; simp
              exact Nat.ne_of_gt (Nat.mul_pos this (by omega))
            obtain ⟨cs', k1, k2, _, k4⟩ := fill_row (z := d.1.frz.sz) (parts.map fun q => ev tf q.2) 0 ((Array.range (parts.length * d.1.frz.sz)).map (zv.cells[· % zv.cells.size]!)) (fun v hv => by
              obtain ⟨q, hq, rfl⟩ := List.mem_map.1 hv
              obtain ⟨j, hj⟩ := List.getElem?_of_mem hq
              exact (hval j q hj).2.1) (by simp)
            rw [List.length_map, ← hord, zip_parts] at k1
            have hcs : cs'.size = parts.length * d.1.frz.sz := by rw [k2]; simp
            obtain ⟨ow3, k3⟩ := hrel.newList (u := d.1.frz) (l := l) (c := cs') (cap := parts.length) e (clr_dead _ (Nat.le_refl _)) c6 (by omega) hcs (fun q hq => by
              obtain ⟨pq, hpq⟩ : ∃ pq, parts[q]? = some pq := ⟨parts[q]'(by omega), List.getElem?_eq_getElem (by omega)⟩
              refine Rd.flat (Nat.le_refl _) d.1.frz c6 (fun j hj => ?_) (fun b _ hb => ⟨hb, rfl⟩) (hval q pq hpq).2.2
              have := k4 q (ev tf pq.2) (by rw [List.getElem?_map, hpq]; rfl) j hj
              rw [Nat.zero_add] at this ⊢
              exact this)
            rw [hlen] at k3
            exact ⟨_, _, run_buildSlice hus hi hsize hzv hbig hnz k1, _, _, hx, hdv, ow3, k3⟩
          · cases hx
        · cases hx
      · cases hx
    · cases hx
end Go.Proofs.Ytplmejnoepkdgaa.Rf
namespace Go.Proofs.Ytplmejnoepkdgaa.Rf
variable {M : Sc} {W w w' : World} {ow ow' : Own} {tf tf' : Nat → Value} {st st1 st2 st' : St} {ρ : Type} {P : Program}
/-- The temporaries, as the walk sees them. -/
def tfA (a : Act) : Nat → Value := fun s => a.tmps.getD s undef
theorem eval_ev (a : Act) : a.eval = ev (tfA a) := by funext x; cases x <;> rfl
theorem tfA_put {a : Act} {d : Nat} {v : Value} (h : d < a.tmps.size) : tfA (a.put (some d) v) = upd (tfA a) d v := by
  funext s
  simp only [tfA, Act.put, upd, Array.getD_eq_getD_getElem?, Array.getElem?_setIfInBounds]
  by_cases e : d = s
  · subst e; simp [h]
  · rw [if_neg e, if_neg (Ne.symm e)]
theorem Hand.leave {n : Nat} {e : Ent} {v : Value} (h : Hand M W w ow tf st n e v) : Rel M W w ow tf st := by
  have hown : (st n).owns = false := by rw [h.1.1]; rfl
  refine Rel.forget (n := n) (v := v) (Rel.weaken h.2.2 (fun s => ?_) (fun s s' hs hs' => ?_)) h.1.1
  · by_cases e : s = n
    · subst e; exact .inr h.1.1
    · left; rw [setS_ne _ _ e, hown]; rfl
  · have : s' ≠ n := fun e => h.1.2 s (e ▸ hs')
    rw [setS_ne _ _ this, hown]; rfl
/-- What an operation leaves: the walk goes on. -/
def Nx (M : Sc) (W : World) (κ : St → Option ρ) (r : ρ) (a a' : Act) (w' : World) : Prop :=
  ∃ st2 ow2, κ st2 = some r ∧ Fin st2 ∧ Rel M W w' ow2 (tfA a') st2 ∧ a'.tmps.size = a.tmps.size ∧ a'.defers = a.defers
def dstOk (o : Oper) (n : Nat) : Prop := ∀ d, o.dst = some d → d < n ∧ d < VB
theorem Fin.set {d : Nat} {e : Ent} (h : Fin st) (hd : d < VB) : Fin (setS st (some d) e) := fun y hy => by
  rw [setS_ne st e (show y ≠ d from fun k => absurd (k ▸ hd) (Nat.not_lt_of_le hy)), h y hy]; split <;> rfl
theorem nx_value {o : Oper} {a : Act} {v : Value} {κ : St → Option ρ} {r : ρ} (hd : dstOk o a.tmps.size) (hf : Fin st) (h : Res M W w' (tfA a) st VB v (fun st e => κ (setS st o.dst e)) r) : Nx M W κ r a (a.put o.dst v) w' := by
  obtain ⟨st1, e, h1, h2, ow', h3⟩ := h
  have hf1 := hf.of h2
  cases hdst : o.dst with
  | none =>
    rw [hdst] at h1
    exact ⟨st1, ow', h1, hf1, h3.leave, rfl, rfl⟩
  | some d =>
    rw [hdst] at h1
    obtain ⟨d1, d2⟩ := hd d hdst
    obtain ⟨ow2, k⟩ := h3.2.2.place h3.1 h3.2.1 (Nat.ne_of_lt d2)
    refine ⟨_, ow2, h1, hf1.set d2, ?_, ?_, rfl⟩
    · rw [tfA_put d1]; exact k
    · simp [Act.put]
theorem op_value {o : Oper} {a : Act} {v : Value} {κ : St → Option ρ} {r : ρ} {Q : Exit → Act → World → Prop} (hd : dstOk o a.tmps.size) (hf : Fin st) (he : (execOp a.eval o).run P w = .ok (.value v) w')
    (h : Res M W w' (tfA a) st VB v (fun st e => κ (setS st o.dst e)) r) : o.wp P a w (Nx M W κ r a) Q := by
  unfold Oper.wp
  rw [he]
  exact nx_value hd hf h
theorem run_v {s : Sem Value} {v : Value} (h : s.run P w = .ok v w') : (do pure (Next.value (← s)) : Sem Next).run P w = .ok (.value v) w' := by
  simp only [Sem.run_bind, h, Result.andThen_ok, Sem.run_pure]
theorem exec1_box {o : Oper} {t : TypeId} {x : Operand} {a : Act} {κ : St → Option ρ} {r : ρ} {Q : Exit → Act → World → Prop} (ho : o.op = .box t x) (hd : dstOk o a.tmps.size) (hf : Fin st) (h : Rel M W w ow (tfA a) st)
    (hx : xBox st x (fun st e => κ (setS st o.dst e)) = some r) : o.wp P a w (Nx M W κ r a) Q := by
  obtain ⟨v, w', k1, k2⟩ := xBox_sound (P := P) (e := t) h (hf VB (Nat.le_refl _)) hx
  refine op_value hd hf ?_ k2
  simp only [execOp, ho, eval_ev]
  exact run_v k1
theorem exec1_load {o : Oper} {t : TypeId} {x : Operand} {a : Act} {κ : St → Option ρ} {r : ρ} {Q : Exit → Act → World → Prop} (ho : o.op = .load t x) (hd : dstOk o a.tmps.size) (hf : Fin st) (h : Rel M W w ow (tfA a) st)
    (hx : xLoad P st t x (fun st e => κ (setS st o.dst e)) = some r) : o.wp P a w (Nx M W κ r a) Q := by
  obtain ⟨v, k1, k2⟩ := xLoad_sound (P := P) h (hf VB (Nat.le_refl _)) hx
  refine op_value hd hf ?_ k2
  simp only [execOp, ho, eval_ev]
  exact run_v k1
end Go.Proofs.Ytplmejnoepkdgaa.Rf
namespace Go.Proofs.Ytplmejnoepkdgaa.Rf
variable {M : Sc} {W w w' : World} {ow ow' : Own} {tf tf' : Nat → Value} {st st1 st2 st' : St} {ρ : Type} {P : Program}
variable {o : Oper} {a : Act} {κ : St → Option ρ} {r : ρ} {Q : Exit → Act → World → Prop}
theorem exec1_alloc {t : TypeId} (ho : o.op = .alloc t) (hd : dstOk o a.tmps.size) (hf : Fin st) (h : Rel M W w ow (tfA a) st)
    (hx : xAlloc P st t (fun st e => κ (setS st o.dst e)) = some r) : o.wp P a w (Nx M W κ r a) Q := by
  obtain ⟨v, w', k1, k2⟩ := xAlloc_sound (P := P) h (hf VB (Nat.le_refl _)) hx
  refine op_value hd hf ?_ k2
  simp only [execOp, ho, eval_ev]
  exact run_v k1
theorem exec1_bin {op : BinOp} {t t2 : TypeId} {x y : Operand} (ho : o.op = .binOp op t x y t2) (hd : dstOk o a.tmps.size) (hf : Fin st) (h : Rel M W w ow (tfA a) st)
    (hx : xBin P st op t x y (fun st e => κ (setS st o.dst e)) = some r) : o.wp P a w (Nx M W κ r a) Q := by
  obtain ⟨v, k1, k2⟩ := xBin_sound (P := P) (t' := t) h (hf VB (Nat.le_refl _)) hx
  refine op_value hd hf ?_ k2
  simp only [execOp, ho, eval_ev]
  exact run_v k1
theorem exec1_convert {s t : TypeId} {x : Operand} (ho : o.op = .convert s t x) (hd : dstOk o a.tmps.size) (hf : Fin st) (h : Rel M W w ow (tfA a) st)
    (hx : xConvert P st s t x (fun st e => κ (setS st o.dst e)) = some r) : o.wp P a w (Nx M W κ r a) Q := by
  obtain ⟨v, k1, k2⟩ := xConvert_sound (P := P) h (hf VB (Nat.le_refl _)) hx
  refine op_value hd hf ?_ k2
  simp only [execOp, ho, eval_ev]
  exact run_v k1
theorem exec1_makeSlice {t : TypeId} {l c : Operand} (ho : o.op = .makeSlice t l c) (hd : dstOk o a.tmps.size) (hf : Fin st) (h : Rel M W w ow (tfA a) st)
    (hx : xMakeSlice P st t l c (fun st e => κ (setS st o.dst e)) = some r) : o.wp P a w (Nx M W κ r a) Q := by
  obtain ⟨v, w', k1, k2⟩ := xMakeSlice_sound (P := P) h (hf VB (Nat.le_refl _)) hx
  refine op_value hd hf ?_ k2
  simp only [execOp, ho, eval_ev]
  exact run_v k1
theorem exec1_slice {t : TypeId} {x : Operand} {lo hi : Option Operand} (ho : o.op = .slice t x lo hi none) (hd : dstOk o a.tmps.size) (hf : Fin st) (h : Rel M W w ow (tfA a) st)
    (hx : xSlice P st t x lo hi (fun st e => κ (setS st o.dst e)) = some r) : o.wp P a w (Nx M W κ r a) Q := by
  obtain ⟨v, k1, k2⟩ := xSlice_sound (P := P) h (hf VB (Nat.le_refl _)) hx
  refine op_value hd hf ?_ k2
  simp only [execOp, ho, eval_ev]
  exact run_v k1
theorem exec1_fieldAddr {t : TypeId} {x : Operand} {f : Nat} (ho : o.op = .fieldAddr t x f) (hd : dstOk o a.tmps.size) (hf : Fin st) (h : Rel M W w ow (tfA a) st)
    (hx : xFieldAddr P st t x f (fun st e => κ (setS st o.dst e)) = some r) : o.wp P a w (Nx M W κ r a) Q := by
  obtain ⟨v, k1, k2⟩ := xFieldAddr_sound (P := P) h (hf VB (Nat.le_refl _)) hx
  refine op_value hd hf ?_ k2
  simp only [execOp, ho, eval_ev]
  exact run_v k1
theorem exec1_field {t : TypeId} {x : Operand} {f : Nat} (ho : o.op = .field t x f) (hd : dstOk o a.tmps.size) (hf : Fin st) (h : Rel M W w ow (tfA a) st)
    (hx : xField P st t x f (fun st e => κ (setS st o.dst e)) = some r) : o.wp P a w (Nx M W κ r a) Q := by
  obtain ⟨v, k1, k2⟩ := xField_sound (P := P) h (hf VB (Nat.le_refl _)) hx
  refine op_value hd hf ?_ k2
  simp only [execOp, ho, eval_ev]
  exact run_v k1
theorem exec1_indexAddr {t : TypeId} {x i : Operand} (ho : o.op = .indexAddr t x i) (hd : dstOk o a.tmps.size) (hf : Fin st) (h : Rel M W w ow (tfA a) st)
    (hx : xIndexAddr P st t x i (fun st e => κ (setS st o.dst e)) = some r) : o.wp P a w (Nx M W κ r a) Q := by
  obtain ⟨v, k1, k2⟩ := xIndexAddr_sound (P := P) h (hf VB (Nat.le_refl _)) hx
  refine op_value hd hf ?_ k2
  simp only [execOp, ho, eval_ev]
  exact run_v k1
theorem exec1_index {t : TypeId} {x i : Operand} (ho : o.op = .index t x i) (hd : dstOk o a.tmps.size) (hf : Fin st) (h : Rel M W w ow (tfA a) st)
    (hx : xIndex P st t x i (fun st e => κ (setS st o.dst e)) = some r) : o.wp P a w (Nx M W κ r a) Q := by
  obtain ⟨v, k1, k2⟩ := xIndex_sound (P := P) h (hf VB (Nat.le_refl _)) hx
  refine op_value hd hf ?_ k2
  simp only [execOp, ho, eval_ev]
  exact run_v k1
theorem exec1_extract {x : Operand} {n : Nat} (ho : o.op = .extract x n) (hd : dstOk o a.tmps.size) (hf : Fin st) (h : Rel M W w ow (tfA a) st)
    (hx : xExtract st x n (fun st e => κ (setS st o.dst e)) = some r) : o.wp P a w (Nx M W κ r a) Q := by
  obtain ⟨v, k1, k2⟩ := xExtract_sound (P := P) h (hf VB (Nat.le_refl _)) hx
  refine op_value hd hf ?_ k2
  simp only [execOp, ho, eval_ev]
  exact run_v k1
theorem exec1_move {x : Operand} (ho : o.op = .move x) (hd : dstOk o a.tmps.size) (hf : Fin st) (h : Rel M W w ow (tfA a) st)
    (hx : xMove st x (fun st e => κ (setS st o.dst e)) = some r) : o.wp P a w (Nx M W κ r a) Q := by
  refine op_value hd hf ?_ (xMove_sound h (hf VB (Nat.le_refl _)) hx)
  simp only [execOp, ho, eval_ev]; rfl
theorem exec1_assign {x : Operand} (ho : o.op = .assign x) (hd : dstOk o a.tmps.size) (hf : Fin st) (h : Rel M W w ow (tfA a) st)
    (hx : xAssign st x (fun st e => κ (setS st o.dst e)) = some r) : o.wp P a w (Nx M W κ r a) Q := by
  refine op_value hd hf ?_ (xAssign_sound h (hf VB (Nat.le_refl _)) hx)
  simp only [execOp, ho, eval_ev]; rfl
theorem exec1_pick {c x y : Operand} (ho : o.op = .pick c x y) (hd : dstOk o a.tmps.size) (hf : Fin st) (h : Rel M W w ow (tfA a) st)
    (hx : xPick st c x y (fun st e => κ (setS st o.dst e)) = some r) : o.wp P a w (Nx M W κ r a) Q := by
  obtain ⟨z, k1, k2⟩ := xPick_sound h (hf VB (Nat.le_refl _)) hx
  refine op_value hd hf ?_ k2
  simp only [execOp, ho, eval_ev, k1, asBool, Sem.run_bind, Sem.run_pure, Result.andThen_ok]
  cases z <;> rfl
theorem exec1_nilCheck {x : Operand} (ho : o.op = .nilCheck x) (hd : dstOk o a.tmps.size) (hf : Fin st) (h : Rel M W w ow (tfA a) st)
    (hx : xNilCheck st x (fun st e => κ (setS st o.dst e)) = some r) : o.wp P a w (Nx M W κ r a) Q := by
  obtain ⟨k1, k2⟩ := xNilCheck_sound h (hf VB (Nat.le_refl _)) hx
  refine op_value hd hf ?_ k1
  simp only [execOp, ho, eval_ev]
  rcases k2 with ⟨b, e⟩ | ⟨f, l, e⟩ <;> rw [e] <;> rfl
theorem exec1_unOp {op : UnOp} {t : TypeId} {x : Operand} {d e : Dv} (ho : o.op = .unOp op t x) (hd : dstOk o a.tmps.size) (hf : Fin st) (h : Rel M W w ow (tfA a) st)
    (hl : lookV st x = some d) (hu : unV op d = some e) (hx : κ (setS st o.dst (.val e)) = some r) : o.wp P a w (Nx M W κ r a) Q := by
  obtain ⟨s, p, hv⟩ := lookV_sound h hl
  obtain ⟨u, k1, k2⟩ := unV_run (P := P) (w := w) hu hv
  refine op_value (st := st) (v := u) hd hf ?_ ⟨st, .val e, hx, Deads.refl _, ow, h.handVal (hf VB (Nat.le_refl _)) (k2 _ _ _ _)⟩
  simp only [execOp, ho, eval_ev]
  exact run_v k1
theorem exec1_store {t : TypeId} {x y : Operand} (ho : o.op = .store t x y) (hdst : o.dst = none) (hf : Fin st) (h : Rel M W w ow (tfA a) st)
    (hx : xStore P st t x y (fun st => κ (setS st o.dst .dead)) = some r) : o.wp P a w (Nx M W κ r a) Q := by
  obtain ⟨w', st2, k1, k2, k3, ow', k4⟩ := xStore_sound (P := P) h (hf VB (Nat.le_refl _)) hx
  have hrun : (execOp a.eval o).run P w = .ok .skip w' := by
    simp only [execOp, ho, eval_ev]
    simp only [Sem.run_bind, k1, Result.andThen_ok, Sem.run_pure]
  unfold Oper.wp
  rw [hrun]
  show Nx M W κ r a (a.put o.dst undef) w'
  rw [hdst] at k2 ⊢
  exact ⟨st2, ow', k2, hf.of k3, k4, rfl, rfl⟩
theorem exec1_build {t : TypeId} {parts : Array (Nat × Operand)} (ho : o.op = .build t parts) (hd : dstOk o a.tmps.size) (hf : Fin st) (h : Rel M W w ow (tfA a) st)
    (hx : xBuild P st t parts.toList (fun st e => κ (setS st o.dst e)) = some r) : o.wp P a w (Nx M W κ r a) Q := by
  obtain ⟨v, k1, k2⟩ := xBuild_sound (P := P) h hf hx
  refine op_value hd hf ?_ k2
  simp only [execOp, ho, eval_ev]
  refine run_v ?_
  rw [← k1]; congr 2
  rw [← List.map_toArray]
theorem exec1_buildSlice {t : TypeId} {n : Nat} {parts : Array (Nat × Operand)} (ho : o.op = .buildSlice t n parts) (hd : dstOk o a.tmps.size) (hf : Fin st) (h : Rel M W w ow (tfA a) st)
    (hx : xBuildSlice P st t n parts.toList (fun st e => κ (setS st o.dst e)) = some r) : o.wp P a w (Nx M W κ r a) Q := by
  obtain ⟨v, w', k1, k2⟩ := xBuildSlice_sound (P := P) h hf hx
  refine op_value hd hf ?_ k2
  simp only [execOp, ho, eval_ev]
  refine run_v ?_
  rw [← k1]; congr 2
  rw [← List.map_toArray]
theorem exec1_makeFunc {f : FuncId} {first caps : Array Operand} {ds : List Dv} (ho : o.op = .makeFunc (.func f) first caps) (hd : dstOk o a.tmps.size) (hf : Fin st) (h : Rel M W w ow (tfA a) st)
    (h0 : first.toList = []) (hc : capt st caps.toList = some (ds, st1)) (hx : κ (setS st1 o.dst (.fn f ds)) = some r) : o.wp P a w (Nx M W κ r a) Q := by
  obtain ⟨⟨ow', k1⟩, k2⟩ := capt_hand (f := f) h hc (hf VB (Nat.le_refl _))
  refine op_value (st := st) hd hf ?_ ⟨st1, .fn f ds, hx, k2, ow', k1⟩
  have e0 : first = #[] := by cases first; simp_all
  simp only [execOp, ho, eval_ev]
  refine run_v ?_
  subst e0
  simp only [Instr.makeFunc, Sem.run_pure]
  congr 2
  · simp
  · rw [← List.map_toArray]
end Go.Proofs.Ytplmejnoepkdgaa.Rf
namespace Go.Proofs.Ytplmejnoepkdgaa.Rf
variable {M : Sc} {W w w' : World} {ow ow' : Own} {tf tf' : Nat → Value} {st st1 st2 st' : St} {ρ : Type} {P : Program}
variable {o : Oper} {a : Act} {κ : St → Option ρ} {r : ρ} {Q : Exit → Act → World → Prop}
theorem arr1 {α : Type} {x : Array α} {y : α} (h : x.toList = [y]) : x = #[y] := by cases x; simp_all
theorem arr2 {α : Type} {x : Array α} {y z : α} (h : x.toList = [y, z]) : x = #[y, z] := by cases x; simp_all
theorem exec1_builtin {b : Builtin} {args : Array Operand} {ts : Array TypeId} (ho : o.op = .call { callee := .builtin b, args := args, argTypes := ts }) (hd : dstOk o a.tmps.size) (hf : Fin st) (h : Rel M W w ow (tfA a) st)
    (hx : xBuiltin P st b args.toList ts.toList (fun st e => κ (setS st o.dst e)) = some r) : o.wp P a w (Nx M W κ r a) Q := by
  have hn := hf VB (Nat.le_refl _)
  unfold xBuiltin at hx
  split at hx
  · rename_i x t e1 e2
    obtain rfl := arr1 e1
    obtain rfl := arr1 e2
    obtain ⟨v, k1, k2⟩ := xLen_sound (P := P) (ty := o.type) h hn hx
    refine op_value hd hf ?_ k2
    simp only [execOp, ho, resolve, eval_ev, invoke, builtin, Sem.run_bind, Sem.run_pure, Result.andThen_ok]
    simp only [List.map_toArray, List.map_cons, List.map_nil, k1, Result.andThen_ok]
  · rename_i x t e1 e2
    obtain rfl := arr1 e1
    obtain rfl := arr1 e2
    split at hx
    · rename_i u hop ht
      obtain ⟨e, hu⟩ := isSlT_spec ht
      obtain ⟨s, p, hv⟩ := opd_val h hop
      obtain ⟨hc, hr⟩ := hv.cell rfl
      simp only [Rd] at hr
      obtain ⟨ad, hr⟩ := hr
      have hv' : ev (tfA a) x = .slice ad 0 0 := by simpa using hr
      refine op_value (st := st) (v := .int .i64 0) hd hf ?_ ⟨st, _, hx, Deads.refl _, ow, h.handVal hn (VR.mk_int ..)⟩
      simp only [execOp, ho, resolve, eval_ev, invoke, builtin, Sem.run_bind, Sem.run_pure, Result.andThen_ok]
      simp only [List.map_toArray, List.map_cons, List.map_nil, hv']
      simp [Builtin.cap_, run_underlying hu, goInt]
    · cases hx
  · rename_i x y t t' e1 e2
    obtain rfl := arr2 e1
    obtain rfl := arr2 e2
    obtain ⟨v, w', k1, k2⟩ := xAppend_sound (P := P) (ty := o.type) h hf hx
    refine op_value hd hf ?_ k2
    simp only [execOp, ho, resolve, eval_ev, invoke, builtin, Sem.run_bind, Sem.run_pure, Result.andThen_ok]
    simp only [List.map_toArray, List.map_cons, List.map_nil, k1, Result.andThen_ok]
  · rename_i x y e1
    obtain rfl := arr2 e1
    obtain ⟨v, k1, k2⟩ := xMax_sound (P := P) (ts := ts) (ty := o.type) h hn hx
    refine op_value hd hf ?_ k2
    simp only [execOp, ho, resolve, eval_ev, invoke, builtin, Sem.run_bind, Sem.run_pure, Result.andThen_ok]
    simp only [List.map_toArray, List.map_cons, List.map_nil, k1, Result.andThen_ok]
  · rename_i x y e1
    obtain rfl := arr2 e1
    obtain ⟨v, k1, k2⟩ := xMin_sound (P := P) (ts := ts) (ty := o.type) h hn hx
    refine op_value hd hf ?_ k2
    simp only [execOp, ho, resolve, eval_ev, invoke, builtin, Sem.run_bind, Sem.run_pure, Result.andThen_ok]
    simp only [List.map_toArray, List.map_cons, List.map_nil, k1, Result.andThen_ok]
  · cases hx
end Go.Proofs.Ytplmejnoepkdgaa.Rf
namespace Go.Proofs.Ytplmejnoepkdgaa.Rf
variable {M : Sc} {W w w' : World} {ow ow' : Own} {tf tf' : Nat → Value} {st st1 st2 st' : St} {ρ : Type}
variable {o : Oper} {a : Act} {κ : St → Option ρ} {r : ρ} {Q : Exit → Act → World → Prop}
/-- An operation that is no call of a function. -/
theorem exec1_sound {C : Cx ρ} (hcall : ∀ f args ts, o.op = .call { callee := .value f, args := args, argTypes := ts } → exec1 C st o κ = some r → o.wp C.P a w (Nx M W κ r a) Q)
    (hd : dstOk o a.tmps.size) (hst : ∀ t x y, o.op = .store t x y → o.dst = none) (hf : Fin st) (h : Rel M W w ow (tfA a) st)
    (hx : exec1 C st o κ = some r) : o.wp C.P a w (Nx M W κ r a) Q := by
  have hx0 := hx
  unfold exec1 at hx
  split at hx
  · rename_i ho; exact exec1_move ho hd hf h hx
  · rename_i ho; exact exec1_assign ho hd hf h hx
  · rename_i ho; exact exec1_pick ho hd hf h hx
  · rename_i ho; exact exec1_alloc ho hd hf h hx
  · rename_i ho; exact exec1_box ho hd hf h hx
  · rename_i ho; exact exec1_build ho hd hf h hx
  · rename_i ho; exact exec1_buildSlice ho hd hf h hx
  · rename_i ho; exact exec1_load ho hd hf h hx
  · rename_i ho; exact exec1_store ho (hst _ _ _ ho) hf h hx
  · rename_i ho; exact exec1_nilCheck ho hd hf h hx
  · rename_i ho; exact exec1_bin ho hd hf h hx
  · rename_i ho
    split at hx
    · rename_i d hl
      split at hx
      · rename_i e hu; exact exec1_unOp ho hd hf h hl hu hx
      · cases hx
    · cases hx
  · rename_i ho; exact exec1_convert ho hd hf h hx
  · rename_i ho
    split at hx
    · rename_i h0 hc; exact exec1_makeFunc ho hd hf h h0 hc hx
    · cases hx
  · rename_i ho; exact exec1_makeSlice ho hd hf h hx
  · rename_i ho; exact exec1_slice ho hd hf h hx
  · rename_i ho; exact exec1_fieldAddr ho hd hf h hx
  · rename_i ho; exact exec1_field ho hd hf h hx
  · rename_i ho; exact exec1_indexAddr ho hd hf h hx
  · rename_i ho; exact exec1_index ho hd hf h hx
  · rename_i ho; exact exec1_extract ho hd hf h hx
  · rename_i ho; exact exec1_builtin ho hd hf h hx
  · rename_i ho; exact hcall _ _ _ ho hx0
  · cases hx
end Go.Proofs.Ytplmejnoepkdgaa.Rf
namespace Go.Proofs.Ytplmejnoepkdgaa.Rf
variable {M : Sc} {W w w' : World} {ow ow' : Own} {tf tf' : Nat → Value} {st st1 st2 st' : St} {ρ : Type}
variable {o : Oper} {a : Act} {κ : St → Option ρ} {r : ρ} {Q : Exit → Act → World → Prop}
theorem setB_same {s : Nat} {b : Bool} (h : st s = .val ⟨.bool, b⟩) : setB st s b = st := by
  funext y
  simp only [setB]
  by_cases e : y = s
  · subst e; rw [beq_self]; exact h.symm
  · rw [beq_ne e]
theorem nthOp_get : ∀ (l : List Oper) (n : Nat), nthOp l n = l[n]?
  | [], n => by simp [nthOp]
  | d :: l, 0 => rfl
  | d :: l, n + 1 => by simp only [nthOp, List.getElem?_cons_succ]; exact nthOp_get l n
theorem tfA_some {s : Nat} {v : Value} (h : tfA a s = v) (hv : v ≠ undef) : a.tmps[s]? = some v := by
  simp only [tfA, Array.getD_eq_getD_getElem?] at h
  cases e : a.tmps[s]? with
  | none => rw [e] at h; exact absurd h.symm hv
  | some u => rw [e] at h; exact congrArg some h
/-- An operation that is left out. -/
theorem nx_skip (hd : dstOk o a.tmps.size) (hf : Fin st) (h : Rel M W w ow (tfA a) st) (hx : κ (setS st o.dst (.tup [])) = some r) : Nx M W κ r a (a.put o.dst undef) w := by
  refine nx_value hd hf ⟨st, .tup [], hx, Deads.refl _, ow, h.hand (hf VB (Nat.le_refl _)) (by simp [Ent.names]) ?_⟩
  simp only [ER, upd_same]
  exact ⟨[], rfl, rfl, fun j d v hd => by simp at hd⟩
theorem execOps_sound {C : Cx ρ} {ops : Array Oper} {n : Nat}
    (hop : ∀ o ∈ ops.toList, ∀ (st : St) (a : Act) (w : World) (ow : Own) (κ : St → Option ρ), a.tmps.size = n → Fin st → Rel M W w ow (tfA a) st → exec1 C st o κ = some r → ∀ Q, o.wp C.P a w (Nx M W κ r a) Q)
    (hdst : ∀ o ∈ ops.toList, dstOk o n) {ds : List Deferred} (hQ : ∀ a' w' st2 ow2, κ st2 = some r → Fin st2 → Rel M W w' ow2 (tfA a') st2 → a'.tmps.size = n → a'.defers = ds → Q .normal a' w') :
    ∀ (os : List Oper) (i : Nat) {st : St} {a : Act} {w : World} {ow : Own}, os = ops.toList.drop i → a.tmps.size = n → a.defers = ds → Fin st → Rel M W w ow (tfA a) st → execOps C ops.toList os st κ = some r →
      wpOps C.P ops Q (List.range' i os.length) a w
  | [], i, st, a, w, ow, ho, hn, hds, hf, h, hx => hQ a w st ow hx hf h hn hds
  | o :: os, i, st, a, w, ow, ho, hn, hds, hf, h, hx => by
    have hi : ops.toList[i]? = some o := by
      have := congrArg (·[0]?) ho
      simpa using this.symm
    have hmem : o ∈ ops.toList := List.mem_of_getElem? hi
    have hos : os = ops.toList.drop (i + 1) := by
      have := congrArg (List.drop 1) ho
      simpa [List.drop_drop, Nat.add_comm] using this
    have hio : ops[i]? = some o := by simpa using hi
    rw [List.length_cons, List.range'_succ, wpOps_cons]
    unfold wpOp
    rw [hio]
    dsimp only
    have go : ∀ {a' : Act} {w' : World}, Nx M W (fun st1 => execOps C ops.toList os st1 κ) r a a' w' → wpOps C.P ops Q (List.range' (i + 1) os.length) a' w' := fun {a' w'} hN => by
      obtain ⟨st2, ow2, k1, k2, k3, k4, k5⟩ := hN
      exact execOps_sound hop hdst hQ os (i + 1) hos (by rw [k4, hn]) (by rw [k5, hds]) k2 k3 k1
    simp only [execOps, step1] at hx
    cases hg : o.guard with
    | none =>
      rw [hg] at hx
      rw [if_pos (by simp [Region.wanted, hg])]
      exact .inl (Oper.wp_mono (fun a' w' hN => go hN) (hop o hmem st a w ow _ hn hf h hx Q))
    | some jw =>
      obtain ⟨j, wnt⟩ := jw
      rw [hg] at hx
      dsimp only at hx
      split at hx
      · rename_i oj hj
        rw [nthOp_get] at hj
        have hjo : ops[j]? = some oj := by simpa using hj
        split at hx
        · rename_i s hs
          have hy : yielded ops a.tmps j = match a.tmps[s]? with | some (.bool b) => some b | _ => none := by
            simp only [yielded, hjo, hs, Option.bind_some]
            rfl
          split at hx
          · rename_i b hb
            have hx := brB_some hx
            rw [setB_same hb] at hx
            have hv : a.tmps[s]? = some (.bool b) := tfA_some (h.vr hb).bool (by simp [undef])
            have hy : yielded ops a.tmps j = some (show Bool from b) := by rw [hy, hv]
            have hwant : Region.wanted o (yielded ops a.tmps) = ((show Bool from b) == wnt) := by
              simp only [Region.wanted, hg, hy]; cases (show Bool from b) <;> cases wnt <;> rfl
            split at hx
            · rename_i hw
              rw [if_pos (by rw [hwant]; exact hw)]
              exact .inl (Oper.wp_mono (fun a' w' hN => go hN) (hop o hmem st a w ow _ hn hf h hx Q))
            · rename_i hw
              rw [if_neg (by rw [hwant]; exact Bool.eq_false_iff.1 hw)]
              exact go (nx_skip (by rw [hn]; exact hdst o hmem) hf h hx)
          · rename_i hb
            have hent := h.ent s
            rw [hb] at hent
            simp only [ER] at hent
            obtain ⟨vs, e1, e2, _⟩ := hent
            obtain rfl := List.length_eq_zero_iff.1 e2
            have hy' : yielded ops a.tmps j = none := by
              rw [hy]
              cases e : a.tmps[s]? with
              | none => rfl
              | some u =>
                have : tfA a s = u := by simp [tfA, Array.getD_eq_getD_getElem?, e]
                rw [e1] at this
                rw [← this]
            rw [if_neg (by simp [Region.wanted, hg, hy'])]
            exact go (nx_skip (by rw [hn]; exact hdst o hmem) hf h hx)
          · cases hx
        · cases hx
      · cases hx
end Go.Proofs.Ytplmejnoepkdgaa.Rf
namespace Go.Proofs.Ytplmejnoepkdgaa.Rf
def Ty.okA (ok : Bool → Bool) (sp : Bool) : Ty → Bool
  | .sl f t => ok f && t.okA ok sp | .osl _ t => t.okA ok sp | .optr _ t => t.okA ok sp | .sptr t => sp && t.okA ok sp
  | .pair a b => a.okA ok sp && b.okA ok sp | .arr _ t => t.okA ok sp | _ => true
theorem Ty.okR_okA (bor : Bool) : (t : Ty) → t.okR bor = true → t.okA (fun f => f || !bor) false = true := by
  intro t
  induction t with
  | pair a b iha ihb => intro h; simp only [Ty.okR, Ty.okA, Bool.and_eq_true] at *; exact ⟨iha h.1, ihb h.2⟩
  | sl f t ih => intro h; simp only [Ty.okR, Ty.okA, Bool.and_eq_true] at *; exact ⟨h.1, ih h.2⟩
  | osl f t ih => intro h; exact ih h
  | optr f t ih => intro h; exact ih h
  | arr n t ih => intro h; exact ih h
  | sptr t ih => intro h; cases h
  | _ => intro h; rfl
theorem Ty.noFr_okA : (t : Ty) → t.noFr = true → t.okA (fun f => !f) true = true := by
  intro t
  induction t with
  | pair a b iha ihb => intro h; simp only [Ty.noFr, Ty.okA, Bool.and_eq_true] at *; exact ⟨iha h.1, ihb h.2⟩
  | sl f t ih => intro h; simp only [Ty.noFr, Ty.okA, Bool.and_eq_true] at *; exact ⟨h.1, ih h.2⟩
  | osl f t ih => intro h; exact ih h
  | optr f t ih => intro h; exact ih h
  | arr n t ih => intro h; exact ih h
  | sptr t ih => intro h; simp only [Ty.okA, Bool.true_and]; exact ih h
  | _ => intro h; rfl
theorem Ty.okA_all : (t : Ty) → t.okA (fun _ => true) true = true := by
  intro t
  induction t with
  | pair a b iha ihb => simp only [Ty.okA, iha, ihb]; rfl
  | sl f t ih => simp only [Ty.okA, ih]; rfl
  | sptr t ih => simp only [Ty.okA, ih]; rfl
  | osl f t ih => exact ih
  | optr f t ih => exact ih
  | arr n t ih => exact ih
  | _ => rfl
/-- A value, its labels and classes turned. -/
theorem rdTr {w : World} {ow ow' : Own} {bs bs' : Fl} {ok : Bool → Bool} {sp : Bool}
    (hsl : ∀ q b, ok q = true → b < w.heap.size → ow b = none → bs.at q b → ow' b = none ∧ bs'.at q b)
    (hsp : sp = true → ∀ b, b < w.heap.size → ow b = none → ow' b = none)
    : (t : Ty) → t.okA ok sp = true → {s s' : Nat} → {p p' : List Step} → {g : Nat → Option Value} → {o : Nat} → {x : t.den} →
    (t.hasOwn = true → ∀ b q, ow b = some (s, p ++ q) → ow' b = some (s', p' ++ q)) → (t.hasOwn = true → ∀ q b l, ow b = some l → bs.at q b → bs'.at q b) → Rd w ow bs t s p g o x → Rd w ow' bs' t s' p' g o x
  | .int k, _, _, _, _, _, _, _, _, _, _, h => h
  | .bool, _, _, _, _, _, _, _, _, _, _, h => h
  | .str, _, _, _, _, _, _, _, _, _, _, h => h
  | .nils, _, _, _, _, _, _, _, _, _, _, h => h
  | .nilp, _, _, _, _, _, _, _, _, _, _, h => h
  | .hole, _, _, _, _, _, _, _, _, _, _, h => h
  | .unit, _, _, _, _, _, _, _, _, _, _, h => by simp only [Rd]
  | .pair a b, ha, s, s', p, p', g, o, x, hl, hown, h => by
    simp only [Ty.okA, Bool.and_eq_true] at ha
    simp only [Rd] at h ⊢
    refine ⟨rdTr hsl hsp a ha.1 (fun ho b' q hq => ?_) (fun ho => ?_) h.1, rdTr hsl hsp b ha.2 (fun ho b' q hq => ?_) (fun ho => ?_) h.2⟩
    · rw [List.append_assoc] at hq ⊢; exact hl (by simp [Ty.hasOwn, ho]) b' _ hq
    · exact hown (by simp [Ty.hasOwn, ho])
    · rw [List.append_assoc] at hq ⊢; exact hl (by simp [Ty.hasOwn, ho]) b' _ hq
    · exact hown (by simp [Ty.hasOwn, ho])
  | .arr n t, ha, s, s', p, p', g, o, x, hl, hown, h => by
    simp only [Ty.okA] at ha
    simp only [Rd] at h ⊢
    refine ⟨h.1, fun i hi => rdTr hsl hsp t ha (fun ho b' q hq => ?_) (fun ho => hown ho) (h.2 i hi)⟩
    rw [List.append_assoc] at hq ⊢; exact hl ho b' _ hq
  | .sptr t, ha, s, s', p, p', g, o, x, hl, hown, h => by
    simp only [Ty.okA, Bool.and_eq_true] at ha
    simp only [Rd] at h ⊢
    obtain ⟨b, o1, h1, h2, hb, h3⟩ := h
    exact ⟨b, o1, h1, hsp ha.1 b hb h2, hb, rdTr hsl hsp t ha.2 (fun ho => hl ho) (fun ho => hown ho) h3⟩
  | .optr f t, ha, s, s', p, p', g, o, x, hl, hown, h => by
    simp only [Ty.okA] at ha
    simp only [Rd] at h ⊢
    obtain ⟨b, h1, h2, hf, hw, h3⟩ := h
    exact ⟨b, h1, by simpa using hl rfl b [] (by simpa using h2), hown rfl _ _ _ h2 hf, hw, rdTr hsl hsp t ha (fun ho b' q hq => by rw [List.append_assoc] at hq ⊢; exact hl rfl b' _ hq) (fun _ => hown rfl) h3⟩
  | .sl f t, ha, s, s', p, p', g, o, x, hl, hown, h => by
    simp only [Ty.okA, Bool.and_eq_true] at ha
    simp only [Rd] at h ⊢
    obtain ⟨a, len, cap, h1, h2, hle, h3⟩ := h
    refine ⟨a, len, cap, h1, h2, hle, fun h0 => ?_⟩
    obtain ⟨b, o1, hab, hb, hf, hlt, hi⟩ := h3 h0
    obtain ⟨k1, k2⟩ := hsl f b ha.1 hlt hb hf
    exact ⟨b, o1, hab, k1, k2, hlt, fun i hi' => rdTr hsl hsp t ha.2 (fun ho => hl ho) (fun ho => hown ho) (hi i hi')⟩
  | .osl f t, ha, s, s', p, p', g, o, x, hl, hown, h => by
    simp only [Ty.okA] at ha
    simp only [Rd] at h ⊢
    obtain ⟨a, len, cap, h1, h2, hle, h3⟩ := h
    refine ⟨a, len, cap, h1, h2, hle, fun h0 => ?_⟩
    obtain ⟨b, o1, hab, hb, hf, hw, hi⟩ := h3 h0
    exact ⟨b, o1, hab, by simpa using hl rfl b [] (by simpa using hb), hown rfl _ _ _ hb hf, hw, fun i hlt => rdTr hsl hsp t ha (fun ho b' q hq => by rw [List.append_assoc] at hq ⊢; exact hl rfl b' _ hq) (fun _ => hown rfl) (hi i hlt)⟩
variable {M : Sc} {W w w' : World} {ow ow' : Own} {tf tf' : Nat → Value} {st st1 st2 st' : St} {ρ : Type}
abbrev own0 : Own := fun _ => none
/-- What is lent to a callee, or what nobody owns. -/
theorem VR.entry {d : Dv} {t : Ty} {y : t.den} {v : Value} {F Fc : Fl} {s s' : Nat} {p p' : List Step} (hc : Rf.coe t d.1 d.2 = some y) (ht : t.hasOwn = false) (hv : VR w ow F d s p v)
    (H : (d.1.hasOwn = false ∧ ∀ q b, ow b = none → F.at q b → Fc.at q b) ∨ (t.noFr = true ∧ ∀ b, Fc.s b)) : VR w own0 Fc ⟨t, y⟩ s' p' v := by
  obtain ⟨h1, h2, h3⟩ := hv
  obtain ⟨k1, k2⟩ := coe_sz _ _ hc
  refine ⟨by rw [← h1, k2], by rw [h2, k1], ?_⟩
  rcases H with ⟨hf, hF⟩ | ⟨hn, hF⟩
  · have h4 : Rd w own0 Fc d.1 s p (fun o => v.cells[o]?) 0 d.2 := rdTr (ow := ow) (bs := F) (ok := fun _ => true) (sp := true) (s := s) (p := p) (fun q b _ _ hb hq => ⟨rfl, hF q b hb hq⟩) (fun _ _ _ _ => rfl) d.1 (Ty.okA_all _) (fun ho => by rw [hf] at ho; cases ho) (fun ho => by rw [hf] at ho; cases ho) h3
    obtain ⟨ow', hl, h5⟩ := Rd.coe _ _ hc h4
    have : ow' = own0 := by funext b; exact hl.1 b rfl
    subst this
    exact Rd.flat (Nat.le_refl _) t ht (fun _ _ => rfl) (fun _ _ h => ⟨h, rfl⟩) h5
  · obtain ⟨ow', hl, h5⟩ := Rd.coe _ _ hc h3
    exact rdTr (ow := ow') (bs := F) (ok := fun f => !f) (sp := true) (s := s) (p := p) (fun q b hq _ hb hF' => ⟨rfl, by cases q <;> first | exact hF b | cases hq⟩) (fun _ _ _ _ => rfl) t (Ty.noFr_okA t hn) (fun ho => by rw [ht] at ho; cases ho) (fun ho => by rw [ht] at ho; cases ho) h5
end Go.Proofs.Ytplmejnoepkdgaa.Rf
namespace Go.Proofs.Ytplmejnoepkdgaa.Rf
variable {M : Sc} {W w w' : World} {ow ow' : Own} {tf tf' : Nat → Value} {st st1 st2 st' : St} {ρ : Type}
/-- What an argument's entry says of its value. -/
def ArgE (w : World) (ow : Own) (F : Fl) (st : St) (e : Ent) (v : Value) : Prop :=
  match e with
  | .val d => d.1.hasOwn = false ∧ ∃ s p, VR w ow F d s p v
  | .al s p _ => ∀ d, getP st s p = some d → ∃ s p, VR w ow F d s p v
  | .fn f ds => ∃ vs : List Value, v = .func (.func f) #[] vs.toArray ∧ vs.length = ds.length ∧ ∀ (j : Nat) (d : Dv) (u : Value), ds[j]? = some d → vs[j]? = some u → d.1.hasOwn = false ∧ ∃ s p, VR w ow F d s p u
  | _ => True
def ArgsE (w : World) (ow : Own) (F : Fl) (st : St) : List Ent → List Value → Prop
  | [], [] => True
  | e :: es, v :: vs => ArgE w ow F st e v ∧ ArgsE w ow F st es vs
  | _, _ => False
theorem entOf_sound (h : Rel M W w ow tf st) (x : Operand) : ArgE w ow M.f st (entOf st x) (ev tf x) := by
  cases x with
  | tmp s =>
    simp only [entOf]
    split
    · rename_i d hs
      split
      · intro d' hd'
        simp only [getP, hs, get, Option.some.injEq] at hd'
        subst hd'
        exact ⟨s, [], h.vr hs⟩
      · rename_i ho; exact ⟨ho, s, [], h.vr hs⟩
    · rename_i e hne
      cases hs : st s with
      | val d => exact absurd hs (hne d)
      | al s' p t =>
        intro d hd
        exact lookV_sound (x := .tmp s) h (by simp only [lookV, opd, hs]; exact hd)
      | fn f ds =>
        have k := h.ent s
        rw [hs] at k
        obtain ⟨vs, h1, h2, h3⟩ := k
        exact ⟨vs, h1, h2, fun j d u hd hu => ⟨(h3 j d u hd hu).1, _, _, (h3 j d u hd hu).2⟩⟩
      | ref => trivial
      | tup => trivial
      | dead => trivial
  | const v =>
    simp only [entOf, opd]
    rcases cst_cases (v := v) rfl with e | ⟨d, e, h1, h2⟩
    · rw [e]; trivial
    · rw [e]; exact ⟨h1, 0, [], h2 _ _ _ _ _⟩
  | func f => exact ⟨[], rfl, rfl, fun j d u hd => by simp at hd⟩
  | global g => trivial
/-- What a callee may change, and what it may hand out. -/
def scC (M : Sc) (w : World) (ow : Own) (bor : Bool) : Sc where
  m b := w.heap.size ≤ b
  f := { t := fun b => w.heap.size ≤ b ∨ (ow b = none ∧ M.f.t b), s := fun b => bor = true ∨ w.heap.size ≤ b ∨ (ow b = none ∧ M.f.s b)
         ts := fun b h => .inr (h.imp id fun k => ⟨k.1, M.f.ts b k.2⟩) }
  mf q b h := by cases q with | true => exact .inl h | false => exact .inr (.inl h)
theorem scC_at {bor q : Bool} {b : Nat} (h1 : ow b = none) (h2 : M.f.at q b) : (scC M w ow bor).f.at q b := by
  cases q with
  | true => exact .inr ⟨h1, h2⟩
  | false => exact .inr (.inr ⟨h1, h2⟩)
theorem HL_of : ∀ (ts : List Ty) (ds : List Dv) {x : HL ts}, HL.of ts ds = some x → (HL.dvs ts x).length = ds.length ∧ ∀ (j : Nat) (d' : Dv), (HL.dvs ts x)[j]? = some d' → ∃ d, ds[j]? = some d ∧ d'.1 ∈ ts ∧ Rf.coe d'.1 d.1 d.2 = some d'.2
  | [], [], x, h => ⟨rfl, fun j d' hd => by simp [HL.dvs] at hd⟩
  | [], _ :: _, x, h => by simp only [HL.of, reduceCtorEq] at h
  | _ :: _, [], x, h => by simp only [HL.of, reduceCtorEq] at h
  | t :: ts, d :: ds, x, h => by
    simp only [HL.of] at h
    split at h
    · rename_i y z h1 h2
      obtain rfl := Option.some.inj h
      obtain ⟨k1, k2⟩ := HL_of ts ds h2
      refine ⟨by simp only [HL.dvs, List.length_cons, k1], fun j d' hd => ?_⟩
      cases j with
      | zero => simp only [HL.dvs, List.getElem?_cons_zero, Option.some.injEq] at hd; subst hd; exact ⟨d, rfl, List.mem_cons_self, h1⟩
      | succ j =>
        simp only [HL.dvs, List.getElem?_cons_succ] at hd
        obtain ⟨d0, e1, e2, e3⟩ := k2 j d' hd
        exact ⟨d0, by simpa using e1, List.mem_cons_of_mem _ e2, e3⟩
    · cases h
theorem argL_v (n : Nat) (t : Ty) (r : List LS) (e : Ent) (es : List Ent) : argL st n (.v t :: r) (e :: es) = (match t.hasOwn with
    | true => none
    | false => match e with
      | .val d => match coe t d.1 d.2, argL st (n + 1) r es with | some x, some y => some (x, y) | _, _ => none
      | .al s p _ => match getP st s p, t.noFr with
        | some d, true => match coe t d.1 d.2, argL st (n + 1) r es with | some x, some y => some (x, y) | _, _ => none
        | _, _ => none
      | _ => none : Option (t.den × LL (idx (n + 1) r))) := rfl
theorem argL_fn (n : Nat) (f : FuncId) (ts : List Ty) (r : List LS) (e : Ent) (es : List Ent) : argL st n (.fn f ts :: r) (e :: es) = (match e with
    | .fn f' ds => match Nat.beq f' f && ts.all fun t => !t.hasOwn with
      | true => match HL.of ts ds, argL st (n + 1) r es with | some x, some y => some (x, y) | _, _ => none
      | false => none
    | _ => none : Option (HL ts × LL (idx (n + 1) r))) := rfl
theorem argL_sound {bor : Bool} : ∀ (ps : List LS) (n : Nat) (es : List Ent) (vs : List Value) {H : LL (idx n ps)}, argL st n ps es = some H → ArgsE w ow M.f st es vs → (∀ e ∈ es, e.borrows = true → bor = true) →
    ∀ (tfc : Nat → Value), (∀ (i : Nat) (v : Value), vs[i]? = some v → tfc (n + i) = v) → ∀ (stX : St) (s : Nat), ER w own0 (scC M w ow bor).f tfc stX s (mkSt (idx n ps) H s)
  | [], n, [], vs, H, h, hf, hb, tfc, ht, stX, s => trivial
  | [], n, _ :: _, vs, H, h, hf, hb, tfc, ht, stX, s => by exact absurd (show (none : Option (LL (idx n _))) = some H from h) (by simp)
  | .v t :: r, n, [], vs, H, h, hf, hb, tfc, ht, stX, s => by exact absurd (show (none : Option (LL (idx n _))) = some H from h) (by simp)
  | .no :: r, n, [], vs, H, h, hf, hb, tfc, ht, stX, s => by exact absurd (show (none : Option (LL (idx n _))) = some H from h) (by simp)
  | .fn _ _ :: r, n, [], vs, H, h, hf, hb, tfc, ht, stX, s => by exact absurd (show (none : Option (LL (idx n _))) = some H from h) (by simp)
  | .al _ _ _ :: r, n, [], vs, H, h, hf, hb, tfc, ht, stX, s => by exact absurd (show (none : Option (LL (idx n _))) = some H from h) (by simp)
  | .ref _ _ _ :: r, n, [], vs, H, h, hf, hb, tfc, ht, stX, s => by exact absurd (show (none : Option (LL (idx n _))) = some H from h) (by simp)
  | .al _ _ _ :: r, n, _ :: _, vs, H, h, hf, hb, tfc, ht, stX, s => by exact absurd (show (none : Option (LL (idx n _))) = some H from h) (by simp)
  | .ref _ _ _ :: r, n, _ :: _, vs, H, h, hf, hb, tfc, ht, stX, s => by exact absurd (show (none : Option (LL (idx n _))) = some H from h) (by simp)
  | .no :: r, n, e :: es, vs, H, h, hf, hb, tfc, ht, stX, s => by
    cases vs with
    | nil => exact hf.elim
    | cons v0 vs =>
      obtain ⟨h1, h2⟩ := hf
      exact argL_sound r (n + 1) es _ h h2 (fun e he => hb e (List.mem_cons_of_mem _ he)) tfc (fun i v hv => by rw [← ht (i + 1) v (by simpa using hv)]; congr 1; omega) stX s
  | .v t :: r, n, e :: es, vs, H, h, hf, hb, tfc, ht, stX, s => by
    cases vs with
    | nil => exact hf.elim
    | cons v0 vs =>
      obtain ⟨h1, h2⟩ := hf
      have hv0 : tfc n = v0 := ht 0 v0 rfl
      have rec1 : ∀ {z : LL (idx (n + 1) r)}, argL st (n + 1) r es = some z → ER w own0 (scC M w ow bor).f tfc stX s (mkSt (idx (n + 1) r) z s) := fun hz =>
        argL_sound r (n + 1) es _ hz h2 (fun e he => hb e (List.mem_cons_of_mem _ he)) tfc (fun i v hv => by rw [← ht (i + 1) v (by simpa using hv)]; congr 1; omega) stX s
      have fin : ∀ {y : t.den} {z : LL (idx (n + 1) r)}, argL st (n + 1) r es = some z → (∀ s' p', VR w own0 (scC M w ow bor).f ⟨t, y⟩ s' p' v0) → ER w own0 (scC M w ow bor).f tfc stX s (mkSt (idx n (.v t :: r)) (y, z) s) := fun {y z} hz hy => by
        simp only [idx, mkSt]
        by_cases e : s = n
        · subst e; rw [beq_self]; simp only [ER]; rw [hv0]; exact hy _ _
        · rw [beq_ne e]; exact rec1 hz
      rw [argL_v] at h
      split at h
      · cases h
      · rename_i hto
        split at h
        · rename_i d
          split at h
          · rename_i y z hy hz
            obtain rfl := Option.some.inj h
            obtain ⟨g1, s0, p0, g2⟩ := h1
            exact fin hz fun s' p' => VR.entry hy hto g2 (.inl ⟨g1, fun q b hb hq => scC_at hb hq⟩)
          · cases h
        · rename_i s1 p1 t1
          split at h
          · rename_i d hd hno
            split at h
            · rename_i y z hy hz
              obtain rfl := Option.some.inj h
              obtain ⟨s0, p0, g2⟩ := h1 d hd
              have : bor = true := hb _ List.mem_cons_self rfl
              exact fin hz fun s' p' => VR.entry hy hto g2 (.inr ⟨hno, fun b => .inl this⟩)
            · cases h
          · cases h
        · cases h
  | .fn f ts :: r, n, e :: es, vs, H, h, hf, hb, tfc, ht, stX, s => by
    cases vs with
    | nil => exact hf.elim
    | cons v0 vs =>
      obtain ⟨h1, h2⟩ := hf
      have hv0 : tfc n = v0 := ht 0 v0 rfl
      rw [argL_fn] at h
      split at h
      · rename_i f' ds
        split at h
        · rename_i hc
          simp only [Bool.and_eq_true, List.all_eq_true, Bool.not_eq_true'] at hc
          have hff : f' = f := Nat.eq_of_beq_eq_true hc.1
          subst hff
          split at h
          · rename_i y z hy hz
            obtain rfl := Option.some.inj h
            obtain ⟨us, g1, g2, g3⟩ := h1
            simp only [idx, mkSt]
            by_cases e : s = n
            · subst e
              rw [beq_self]
              simp only [ER]
              obtain ⟨k1, k2⟩ := HL_of ts ds hy
              refine ⟨us, by rw [hv0, g1], by rw [g2, k1], fun j d u hd hu => ?_⟩
              obtain ⟨d0, e1, e2, e3⟩ := k2 j d hd
              obtain ⟨q1, s0, p0, q2⟩ := g3 j d0 u e1 hu
              exact ⟨hc.2 _ e2, VR.entry e3 (hc.2 _ e2) q2 (.inl ⟨q1, fun q b hb hq => scC_at hb hq⟩)⟩
            · rw [beq_ne e]
              exact argL_sound r (n + 1) es _ hz h2 (fun e he => hb e (List.mem_cons_of_mem _ he)) tfc (fun i v hv => by rw [← ht (i + 1) v (by simpa using hv)]; congr 1; omega) stX s
          · cases h
        · cases h
      · cases h
/-- A function's results, as a value. -/
def resVal : List Value → Value
  | [v] => v
  | l => .tuple l.toArray
/-- What a call must do. -/
def CallOk (P : Program) (F : Fn) (h : LL (F.sh 0)) (r : HR F.rs) : Prop :=
  ∀ (M : Sc) (w : World) (args : Array Value) (tf : Nat → Value), (∀ b, M.m b ↔ w.heap.size ≤ b) → (∀ s, tf s = args.getD s undef) → Rel M w w own0 tf (mkSt (F.sh 0) h) →
    Calls P F.fid args w fun e w' => ∃ (vs : List Value) (ow' : Own), e = .returned (resVal vs) ∧ Kp M w w' ∧ (∀ b l, ow' b = some l → M.m b ∧ b < w'.heap.size) ∧ vs.length = (HR.dvs F.rs r).length ∧
      ∀ (j : Nat) (d : Dv) (v : Value), (HR.dvs F.rs r)[j]? = some d → vs[j]? = some v → VR w' ow' M.f d (VB + 1 + j) [] v
theorem HR_ty : ∀ (ts : List Ty) (x : HR ts) (d : Dv), d ∈ HR.dvs ts x → d.1 ∈ ts
  | [], x, d, h => by simp [HR.dvs] at h
  | [t], x, d, h => by simp only [HR.dvs, List.mem_singleton] at h; subst h; exact List.mem_singleton.2 rfl
  | t :: u :: ts, x, d, h => by
    simp only [HR.dvs, List.mem_cons] at h
    rcases h with rfl | h
    · exact List.mem_cons_self
    · exact List.mem_cons_of_mem _ (HR_ty (u :: ts) x.2 d h)
/-- What a call hands back, in hand. -/
theorem hand_result {bor : Bool} {ds : List Dv} {vs : List Value} (h : Rel M W w ow tf st) (hn : st VB = .dead) (hK : Kp (scC M w ow bor) w w') (ho : ∀ b l, ow' b = some l → w.heap.size ≤ b ∧ b < w'.heap.size)
    (hlen : vs.length = ds.length) (hok : ∀ d ∈ ds, d.1.okR bor = true) (hr : ∀ (j : Nat) (d : Dv) (v : Value), ds[j]? = some d → vs[j]? = some v → VR w' ow' (scC M w ow bor).f d (VB + 1 + j) [] v) :
    ∃ ow2, Hand M W w' ow2 tf st VB (resE ds) (resVal vs) := by
  let one : Bool := Nat.beq ds.length 1
  let ow2 : Own := fun b => match ow' b with
    | some (s', q) => if one then some (VB, q) else some (VB, .i (s' - (VB + 1)) :: q)
    | none => ow b
  have hlow : ∀ b l, ow b = some l → ow' b = none := fun b l hb => by
    cases hb' : ow' b with
    | none => rfl
    | some l' => exact absurd (h.own b l hb).2 (Nat.not_lt_of_le (ho b l' hb').1)
  have how : ∀ b, b < w.heap.size → ow2 b = ow b := fun b hb => by
    simp only [ow2]
    cases hb' : ow' b with
    | none => rfl
    | some l' => exact absurd hb (Nat.not_lt_of_le (ho b l' hb').1)
  have hnew : ∀ b, w.heap.size ≤ b → ow b = none := fun b hb => by
    cases hb' : ow b with
    | none => rfl
    | some l => exact absurd (h.own b l hb').2 (Nat.not_lt_of_le hb)
  have hsz : w.heap.size ≤ w'.heap.size := hK.2.2.2.1
  have hw : ∀ b, b < w.heap.size → w'.heap[b]? = w.heap[b]? := fun b hb => hK.2.2.2.2 b (Nat.not_le_of_lt hb)
  have hMm : ∀ b, w.heap.size ≤ b → M.m b := fun b hb => h.top b (Nat.le_trans h.fr.2.2.2.1 hb)
  have hfr : Kp M W w' := ⟨hK.1.trans h.fr.1, hK.2.1.trans h.fr.2.1, hK.2.2.1.trans h.fr.2.2.1, Nat.le_trans h.fr.2.2.2.1 hsz, fun b hb => by
    have : b < w.heap.size := Nat.lt_of_not_le fun k => hb (hMm b k)
    rw [hw b this]; exact h.fr.2.2.2.2 b hb⟩
  have hbase : Rel M W w' ow2 tf st := by
    refine ⟨hfr, fun x => ?_, fun b l hl => ?_, h.top⟩
    · refine ER.keep hsz rfl (fun b hb hn => ⟨by rw [how b hb]; exact hn, hw b hb⟩) (fun b q hb hq => ⟨by rw [how b hb]; exact hq, hw b hb⟩) (fun s' dd hs' hdd => ⟨hdd, rfl, h.vr hdd, fun b q hb hq => hw b hb⟩) (h.ent x)
    · simp only [ow2] at hl
      cases hb' : ow' b with
      | none => rw [hb'] at hl; exact ⟨(h.own b l hl).1, Nat.lt_of_lt_of_le (h.own b l hl).2 hsz⟩
      | some l' => exact ⟨hMm b (ho b l' hb').1, (ho b l' hb').2⟩
  have tr : ∀ (j : Nat) (d : Dv) (v : Value), ds[j]? = some d → vs[j]? = some v → ∀ p', (∀ b q, ow' b = some (VB + 1 + j, q) → ow2 b = some (VB, p' ++ q)) → VR w' ow2 M.f d VB p' v := fun j d v hd hv p' hp => by
    obtain ⟨k1, k2, k3⟩ := hr j d v hd hv
    refine ⟨k1, k2, rdTr (ow := ow') (bs := (scC M w ow bor).f) (ok := fun f => f || !bor) (sp := false) (s := VB + 1 + j) (p := []) (fun q b hq _ hb hF => ?_) (fun e => by cases e) d.1 (Ty.okR_okA bor d.1 (hok d (List.mem_of_getElem? hd))) (fun _ b q hq => hp b q hq) (fun _ q b l hl _ => M.mf q b (hMm b (ho b l hl).1)) k3⟩
    have e2 : ow2 b = ow b := by simp only [ow2, hb]
    rw [e2]
    cases q with
    | true =>
      rcases hF with hF | hF
      · exact ⟨hnew b hF, M.mf true b (hMm b hF)⟩
      · exact hF
    | false =>
      rcases hF with hF | hF | hF
      · subst hF; cases hq
      · exact ⟨hnew b hF, M.mf false b (hMm b hF)⟩
      · exact hF
  refine ⟨ow2, hbase.hand hn ?_ ?_⟩
  · unfold resE; split <;> simp [Ent.names]
  · unfold resE
    split
    · rename_i d
      obtain ⟨v, rfl⟩ := List.length_eq_one_iff.1 hlen
      simp only [ER, upd_same, resVal]
      exact tr 0 d v rfl rfl [] (fun b q hq => by simp only [ow2, hq]; rfl)
    · rename_i hne
      have h1 : ds.length ≠ 1 := fun e => by obtain ⟨d, e⟩ := List.length_eq_one_iff.1 e; exact hne d e
      have hone : one = false := beq_ne h1
      simp only [ER, upd_same]
      refine ⟨vs, ?_, hlen, fun j d v hd hv _ => tr j d v hd hv [.i j] (fun b q hq => ?_)⟩
      · unfold resVal
        split
        · simp only [List.length_singleton] at hlen; exact absurd hlen.symm h1
        · rfl
      · simp only [ow2, hq, hone]
        simp
end Go.Proofs.Ytplmejnoepkdgaa.Rf
namespace Go.Proofs.Ytplmejnoepkdgaa.Rf
variable {M : Sc} {W w w' : World} {ow ow' : Own} {tf tf' : Nat → Value} {st st1 st2 st' : St} {ρ : Type}
variable {o : Oper} {a : Act} {κ : St → Option ρ} {r : ρ} {Q : Exit → Act → World → Prop}
structure Good (C : Cx ρ) : Prop where
  fns : ∀ (v : Nat) (F : Fn), C.tab[v]? = some F → C.P.funcs[F.fid]? = some F.f ∧ (F.f.name == "runtime.NumGoroutine") = false ∧ F.f.body.isNone = false
  ok : ∀ (v : Nat) (h : LL ((C.fn v).sh 0)) (r : HR (C.fn v).rs), v < C.tab.length → C.D v 0 h = some r → CallOk C.P (C.fn v) h r
theorem callV_spec {C : Cx ρ} {f : FuncId} {es : List Ent} {κ : Ent → Option ρ} : ∀ (v : Nat) (Fs : List Fn), Fs = C.tab.drop v → callV C st f es κ v Fs = some r →
    ∃ v' h r', v' < C.tab.length ∧ (C.fn v').fid = f ∧ argL st 0 (C.fn v').ps es = some h ∧ (C.fn v').rs.all (Ty.okR (es.any Ent.borrows)) = true ∧ C.D v' 0 h = some r' ∧ κ (resE (HR.dvs (C.fn v').rs r')) = some r
  | v, [], _, h => by simp only [callV, reduceCtorEq] at h
  | v, F :: Fs, hF, h => by
    have hlt : v < C.tab.length := Nat.lt_of_not_le fun hle => by rw [List.drop_eq_nil_of_le hle] at hF; cases hF
    have e := List.drop_eq_getElem_cons hlt
    rw [e] at hF
    obtain ⟨e1, e2⟩ := List.cons.inj hF
    have hv : C.fn v = F := by
      unfold Cx.fn
      rw [List.getD_eq_getElem?_getD, List.getElem?_eq_getElem hlt, e1]; rfl
    simp only [callV] at h
    split at h
    · rename_i hfid
      split at h
      · rename_i H hH
        split at h
        · rename_i hok
          cases hD : C.D v 0 H with
          | none => rw [hD] at h; cases h
          | some r' =>
            rw [hD] at h
            exact ⟨v, H, r', hlt, by rw [hv]; exact Nat.eq_of_beq_eq_true hfid, hH, hok, hD, h⟩
        · cases h
      · exact callV_spec (v + 1) Fs e2 h
    · exact callV_spec (v + 1) Fs e2 h
theorem asFn_spec {e : Ent} {f : FuncId} {ds : List Dv} (h : asFn e = some (f, ds)) : e = .fn f ds := by
  unfold asFn at h; split at h
  · simp only [Option.some.injEq, Prod.mk.injEq] at h; rw [h.1, h.2]
  · cases h
theorem argsE_ents (h : Rel M W w ow tf st) : ∀ (l : List Operand) {es : List Ent} {vs : List Value}, ArgsE w ow M.f st es vs → ArgsE w ow M.f st (entsOf st l ++ es) (l.map (ev tf) ++ vs)
  | [], _, _, k => k
  | x :: l, _, _, k => ⟨entOf_sound h x, argsE_ents h l k⟩
theorem argsE_caps : ∀ (ds : List Dv) (vs : List Value), vs.length = ds.length → (∀ (j : Nat) (d : Dv) (u : Value), ds[j]? = some d → vs[j]? = some u → d.1.hasOwn = false ∧ ∃ s p, VR w ow M.f d s p u) → ArgsE w ow M.f st (ends ds) vs
  | [], [], _, _ => trivial
  | [], _ :: _, h, _ => by cases h
  | _ :: _, [], h, _ => by cases h
  | d :: ds, v :: vs, h, k => ⟨k 0 d v rfl rfl, argsE_caps ds vs (Nat.succ.inj h) fun j d' u hd hu => k (j + 1) d' u (by simpa using hd) (by simpa using hu)⟩
theorem run_call {P : Program} {f : FuncId} {args : Array Operand} {ts : Array TypeId} {x : Operand} {us : List Value} {fn : Func} (ho : o.op = .call { callee := .value x, args := args, argTypes := ts })
    (hx : ev (tfA a) x = .func (.func f) #[] us.toArray) (hf : P.funcs[f]? = some fn) (hn : (fn.name == "runtime.NumGoroutine") = false) (hb : fn.body.isNone = false) :
    (execOp a.eval o).run P w = .ok (.enter f (args.toList.map (ev (tfA a)) ++ us).toArray) w := by
  simp only [execOp, ho, resolve, eval_ev, hx, Deferred.ofValue, Sem.run_bind, Sem.run_pure, Result.andThen_ok, invoke, callFunc]
  have hp : (program : Sem Program).run P w = .ok P w := rfl
  simp only [hp, Result.andThen_ok, hf, hn, hb, Bool.false_eq_true, if_false, Sem.run_pure]
  congr 2
  apply Array.ext'
  simp
theorem exec1_call {C : Cx ρ} (hC : Good C) {args : Array Operand} {ts : Array TypeId} {x : Operand} (ho : o.op = .call { callee := .value x, args := args, argTypes := ts }) (hd : dstOk o a.tmps.size) (hf : Fin st)
    (h : Rel M W w ow (tfA a) st) (hx : exec1 C st o κ = some r) : o.wp C.P a w (Nx M W κ r a) Q := by
  have hn := hf VB (Nat.le_refl _)
  unfold exec1 at hx
  rw [ho] at hx
  dsimp only at hx
  split at hx
  · rename_i f ds hfn
    have hfn := asFn_spec hfn
    obtain ⟨us, e1, e2, e3⟩ : ∃ us : List Value, ev (tfA a) x = .func (.func f) #[] us.toArray ∧ us.length = ds.length ∧ ∀ (j : Nat) (d : Dv) (u : Value), ds[j]? = some d → us[j]? = some u → d.1.hasOwn = false ∧ ∃ s p, VR w ow M.f d s p u := by
      cases x with
      | tmp s =>
        have k := h.ent s
        simp only [opd] at hfn
        rw [hfn] at k
        obtain ⟨vs, h1, h2, h3⟩ := k
        exact ⟨vs, h1, h2, fun j d u hd hu => ⟨(h3 j d u hd hu).1, _, _, (h3 j d u hd hu).2⟩⟩
      | func g =>
        simp only [opd, Ent.fn.injEq] at hfn
        obtain ⟨rfl, rfl⟩ := hfn
        exact ⟨[], rfl, rfl, fun j d u hd => by simp at hd⟩
      | const v =>
        simp only [opd] at hfn
        rcases cst_cases hfn with e | ⟨d, e, _⟩ <;> cases e
      | global g => cases hfn
    obtain ⟨v', H, r', k1, k2, k3, k4, k5, k6⟩ := callV_spec 0 C.tab (by simp) hx
    obtain ⟨g1, g2, g3⟩ := hC.fns v' (C.fn v') (by unfold Cx.fn; rw [List.getD_eq_getElem?_getD, List.getElem?_eq_getElem k1]; rfl)
    rw [k2] at g1
    have hrun := run_call (w := w) ho e1 g1 g2 g3
    unfold Oper.wp
    rw [hrun, Oper.upon_enter]
    let bor : Bool := (entsOf st args.toList ++ ends ds).any Ent.borrows
    let vs0 : List Value := args.toList.map (ev (tfA a)) ++ us
    have hargs : ArgsE w ow M.f st (entsOf st args.toList ++ ends ds) vs0 := argsE_ents h _ (argsE_caps ds us e2 e3)
    let tfc : Nat → Value := fun s => vs0.toArray.getD s undef
    have hrel : Rel (scC M w ow bor) w w own0 tfc (mkSt ((C.fn v').sh 0) H) := by
      refine ⟨⟨rfl, rfl, rfl, Nat.le_refl _, fun _ _ => rfl⟩, fun s => ?_, fun b l hl => (by cases hl), fun b hb => hb⟩
      refine argL_sound (bor := bor) (C.fn v').ps 0 _ vs0 k3 hargs (fun e he hb => List.any_eq_true.2 ⟨e, he, hb⟩) tfc (fun i v hv => ?_) _ s
      simp only [tfc, Nat.zero_add, Array.getD_eq_getD_getElem?, List.getElem?_toArray, hv, Option.getD_some]
    have hcall := hC.ok v' H r' k1 k5 (scC M w ow bor) w vs0.toArray tfc (fun b => Iff.rfl) (fun s => rfl) hrel
    rw [k2] at hcall
    refine hcall.mono fun e w' he => ?_
    obtain ⟨vs, ow', rfl, q2, q3, q4, q5⟩ := he
    refine nx_value (st := st) hd hf ⟨st, _, k6, Deads.refl _, ?_⟩
    exact hand_result h hn q2 q3 q4 (fun d hd' => List.all_eq_true.1 k4 _ (HR_ty _ _ d hd')) q5
  · cases hx
theorem exec1_all {C : Cx ρ} (hC : Good C) (hd : dstOk o a.tmps.size) (hst : ∀ t x y, o.op = .store t x y → o.dst = none) (hf : Fin st) (h : Rel M W w ow (tfA a) st)
    (hx : exec1 C st o κ = some r) : o.wp C.P a w (Nx M W κ r a) Q :=
  exec1_sound (fun _ _ _ ho hx => exec1_call hC ho hd hf h hx) hd hst hf h hx
end Go.Proofs.Ytplmejnoepkdgaa.Rf
namespace Go.Proofs.Ytplmejnoepkdgaa.Rf
variable {st st' : St} {ρ : Type} {P : Program}
/-- Two states that agree at an operand, and at what it names. -/
def AgX (st st' : St) (x : Operand) : Prop := ∀ s, x = .tmp s → st' s = st s ∧ ∀ s', (st s).names = some s' → st' s' = st s'
theorem AgX.opd {x : Operand} (h : AgX st st' x) : opd st' x = opd st x := by
  cases x with
  | tmp s => exact (h s rfl).1
  | _ => rfl
theorem AgX.seen {x : Operand} (h : AgX st st' x) : seen st' x = seen st x := by
  cases x with
  | tmp s => simp only [Rf.seen, (h s rfl).1]
  | _ => rfl
theorem AgX.refOf {x : Operand} (h : AgX st st' x) : refOf st' x = refOf st x := by
  cases x with
  | tmp s => simp only [Rf.refOf, (h s rfl).1]
  | _ => rfl
theorem AgX.entOf {x : Operand} (h : AgX st st' x) : entOf st' x = entOf st x := by
  cases x with
  | tmp s => simp only [Rf.entOf, (h s rfl).1]
  | _ => rfl
theorem AgX.getRef {x : Operand} (h : AgX st st' x) {s : Nat} {p : List Step} (hr : Rf.refOf st x = some (s, p)) : st' s = st s := by
  cases x with
  | tmp z =>
    simp only [Rf.refOf] at hr
    split at hr
    · rename_i s' p' t hz
      simp only [Option.some.injEq, Prod.mk.injEq] at hr
      obtain ⟨rfl, rfl⟩ := hr
      exact (h z rfl).2 _ (by rw [hz]; rfl)
    · simp only [Option.some.injEq, Prod.mk.injEq] at hr
      obtain ⟨rfl, rfl⟩ := hr
      exact (h z rfl).1
    · cases hr
  | _ => cases hr
theorem getP_congr {s : Nat} {p : List Step} (h : st' s = st s) : getP st' s p = getP st s p := by simp only [getP, h]
theorem AgX.getPRef {x : Operand} (h : AgX st st' x) {s : Nat} {p q : List Step} (hr : Rf.refOf st x = some (s, p)) : getP st' s q = getP st s q := getP_congr (h.getRef hr)
theorem AgX.getAl {x : Operand} (h : AgX st st' x) {s : Nat} {p q : List Step} {t : Ty} (hr : Rf.opd st x = .al s p t) : getP st' s q = getP st s q := by
  cases x with
  | tmp z =>
    simp only [Rf.opd] at hr
    exact getP_congr ((h z rfl).2 _ (by rw [hr]; rfl))
  | const v => simp only [Rf.opd] at hr; rcases cst_cases hr with e | ⟨d, e, _⟩ <;> cases e
  | func f => cases hr
  | global g => cases hr
theorem AgX.look {x : Operand} (h : AgX st st' x) : lookV st' x = lookV st x := by
  simp only [lookV, h.opd]
  split
  · rfl
  · rename_i s p t e; exact h.getAl e
  · rfl
theorem AgX.flatO {x : Operand} (h : AgX st st' x) : flatO st' x = flatO st x := by simp only [Rf.flatO, h.opd]
theorem AgX.slot {s : Nat} (h : AgX st st' (.tmp s)) : st' s = st s := (h s rfl).1
/-- What an entry may name: what was read, or what that names. -/
def NmX (st : St) (xs : List Operand) (e : Ent) : Prop := ∀ s', e.names = some s' → ∃ z, Operand.tmp z ∈ xs ∧ (z = s' ∨ (st z).names = some s')
theorem NmX.none {xs : List Operand} {e : Ent} (h : e.names = .none) : NmX st xs e := fun s' k => by rw [h] at k; cases k
theorem nmRef {x : Operand} {xs : List Operand} (hm : x ∈ xs) {s : Nat} {p q : List Step} {t : Ty} (hr : Rf.refOf st x = some (s, p)) : NmX st xs (.ref s q t) ∧ NmX st xs (.al s q t) := by
  have : ∃ z, Operand.tmp z ∈ xs ∧ (z = s ∨ (st z).names = some s) := by
    cases x with
    | tmp z =>
      refine ⟨z, hm, ?_⟩
      simp only [Rf.refOf] at hr
      split at hr
      · rename_i s' p' t hz
        simp only [Option.some.injEq, Prod.mk.injEq] at hr
        obtain ⟨rfl, rfl⟩ := hr
        right; rw [hz]; rfl
      · simp only [Option.some.injEq, Prod.mk.injEq] at hr
        exact .inl hr.1
      · cases hr
    | _ => cases hr
  exact ⟨fun s' h => by cases h; exact this, fun s' h => by cases h; exact this⟩
theorem nmOpd {x : Operand} {xs : List Operand} (hm : x ∈ xs) : NmX st xs (opd st x) := fun s' h => by
  cases x with
  | tmp z => exact ⟨z, hm, .inr h⟩
  | const v => simp only [opd] at h; rcases cst_cases (v := v) rfl with e | ⟨d, e, _⟩ <;> rw [e] at h <;> cases h
  | func f => cases h
  | global g => cases h
theorem nmSeen {x : Operand} {xs : List Operand} (hm : x ∈ xs) : NmX st xs (seen st x) := fun s' h => by
  cases x with
  | tmp z =>
    refine ⟨z, hm, ?_⟩
    simp only [seen] at h
    split at h
    · simp only [Ent.names, Option.some.injEq] at h; exact .inl h
    · simp only [Ent.names, Option.some.injEq] at h; exact .inl h
    · split at h <;> cases h
    · split at h <;> cases h
    · exact .inr h
  | const v => simp only [seen, opd] at h; rcases cst_cases (v := v) rfl with e | ⟨d, e, _⟩ <;> rw [e] at h <;> cases h
  | func f => cases h
  | global g => cases h
/-- What is computed and handed on, the state left alone: one entry, or none. -/
def Pass (st : St) (xs : List Operand) (F : St → (St → Ent → Option ρ) → Option ρ) : Prop :=
  ∃ o : Option Ent, (∀ e, o = some e → NmX st xs e) ∧ ∀ st', (∀ x ∈ xs, AgX st st' x) → Fin st' → ∀ κ, F st' κ = match o with | some e => κ st' e | none => none
theorem pass_move {x : Operand} (hq : seen st x ≠ .dead) : Pass (ρ := ρ) st [x] (fun st κ => xMove st x κ) := by
  refine ⟨some (seen st x), fun e he => by cases he; exact nmSeen List.mem_cons_self, fun st' h _ κ => ?_⟩
  simp only [xMove, (h x List.mem_cons_self).seen]
  all_goals (cases hs : seen st x <;> first | rfl | exact absurd hs hq)
theorem flatO_spec {x : Operand} (h : flatO st x = true) : ∃ d, opd st x = .val d ∧ d.1.hasOwn = false := by
  simp only [flatO] at h; split at h
  · rename_i d e; exact ⟨d, e, by simpa using h⟩
  · cases h
theorem takeV_flat {x : Operand} {d : Dv} (h : opd st x = .val d) (hf : d.1.hasOwn = false) : takeV st x = some (d, st) ∧ useV st x = some (d, st) := by
  cases x with
  | tmp s => simp only [opd] at h; exact ⟨by simp only [takeV, h, hf], by simp only [useV, h, hf]⟩
  | const v => exact ⟨by simp only [takeV, h], by simp only [useV, h]⟩
  | func f => cases h
  | global g => cases h
theorem pass_assign {x : Operand} (hq : flatO st x = true) : Pass (ρ := ρ) st [x] (fun st κ => xAssign st x κ) := by
  obtain ⟨d, h1, h2⟩ := flatO_spec hq
  refine ⟨some (.val d), fun e he => by cases he; exact .none rfl, fun st' h _ κ => ?_⟩
  have e := (h x List.mem_cons_self).opd.trans h1
  simp only [xAssign, e, (takeV_flat e h2).1]
theorem pass_load {t : TypeId} {a : Operand} (hq : (match refOf st a with
    | some (s, p) => match getP st s p with
      | some d => match d.1 with | .osl _ _ => true | .optr _ _ => true | ty => !ty.hasOwn
      | none => false
    | none => true) = true) : Pass (ρ := ρ) st [a] (fun st κ => xLoad P st t a κ) := by
  refine ⟨xLoad (ρ := Ent) P st t a (fun _ e => some e), fun e he => ?_, fun st' h _ κ => ?_⟩
  · unfold xLoad at he
    split at he
    · rename_i s p hr
      obtain ⟨n1, n2⟩ := nmRef (t := .unit) (q := p) (List.mem_cons_self (a := a) (l := [])) hr
      split at he
      · rename_i ty x hg
        split at he
        · split at he
          · cases he; exact (nmRef List.mem_cons_self hr).2
          · cases he; exact (nmRef List.mem_cons_self hr).1
          · rename_i h1 h2
            rw [hr] at hq; simp only [hg] at hq
            have : ty.hasOwn = false := by
              cases ty <;> first | exact (h1 _ _ _ rfl HEq.rfl).elim | exact (h2 _ _ _ rfl HEq.rfl).elim | simpa using hq
            rw [this] at he
            cases he; exact .none rfl
        · cases he
      · cases he
    · split at he
      · split at he
        · cases he; exact .none rfl
        · cases he
      · cases he
  · have ha := h a List.mem_cons_self
    dsimp only
    unfold xLoad
    rw [ha.refOf, ha.opd]
    cases hr : refOf st a with
    | some sp =>
      obtain ⟨s, p⟩ := sp
      dsimp only
      rw [ha.getPRef hr]
      cases hg : getP st s p with
      | none => rfl
      | some d =>
        obtain ⟨ty, x⟩ := d
        rw [hr] at hq; simp only [hg] at hq
        dsimp only
        cases fits P t ty with
        | false => rfl
        | true =>
          dsimp only
          cases ty <;> first | rfl | (simp only [Bool.not_eq_true'] at hq; simp only [hq])
    | none =>
      dsimp only
      split
      · split <;> rfl
      · rfl
theorem pass_alloc {t : TypeId} : Pass (ρ := ρ) st [] (fun st κ => xAlloc P st t κ) := by
  refine ⟨xAlloc (ρ := Ent) P st t (fun _ e => some e), fun e he => ?_, fun st' h _ κ => ?_⟩
  · unfold xAlloc at he
    split at he
    · split at he
      · cases he; exact .none rfl
      · cases he
    · cases he
  · dsimp only; unfold xAlloc
    split
    · split <;> rfl
    · rfl
theorem pass_convert {s d : TypeId} {x : Operand} : Pass (ρ := ρ) st [x] (fun st κ => xConvert P st s d x κ) := by
  refine ⟨xConvert (ρ := Ent) P st s d x (fun _ e => some e), fun e he => ?_, fun st' h _ κ => ?_⟩
  · unfold xConvert at he
    split at he
    · split at he
      · cases he; exact .none rfl
      · cases he
    · cases he
  · dsimp only; unfold xConvert; rw [(h x List.mem_cons_self).opd]
    split
    · split <;> rfl
    · rfl
theorem pass_fieldAddr {t : TypeId} {x : Operand} {f : Nat} : Pass (ρ := ρ) st [x] (fun st κ => xFieldAddr P st t x f κ) := by
  refine ⟨xFieldAddr (ρ := Ent) P st t x f (fun _ e => some e), fun e he => ?_, fun st' h _ κ => ?_⟩
  · unfold xFieldAddr at he
    split at he
    · rename_i s p hr
      repeat' split at he
      all_goals first | (cases he; exact (nmRef List.mem_cons_self hr).1) | cases he
    · repeat' split at he
      all_goals first | (cases he; exact .none rfl) | cases he
  · have ha := h x List.mem_cons_self
    dsimp only; unfold xFieldAddr; rw [ha.refOf, ha.opd]
    cases hr : refOf st x with
    | some sp =>
      obtain ⟨s, p⟩ := sp
      dsimp only
      rw [ha.getPRef hr]
      repeat' split
      all_goals first | rfl | simp_all
    | none =>
      dsimp only
      repeat' split
      all_goals first | rfl | simp_all
theorem pass_field {t : TypeId} {x : Operand} {f : Nat} : Pass (ρ := ρ) st [x] (fun st κ => xField P st t x f κ) := by
  refine ⟨xField (ρ := Ent) P st t x f (fun _ e => some e), fun e he => ?_, fun st' h _ κ => ?_⟩
  · unfold xField at he
    repeat' split at he
    all_goals first | (cases he; exact .none rfl) | cases he
  · dsimp only; unfold xField; rw [(h x List.mem_cons_self).opd]
    repeat' split
    all_goals first | rfl | simp_all
theorem brB_eq {b : Bool} {f : Bool → Option ρ} : brB b f = f b := by cases b <;> rfl
theorem pass_index {t : TypeId} {x i : Operand} : Pass (ρ := ρ) st [x, i] (fun st κ => xIndex P st t x i κ) := by
  refine ⟨xIndex (ρ := Ent) P st t x i (fun _ e => some e), fun e he => ?_, fun st' h _ κ => ?_⟩
  · unfold xIndex at he
    simp only [brB_eq] at he
    repeat' split at he
    all_goals first | (cases he; exact .none rfl) | cases he
  · dsimp only; unfold xIndex; rw [(h x (by simp)).opd, (h i (by simp)).opd]
    simp only [brB_eq]
    repeat' split
    all_goals first | rfl | simp_all
theorem pass_indexAddr {t : TypeId} {x i : Operand} : Pass (ρ := ρ) st [x, i] (fun st κ => xIndexAddr P st t x i κ) := by
  refine ⟨xIndexAddr (ρ := Ent) P st t x i (fun _ e => some e), fun e he => ?_, fun st' h _ κ => ?_⟩
  · unfold xIndexAddr at he
    split at he
    · split at he
      · rename_i s p hr
        simp only [brB_eq] at he
        repeat' split at he
        all_goals first | (cases he; exact (nmRef (by simp) hr).1) | cases he
      · split at he
        · simp only [brB_eq] at he
          repeat' split at he
          all_goals first | (cases he; exact .none rfl) | cases he
        · rename_i e0 hne
          unfold idxV at he
          split at he
          · simp only [brB_eq] at he
            repeat' split at he
            all_goals first | (cases he; exact .none rfl) | cases he
          · split at he
            · rename_i hs0
              simp only [brB_eq] at he
              split at he
              · cases he
                cases x with
                | tmp z =>
                  simp only [slotOf, Option.some.injEq] at hs0
                  exact fun s' hs' => ⟨z, by simp, .inl (by simp only [Ent.names, Option.some.injEq] at hs'; exact hs0.trans hs')⟩
                | _ => cases hs0
              · cases he
            · cases he
          · rename_i s p t0 ho
            have hnm := nmOpd (st := st) (x := x) (xs := [x, i]) (by simp)
            rw [ho] at hnm
            simp only [brB_eq] at he
            repeat' split at he
            all_goals first | (cases he; exact fun s' hs' => hnm s' (by simpa [Ent.names] using hs')) | cases he
          · cases he
    · cases he
  · have hx := h x (by simp)
    dsimp only; unfold xIndexAddr; rw [hx.opd, (h i (by simp)).opd, hx.refOf]
    simp only [brB_eq]
    split
    · cases hr : refOf st x with
      | some sp =>
        obtain ⟨s, p⟩ := sp
        dsimp only
        rw [hx.getPRef hr]
        repeat' split
        all_goals first | rfl | simp_all
      | none =>
        dsimp only
        split
        · repeat' split
          all_goals first | rfl | simp_all
        · unfold idxV
          simp only [brB_eq]
          split
          · repeat' split
            all_goals first | rfl | simp_all
          · repeat' split
            all_goals first | rfl | simp_all
          · rename_i s p t0 ho
            rw [hx.getAl ho]
            repeat' split
            all_goals first | rfl | simp_all
          · rfl
    · rfl
theorem pass_extract {s n : Nat} {l : List Dv} {d : Dv} (h1 : st s = .tup l) (h2 : nthD l n = some d) (h3 : d.1.hasOwn = false) : Pass (ρ := ρ) st [.tmp s] (fun st κ => xExtract st (.tmp s) n κ) := by
  refine ⟨match d.1.beq .hole with | true => none | false => some (.val d), fun e he => ?_, fun st' h _ κ => ?_⟩
  · split at he
    · cases he
    · cases he; exact .none rfl
  · simp only [xExtract, (h _ List.mem_cons_self).slot, h1, h2, h3]
    cases d.1.beq .hole <;> rfl
theorem pass_len {x : Operand} {t : TypeId} : Pass (ρ := ρ) st [x] (fun st κ => xLen P st x t κ) := by
  refine ⟨xLen (ρ := Ent) P st x t (fun _ e => some e), fun e he => ?_, fun st' h _ κ => ?_⟩
  · unfold xLen at he
    repeat' split at he
    all_goals first | (cases he; exact .none rfl) | cases he
  · dsimp only; unfold xLen; rw [(h x List.mem_cons_self).look]
    repeat' split
    all_goals first | rfl | simp_all
theorem pass_unOp {op : UnOp} {x : Operand} : Pass (ρ := ρ) st [x] (fun st κ => match lookV st x with | some d => (match unV op d with | some r => κ st (.val r) | none => none) | none => none) := by
  refine ⟨match lookV st x with | some d => (match unV op d with | some r => some (.val r) | none => none) | none => none, fun e he => ?_, fun st' h _ κ => ?_⟩
  · repeat' split at he
    all_goals first | (cases he; exact .none rfl) | cases he
  · dsimp only; rw [(h x List.mem_cons_self).look]
    repeat' split
    all_goals first | rfl | simp_all
theorem AgX.bnd {st st' : St} {o : Option Operand} (h : ∀ x, o = some x → AgX st st' x) (d : Int) : Rf.bnd st' o d = Rf.bnd st o d := by
  cases o with
  | none => rfl
  | some x => simp only [Rf.bnd, (h x rfl).opd]
theorem cutV_nat {t : TypeId} {d : Dv} {lo hi : Option Operand} : ∃ o : Option Dv, ∀ st', (∀ x, lo = some x → AgX st st' x) → (∀ x, hi = some x → AgX st st' x) → ∀ κ : Dv → Option ρ, cutV P t st' d lo hi κ = match o with | some e => κ e | none => none := by
  refine ⟨cutV (ρ := Dv) P t st d lo hi (fun e => some e), fun st' h1 h2 κ => ?_⟩
  unfold cutV
  simp only [AgX.bnd h1, AgX.bnd h2, brB_eq]
  repeat' split
  all_goals first | rfl | simp_all
theorem flat_val {x : Operand} {s : Nat} {d : Dv} (h : opd st x = .val d) (e : x = .tmp s) : st s = .val d := by subst e; exact h
theorem pass_slice {t : TypeId} {x : Operand} {lo hi : Option Operand} (hq : (isSlT P t || isStrT P t) = true) (hf : flatO st x = true) : Pass (ρ := ρ) st (x :: (optO lo ++ optO hi)) (fun st κ => xSlice P st t x lo hi κ) := by
  obtain ⟨d, h1, h2⟩ := flatO_spec hf
  cases x with
  | tmp s =>
    obtain ⟨o, ho⟩ := cutV_nat (ρ := ρ) (P := P) (st := st) (t := t) (d := d) (lo := lo) (hi := hi)
    refine ⟨o.map .val, fun e he => ?_, fun st' h _ κ => ?_⟩
    · cases o with
      | none => cases he
      | some o => cases he; exact .none rfl
    · have hs : st' s = .val d := (h _ List.mem_cons_self).slot.trans h1
      simp only [xSlice, hq, hs, h2]
      rw [ho st' (fun y hy => h y (by subst hy; simp [optO])) (fun y hy => h y (by subst hy; simp [optO]))]
      cases o <;> rfl
  | const v => exact ⟨none, fun e he => (by cases he), fun st' h _ κ => (by show xSlice P st' t (.const v) lo hi κ = none; unfold xSlice; rw [hq])⟩
  | func f => cases h1
  | global g => cases h1
def flatsV (st : St) : List Operand → Option (List Dv)
  | [] => some []
  | x :: xs => match opd st x, lowX x, flatsV st xs with | .val d, true, some ds => some (d :: ds) | _, _, _ => none
theorem flatsV_low {st st' : St} (h : ∀ s, s < VB → st' s = st s) : ∀ xs, flatsV st' xs = flatsV st xs
  | [] => rfl
  | x :: xs => by
    simp only [flatsV, flatsV_low h xs]
    cases x with
    | tmp s =>
      by_cases hs : s < VB
      · simp only [opd, h s hs]
      · have : lowX (.tmp s) = false := by simp only [lowX]; cases hb : Nat.blt s VB with
          | false => rfl
          | true => exact absurd (Nat.blt_eq.mp hb) hs
        simp only [this]
        split <;> split <;> simp_all
    | _ => rfl
theorem flatsV_ag {st st' : St} : ∀ xs, (∀ x ∈ xs, AgX st st' x) → flatsV st' xs = flatsV st xs
  | [], _ => rfl
  | x :: xs, h => by simp only [flatsV, (h x List.mem_cons_self).opd, flatsV_ag xs fun y hy => h y (List.mem_cons_of_mem _ hy)]
theorem useAll_flat : ∀ (xs : List Operand) (st : St) (b : Nat), VB ≤ b → (∀ x ∈ xs, flatO st x = true) → (∀ s, b ≤ s → st s = .dead) →
    (match flatsV st xs with | none => useAll st b xs = none | some ds => ∃ st1, useAll st b xs = some (ds, st1) ∧ ∀ s, s < b → st1 s = st s)
  | [], st, b, hb, hf, hd => ⟨st, rfl, fun _ _ => rfl⟩
  | x :: xs, st, b, hb, hf, hd => by
    obtain ⟨d, h1, h2⟩ := flatO_spec (hf x List.mem_cons_self)
    have hown : (st b).owns = false := by rw [hd b (Nat.le_refl _)]; rfl
    have hset : ∀ s, s ≠ b → setS st (some b) (.val d) s = st s := fun s hs => by rw [setS_ne st _ hs, hown]; rfl
    have hlow : ∀ s, s < VB → setS st (some b) (.val d) s = st s := fun s hs => hset s (Nat.ne_of_lt (Nat.lt_of_lt_of_le hs hb))
    simp only [flatsV, useAll, h1, (takeV_flat h1 h2).2]
    cases hx : lowX x with
    | false => rfl
    | true =>
      by_cases hall : ∀ y ∈ xs, flatO (setS st (some b) (.val d)) y = true
      · have k := useAll_flat xs (setS st (some b) (.val d)) (b + 1) (Nat.le_succ_of_le hb) hall (fun s hs => by rw [hset s (Nat.ne_of_gt hs)]; exact hd s (Nat.le_of_succ_le hs))
        rw [flatsV_low hlow] at k
        cases hfl : flatsV st xs with
        | none => rw [hfl] at k; dsimp only at k ⊢; rw [k]
        | some ds =>
          rw [hfl] at k
          obtain ⟨st1, k1, k2⟩ := k
          dsimp only
          rw [k1]
          exact ⟨st1, rfl, fun s hs => (k2 s (Nat.lt_succ_of_lt hs)).trans (hset s (Nat.ne_of_lt hs))⟩
      · exfalso; apply hall
        intro y hy
        have := hf y (List.mem_cons_of_mem _ hy)
        cases y with
        | tmp s =>
          by_cases hs : s = b
          · subst hs
            simp only [flatO, opd, hd s (Nat.le_refl _)] at this; cases this
          · simpa only [flatO, opd, hset s hs] using this
        | _ => exact this
theorem clr_fin {st st1 : St} (hf : Fin st) (h : ∀ s, s < VB → st1 s = st s) : clr st1 = st := by
  funext s
  simp only [clr]
  cases hb : Nat.ble VB s with
  | true => exact (hf s (Nat.le_of_ble_eq_true hb)).symm
  | false => exact h s (Nat.lt_of_not_le fun k => by rw [Nat.ble_eq_true_of_le k] at hb; cases hb)
theorem useAll_ag {st st' : St} {xs : List Operand} (hq : ∀ x ∈ xs, flatO st x = true) (h : ∀ x ∈ xs, AgX st st' x) (hf : Fin st') :
    (match flatsV st xs with | none => useAll st' (VB + 1) xs = none | some ds => ∃ st1, useAll st' (VB + 1) xs = some (ds, st1) ∧ clr st1 = st') := by
  have k := useAll_flat xs st' (VB + 1) (Nat.le_succ _) (fun x hx => (h x hx).flatO.trans (hq x hx)) (fun s hs => hf s (Nat.le_of_succ_le hs))
  rw [flatsV_ag xs h] at k
  cases hfl : flatsV st xs with
  | none => rw [hfl] at k; exact k
  | some ds =>
    rw [hfl] at k
    obtain ⟨st1, k1, k2⟩ := k
    exact ⟨st1, k1, clr_fin hf fun s hs => k2 s (Nat.lt_succ_of_lt hs)⟩
end Go.Proofs.Ytplmejnoepkdgaa.Rf
namespace Go.Proofs.Ytplmejnoepkdgaa.Rf
variable {st st' : St} {ρ : Type} {P : Program}
theorem pass_build {t : TypeId} {parts : List (Nat × Operand)} (hq : ∀ x ∈ parts.map (·.2), flatO st x = true) : Pass (ρ := ρ) st (parts.map (·.2)) (fun st κ => xBuild P st t parts κ) := by
  let F : List Dv → Option Ent := fun ds => match isStruct P t with
    | false => match tyOf P 100 t with
      | some (.arr n u) => match isArr P t n u && parts.all (fun q => Nat.blt q.1 n) && zeroB P t (.arr n u) with
        | true => match putParts (.arr n u) (Ty.arr n u).dflt ((parts.map fun q => ipath q.1).zip ds) with | some d => some (.val d) | none => none
        | false => none
      | _ => none
    | true => match tyOf P 100 t with
      | some ty => match layB P t ty.nilz && zeroB P t ty.nilz with
        | false => none
        | true => match putParts ty.nilz ty.nilz.dflt ((parts.map fun q => fpath q.1).zip ds) with | some d => some (.val d) | none => none
      | none => none
  refine ⟨match flatsV st (parts.map (·.2)) with | some ds => F ds | none => none, fun e he => ?_, fun st' h hf κ => ?_⟩
  · split at he
    · simp only [F] at he
      repeat' split at he
      all_goals first | (cases he; exact .none rfl) | cases he
    · cases he
  · have k := useAll_ag hq h hf
    show xBuild P st' t parts κ = _
    cases hfl : flatsV st (parts.map (·.2)) with
    | none =>
      rw [hfl] at k
      dsimp only at k
      unfold xBuild xBuildArr
      rw [k]
      cases isStruct P t <;> cases tyOf P 100 t with
      | none => rfl
      | some ty => cases ty <;> rfl
    | some ds =>
      rw [hfl] at k
      obtain ⟨st1, k1, k2⟩ := k
      unfold xBuild xBuildArr
      rw [k1]; subst k2
      simp only [F]
      cases isStruct P t with
      | false =>
        dsimp only
        cases tyOf P 100 t with
        | none => rfl
        | some ty =>
          cases ty <;> try rfl
          rename_i n u
          dsimp only
          cases (isArr P t n u && parts.all (fun q => Nat.blt q.1 n) && zeroB P t (.arr n u)) with
          | false => rfl
          | true =>
            dsimp only
            cases putParts (.arr n u) (Ty.arr n u).dflt ((parts.map fun q => ipath q.1).zip ds) <;> rfl
      | true =>
        dsimp only
        cases tyOf P 100 t with
        | none => rfl
        | some ty =>
          dsimp only
          cases (layB P t ty.nilz && zeroB P t ty.nilz) with
          | false => rfl
          | true =>
            dsimp only
            cases putParts ty.nilz ty.nilz.dflt ((parts.map fun q => fpath q.1).zip ds) <;> rfl
theorem pass_buildSlice {t : TypeId} {n : Nat} {parts : List (Nat × Operand)} (hq : ∀ x ∈ parts.map (·.2), flatO st x = true) : Pass (ρ := ρ) st (parts.map (·.2)) (fun st κ => xBuildSlice P st t n parts κ) := by
  cases hp : parts with
  | nil =>
    refine ⟨match Nat.beq n 0, slOk P t with | true, true => some (.val ⟨.nils, ()⟩) | _, _ => none, fun e he => ?_, fun st' h hf κ => ?_⟩
    · split at he
      · cases he; exact .none rfl
      · cases he
    · simp only [xBuildSlice]
      repeat' split
      all_goals first | rfl | simp_all
  | cons q qs =>
    subst hp
    let F : List Dv → Option Ent := fun ds => match inOrder 0 ((q :: qs).map (·.1)) && Nat.beq (q :: qs).length n && Nat.ble n 1000, ds with
      | true, d :: _ => match isSl P t d.1.frz, lstOf d.1.frz ds with
        | some e, some l => match zsz P e && Nat.ble (n * d.1.frz.sz) 16777216 && !d.1.frz.hasOwn with
          | true => some (.val ⟨.osl true d.1.frz, l⟩)
          | false => none
        | _, _ => none
      | _, _ => none
    refine ⟨match flatsV st ((q :: qs).map (·.2)) with | some ds => F ds | none => none, fun e he => ?_, fun st' h hf κ => ?_⟩
    · split at he
      · simp only [F] at he
        repeat' split at he
        all_goals first | (cases he; exact .none rfl) | cases he
      · cases he
    · have k := useAll_ag hq h hf
      show xBuildSlice P st' t n (q :: qs) κ = _
      unfold xBuildSlice
      cases hfl : flatsV st ((q :: qs).map (·.2)) with
      | none =>
        rw [hfl] at k
        dsimp only at k
        dsimp only
        rw [k]
      | some ds =>
        rw [hfl] at k
        obtain ⟨st1, k1, k2⟩ := k
        dsimp only
        rw [k1]; subst k2
        simp only [F]
        cases (inOrder 0 ((q :: qs).map (·.1)) && Nat.beq (q :: qs).length n && Nat.ble n 1000) with
        | false => rfl
        | true =>
          cases ds with
          | nil => rfl
          | cons d ds =>
            dsimp only
            cases isSl P t d.1.frz with
            | none => rfl
            | some e =>
              cases lstOf d.1.frz (d :: ds) with
              | none => rfl
              | some l =>
                dsimp only
                cases (zsz P e && Nat.ble (n * d.1.frz.sz) 16777216 && !d.1.frz.hasOwn) <;> rfl
theorem entsOf_ag {st st' : St} : ∀ xs, (∀ x ∈ xs, AgX st st' x) → entsOf st' xs = entsOf st xs
  | [], _ => rfl
  | x :: xs, h => by simp only [entsOf, (h x List.mem_cons_self).entOf, entsOf_ag xs fun y hy => h y (List.mem_cons_of_mem _ hy)]
/-- What a call's arguments read of the state. -/
def ReadsE (st st' : St) (e : Ent) : Prop := ∀ s p t, e = .al s p t → ∀ q, getP st' s q = getP st s q
theorem argL_ag {st st' : St} : ∀ (l : List LS) (n : Nat) (es : List Ent), (∀ e ∈ es, ReadsE st st' e) → argL st' n l es = argL st n l es
  | [], n, [], h => rfl
  | [], n, _ :: _, h => rfl
  | .v t :: r, n, [], h => rfl
  | .no :: r, n, [], h => rfl
  | .fn _ _ :: r, n, [], h => rfl
  | .al _ _ _ :: r, n, [], h => rfl
  | .ref _ _ _ :: r, n, [], h => rfl
  | .al _ _ _ :: r, n, _ :: _, h => rfl
  | .ref _ _ _ :: r, n, _ :: _, h => rfl
  | .no :: r, n, e :: es, h => argL_ag r (n + 1) es fun e he => h e (List.mem_cons_of_mem _ he)
  | .v t :: r, n, e :: es, h => by
    rw [argL_v, argL_v, argL_ag r (n + 1) es fun e he => h e (List.mem_cons_of_mem _ he)]
    cases e with
    | al s p u => dsimp only; rw [h _ List.mem_cons_self s p u rfl p]
    | _ => rfl
  | .fn f ts :: r, n, e :: es, h => by
    rw [argL_fn, argL_fn, argL_ag r (n + 1) es fun e he => h e (List.mem_cons_of_mem _ he)]
theorem entsOf_reads {st st' : St} : ∀ xs, (∀ x ∈ xs, AgX st st' x) → ∀ e ∈ entsOf st xs, ReadsE st st' e
  | [], _, e, he => by simp [entsOf] at he
  | x :: xs, h, e, he => by
    simp only [entsOf, List.mem_cons] at he
    rcases he with rfl | he
    · intro s p t hs q
      have ha := h x List.mem_cons_self
      cases x with
      | tmp z =>
        simp only [entOf] at hs
        split at hs
        · rename_i d hz
          split at hs
          · cases hs; exact getP_congr ha.slot
          · cases hs
        · exact getP_congr ((ha z rfl).2 s (by rw [hs]; rfl))
      | const v => simp only [entOf, opd] at hs; rcases cst_cases hs with e | ⟨d, e, _⟩ <;> cases e
      | func f => cases hs
      | global g => cases hs
    · exact entsOf_reads xs (fun y hy => h y (List.mem_cons_of_mem _ hy)) e he
theorem callV_nat {C : Cx ρ} {st : St} {f : FuncId} {es : List Ent} : ∀ (Fs : List Fn) (v : Nat), ∃ o : Option Ent, (∀ e, o = some e → e.names = none) ∧ ∀ st', (∀ e ∈ es, ReadsE st st' e) → ∀ κ : Ent → Option ρ, callV C st' f es κ v Fs = match o with | some e => κ e | none => none
  | [], v => ⟨none, fun e he => (by cases he), fun st' _ κ => rfl⟩
  | F :: Fs, v => by
    obtain ⟨o, h1, h2⟩ := callV_nat (C := C) (st := st) (f := f) (es := es) Fs (v + 1)
    cases hb : Nat.beq F.fid f with
    | false => exact ⟨o, h1, fun st' hr κ => by simp only [callV, hb]; exact h2 st' hr κ⟩
    | true =>
      cases ha : argL st 0 (C.fn v).ps es with
      | none => exact ⟨o, h1, fun st' hr κ => by simp only [callV, hb, argL_ag _ _ _ hr, ha]; exact h2 st' hr κ⟩
      | some h =>
        cases hok : (C.fn v).rs.all (Ty.okR (es.any Ent.borrows)) with
        | false => exact ⟨none, fun e he => (by cases he), fun st' hr κ => by simp only [callV, hb, argL_ag _ _ _ hr, ha, hok]⟩
        | true =>
          cases hD : C.D v 0 h with
          | none => exact ⟨none, fun e he => (by cases he), fun st' hr κ => by simp only [callV, hb, argL_ag _ _ _ hr, ha, hok]; rw [hD]; rfl⟩
          | some r => exact ⟨some (resE (HR.dvs (C.fn v).rs r)), fun e he => (by cases he; unfold resE; split <;> rfl), fun st' hr κ => by simp only [callV, hb, argL_ag _ _ _ hr, ha, hok]; rw [hD]; rfl⟩
theorem pass_call {C : Cx ρ} {x : Operand} {args : List Operand} : Pass (ρ := ρ) st (x :: args) (fun st κ => match asFn (opd st x) with
    | some (f, ds) => callV C st f (entsOf st args ++ ends ds) (fun e => κ st e) 0 C.tab
    | none => none) := by
  cases hx : asFn (opd st x) with
  | none => exact ⟨none, fun e he => (by cases he), fun st' h _ κ => (by dsimp only; rw [(h x List.mem_cons_self).opd, hx])⟩
  | some fd =>
    obtain ⟨f, ds⟩ := fd
    obtain ⟨o, h1, h2⟩ := callV_nat (C := C) (st := st) (f := f) (es := entsOf st args ++ ends ds) C.tab 0
    refine ⟨o, fun e he => .none (h1 e he), fun st' h _ κ => ?_⟩
    have ha : ∀ y ∈ args, AgX st st' y := fun y hy => h y (List.mem_cons_of_mem _ hy)
    dsimp only
    rw [(h x List.mem_cons_self).opd, hx]
    dsimp only
    rw [entsOf_ag args ha]
    refine h2 st' (fun e he => ?_) _
    rcases List.mem_append.1 he with he | he
    · exact entsOf_reads args ha e he
    · simp only [ends, List.mem_map] at he
      obtain ⟨d, _, rfl⟩ := he
      intro s p t hs; cases hs
/-- .. one entry, or one of two. -/
def PassM (st : St) (xs : List Operand) (F : St → (St → Ent → Option ρ) → Option ρ) : Prop :=
  ∃ os : List Ent, (∀ e ∈ os, NmX st xs e) ∧ ∀ st', (∀ x ∈ xs, AgX st st' x) → Fin st' → ∀ κ r, F st' κ = some r ↔ (os ≠ [] ∧ ∀ e ∈ os, κ st' e = some r)
theorem Pass.many {xs : List Operand} {F : St → (St → Ent → Option ρ) → Option ρ} (h : Pass st xs F) : PassM st xs F := by
  obtain ⟨o, h1, h2⟩ := h
  cases o with
  | none => exact ⟨[], fun e he => by simp at he, fun st' ha hf κ r => by rw [h2 st' ha hf κ]; simp⟩
  | some e => exact ⟨[e], fun e' he => by simp only [List.mem_singleton] at he; subst he; exact h1 _ rfl, fun st' ha hf κ r => by rw [h2 st' ha hf κ]; simp⟩
theorem shift_nat (op : BinOp) (k : IntKind) (a b : Int) : ∃ o : Option Dv, ∀ κ : Dv → Option ρ, shift op k a b κ = match o with | some d => κ d | none => none := by
  refine ⟨shift (ρ := Dv) op k a b some, fun κ => ?_⟩
  unfold shift
  simp only [brB_eq]
  repeat' split
  all_goals first | rfl | simp_all
theorem binII_nat (op : BinOp) (k k' : IntKind) (a b : Int) : ∃ o : Option Dv, ∀ κ : Dv → Option ρ, binII op k k' a b κ = match o with | some d => κ d | none => none := by
  unfold binII
  split
  · exact shift_nat _ _ _ _
  · exact shift_nat _ _ _ _
  · split
    · split
      · simp only [brB_eq]
        cases (b == 0)
        · exact ⟨some _, fun κ => rfl⟩
        · exact ⟨none, fun κ => rfl⟩
      · simp only [brB_eq]
        cases (b == 0)
        · exact ⟨some _, fun κ => rfl⟩
        · exact ⟨none, fun κ => rfl⟩
      · cases hb : binI op k a b with
        | none => exact ⟨none, fun κ => rfl⟩
        | some d => exact ⟨some d, fun κ => rfl⟩
    · exact ⟨none, fun κ => rfl⟩
theorem binSS_nat (op : BinOp) (a b : ByteArray) : ∃ o : Option Dv, ∀ κ : Dv → Option ρ, binSS op a b κ = match o with | some d => κ d | none => none := by
  unfold binSS
  simp only [brB_eq]
  split
  · cases Nat.ble (a.size + b.size) 9223372036854775807
    · exact ⟨none, fun κ => rfl⟩
    · exact ⟨some _, fun κ => rfl⟩
  · exact ⟨some _, fun κ => rfl⟩
  · exact ⟨some _, fun κ => rfl⟩
  · exact ⟨none, fun κ => rfl⟩
theorem binV_nat (op : BinOp) (t : TypeId) (x y : Dv) : ∃ o : Option Dv, ∀ κ : Dv → Option ρ, binV P op t x y κ = match o with | some d => κ d | none => none := by
  unfold binV
  split
  · exact binII_nat _ _ _ _ _
  · split
    · exact ⟨some _, fun κ => rfl⟩
    · exact ⟨none, fun κ => rfl⟩
  · exact binSS_nat _ _ _
  · split
    · split
      · split
        · exact ⟨some _, fun κ => rfl⟩
        · exact ⟨some _, fun κ => rfl⟩
        · exact ⟨none, fun κ => rfl⟩
      · exact ⟨none, fun κ => rfl⟩
    · exact ⟨none, fun κ => rfl⟩
  · exact ⟨none, fun κ => rfl⟩
theorem both_iff {a b : Option ρ} {r : ρ} : both a b = some r ↔ a = some r ∧ b = some r := by
  unfold both
  split
  · rename_i h; subst h; simp
  · rename_i h
    constructor
    · intro k; cases k
    · intro k; exact absurd (k.1.trans k.2.symm) h
theorem nilV_many (op : BinOp) {t : Ty} (l : List t.den) : ∃ os : List Dv, ∀ (κ : Dv → Option ρ) (r : ρ), nilV op l κ = some r ↔ (os ≠ [] ∧ ∀ e ∈ os, κ e = some r) := by
  unfold nilV nilB
  split
  · cases hl : List.isEmpty l
    · exact ⟨[⟨.bool, false⟩], fun κ r => by simp⟩
    · exact ⟨[⟨.bool, true⟩, ⟨.bool, false⟩], fun κ r => by simp [both_iff]⟩
  · cases hl : List.isEmpty l
    · exact ⟨[⟨.bool, true⟩], fun κ r => by simp⟩
    · exact ⟨[⟨.bool, false⟩, ⟨.bool, true⟩], fun κ r => by simp [both_iff]⟩
  · exact ⟨[], fun κ r => by simp⟩
theorem nilD_many (op : BinOp) (d : Dv) : ∃ os : List Dv, ∀ (κ : Dv → Option ρ) (r : ρ), nilD op d κ = some r ↔ (os ≠ [] ∧ ∀ e ∈ os, κ e = some r) := by
  unfold nilD
  split
  · exact nilV_many op _
  · exact nilV_many op _
  · exact nilV_many op (t := .unit) []
  · exact ⟨[], fun κ r => by simp⟩
def binP (P : Program) (st : St) (op : BinOp) (t : TypeId) (x y : Operand) (κ : Ent → Option ρ) : Option ρ :=
  match refOf st x, opd st y, isPtrT P t with
  | some _, .val ⟨.nilp, _⟩, true => match op with | .eql => κ (.val ⟨.bool, false⟩) | .neq => κ (.val ⟨.bool, true⟩) | _ => none
  | _, _, _ => none
theorem binP_nat {op : BinOp} {t : TypeId} {x y : Operand} : ∃ o : Option Ent, (∀ e, o = some e → e.names = none) ∧ ∀ κ : Ent → Option ρ, binP P st op t x y κ = match o with | some e => κ e | none => none := by
  unfold binP
  split
  · split
    · exact ⟨some _, fun e he => (by cases he; rfl), fun κ => rfl⟩
    · exact ⟨some _, fun e he => (by cases he; rfl), fun κ => rfl⟩
    · exact ⟨none, fun e he => (by cases he), fun κ => rfl⟩
  · exact ⟨none, fun e he => (by cases he), fun κ => rfl⟩
theorem pass_bin {op : BinOp} {t : TypeId} {x y : Operand} : PassM (ρ := ρ) st [x, y] (fun st κ => xBin P st op t x y κ) := by
  have none_ : ∀ {F : St → (St → Ent → Option ρ) → Option ρ}, (∀ st', (∀ z ∈ [x, y], AgX st st' z) → ∀ κ, F st' κ = none) → PassM st [x, y] F := fun h => ⟨[], fun e he => by simp at he, fun st' ha _ κ r => by rw [h st' ha κ]; simp⟩
  cases hn : isNil y with
  | true =>
    cases hl : lookV st x with
    | none => exact none_ fun st' ha κ => by simp only [xBin, hn, (ha x (by simp)).look, hl]
    | some d =>
      cases ht : isSlT P t with
      | false => exact none_ fun st' ha κ => by simp only [xBin, hn, (ha x (by simp)).look, hl, ht]
      | true =>
        obtain ⟨os, ho⟩ := nilD_many (ρ := ρ) op d
        refine ⟨os.map .val, fun e he => ?_, fun st' ha _ κ r => ?_⟩
        · obtain ⟨d', _, rfl⟩ := List.mem_map.1 he
          exact .none rfl
        · simp only [xBin, hn, (ha x (by simp)).look, hl, ht, ho]
          simp
  | false =>
    have fin : ∀ {F : St → (St → Ent → Option ρ) → Option ρ}, (∀ st', (∀ z ∈ [x, y], AgX st st' z) → ∀ κ, F st' κ = binP P st op t x y (fun e => κ st' e)) → PassM st [x, y] F := fun hF => by
      obtain ⟨o, h1, h2⟩ := binP_nat (ρ := ρ) (P := P) (st := st) (op := op) (t := t) (x := x) (y := y)
      exact Pass.many ⟨o, fun e he => .none (h1 e he), fun st' ha _ κ => (hF st' ha κ).trans ((h2 _).trans (by cases o <;> rfl))⟩
    cases hl : lookV st x with
    | none => exact fin fun st' ha κ => by simp only [xBin, hn, (ha x (by simp)).look, (ha y (by simp)).look, (ha x (by simp)).refOf, (ha y (by simp)).opd, hl, binP]; rfl
    | some a =>
      cases hl2 : lookV st y with
      | none => exact fin fun st' ha κ => by simp only [xBin, hn, (ha x (by simp)).look, (ha y (by simp)).look, (ha x (by simp)).refOf, (ha y (by simp)).opd, hl, hl2, binP]; rfl
      | some b =>
        obtain ⟨o, ho⟩ := binV_nat (ρ := ρ) (P := P) op t a b
        refine Pass.many ⟨o.map .val, fun e he => ?_, fun st' ha _ κ => ?_⟩
        · cases o with
          | none => cases he
          | some d => cases he; exact .none rfl
        · simp only [xBin, hn, (ha x (by simp)).look, (ha y (by simp)).look, hl, hl2, ho]
          cases o <;> rfl
end Go.Proofs.Ytplmejnoepkdgaa.Rf
namespace Go.Proofs.Ytplmejnoepkdgaa.Rf
variable {st st' : St} {ρ : Type} {P : Program}
def upL (l : List (Nat × Ent)) (st : St) : St := fun s => match asso s l with | some e => e | none => st s
def mkU (o : Oper) (e : Ent) : List (Nat × Ent) := match o.dst with | some d => [(d, e.drop d)] | none => []
theorem setS_up {o : Oper} {e : Ent} (h : ∀ d, o.dst = some d → (st d).owns = false) : setS st o.dst e = upL (mkU o e) st := by
  unfold mkU
  cases hd : o.dst with
  | none => funext s; rfl
  | some d =>
    funext s
    by_cases hs : s = d
    · subst hs; rw [setS_same]; simp only [upL, asso, beq_self]
    · rw [setS_ne st e hs, h d hd]; simp only [upL, asso, beq_ne (Ne.symm hs)]; rfl
/-- What an operation of a drawn region reads. -/
def rdO (all : List Oper) (o : Oper) : List Operand := (guardL all o).map .tmp ++ readO o.op
theorem mem_slots : ∀ (l : List Operand) (z : Nat), Operand.tmp z ∈ l → z ∈ slots l
  | [], z, h => by simp at h
  | x :: l, z, h => by
    rcases List.mem_cons.1 h with h1 | h1
    · subst h1; simp [slots]
    · have := mem_slots l z h1
      cases x <;> simp [slots, this]
theorem mem_lk {all : List Oper} {o : Oper} {z : Nat} (h : Operand.tmp z ∈ rdO all o) : z ∈ lk all o := by
  simp only [rdO, List.mem_append, List.mem_map] at h
  rcases h with ⟨s, hs, e⟩ | h
  · cases e; exact List.mem_append_left _ hs
  · exact List.mem_append_right _ (mem_slots _ _ h)
/-- What is written: only where it may, and named as it may. -/
def LOk (st : St) (all : List Oper) (o : Oper) (l : List (Nat × Ent)) : Prop := ∀ k e, (k, e) ∈ l → k ∈ wr o ∧ NmX st (rdO all o) e
/-- A state that an operation sees as this one. -/
structure Ag (all : List Oper) (o : Oper) (st st' : St) : Prop where
  ag : ∀ x ∈ rdO all o, AgX st st' x
  fin : Fin st'
  dst : ∀ d, o.dst = some d → (st' d).owns = false
  nn : ∀ s ∈ wr o, ∀ x, (st' x).names ≠ some s
def Loc (C : Cx ρ) (all : List Oper) (st : St) (o : Oper) (F : St → (St → Option ρ) → Option ρ) : Prop :=
  ∃ os : List (List (Nat × Ent)), (∀ l ∈ os, LOk st all o l) ∧ ∀ st', Ag all o st st' → ∀ κ r, F st' κ = some r ↔ (os ≠ [] ∧ ∀ l ∈ os, κ (upL l st') = some r)
theorem NmX.mono {xs ys : List Operand} {e : Ent} (h : NmX st xs e) (hs : ∀ x ∈ xs, x ∈ ys) : NmX st ys e := fun s' k => let ⟨z, h1, h2⟩ := h s' k; ⟨z, hs _ h1, h2⟩
theorem NmX.drop {xs : List Operand} {e : Ent} {d : Nat} (h : NmX st xs e) : NmX st xs (e.drop d) := fun s' k => by
  rcases drop_cases d e with k1 | k1
  · rw [k1] at k; exact h s' k
  · rw [k1] at k; cases k
theorem PassM.loc {C : Cx ρ} {all : List Oper} {o : Oper} {F : St → (St → Ent → Option ρ) → Option ρ} (h : PassM st (readO o.op) F) (hF : ∀ st' κ, exec1 C st' o κ = F st' (fun st1 e => κ (setS st1 o.dst e))) :
    Loc C all st o (fun st' κ => exec1 C st' o κ) := by
  obtain ⟨os, h1, h2⟩ := h
  refine ⟨os.map (mkU o), fun l hl => ?_, fun st' hag κ r => ?_⟩
  · obtain ⟨e, he, rfl⟩ := List.mem_map.1 hl
    intro k e' hk
    unfold mkU at hk
    split at hk
    · rename_i d hd
      simp only [List.mem_singleton, Prod.mk.injEq] at hk
      obtain ⟨rfl, rfl⟩ := hk
      exact ⟨List.mem_append_left _ (by simp [dstL, hd]), ((h1 e he).mono fun x hx => List.mem_append_right _ hx).drop⟩
    · cases hk
  · dsimp only
    rw [hF, h2 st' (fun x hx => hag.ag x (List.mem_append_right _ hx)) hag.fin]
    simp only [setS_up hag.dst]
    simp
theorem loc_none {C : Cx ρ} {all : List Oper} {o : Oper} {F : St → (St → Option ρ) → Option ρ} (hF : ∀ st', Ag all o st st' → ∀ κ, F st' κ = none) : Loc C all st o F :=
  ⟨[], fun l hl => by simp at hl, fun st' h κ r => by rw [hF st' h]; simp⟩
theorem takeS_up {s : Nat} (h : ∀ x, (st x).names ≠ some s) : takeS st s = upL [(s, .dead)] st := by
  funext x
  by_cases hx : x = s
  · subst hx; rw [takeS_same]; simp only [upL, asso, beq_self]
  · rw [takeS_ne st hx, drop_free (h x)]; simp only [upL, asso, beq_ne (Ne.symm hx)]
theorem clr_fin' {st : St} (hf : Fin st) {d : Dv} {s : Nat} (hs : ∀ x, (st x).names ≠ some VB) : clr (setS (takeS st s) (some VB) (.val d)) = takeS st s := by
  refine clr_fin (fun y hy => ?_) (fun y hy => ?_)
  · by_cases e : y = s
    · subst e; exact takeS_same _ _
    · rw [takeS_ne st e, hf y hy]; rfl
  · have hv : (takeS st s VB).owns = false := by
      by_cases e : VB = s
      · rw [← e, takeS_same]; rfl
      · rw [takeS_ne st e, hf VB (Nat.le_refl _)]; rfl
    rw [setS_ne _ _ (Nat.ne_of_lt hy), hv]; rfl
theorem appV_nat (t : TypeId) (d e : Dv) : ∃ o : Option Dv, ∀ κ : Dv → Option ρ, appV P t d e κ = match o with | some d => κ d | none => none := by
  unfold appV
  split
  · exact ⟨none, fun κ => rfl⟩
  · split
    · exact ⟨none, fun κ => rfl⟩
    · rename_i ei _
      split
      · split
        · rename_i m _
          simp only [brB_eq]
          cases room m.length (P.bytesOf ei)
          · exact ⟨none, fun κ => rfl⟩
          · exact ⟨some _, fun κ => rfl⟩
        · exact ⟨none, fun κ => rfl⟩
      · split
        · rename_i l _ _ m _
          simp only [brB_eq]
          cases room (List.length l + m.length) (P.bytesOf ei)
          · exact ⟨none, fun κ => rfl⟩
          · exact ⟨some _, fun κ => rfl⟩
        · exact ⟨none, fun κ => rfl⟩
      · exact ⟨none, fun κ => rfl⟩
theorem loc_append {C : Cx ρ} {all : List Oper} {o : Oper} {args : Array Operand} {ts : Array TypeId} {s s2 : Nat} {t t' : TypeId} {d d2 : Dv} (ho : o.op = .call { callee := .builtin .append, args := args, argTypes := ts })
    (ha : args.toList = [.tmp s, .tmp s2]) (ht : ts.toList = [t, t']) (hi : isI64 C.P t' = false) (hs : st s = .val d) (hown : d.1.hasOwn = true) (hs2 : st s2 = .val d2) (hel : elOwn d2 = false) : Loc C all st o (fun st' κ => exec1 C st' o κ) := by
  have hrd : ∀ z, z = s ∨ z = s2 → Operand.tmp z ∈ rdO all o := fun z hz => by
    refine List.mem_append_right _ ?_
    simp only [ho, readO, ha]
    rcases hz with rfl | rfl <;> simp
  by_cases hss : s2 = s
  · refine loc_none fun st' hag κ => ?_
    have e1 : st' s = .val d := (hag.ag _ (hrd s (.inl rfl))).slot.trans hs
    have hv : (takeS st' s VB).owns = false := by
      by_cases e : VB = s
      · rw [← e, takeS_same]; rfl
      · rw [takeS_ne st' e, hag.fin VB (Nat.le_refl _)]; rfl
    have hsv : s ≠ VB := fun e => by rw [e, hag.fin VB (Nat.le_refl _)] at e1; cases e1
    have e3 : setS (takeS st' s) (some VB) (.val d) s = .dead := by rw [setS_ne _ _ hsv, hv, takeS_same]; rfl
    simp only [exec1, ho, xBuiltin, ha, ht, xAppend, hi, begun, e1, hown, hss, added, e3]
  · obtain ⟨os, hos⟩ := appV_nat (ρ := ρ) (P := C.P) t d d2
    refine ⟨match os, isSlT C.P t' with | some r, true => [mkU o (.val r) ++ [(s, .dead)]] | _, _ => [], fun l hl => ?_, fun st' hag κ r => ?_⟩
    · split at hl
      · rename_i r _
        simp only [List.mem_singleton] at hl
        subst hl
        intro k e hk
        rcases List.mem_append.1 hk with hk | hk
        · unfold mkU at hk
          split at hk
          · rename_i dd hd
            simp only [List.mem_singleton, Prod.mk.injEq] at hk
            obtain ⟨rfl, rfl⟩ := hk
            exact ⟨List.mem_append_left _ (by simp [dstL, hd]), NmX.none rfl⟩
          · cases hk
        · simp only [List.mem_singleton, Prod.mk.injEq] at hk
          obtain ⟨rfl, rfl⟩ := hk
          exact ⟨List.mem_append_right _ (by simp [xw, ho, ha, slots]), NmX.none rfl⟩
      · simp at hl
    · have e1 : st' s = .val d := (hag.ag _ (hrd s (.inl rfl))).slot.trans hs
      have e2 : st' s2 = .val d2 := (hag.ag _ (hrd s2 (.inr rfl))).slot.trans hs2
      have hnn : ∀ x, (st' x).names ≠ some s := hag.nn s (List.mem_append_right _ (by simp [xw, ho, ha, slots]))
      have hv : (takeS st' s VB).owns = false := by
        by_cases e : VB = s
        · rw [← e, takeS_same]; rfl
        · rw [takeS_ne st' e, hag.fin VB (Nat.le_refl _)]; rfl
      have hsv : s2 ≠ VB := fun e => by rw [e, hag.fin VB (Nat.le_refl _)] at e2; cases e2
      have e4 : takeS st' s s2 = .val d2 := by rw [takeS_ne st' hss, e2]; rfl
      have e3 : setS (takeS st' s) (some VB) (.val d) s2 = .val d2 := by rw [setS_ne _ _ hsv, hv]; exact e4
      have hclr : clr (setS (takeS st' s) (some VB) (.val d)) = takeS st' s := by
        refine clr_fin (fun y hy => ?_) (fun y hy => ?_)
        · by_cases e : y = s
          · subst e; exact takeS_same _ _
          · rw [takeS_ne st' e, hag.fin y hy]; rfl
        · rw [setS_ne _ _ (Nat.ne_of_lt hy), hv]; rfl
      have hset : ∀ r, setS (takeS st' s) o.dst (.val r) = upL (mkU o (.val r) ++ [(s, .dead)]) st' := fun r => by
        rw [setS_up (st := takeS st' s) (fun dd hd => ?_), takeS_up hnn]
        · funext x
          unfold mkU
          cases hd : o.dst with
          | none => simp [upL, asso]
          | some dd =>
            simp only [upL, asso, List.cons_append, List.nil_append]
            cases Nat.beq dd x <;> rfl
        · by_cases e : dd = s
          · rw [e, takeS_same]; rfl
          · rw [takeS_ne st' e]
            rcases drop_cases s (st' dd) with k | k
            · rw [k]; exact hag.dst dd hd
            · rw [k]; rfl
      simp only [exec1, ho, xBuiltin, ha, ht, xAppend, hi, begun, e1, hown, added, e3, hel, opd, e4, notDead, Bool.and_true, hclr, hos, hset]
      cases isSlT C.P t' with
      | false => cases os <;> simp
      | true => dsimp only; rw [hclr, hos]; cases os <;> simp [hset]
theorem loc_append0 {C : Cx ρ} {all : List Oper} {o : Oper} {args : Array Operand} {ts : Array TypeId} {s s2 : Nat} {t t' : TypeId} {d d2 : Dv} (ho : o.op = .call { callee := .builtin .append, args := args, argTypes := ts })
    (ha : args.toList = [.tmp s, .tmp s2]) (ht : ts.toList = [t, t']) (hi : isI64 C.P t' = false) (hs : st s = .val d) (hown : d.1.hasOwn = false) (hs2 : st s2 = .val d2) (hel : elOwn d2 = false) : Loc C all st o (fun st' κ => exec1 C st' o κ) := by
  have hrd : ∀ z, z = s ∨ z = s2 → Operand.tmp z ∈ rdO all o := fun z hz => by
    refine List.mem_append_right _ ?_
    simp only [ho, readO, ha]
    rcases hz with rfl | rfl <;> simp
  obtain ⟨os, hos⟩ := appV_nat (ρ := ρ) (P := C.P) t d d2
  refine ⟨match os, isSlT C.P t' with | some r, true => [mkU o (.val r)] | _, _ => [], fun l hl => ?_, fun st' hag κ r => ?_⟩
  · split at hl
    · rename_i r _
      simp only [List.mem_singleton] at hl
      subst hl
      intro k e hk
      unfold mkU at hk
      split at hk
      · rename_i dd hd
        simp only [List.mem_singleton, Prod.mk.injEq] at hk
        obtain ⟨rfl, rfl⟩ := hk
        exact ⟨List.mem_append_left _ (by simp [dstL, hd]), NmX.none rfl⟩
      · cases hk
    · simp at hl
  · have e1 : st' s = .val d := (hag.ag _ (hrd s (.inl rfl))).slot.trans hs
    have e2 : st' s2 = .val d2 := (hag.ag _ (hrd s2 (.inr rfl))).slot.trans hs2
    have hv : (st' VB).owns = false := by rw [hag.fin VB (Nat.le_refl _)]; rfl
    have hsv : s2 ≠ VB := fun e => by rw [e, hag.fin VB (Nat.le_refl _)] at e2; cases e2
    have e3 : setS st' (some VB) (.val d) s2 = .val d2 := by rw [setS_ne _ _ hsv, hv]; exact e2
    have hclr : clr (setS st' (some VB) (.val d)) = st' := by
      refine clr_fin (fun y hy => hag.fin y hy) (fun y hy => ?_)
      rw [setS_ne _ _ (Nat.ne_of_lt hy), hv]; rfl
    have hset : ∀ r, setS st' o.dst (.val r) = upL (mkU o (.val r)) st' := fun r => setS_up (st := st') hag.dst
    simp only [exec1, ho, xBuiltin, ha, ht, xAppend, hi, begun, e1, hown, added, e3, hel, opd, e2, notDead, Bool.and_true, hclr, hos, hset]
    cases isSlT C.P t' with
    | false => cases os <;> simp
    | true => dsimp only; rw [hclr, hos]; cases os <;> simp [hset]
theorem loc_store {C : Cx ρ} {all : List Oper} {o : Oper} {t : TypeId} {s : Nat} {x : Operand} {f : Bool} {t0 : Ty} {y : t0.den} {d : Dv} (ho : o.op = .store t (.tmp s) x) (hd : o.dst = none)
    (hx : opd st x = .val d) (hfl : d.1.hasOwn = false) (hs : st s = .val ⟨.optr f t0, y⟩) (h0 : t0.hasOwn = false) (hbe : d.1.beq t0 = true) : Loc C all st o (fun st' κ => exec1 C st' o κ) := by
  have hrd : ∀ z, z = Operand.tmp s ∨ z = x → z ∈ rdO all o := fun z hz => by
    refine List.mem_append_right _ ?_
    simp only [ho, readO]
    rcases hz with rfl | rfl <;> simp
  refine ⟨match fits C.P t d.1 && Nat.beq d.1.sz t0.sz with | true => [[(s, .val ⟨.optr f d.1, d.2⟩)]] | false => [], fun l hl => ?_, fun st' hag κ r => ?_⟩
  · split at hl
    · simp only [List.mem_singleton] at hl
      subst hl
      intro k e hk
      simp only [List.mem_singleton, Prod.mk.injEq] at hk
      obtain ⟨rfl, rfl⟩ := hk
      exact ⟨List.mem_append_right _ (by simp [xw, ho, slots]), NmX.none rfl⟩
    · simp at hl
  · have e1 : st' s = .val ⟨.optr f t0, y⟩ := (hag.ag _ (hrd _ (.inl rfl))).slot.trans hs
    have e2 : opd st' x = .val d := (hag.ag _ (hrd _ (.inr rfl))).opd.trans hx
    have hv : (st' VB).owns = false := by rw [hag.fin VB (Nat.le_refl _)]; rfl
    have hsv : s ≠ VB := fun e => by rw [e, hag.fin VB (Nat.le_refl _)] at e1; cases e1
    have e3 : setS st' (some VB) (.val d) s = .val ⟨.optr f t0, y⟩ := by rw [setS_ne _ _ hsv, hv]; exact e1
    have hn0 : ∀ (z : St) (e : Ent), setS z none e = z := fun _ _ => rfl
    have hput : putP st' s [.d] d = some (upL [(s, .val ⟨.optr f d.1, d.2⟩)] st') := by
      simp only [putP, e1, get, ptrTop, put, h0, hbe, Bool.not_false, Bool.and_true]
      congr 1
      funext z
      simp only [upL, asso]
      by_cases hz : z = s
      · subst hz; simp only [beq_self]
      · simp only [beq_ne hz, beq_ne (Ne.symm hz)]
    simp only [exec1, ho, xStore, (takeV_flat e2 hfl).2, refOf, e1, e3, getP, get, forP, weakP, hput, hd, hn0]
    cases fits C.P t d.1 && Nat.beq d.1.sz t0.sz <;> simp
end Go.Proofs.Ytplmejnoepkdgaa.Rf
